/- The calculus, part 3. -/
import Derived.Test.YtjdpolnakhmkmaaCRB
import Derived.Laws.BytesString
/- Owned elements: a row as a box and back, references absorbed, append of what owns. -/
set_option linter.unusedVariables false
set_option linter.unusedSimpArgs false
namespace Go.Sep
open Go

/-- A cell under another label. -/
theorem Cell.path {F Λ Λ' w bx L L' c x} (hS : ∀ a n k v, Sl Λ w L a n k v → Sl Λ' w L' a n k v) (hext : ∀ L b o, Λ L = some (b, o) → Λ' L = some (b, o)) (h : Cell F Λ w bx L c x) : Cell F Λ' w bx L' c x := by
  cases x with
  | j => trivial
  | o k ys => exact ⟨h.1, h.2.1, h.2.2.elim fun n hn => ⟨n, hn.1, hS _ _ _ _ hn.2⟩⟩
  | _ => exact ⟨h.1, h.2.ext hext⟩
theorem rowAt_growX {σ : Store} {l : Nat} {xs ys : List A} (hr : σ[l]? = some (.box xs)) (hp : ∀ x ∈ ys, x.plain = true) {L zs} (h : rowAt (σ.set l .dead ++ [.box (xs ++ ys)]) L = some zs) :
    (L = [σ.length] ∧ zs = xs ++ ys) ∨ (∃ j q, L = σ.length :: j :: q ∧ rowAt σ (l :: j :: q) = some zs) ∨ (∃ h0 p, L = h0 :: p ∧ h0 ≠ l ∧ h0 ≠ σ.length ∧ rowAt σ L = some zs) := by
  have hl : l < σ.length := (List.getElem?_eq_some_iff.1 hr).1
  cases L with
  | nil => simp [rowAt] at h
  | cons h0 p =>
    simp only [rowAt, grow_get hl] at h
    by_cases e : h0 = l
    · rw [if_pos e] at h; simp [Root.cells] at h
    · rw [if_neg e] at h
      by_cases e2 : h0 = σ.length
      · subst e2
        simp only [if_true, Root.cells] at h
        cases p with
        | nil => simp only [sub, Option.some.injEq] at h; exact .inl ⟨rfl, h.symm⟩
        | cons j q => exact .inr (.inl ⟨j, q, rfl, by simp only [rowAt, hr, Root.cells]; exact sub_app hp h⟩)
      · rw [if_neg e2] at h
        exact .inr (.inr ⟨h0, p, rfl, e, e2, by simpa only [rowAt] using h⟩)
theorem isBox_growX {σ : Store} {l : Nat} {zs : List A} (hl : l < σ.length) {h0 : Nat} (h1 : h0 ≠ l) (p : List Nat) : isBox (σ.set l .dead ++ [.box zs]) (h0 :: p) = if h0 = σ.length then (match p with | [] => true | _ => false) else isBox σ (h0 :: p) := by
  cases p with
  | cons j p => simp [isBox]
  | nil =>
    simp only [isBox, grow_get hl, if_neg h1]
    by_cases e : h0 = σ.length
    · rw [if_pos e, if_pos e]
    · rw [if_neg e, if_neg e]
structure GrowsX (F : Nat → Prop) (Λ : Lbl) (σ : Store) (w w' : World) (l : Nat) (xs ys : List A) (lab : Option (Nat × Nat)) : Prop where
  row : σ[l]? = some (.box xs)
  plain : ∀ x ∈ ys, x.plain = true
  os : w'.os = w.os
  tape : w'.tape = w.tape
  output : w'.output = w.output
  size : w.heap.size ≤ w'.heap.size
  sizes : Sizes w w'
  keep : ∀ b, b < w.heap.size → (∀ o, Λ [l] ≠ some (b, o)) → w'.heap[b]? = w.heap[b]?
  new : (lab = none ∧ xs ++ ys = []) ∨ ∃ b o cs t, lab = some (b, o) ∧ ¬ F b ∧ (w.heap.size ≤ b ∨ Λ [l] = some (b, o)) ∧ w'.heap[b]? = some (.cells cs t (0, 0)) ∧
    ∀ j x, (xs ++ ys)[j]? = some x → ∃ c, cs[o + j]? = some c ∧ Cell F Λ w true [l, j] c x
theorem GrowsX.ext {F Λ σ w w' l xs ys lab} (hs : St F Λ σ w) (h : GrowsX F Λ σ w w' l xs ys lab) : ∀ L b o, Λ L = some (b, o) → apL Λ l σ.length lab L = some (b, o) := fun L b o hL => by
  cases L with
  | nil => exact hL
  | cons h0 p =>
    simp only [apL]
    rw [if_neg ?_]
    · exact hL
    · rintro rfl
      rw [hs.lab (σ.length :: p) (by simp)] at hL; cases hL
theorem GrowsX.frozen {F Λ σ w w' l xs ys lab} (hs : St F Λ σ w) (h : GrowsX F Λ σ w w' l xs ys lab) : ∀ b, F b → F b ∧ w'.heap[b]? = w.heap[b]? := fun b hb => ⟨hb, h.keep b (hs.old b hb) fun o hL => hs.notOwn hb ⟨[l], xs, o, by simp only [rowAt, h.row, Root.cells, sub], hL⟩⟩
theorem GrowsX.st {F Λ σ w w' l xs ys lab} (hs : St F Λ σ w) (h : GrowsX F Λ σ w w' l xs ys lab) : St F (apL Λ l σ.length lab) (σ.set l .dead ++ [.box (xs ++ ys)]) w' := by
  have hl : l < σ.length := (List.getElem?_eq_some_iff.1 h.row).1
  have hrow : rowAt σ [l] = some xs := by simp only [rowAt, h.row, Root.cells, sub]
  have hF := h.frozen hs
  have hext := h.ext hs
  have other : ∀ L zs, rowAt σ L = some zs → L ≠ [l] → ∀ b o, Λ L = some (b, o) → w'.heap[b]? = w.heap[b]? := fun L zs hL hne b o hb =>
    h.keep b (hs.owns ⟨L, zs, o, hL, hb⟩) fun o' h' => hne (hs.apart _ _ _ _ _ _ _ hL hrow hb h')
  refine ⟨fun L zs hz => ?_, fun L zs L' zs' b o o' h1 h2 h3 h4 => ?_, fun b hb => Nat.lt_of_lt_of_le (hs.old b hb) h.size, fun L hL => ?_⟩
  · rcases rowAt_growX h.row h.plain hz with ⟨rfl, rfl⟩ | ⟨j, q, rfl, h1⟩ | ⟨h0, p, rfl, h1, h2, h3⟩
    · have e : apL Λ l σ.length lab [σ.length] = lab := by simp [apL]
      rw [e]
      rcases h.new with h4 | ⟨b, o, cs, t, h4, h5, _, h6, h7⟩
      · exact .inl h4
      · refine .inr ⟨b, o, cs, t, h4, h5, h6, fun j x hx => ?_⟩
        obtain ⟨c, h8, h9⟩ := h7 j x hx
        refine ⟨c, h8, ?_⟩
        rw [isBox_growX hl (by omega), if_pos rfl]
        have h9 := h9.mono hF h.sizes
        exact h9.path (fun a n k v hv => hv.imp id fun ⟨b, o, cap, g1, g2⟩ => ⟨b, o, cap, by simpa [apL] using g1, g2⟩) hext
    · have e : apL Λ l σ.length lab (σ.length :: j :: q) = Λ (l :: j :: q) := by simp [apL]
      rw [e]
      rcases hs.row _ _ h1 with h4 | ⟨b, o, cs, t, h4, h5, h6, h7⟩
      · exact .inl h4
      · refine .inr ⟨b, o, cs, t, h4, h5, by rw [other _ _ h1 (by simp) b o h4]; exact h6, fun i x hx => ?_⟩
        obtain ⟨c, h8, h9⟩ := h7 i x hx
        refine ⟨c, h8, ?_⟩
        have h9 := h9.mono hF h.sizes
        exact h9.unbox fun a n k v hv => hv.imp id fun ⟨b, o, cap, g1, g2⟩ => ⟨b, o, cap, by simpa [apL] using g1, g2⟩
    · have e : apL Λ l σ.length lab (h0 :: p) = Λ (h0 :: p) := by simp [apL, h2]
      rw [e]
      rcases hs.row _ _ h3 with h4 | ⟨b, o, cs, t, h4, h5, h6, h7⟩
      · exact .inl h4
      · refine .inr ⟨b, o, cs, t, h4, h5, by rw [other _ _ h3 (by simp [h1]) b o h4]; exact h6, fun i x hx => ?_⟩
        obtain ⟨c, h8, h9⟩ := h7 i x hx
        refine ⟨c, h8, ?_⟩
        rw [isBox_growX hl h1, if_neg h2]
        exact (h9.mono hF h.sizes).ext hext
  · have key : ∀ L zs b o, rowAt (σ.set l .dead ++ [.box (xs ++ ys)]) L = some zs → apL Λ l σ.length lab L = some (b, o) →
        (L = [σ.length] ∧ w.heap.size ≤ b) ∨ ∃ h0 p us, L = (if h0 = l then σ.length else h0) :: p ∧ h0 ≠ σ.length ∧ rowAt σ (h0 :: p) = some us ∧ Λ (h0 :: p) = some (b, o) := fun L zs b o hz hb => by
      rcases rowAt_growX h.row h.plain hz with ⟨rfl, rfl⟩ | ⟨j, q, rfl, h1⟩ | ⟨h0, p, rfl, h1, h2, h3⟩
      · have e : apL Λ l σ.length lab [σ.length] = lab := by simp [apL]
        rw [e] at hb
        rcases h.new with ⟨h4, _⟩ | ⟨b', o', cs, t, h4, h5, h6, _⟩
        · rw [h4] at hb; cases hb
        · rw [h4] at hb; cases hb
          rcases h6 with h6 | h6
          · exact .inl ⟨rfl, h6⟩
          · exact .inr ⟨l, [], xs, by rw [if_pos rfl], by omega, hrow, h6⟩
      · exact .inr ⟨l, j :: q, zs, by rw [if_pos rfl], by omega, h1, by simpa [apL] using hb⟩
      · exact .inr ⟨h0, p, zs, by rw [if_neg h1], h2, h3, by simpa [apL, h2] using hb⟩
    rcases key _ _ _ _ h1 h3 with ⟨g1, g2⟩ | ⟨a, p, us, rfl, ga, g1, g2⟩ <;> rcases key _ _ _ _ h2 h4 with ⟨g3, g4⟩ | ⟨a', p', us', rfl, ga', g3, g4⟩
    · rw [g1, g3]
    · have := hs.owns ⟨_, _, _, g3, g4⟩; omega
    · have := hs.owns ⟨_, _, _, g1, g2⟩; omega
    · have := hs.apart _ _ _ _ _ _ _ g1 g3 g2 g4
      simp only [List.cons.injEq] at this
      obtain ⟨rfl, rfl⟩ := this
      rfl
  · cases L with
    | nil => simp at hL
    | cons h0 p =>
      simp only [List.headD_cons, List.length_append, List.length_set, List.length_cons, List.length_nil] at hL
      simp only [apL]
      rw [if_neg (by omega)]
      exact hs.lab (h0 :: p) (by simp; omega)
theorem GrowsX.step {m F Λ σ w w' l xs ys lab} (hm : m ≤ l) (hs : St F Λ σ w) (h : GrowsX F Λ σ w w' l xs ys lab) : Step m F Λ σ w F (apL Λ l σ.length lab) (σ.set l .dead ++ [.box (xs ++ ys)]) w' := by
  have hl : l < σ.length := (List.getElem?_eq_some_iff.1 h.row).1
  have hrow : rowAt σ [l] = some xs := by simp only [rowAt, h.row, Root.cells, sub]
  exact { os := h.os, tape := h.tape, output := h.output, size := h.size, sizes := h.sizes
          keep := fun b hb hno => h.keep b hb fun o ho => hno ⟨[l], xs, o, hrow, ho⟩
          mono := fun _ h => h, new := fun _ h => .inl h
          own := fun b ⟨L, zs, o, h1, h2⟩ => by
            rcases rowAt_growX h.row h.plain h1 with ⟨rfl, rfl⟩ | ⟨j, q, rfl, h3⟩ | ⟨h0, p, rfl, h3, h4, h5⟩
            · have e : apL Λ l σ.length lab [σ.length] = lab := by simp [apL]
              rw [e] at h2
              rcases h.new with ⟨h4, _⟩ | ⟨b', o', cs, t, h4, h5, h6, _⟩
              · rw [h4] at h2; cases h2
              · rw [h4] at h2; cases h2
                rcases h6 with h6 | h6
                · exact .inr h6
                · exact .inl ⟨[l], xs, _, hrow, h6⟩
            · exact .inl ⟨_, zs, o, h3, by simpa [apL] using h2⟩
            · exact .inl ⟨_, zs, o, h5, by simpa [apL, h4] using h2⟩
          len := by simp; omega
          kept := fun L b o _ hL => h.ext hs L b o hL
          boxes := fun a us hlt ha => by
            have e1 : a ≠ l := by omega
            have e2 : a ≠ σ.length := by rintro rfl; simp at ha
            exact ⟨by simp [apL, e2], us, by rw [grow_get hl, if_neg e1, if_neg e2]; exact ha⟩ }
theorem GrowsX.fr {F Λ σ w w' l xs ys lab tmps E} (hs : St F Λ σ w) (h : GrowsX F Λ σ w w' l xs ys lab) (hf : FrOK F Λ w tmps E) : FrOK F (apL Λ l σ.length lab) w' tmps E :=
  (hf.mono (h.frozen hs) h.sizes).ext (h.ext hs)
section
variable {P : Program} {n m : Nat} {N : Env → Store → Prop} {E : Env} {σ : Store} {o : Oper} {ops : Array Oper} {os : List Oper}
theorem TOp_appendX {t e k l nn mm by_ : Nat} {x y : Operand} {zs : List Value} {xs ys : List A} (hT : SlT P t e k) (hz : ZeroT P e zs) (hzk : zs.length = k) (hby : (P.info? e).map (·.bytes) = some by_)
    (h : o.op = .call { callee := .builtin .append, args := #[x, y], argTypes := #[t, t] }) (hd : dstOK n o.dst = true) (hx : val E x = .m [l] 0 nn k) (hr : σ[l]? = some (.box xs)) (hl : xs.length = nn * k)
    (hsrc : SrcA P E σ y mm k ys) (hc : boxAllB ys = true) (hml : m ≤ l) (hm : nn + mm ≤ 9223372036854775807) (hb : (nn + mm) * by_ ≤ 140737488355328)
    (hN : N (put E o.dst (.m [σ.length] 0 (nn + mm) k)) (σ.set l .dead ++ [.box (xs ++ ys)])) : TOp P n m o N E σ := fun F Λ w tmps K Q hn hs hf hk => by
  obtain ⟨⟨inf, z, h1, h2, h3⟩, h4⟩ := hz
  have hbytes : inf.bytes = by_ := by simpa [h1] using hby
  have hsize : inf.size = k := by obtain ⟨i2, g1, g2⟩ := hT.i; rw [h1] at g1; cases g1; exact g2
  have hzc : z.cells.size = k := by rw [← hzk, ← h3]; simp
  have hk0 := hT.pos
  obtain ⟨hyl, hsrc⟩ := hsrc
  obtain ⟨ax, c, news, hy, hnl, hrun, hcells⟩ := hsrc F Λ w tmps hs hf
  have hrow : rowAt σ [l] = some xs := by simp only [rowAt, hr, Root.cells, sub]
  have hlt : l < σ.length := (List.getElem?_eq_some_iff.1 hr).1
  have hpl : ∀ x ∈ ys, x.plain = true := fun x hx => inBox_plain (boxAll hc x hx)
  have hcell : ∀ (j : Nat) x, ys[j]? = some x → ∃ u, news[j]? = some u ∧ ∀ L, Cell F Λ w true L u x := fun j x hx => by
    obtain ⟨u, g1, g2⟩ := hcells j x hx
    exact ⟨u, g1, fun L => .ofBox (boxAll hc x (List.mem_of_getElem? hx)) g2⟩
  have h1c : ∀ u ∈ news, u.oneCell' = true := fun u hu => by
    obtain ⟨j, hj⟩ := List.getElem?_of_mem hu
    have hjl : j < ys.length := by have := (List.getElem?_eq_some_iff.1 hj).1; omega
    obtain ⟨u', g1, g2⟩ := hcells j _ (List.getElem?_eq_getElem hjl)
    rw [hj] at g1; cases g1
    exact oneCell_sc (g2.cells1 (boxAll hc _ (List.getElem_mem hjl))).2
  have fin : ∀ (lab : Option (Nat × Nat)) (w' : World) (v : Value), (Builtin.append_ #[t, t] o.type #[Act.eval ⟨tmps, []⟩ x, .slice ax mm c]).run P w = .ok v w' → GrowsX F Λ σ w w' l xs ys lab → OK F (apL Λ l σ.length lab) w' v (.m [σ.length] 0 (nn + mm) k) → o.wp P ⟨tmps, []⟩ w K Q := fun lab w' v hr' hg hv => by
    obtain ⟨tmps', e', hn', hf'⟩ := (hg.fr hs hf).putO (ds := []) hn hd hv
    unfold Oper.wp execOp
    simp only [h, resolve, invoke, builtin, Sem.run_bind, Sem.run_pure, Result.andThen_ok, List.map_toArray, List.map_cons, List.map_nil, hy, hr']
    show K (Act.put ⟨tmps, []⟩ o.dst v) w'
    rw [e']
    exact hk F _ _ w' tmps' _ hn' (hg.st hs) hf' (hg.step hml hs) hN
  have grow : ∀ (ad : Option Addr) (cap : Nat) (olds : List Value), Act.eval ⟨tmps, []⟩ x = .slice ad nn cap → olds.length = nn * k → (∀ w' : World, w'.heap = w.heap → (Builtin.firstCells k nn (.slice ad nn cap)).run P w' = .ok olds.toArray w') →
      (∀ (j : Nat) x, xs[j]? = some x → ∃ u, olds[j]? = some u ∧ Cell F Λ w true [l, j] u x) → cap < nn + mm → o.wp P ⟨tmps, []⟩ w K Q := fun ad cap olds hv hol hold hoc hcap => by
    subst hsize hbytes
    have hge := grownCap_ge w (nn + mm) cap e
    have hcm : grownCap w (nn + mm) cap e ≤ maxLen := grownCap_le_maxLen w (nn + mm) cap e (by simp only [maxLen]; omega)
    have hsz : (olds.toArray ++ news.toArray ++ Builtin.zeroCells z.cells (grownCap w (nn + mm) cap e - (nn + mm))).size = grownCap w (nn + mm) cap e * inf.size := by
      simp only [Array.size_append, List.size_toArray, size_zeroCells, hzc, hol, hnl, ← Nat.add_mul]
      congr 1; omega
    refine fin (some (w.heap.size, 0)) _ _ (by rw [hv]; exact run_append_new w t o.type e inf z hT.u h1 h2 ad nn cap olds (hold _ rfl) ax mm c news (hrun _ rfl) hcap (by omega) (growslice_fits hcap hb)) ?_ ?_
    · refine ⟨hr, hpl, rfl, rfl, rfl, by simp, Sizes.alloc w.drew _, fun b hb _ => (by first | exact Go.heap_alloc_old w.drew _ b hb | exact Go.heap_alloc_old w.drew _ hb), .inr ⟨w.heap.size, 0, _, e, rfl, fun hb => absurd (hs.old _ hb) (by omega), .inl (Nat.le_refl _), Go.heap_alloc_new w.drew _, fun j x hx => ?_⟩⟩
      rw [Nat.zero_add]
      by_cases hj : j < xs.length
      · rw [List.getElem?_append_left hj] at hx
        obtain ⟨u, g1, g2⟩ := hoc j x hx
        refine ⟨u, ?_, g2⟩
        rw [Array.getElem?_append_left (by simp; omega), Array.getElem?_append_left (by simp; omega)]
        simpa using g1
      · rw [List.getElem?_append_right (by omega)] at hx
        obtain ⟨u, g1, g2⟩ := hcell _ x hx
        refine ⟨u, ?_, g2 _⟩
        have := (List.getElem?_eq_some_iff.1 g1).1
        rw [Array.getElem?_append_left (by simp; omega), Array.getElem?_append_right (by simp; omega)]
        simpa [hol, hl] using g1
    · exact .m (.inr ⟨w.heap.size, 0, _, by simp [apL], by simp, hge, hcm, _, e, heap_alloc_new w.drew _, by rw [hsz]; simp⟩)
  have e1 := val_ok (ds := []) hf x
  rw [hx] at e1
  rcases e1.m_inv with ⟨rfl, ad, g1⟩ | ⟨b, o', cap, g1, g2, g3, g4, cs, te, g5, g6⟩
  · have hxs : xs = [] := List.eq_nil_of_length_eq_zero (by omega)
    subst hxs
    by_cases hm0 : mm = 0
    · subst hm0
      have hys : ys = [] := List.eq_nil_of_length_eq_zero (by omega)
      subst hys
      refine fin none w (.slice ad 0 0) (by rw [g1]; exact run_append_empty w t o.type e inf hT.u h1 ad ax c) ⟨hr, hpl, rfl, rfl, rfl, Nat.le_refl _, Sizes.refl _, fun _ _ _ => rfl, .inl ⟨rfl, rfl⟩⟩ (.m (.inl ⟨rfl, ad, rfl⟩))
    · exact grow ad 0 [] g1 (by simp) (fun w' _ => firstCells_zero w' k ad 0) (by simp) (by omega)
  · have hold : ∀ (j : Nat) x, xs[j]? = some x → ∃ u, w.cell? ⟨b, o' + 0 + j, none⟩ = some u ∧ Cell F Λ w true [l, j] u x := fun j x hx => by
      obtain ⟨u, k1, k2⟩ := hs.cellAt hrow g1 hx
      rw [show isBox σ [l] = true by simp [isBox, hr]] at k2
      exact ⟨u, k1, k2⟩
    by_cases hroom : nn + mm ≤ cap
    · subst hsize hbytes
      have hfit : o' + 0 + nn * inf.size + news.length ≤ cs.size := by
        have : (nn + mm) * inf.size ≤ cap * inf.size := Nat.mul_le_mul_right _ hroom
        rw [Nat.add_mul] at this; omega
      have hbr := setRow_heap w b cs (cs.toList.take (o' + 0 + nn * inf.size) ++ news ++ cs.toList.drop (o' + 0 + nn * inf.size + news.length)).toArray te (0, 0) g5
      have hsz : (cs.toList.take (o' + 0 + nn * inf.size) ++ news ++ cs.toList.drop (o' + 0 + nn * inf.size + news.length)).length = cs.size := by
        simp only [List.length_append, List.length_take, List.length_drop, Array.length_toList]; omega
      refine fin (some (b, o')) _ _ (by rw [g2]; exact run_append_in w t o.type e inf hT.u h1 b (o' + 0) nn cap cs te g5 ax mm c news (hrun w rfl) h1c hroom hfit) ?_ ?_
      · refine ⟨hr, hpl, rfl, rfl, rfl, by simp [World.setRow], fun b2 cs2 t2 hb2 => ?_, fun b2 hb2 hne => setRow_other w b b2 _ (by rintro rfl; exact hne o' g1), .inr ⟨b, o', _, te, rfl, fun hb2 => hs.notOwn hb2 ⟨[l], xs, o', hrow, g1⟩, .inr g1, hbr, fun j x hx => ?_⟩⟩
        · by_cases e2 : b2 = b
          · subst e2
            rw [g5] at hb2; cases hb2
            exact ⟨_, hbr, by simpa using hsz⟩
          · exact ⟨cs2, by rw [setRow_other w b b2 _ e2]; exact hb2, rfl⟩
        · by_cases hj : j < xs.length
          · rw [List.getElem?_append_left hj] at hx
            obtain ⟨u, k1, k2⟩ := hold j x hx
            refine ⟨u, ?_, k2⟩
            rw [cell_of_row w b _ cs te (0, 0) g5] at k1
            simp only [List.getElem?_toArray]
            rw [List.append_assoc, List.getElem?_append_left (by simp; omega), List.getElem?_take_of_lt (by omega)]
            simpa using k1
          · rw [List.getElem?_append_right (by omega)] at hx
            obtain ⟨u, k1, k2⟩ := hcell _ x hx
            refine ⟨u, ?_, k2 _⟩
            have hjj := (List.getElem?_eq_some_iff.1 k1).1
            simp only [List.getElem?_toArray]
            rw [List.append_assoc, List.getElem?_append_right (by simp; omega), List.getElem?_append_left (by simp; omega), ← k1]
            congr 1
            simp only [List.length_take, Array.length_toList]
            omega
      · exact .m (.inr ⟨b, o', cap, by simp [apL], rfl, hroom, g4, _, te, hbr, by simp only [List.size_toArray, hsz]; exact g6⟩)
    · obtain ⟨olds, k1, k2⟩ := cellAt_news (w := w) (fun j x hx => (hold j x hx).imp fun c h => h.1) hl
      refine grow _ cap olds g2 k1 (run_news k1 k2) (fun j x hx => ?_) (by omega)
      obtain ⟨u, k3, k4⟩ := hold j x hx
      obtain ⟨u', k5, k6⟩ := k2 j (by have := (List.getElem?_eq_some_iff.1 hx).1; omega)
      rw [k3] at k6; cases k6
      exact ⟨_, k5, k4⟩
end

/-! ### kinds -/
def rowB (xs : List A) : Bool := xs.all fun x => match x with
  | .o _ _ => true
  | .j => true
  | x => x.inCell
theorem St.rekind {F Λ σ w} (hs : St F Λ σ w) {l : Nat} {r r' : Root} {xs : List A} (hr : σ[l]? = some r) (h1 : r.cells = some xs) (h2 : r'.cells = some xs) (hc : ∀ c x, x ∈ xs → ∀ L, Cell F Λ w (isB r) L c x → Cell F Λ w (isB r') L c x) : St F Λ (σ.set l r') w := by
  have hl : l < σ.length := (List.getElem?_eq_some_iff.1 hr).1
  have e : ∀ L ys, rowAt (σ.set l r') L = some ys → rowAt σ L = some ys := fun L ys h => by
    cases L with
    | nil => simp [rowAt] at h
    | cons h0 p =>
      simp only [rowAt, List.getElem?_set] at h ⊢
      by_cases e : l = h0
      · subst e; rw [if_pos rfl, if_pos hl] at h; rw [hr]; simpa only [h1, h2] using h
      · rw [if_neg e] at h; exact h
  refine ⟨fun L ys h => ?_, fun L ys L' ys' b o o' g1 g2 => hs.apart L ys L' ys' b o o' (e _ _ g1) (e _ _ g2), hs.old, fun L h => hs.lab L (by simpa using h)⟩
  refine (hs.row L ys (e _ _ h)).imp id fun ⟨b, o, cs, t, g1, g2, g3, g4⟩ => ⟨b, o, cs, t, g1, g2, g3, fun j x hj => (g4 j x hj).imp fun c hcc => ⟨hcc.1, ?_⟩⟩
  have h5 := hcc.2
  by_cases e2 : L = [l]
  · subst e2
    have hy := e _ _ h
    simp only [rowAt, hr, h1, sub, Option.some.injEq] at hy
    subst hy
    have b1 : isBox σ [l] = isB r := by simp [isBox_one, hr]
    have b2 : isBox (σ.set l r') [l] = isB r' := by simp [isBox_one, hl]
    rw [b1] at h5; rw [b2]
    exact hc c x (List.mem_of_getElem? hj) _ h5
  · have : isBox (σ.set l r') L = isBox σ L := by
      match L, e2 with
      | [], _ => rfl
      | [h0], e2 =>
        have : l ≠ h0 := fun e => e2 (by rw [e])
        simp only [isBox, List.getElem?_set_ne this]
      | _ :: _ :: _, _ => rfl
    rw [this]; exact h5
theorem Step.rekind {m F Λ σ w} {l : Nat} {r r' : Root} {xs : List A} (hr : σ[l]? = some r) (h1 : r.cells = some xs) (h2 : r'.cells = some xs) (hm : m ≤ l) : Step m F Λ σ w F Λ (σ.set l r') w := by
  have hl : l < σ.length := (List.getElem?_eq_some_iff.1 hr).1
  have e : ∀ L ys, rowAt (σ.set l r') L = some ys → rowAt σ L = some ys := fun L ys h => by
    cases L with
    | nil => simp [rowAt] at h
    | cons h0 p =>
      simp only [rowAt, List.getElem?_set] at h ⊢
      by_cases e : l = h0
      · subst e; rw [if_pos rfl, if_pos hl] at h; rw [hr]; simpa only [h1, h2] using h
      · rw [if_neg e] at h; exact h
  exact { os := rfl, tape := rfl, output := rfl, size := Nat.le_refl _, sizes := Sizes.refl _, keep := fun _ _ _ => rfl, mono := fun _ h => h, new := fun _ h => .inl h
          own := fun b ⟨L, ys, o, g1, g2⟩ => .inl ⟨L, ys, o, e _ _ g1, g2⟩
          len := by rw [List.length_set]; exact Nat.min_le_right _ _
          boxes := fun a us ha hu => ⟨rfl, us, by rw [List.getElem?_set_ne (by omega)]; exact hu⟩
          kept := fun _ _ _ _ h => h }
theorem Cell.boxed {F Λ w L c x} (h : Cell F Λ w false L c x) : Cell F Λ w true L c x := by
  cases x with
  | j => trivial
  | o k ys => exact h
  | _ => exact ⟨by rw [if_pos rfl]; exact inCell_inBox (by have h1 := h.1; rwa [if_neg (by simp)] at h1), h.2⟩
theorem Cell.rowed {F Λ w L c x} (hx : (match x with | .o _ _ => true | .j => true | x => x.inCell) = true) (h : Cell F Λ w true L c x) : Cell F Λ w false L c x := by
  cases x with
  | j => trivial
  | o k ys => exact h
  | _ => exact ⟨by rw [if_neg (by simp)]; exact hx, h.2⟩
/-! ### a reference absorbed -/
def pre (s j : Nat) (L : List Nat) : Bool := match L with
  | h :: i :: _ => h == s && i == j
  | _ => false
def nmE (p : List Nat → Bool) : Env → Bool
  | [] => false
  | (_, a) :: E => a.names p || nmE p E
theorem nmE_lk {p : List Nat → Bool} : ∀ {E : Env}, nmE p E = false → ∀ t, (lk E t).names p = false
  | [], _, t => rfl
  | (u, a) :: E, h, t => by
    simp only [nmE, Bool.or_eq_false_iff] at h
    simp only [lk]; split
    · exact h.1
    · exact nmE_lk h.2 t
def nmS (p : List Nat → Bool) : Store → Bool
  | [] => false
  | .box xs :: σ => namesL p xs || nmS p σ
  | .row _ :: σ => nmS p σ
  | .dead :: σ => nmS p σ
theorem nmS_box {p : List Nat → Bool} : ∀ {σ : Store}, nmS p σ = false → ∀ xs, Root.box xs ∈ σ → namesL p xs = false
  | [], _, xs, h => by cases h
  | .box ys :: σ, hb, xs, h => by
    simp only [nmS, Bool.or_eq_false_iff] at hb
    rcases List.mem_cons.1 h with h | h
    · cases h; exact hb.1
    · exact nmS_box hb.2 xs h
  | .row _ :: σ, hb, xs, h => by
    rcases List.mem_cons.1 h with h | h
    · cases h
    · exact nmS_box (σ := σ) hb xs h
  | .dead :: σ, hb, xs, h => by
    rcases List.mem_cons.1 h with h | h
    · cases h
    · exact nmS_box (σ := σ) hb xs h
def abL (Λ : Lbl) (s j l : Nat) : Lbl := fun L => match L with
  | [] => Λ []
  | [h] => Λ [h]
  | h :: i :: q => if h = s ∧ i = j then Λ (l :: q) else Λ (h :: i :: q)
def abS (σ : Store) (s j l k : Nat) (xs ys : List A) : Store := (σ.set l .dead).set s (.box (xs.set j (.o k ys)))
section
variable {F : Nat → Prop} {Λ : Lbl} {σ : Store} {w : World} {s j l nn k : Nat} {xs ys : List A}
theorem abL_ok : ∀ L b o, pre s j L = false → Λ L = some (b, o) → abL Λ s j l L = some (b, o) := fun L b o hp hL => by
  match L with
  | [] => exact hL
  | [h] => exact hL
  | h :: i :: q =>
    simp only [pre, Bool.and_eq_false_iff, beq_eq_false_iff_ne] at hp
    simp only [abL]
    rw [if_neg (by rintro ⟨rfl, rfl⟩; simp at hp)]; exact hL
theorem rowAt_ab (hs : σ[s]? = some (.box xs)) (hl : σ[l]? = some (.row ys)) (hj : j < xs.length) (hne : s ≠ l) {L zs} (h : rowAt (abS σ s j l k xs ys) L = some zs) :
    (L = [s] ∧ zs = xs.set j (.o k ys)) ∨ (∃ q, L = s :: j :: q ∧ rowAt σ (l :: q) = some zs) ∨ (L ≠ [s] ∧ pre s j L = false ∧ hd l L = false ∧ rowAt σ L = some zs) := by
  have h1 : s < σ.length := (List.getElem?_eq_some_iff.1 hs).1
  cases L with
  | nil => simp [rowAt] at h
  | cons h0 p =>
    simp only [abS, rowAt, List.getElem?_set, List.length_set] at h
    by_cases e : s = h0
    · subst e
      rw [if_pos rfl, if_pos h1] at h
      simp only [Root.cells] at h
      cases p with
      | nil => simp only [sub, Option.some.injEq] at h; exact .inl ⟨rfl, h.symm⟩
      | cons i q =>
        by_cases ei : j = i
        · subst ei
          refine .inr (.inl ⟨q, rfl, ?_⟩)
          simp only [sub, List.getElem?_set_self hj] at h
          simpa only [rowAt, hl, Root.cells] using h
        · refine .inr (.inr ⟨by simp, by simp [pre]; omega, by simp [hd]; omega, ?_⟩)
          simp only [sub, List.getElem?_set_ne ei] at h
          simpa only [rowAt, hs, Root.cells, sub] using h
    · rw [if_neg e] at h
      by_cases e2 : l = h0
      · subst e2
        rw [if_pos rfl] at h
        split at h
        · rename_i r hr
          split at hr
          · cases hr; simp [Root.cells] at h
          · cases hr
        · cases h
      · rw [if_neg e2] at h
        refine .inr (.inr ⟨by simp; omega, ?_, by simp [hd]; omega, by simpa only [rowAt] using h⟩)
        cases p with
        | nil => rfl
        | cons i q => simp [pre]; omega
theorem St.absorb (h : St F Λ σ w) (hs : σ[s]? = some (.box xs)) (hl : σ[l]? = some (.row ys)) (hx : xs[j]? = some (.m [l] 0 nn k)) (hne : s ≠ l) (hk : 0 < k) (hn : ys.length = nn * k) (hb : nmS (pre s j) σ = false) : St F (abL Λ s j l) (abS σ s j l k xs ys) w := by
  have hj : j < xs.length := (List.getElem?_eq_some_iff.1 hx).1
  have hrs : rowAt σ [s] = some xs := by simp only [rowAt, hs, Root.cells, sub]
  have hls : s < σ.length := (List.getElem?_eq_some_iff.1 hs).1
  have hbx : isBox (abS σ s j l k xs ys) [s] = true := by simp [isBox, abS, hls]
  have hsb : isBox σ [s] = true := by simp [isBox, hs]
  have key : ∀ L zs, rowAt (abS σ s j l k xs ys) L = some zs → ∃ L0 us, rowAt σ L0 = some us ∧ abL Λ s j l L = Λ L0 ∧ (L = L0 ∨ ∃ q, L = s :: j :: q ∧ L0 = l :: q) ∧ (hd l L0 = true → ∃ q, L = s :: j :: q) := fun L zs h => by
    rcases rowAt_ab hs hl hj hne h with ⟨rfl, rfl⟩ | ⟨q, rfl, h1⟩ | ⟨h1, h2, h3, h4⟩
    · exact ⟨[s], xs, hrs, rfl, .inl rfl, fun h => by simp [hd] at h; omega⟩
    · exact ⟨l :: q, zs, h1, by simp [abL], .inr ⟨q, rfl, rfl⟩, fun _ => ⟨q, rfl⟩⟩
    · refine ⟨L, zs, h4, ?_, .inl rfl, fun h => by rw [h3] at h; cases h⟩
      match L, h2 with
      | [], _ => rfl
      | [h], _ => rfl
      | h :: i :: q, h2 =>
        simp only [pre, Bool.and_eq_false_iff, beq_eq_false_iff_ne] at h2
        simp only [abL]; rw [if_neg (by rintro ⟨rfl, rfl⟩; simp at h2)]
  refine ⟨fun L zs hz => ?_, fun L zs L' zs' b o o' g1 g2 g3 g4 => ?_, h.old, fun L hL => ?_⟩
  · rcases rowAt_ab hs hl hj hne hz with ⟨rfl, rfl⟩ | ⟨q, rfl, h1⟩ | ⟨h1, h2, h3, h4⟩
    · have e : abL Λ s j l [s] = Λ [s] := rfl
      rw [e, hbx]
      rcases h.row _ _ hrs with ⟨_, h5⟩ | ⟨b, o, cs, t, h5, h6, h7, h8⟩
      · subst h5; simp at hj
      · refine .inr ⟨b, o, cs, t, h5, h6, h7, fun i x hi => ?_⟩
        by_cases ei : j = i
        · subst ei
          rw [List.getElem?_set_self hj] at hi; cases hi
          obtain ⟨c, g1, g2⟩ := h8 j _ hx
          rw [hsb] at g2
          refine ⟨c, g1, trivial, hk, nn, hn, ?_⟩
          have := OK.m_inv g2.2
          exact this.imp id fun ⟨b, o, cap, k1, k2⟩ => ⟨b, o, cap, by simpa [abL] using k1, k2⟩
        · rw [List.getElem?_set_ne ei] at hi
          obtain ⟨c, g1, g2⟩ := h8 i x hi
          rw [hsb] at g2
          refine ⟨c, g1, g2.relabel (pre s j) abL_ok (by simp [pre]; omega) fun _ => ?_⟩
          exact namesL_false (nmS_box hb xs (List.mem_of_getElem? hs)) x (List.mem_of_getElem? hi)
    · have e : abL Λ s j l (s :: j :: q) = Λ (l :: q) := by simp [abL]
      rw [e, isBox_deep]
      refine (h.row _ _ h1).imp id fun ⟨b, o, cs, t, g1, g2, g3, g4⟩ => ⟨b, o, cs, t, g1, g2, g3, fun i x hi => (g4 i x hi).imp fun c hc => ⟨hc.1, ?_⟩⟩
      have h5 := hc.2
      rw [isBox_row hl q] at h5
      exact h5.unbox fun a n k v hv => hv.imp id fun ⟨b, o, cap, k1, k2⟩ => ⟨b, o, cap, by simpa [abL] using k1, k2⟩
    · obtain ⟨L0, us, k1, k2, k3, k4⟩ := key L zs hz
      have hL0 : L = L0 := by
        rcases k3 with k3 | ⟨q, rfl, _⟩
        · exact k3
        · simp [pre] at h2
      subst hL0
      rw [k2]
      have hib : isBox (abS σ s j l k xs ys) L = isBox σ L := by
        match L, h1, h3 with
        | [], _, _ => rfl
        | [h0], h1, h3 =>
          have e1 : s ≠ h0 := fun e => h1 (by rw [e])
          have e2 : l ≠ h0 := fun e => by simp [hd, e] at h3
          simp only [isBox, abS, List.getElem?_set_ne e1, List.getElem?_set_ne e2]
        | _ :: _ :: _, _, _ => rfl
      rw [hib]
      refine (h.row _ _ h4).imp id fun ⟨b, o, cs, t, g1, g2, g3, g4⟩ => ⟨b, o, cs, t, g1, g2, g3, fun i x hi => (g4 i x hi).imp fun c hc => ⟨hc.1, ?_⟩⟩
      by_cases hbL : isBox σ L = true
      · match L, hbL, h4, hc.2 with
        | [h0], hbL, h4, h5 =>
          refine h5.relabel (pre s j) abL_ok ?_ fun _ => ?_
          · have : h0 ≠ s := fun e => h1 (by rw [e])
            simp [pre, this]
          · simp only [isBox] at hbL
            split at hbL
            · rename_i us2 hu
              simp only [rowAt, hu, Root.cells, sub, Option.some.injEq] at h4
              subst h4
              exact namesL_false (nmS_box hb us2 (List.mem_of_getElem? hu)) x (List.mem_of_getElem? hi)
            · cases hbL
        | [], hbL, _, _ => cases hbL
        | _ :: _ :: _, hbL, _, _ => cases hbL
      · have hbf : isBox σ L = false := by simpa using hbL
        have h5 := hc.2
        rw [hbf] at h5 ⊢
        refine h5.unbox fun a n k v hv => hv.imp id fun ⟨b, o, cap, k1, k2⟩ => ⟨b, o, cap, abL_ok _ _ _ ?_ k1, k2⟩
        match L, h1, h2 with
        | [], _, _ => rfl
        | [h0], h1, _ =>
          have : h0 ≠ s := fun e => h1 (by rw [e])
          simp [pre, this]
        | h0 :: i0 :: q, _, h2 => simpa [pre] using h2
  · obtain ⟨A0, us, a1, a2, a3, a4⟩ := key _ _ g1
    obtain ⟨B0, us', b1, b2, b3, b4⟩ := key _ _ g2
    rw [a2] at g3; rw [b2] at g4
    have := h.apart _ _ _ _ _ _ _ a1 b1 g3 g4
    subst this
    rcases a3 with rfl | ⟨q, rfl, rfl⟩
    · rcases b3 with rfl | ⟨q, rfl, rfl⟩
      · rfl
      · obtain ⟨q', e⟩ := a4 (by simp [hd])
        simp only [List.cons.injEq] at e
        exact absurd e.1.symm hne
    · rcases b3 with rfl | ⟨q', rfl, e⟩
      · obtain ⟨q', e⟩ := b4 (by simp [hd])
        simp only [List.cons.injEq] at e
        exact absurd e.1.symm hne
      · simp only [List.cons.injEq, true_and] at e; rw [e]
  · have hlen : (abS σ s j l k xs ys).length = σ.length := by simp [abS]
    rw [hlen] at hL
    match L, hL with
    | [], hL => exact h.lab [] hL
    | [h0], hL => exact h.lab [h0] hL
    | h0 :: i0 :: q, hL =>
      simp only [List.headD_cons] at hL
      simp only [abL]; rw [if_neg (by rintro ⟨rfl, _⟩; omega)]
      exact h.lab _ (by simpa using hL)
theorem Step.absorb {m : Nat} (h : St F Λ σ w) (hs : σ[s]? = some (.box xs)) (hl : σ[l]? = some (.row ys)) (hx : xs[j]? = some (.m [l] 0 nn k)) (hne : s ≠ l) (hms : m ≤ s) (hml : m ≤ l) : Step m F Λ σ w F (abL Λ s j l) (abS σ s j l k xs ys) w := by
  have hj : j < xs.length := (List.getElem?_eq_some_iff.1 hx).1
  have hrs : rowAt σ [s] = some xs := by simp only [rowAt, hs, Root.cells, sub]
  exact { os := rfl, tape := rfl, output := rfl, size := Nat.le_refl _, sizes := Sizes.refl _, keep := fun _ _ _ => rfl, mono := fun _ h => h, new := fun _ h => .inl h
          own := fun b ⟨L, zs, o, g1, g2⟩ => by
            rcases rowAt_ab hs hl hj hne g1 with ⟨rfl, rfl⟩ | ⟨q, rfl, h1⟩ | ⟨h1, h2, h3, h4⟩
            · exact .inl ⟨[s], xs, o, hrs, g2⟩
            · exact .inl ⟨l :: q, zs, o, h1, by simpa [abL] using g2⟩
            · refine .inl ⟨L, zs, o, h4, ?_⟩
              match L, h2, g2 with
              | [], _, g2 => exact g2
              | [_], _, g2 => exact g2
              | h0 :: i0 :: q, h2, g2 =>
                simp only [pre, Bool.and_eq_false_iff, beq_eq_false_iff_ne] at h2
                simp only [abL] at g2; rw [if_neg (by rintro ⟨rfl, rfl⟩; simp at h2)] at g2; exact g2
          len := by simp [abS]; omega
          boxes := fun a us ha hu => ⟨rfl, us, by simp only [abS]; rw [List.getElem?_set_ne (by omega), List.getElem?_set_ne (by omega)]; exact hu⟩
          kept := fun L b o ha hL => by
            match L, ha, hL with
            | [], _, hL => exact hL
            | [_], _, hL => exact hL
            | h0 :: i0 :: q, ha, hL =>
              simp only [List.headD_cons] at ha
              simp only [abL]; rw [if_neg (by rintro ⟨rfl, _⟩; omega)]; exact hL }
end
section
variable {P : Program} {n m : Nat} {K : Exit → Env → Store → Prop} {N : Env → Store → Prop} {E : Env} {σ : Store} {ops : Array Oper} {os : List Oper} {o : Oper}
theorem TO_boxify (l : Nat) {xs : List A} (hr : σ[l]? = some (.row xs)) (hm : m ≤ l) (h : TO P n m ops os N E (σ.set l (.box xs))) : TO P n m ops os N E σ := fun F Λ w tmps Q hn hs hf hq =>
  h F Λ w tmps Q hn (hs.rekind hr rfl rfl fun c x _ L hc => hc.boxed) hf fun F' Λ' σ' w' tmps' E' hn' hs' hf' hst hN => hq F' Λ' σ' w' tmps' E' hn' hs' hf' ((Step.rekind hr rfl rfl hm).trans hst) hN
theorem TO_rowify (l : Nat) {xs : List A} (hr : σ[l]? = some (.box xs)) (hb : rowB xs = true) (hm : m ≤ l) (h : TO P n m ops os N E (σ.set l (.row xs))) : TO P n m ops os N E σ := fun F Λ w tmps Q hn hs hf hq =>
  h F Λ w tmps Q hn (hs.rekind hr rfl rfl fun c x hx L hc => hc.rowed (by simp only [rowB, List.all_eq_true] at hb; exact hb x hx)) hf fun F' Λ' σ' w' tmps' E' hn' hs' hf' hst hN => hq F' Λ' σ' w' tmps' E' hn' hs' hf' ((Step.rekind hr rfl rfl hm).trans hst) hN
theorem TO_absorb (s j l : Nat) {nn k : Nat} {xs ys : List A} (hs : σ[s]? = some (.box xs)) (hl : σ[l]? = some (.row ys)) (hx : xs[j]? = some (.m [l] 0 nn k)) (hne : s ≠ l) (hk : 0 < k) (hn : ys.length = nn * k) (hms : m ≤ s) (hml : m ≤ l)
    (hE : nmE (pre s j) E = false) (hb : nmS (pre s j) σ = false) (h : TO P n m ops os N E (abS σ s j l k xs ys)) : TO P n m ops os N E σ := fun F Λ w tmps Q hn' hs' hf hq =>
  h F _ w tmps Q hn' (hs'.absorb hs hl hx hne hk hn hb) (fun t => (hf t).relabel (pre s j) abL_ok (nmE_lk hE t)) fun F2 Λ2 σ2 w2 tmps2 E2 hn2 hs2 hf2 hst hN => hq F2 Λ2 σ2 w2 tmps2 E2 hn2 hs2 hf2 ((Step.absorb hs' hs hl hx hne hms hml).trans hst) hN
/-- A literal whose elements may own. -/
theorem TOp_litB {t e k nn : Nat} {zs : List Value} {parts : List (Nat × Operand)} {as : List A} (hT : SlT P t e k) (hz : ZeroT P e zs) (h : o.op = .buildSlice t nn parts.toArray) (hd : dstOK n o.dst = true)
    (hfill : fillA (litPl nn k) (List.replicate (nn * k) .j) (parts.map fun p => (p.1, val E p.2)) = some as) (hc : boxAllB as = true) (hsz : nn * k ≤ 16777216)
    (hN : N (put E o.dst (.m [σ.length] 0 nn k)) (σ ++ [.box as])) : TOp P n m o N E σ := by
  obtain ⟨⟨inf, z, h1, h2, h3⟩, h4⟩ := hz
  have hsize : inf.size = k := by obtain ⟨i2, g1, g2⟩ := hT.i; rw [h1] at g1; cases g1; exact g2
  refine TOp_new (.box as) as rfl e (fun y hy => inBox_plain (boxAll hc y hy)) _ hd (fun F Λ w tmps hs hf => ?_) hN
  obtain ⟨cs', g1, g2, g3⟩ := fill_ok2 (f := fun i => some (i * k, k)) (fun i p hp => litPl_get hp) hf parts ((Array.range (nn * k)).map ((if nn * k = 0 then #[] else z.cells)[· % (if nn * k = 0 then #[] else z.cells).size]!)) (List.replicate (nn * k) .j) as (by simp) (fun j y hy => by
    have hj : j < nn * k := by have := (List.getElem?_eq_some_iff.1 hy).1; simpa using this
    rw [List.getElem?_replicate, if_pos hj] at hy
    cases hy
    exact ⟨_, Array.getElem?_eq_getElem (by simpa using hj), .j _⟩) hfill
  have hlen : as.length = nn * k := by
    have key : ∀ (parts : List (Nat × A)) (as as' : List A), fillA (litPl nn k) as parts = some as' → as'.length = as.length := fun parts => by
      induction parts with
      | nil => intro as as' h; simp only [fillA, Option.some.injEq] at h; subst h; rfl
      | cons p rest ih =>
        intro as as' h
        obtain ⟨i, a⟩ := p
        simp only [fillA] at h
        split at h
        · split at h
          · rw [ih _ _ h, spl_len]
          · cases h
        · cases h
    rw [key _ _ _ hfill]; simp
  refine ⟨cs'.toList, .slice (some ⟨w.heap.size, 0, none⟩) nn nn, fun j x hx => ?_, ?_, ?_⟩
  · obtain ⟨c, g4, g5⟩ := g3 j x hx
    exact ⟨c, by rw [Array.getElem?_toList]; exact g4, .ofBox (boxAll hc x (List.mem_of_getElem? hx)) g5⟩
  · simp only [execOp, h, Instr.buildSlice, run_underlying hT.u, Sem.run_bind, Result.andThen_ok, run_sizeOf' hT.i]
    rw [if_neg (by omega)]
    have hm : (parts.toArray.map fun (x : Nat × Operand) => match x with | (i, x) => (i, Act.eval ⟨tmps, []⟩ x)).toList = parts.map fun p => (p.1, Act.eval ⟨tmps, []⟩ p.2) := by simp
    have hzr : (zeroValue e).run P w = .ok z w := by simp [zeroValue, typeInfo, h1, h2]
    by_cases h0 : nn * k = 0
    · rw [if_pos h0] at g1
      simp only [h0, if_true, Sem.run_pure, Result.andThen_ok, Sem.run_bind, hm] at g1 ⊢
      rw [g1]
      simp [newRow]
    · rw [if_neg h0] at g1
      simp only [h0, if_false, Sem.run_pure, Sem.run_bind, hzr, Result.andThen_ok, hm]
      rw [g1]
      simp [newRow]
  · exact .m (.inr ⟨w.heap.size, 0, nn, by simp [pushL], by simp, Nat.le_refl _, by
      have := hT.pos
      have : nn ≤ nn * k := Nat.le_mul_of_pos_right _ hT.pos
      simp only [maxLen]; omega, _, e, heap_alloc_new w _, by simp only [Array.toArray_toList, Nat.zero_add]; omega⟩)
theorem src_b {y : Operand} {mm k s : Nat} {zs : List A} (hy : val E y = .m [s] 0 mm k) (hr : σ[s]? = some (.box zs)) (hl : zs.length = mm * k) (hc : boxAllB zs = true) : SrcA P E σ y mm k zs := by
  refine ⟨hl, fun F Λ w tmps hs hf => ?_⟩
  have hrow : rowAt σ [s] = some zs := by simp only [rowAt, hr, Root.cells, sub]
  have e1 := val_ok (ds := []) hf y
  rw [hy] at e1
  rcases e1.m_inv with ⟨rfl, ad, h1⟩ | ⟨b, o', cap, h1, h2, _, _, _⟩
  · have : zs = [] := List.eq_nil_of_length_eq_zero (by omega)
    subst this
    exact ⟨ad, 0, [], h1, by simp, fun w' _ => firstCells_zero w' k ad 0, by simp⟩
  · have key : ∀ (j : Nat) x, zs[j]? = some x → ∃ c, w.cell? ⟨b, o' + 0 + j, none⟩ = some c ∧ OK F Λ w c x := fun j x hx => by
      obtain ⟨c, h3, h4⟩ := hs.cellAt hrow h1 hx
      refine ⟨c, h3, ?_⟩
      have hin := boxAll hc x (List.mem_of_getElem? hx)
      rw [show isBox σ [s] = true by simp [isBox, hr]] at h4
      cases x <;> first | exact h4.2 | (simp [A.inBox] at hin)
    obtain ⟨news, h6, h7⟩ := cellAt_news (w := w) (fun j x hx => (key j x hx).imp fun c h => h.1) hl
    refine ⟨_, cap, news, h2, h6, run_news h6 h7, fun j x hx => ?_⟩
    obtain ⟨c, h8, h9⟩ := h7 j (by have := (List.getElem?_eq_some_iff.1 hx).1; omega)
    obtain ⟨c', g1, g2⟩ := key j x hx
    rw [g1] at h9; cases h9
    exact ⟨_, h8, g2⟩
end
end Go.Sep
/- append of one element that owns; calls that look at rows and hand back rows. -/
set_option linter.unusedVariables false
set_option linter.unusedSimpArgs false
namespace Go.Sep
open Go

theorem app_len {α : Type} {b : Nat} {xs ys us : List α} (h : app b xs ys = some us) : xs.length + ys.length = us.length := by rw [(app_inv h).1]; simp
theorem set_right {α : Type} (xs ys : List α) (i : Nat) (y : α) : (xs ++ ys).set (xs.length + i) y = xs ++ ys.set i y := by
  rw [List.set_append]; rw [if_neg (by omega)]; simp
section
variable {P : Program} {n m : Nat} {N : Env → Store → Prop} {E : Env} {σ : Store} {ops : Array Oper} {os : List Oper} {o : Oper}
/-- The operation itself: the cells of the new element are copied, references and all. -/
theorem TOp_appB {α : Type} {T : Ty α} {t e l s by_ : Nat} {x y : Operand} {zs : List Value} {xs us : List α} {v : α} {cs : List A} (hT : SlT P t e T.k) (hz : ZeroT P e zs) (hzk : zs.length = T.k) (hby : (P.info? e).map (·.bytes) = some by_) (hb1 : 1 ≤ by_)
    (h : o.op = .call { callee := .builtin .append, args := #[x, y], argTypes := #[t, t] }) (hd : dstOK n o.dst = true) (hx : val E x = .m [l] 0 xs.length T.k) (hr : σ[l]? = some (.box (flat T.own xs)))
    (hy : val E y = .m [s] 0 1 T.k) (hs : σ[s]? = some (.box cs)) (hcs : cs.length = T.k) (hc : boxAllB cs = true) (ha : app by_ xs [v] = some us) (hml : m ≤ l)
    (hN : N (put E o.dst (.m [σ.length] 0 (xs.length + 1) T.k)) (σ.set l .dead ++ [.box (flat T.own xs ++ cs)])) : TOp P n m o N E σ := by
  obtain ⟨_, hb⟩ := app_inv ha
  simp only [List.length_cons, List.length_nil, Nat.zero_add] at hb
  have h63 : xs.length + 1 ≤ 9223372036854775807 := by
    have : (xs.length + 1) * 1 ≤ (xs.length + 1) * by_ := Nat.mul_le_mul_left _ hb1
    omega
  exact TOp_appendX hT hz hzk hby h hd hx hr (flat_len T.lenO xs) (src_b hy hs (by rw [hcs, Nat.one_mul]) hc) hc hml h63 hb hN
theorem TO_absorbA (s off l : Nat) {nn k : Nat} {pr cs ys : List A} (hs : σ[s]? = some (.box (pr ++ cs))) (hl : σ[l]? = some (.row ys)) (hx : cs[off]? = some (.m [l] 0 nn k)) (hne : s ≠ l) (hk : 0 < k) (hn : ys.length = nn * k) (hms : m ≤ s) (hml : m ≤ l)
    (hE : nmE (pre s (pr.length + off)) E = false) (hb : nmS (pre s (pr.length + off)) σ = false) (h : TO P n m ops os N E ((σ.set l .dead).set s (.box (pr ++ cs.set off (.o k ys))))) : TO P n m ops os N E σ := by
  refine TO_absorb s (pr.length + off) l hs hl ?_ hne hk hn hms hml hE hb ?_
  · rw [List.getElem?_append_right (by omega)]; simpa using hx
  · unfold abS; rw [set_right]; exact h
theorem rowB_own {xs : List A} (h : ownRL xs = true) : rowB xs = true := by
  simp only [rowB, List.all_eq_true]
  intro x hx
  have := ownRL_mem h x hx
  cases x <;> simp_all [ownR, A.inCell]
theorem TO_rowifyT {α : Type} {T : Ty α} (s : Nat) {xs us : List α} {v : α} {cs : List A} {by_ : Nat} (hs : σ[s]? = some (.box (flat T.own xs ++ cs))) (hv : cs = T.own v) (ha : app by_ xs [v] = some us) (hm : m ≤ s) (h : TO P n m ops os N E (σ.set s (.row (flat T.own us)))) : TO P n m ops os N E σ := by
  obtain ⟨rfl, _⟩ := app_inv ha
  subst hv
  have e : flat T.own xs ++ T.own v = flat T.own (xs ++ [v]) := flat_one _ _ _
  rw [e] at hs
  exact TO_rowify s hs (rowB_own (flat_ownR T _)) hm h
end

/-! ### a root that nobody needs -/
theorem St.kill {F Λ σ w} (hs : St F Λ σ w) (l : Nat) : St F Λ (σ.set l .dead) w where
  row L ys h := by
    obtain ⟨hn, h1⟩ := rowAt_kill h
    rw [isBox_kill hn]; exact hs.row L ys h1
  apart L ys L' ys' b o o' h1 h2 := hs.apart _ _ _ _ _ _ _ (rowAt_kill h1).2 (rowAt_kill h2).2
  old := hs.old
  lab L h := hs.lab L (by simpa using h)
theorem Step.kill {m F Λ σ w} {l : Nat} (hm : m ≤ l) : Step m F Λ σ w F Λ (σ.set l .dead) w :=
  { os := rfl, tape := rfl, output := rfl, size := Nat.le_refl _, sizes := Sizes.refl _, keep := fun _ _ _ => rfl, mono := fun _ h => h, new := fun _ h => .inl h
    own := fun b ⟨L, ys, o, g1, g2⟩ => .inl ⟨L, ys, o, (rowAt_kill g1).2, g2⟩
    len := by rw [List.length_set]; exact Nat.min_le_right _ _
    boxes := fun a us ha hu => ⟨rfl, us, by rw [List.getElem?_set_ne (by omega)]; exact hu⟩
    kept := fun _ _ _ _ h => h }
theorem TO_kill {P : Program} {n m : Nat} {N : Env → Store → Prop} {E : Env} {σ : Store} {ops : Array Oper} {os : List Oper} (l : Nat) (hm : m ≤ l) (h : TO P n m ops os N E (σ.set l .dead)) : TO P n m ops os N E σ := fun F Λ w tmps Q hn hs hf hq =>
  h F Λ w tmps Q hn (hs.kill l) hf fun F' Λ' σ' w' tmps' E' hn' hs' hf' hst hN => hq F' Λ' σ' w' tmps' E' hn' hs' hf' ((Step.kill hm).trans hst) hN
/-! ### calls -/
section
variable {P : Program} {n m : Nat} {N : Env → Store → Prop} {E : Env} {σ : Store} {o : Oper}
end
end Go.Sep
/- Regions that draw their order and write: whatever the order, the state is that of the operations which have come up. -/
set_option linter.unusedVariables false
set_option linter.unusedSimpArgs false
namespace Go.Sep
open Go

/-- The same world, seen otherwise. -/
def Ghost (m : Nat) (E : Env) (σ : Store) (E' : Env) (σ' : Store) : Prop := ∀ F Λ w tmps, St F Λ σ w → FrOK F Λ w tmps E → ∃ F' Λ', St F' Λ' σ' w ∧ FrOK F' Λ' w tmps E' ∧ Step m F Λ σ w F' Λ' σ' w
theorem Ghost.weak {m E σ E' σ'} (h : WeakL m E σ E' σ') : Ghost m E σ E' σ' := fun F Λ w tmps hs hf => ⟨F, h.go hs hf⟩
theorem Ghost.trans {m E σ E1 σ1 E2 σ2} (h : Ghost m E σ E1 σ1) (h' : Ghost m E1 σ1 E2 σ2) : Ghost m E σ E2 σ2 := fun F Λ w tmps hs hf => by
  obtain ⟨F1, Λ1, h1, h2, h3⟩ := h F Λ w tmps hs hf
  obtain ⟨F2, Λ2, g1, g2, g3⟩ := h' F1 Λ1 w tmps h1 h2
  exact ⟨F2, Λ2, g1, g2, h3.trans g3⟩
theorem Ghost.move {m E σ E' σ'} (l l' : Nat) {zs} (hne : l ≠ l') (hl : l < σ.length) (hr : σ[l']? = some (.row zs)) (hb : noBox σ l = true) (hm : m ≤ l) (h : Ghost m (mvE l l' E) (mvS l l' σ) E' σ') : Ghost m E σ E' σ' :=
  Ghost.trans (fun F Λ w tmps hs hf => ⟨F, _, hs.move hne hl hr, fun t => by rw [lk_mvE]; exact mvA_ok hne (hf t), Step.move hs hne hl hr hb hm⟩) h
theorem rowAt_pad {σ : Store} {L xs} (h : rowAt (σ ++ [.dead]) L = some xs) : L.headD 0 < σ.length ∧ rowAt σ L = some xs := by
  rcases rowAt_push h with h | ⟨p, ys, rfl, h1, h2⟩
  · exact h
  · cases h1
theorem St.pad {F Λ σ w} (hs : St F Λ σ w) : St F Λ (σ ++ [.dead]) w where
  row L xs h := by
    obtain ⟨h1, h2⟩ := rowAt_pad h
    rw [isBox_push h1]; exact hs.row L xs h2
  apart L xs L' xs' b o o' h1 h2 := hs.apart _ _ _ _ _ _ _ (rowAt_pad h1).2 (rowAt_pad h2).2
  old := hs.old
  lab L h := hs.lab L (Nat.le_trans (by simp) h)
theorem Step.pad {m F Λ σ w} : Step m F Λ σ w F Λ (σ ++ [.dead]) w :=
  { os := rfl, tape := rfl, output := rfl, size := Nat.le_refl _, sizes := Sizes.refl _, keep := fun _ _ _ => rfl, mono := fun _ h => h, new := fun _ h => .inl h
    own := fun b ⟨L, xs, o, h1, h2⟩ => .inl ⟨L, xs, o, (rowAt_pad h1).2, h2⟩
    len := by simp; omega
    boxes := fun a us ha hu => ⟨rfl, us, by rw [List.getElem?_append_left (List.getElem?_eq_some_iff.1 hu).1]; exact hu⟩
    kept := fun _ _ _ _ h => h }
theorem Ghost.pad {m E σ E' σ'} (h : Ghost m E (σ ++ [.dead]) E' σ') : Ghost m E σ E' σ' :=
  Ghost.trans (fun F Λ w tmps hs hf => ⟨F, Λ, hs.pad, hf, Step.pad⟩) h
def upd (I : Nat → Bool) (i : Nat) : Nat → Bool := fun k => if k = i then true else I k
def depOf (deps : List (List Nat)) (i : Nat) : List Nat := deps.getD i []
section
variable {P : Program} {n m : Nat} {K : Exit → Env → Store → Prop} {N : Env → Store → Prop} {E : Env} {σ : Store} {ops : Array Oper} {os : List Oper} {o : Oper}
/-- What is asked of each operation: from whatever has come up, what it waits for among it. -/
def Steps (P : Program) (n m : Nat) (deps : List (List Nat)) (Est : (Nat → Bool) → Env) (Sst : (Nat → Bool) → Store) : List Oper → Nat → Prop
  | [], _ => True
  | o :: os, i => (∀ I : Nat → Bool, I i = false → (∀ j ∈ depOf deps i, I j = true) → (∀ k, I k = true → ∀ j ∈ depOf deps k, I j = true) →
      TOp P n m o (fun E' σ' => Ghost m E' σ' (Est (upd I i)) (Sst (upd I i))) (Est I) (Sst I)) ∧ Steps P n m deps Est Sst os (i + 1)
theorem Steps.get {deps Est Sst} : ∀ {l : List Oper} {k : Nat}, Steps P n m deps Est Sst l k → ∀ i o, l[i]? = some o → ∀ I : Nat → Bool, I (k + i) = false → (∀ j ∈ depOf deps (k + i), I j = true) → (∀ k, I k = true → ∀ j ∈ depOf deps k, I j = true) →
      TOp P n m o (fun E' σ' => Ghost m E' σ' (Est (upd I (k + i))) (Sst (upd I (k + i)))) (Est I) (Sst I)
  | [], _, _, i, o, h => by simp at h
  | o' :: os, k, hs, 0, o, h => by
    simp only [List.getElem?_cons_zero, Option.some.injEq] at h; subst h; exact hs.1
  | o' :: os, k, hs, i + 1, o, h => by
    have := Steps.get hs.2 i o (by simpa using h)
    rw [show k + 1 + i = k + (i + 1) by omega] at this; exact this
theorem TOp_appY {α : Type} {T : Ty α} {f : α → List A} (hf : ∀ x, (f x).length = T.k) {t e l by_ : Nat} {x y : Operand} {zs : List Value} {xs ys us : List α} (hT : SlT P t e T.k) (hz : ZeroT P e zs) (hzk : zs.length = T.k) (hby : (P.info? e).map (·.bytes) = some by_) (hb1 : 1 ≤ by_)
    (h : o.op = .call { callee := .builtin .append, args := #[x, y], argTypes := #[t, t] }) (hd : dstOK n o.dst = true) (hx : val E x = .m [l] 0 xs.length T.k) (hr : σ[l]? = some (.row (flat f xs)))
    (hsrc : SrcA P E σ y ys.length T.k (flat f ys)) (hc : cellAllB (flat f ys) = true) (ha : app by_ xs ys = some us)
    (hN : N (put E o.dst (.m [σ.length] 0 us.length T.k)) (σ.set l .dead ++ [.row (flat f us)])) : TOp P n m o N E σ := by
  obtain ⟨rfl, hb⟩ := app_inv ha
  have h63 : xs.length + ys.length ≤ 9223372036854775807 := by
    have : (xs.length + ys.length) * 1 ≤ (xs.length + ys.length) * by_ := Nat.mul_le_mul_left _ hb1
    omega
  refine TOp_append hT hz hzk hby h hd hx hr (flat_len hf xs) hsrc hc h63 hb ?_
  rw [← List.length_append, flat_app]; exact hN
/-! ### part of a slice -/
/-- xs[a:b], in Go; b no more than the length. -/
def cutI {α : Type} (xs : List α) (a b : Int) : Option (List α) := if 0 ≤ a ∧ a ≤ b ∧ b ≤ xs.length then some ((xs.take b.toNat).drop a.toNat) else none
theorem cutI_inv {α : Type} {xs ys : List α} {a b : Int} (h : cutI xs a b = some ys) : ∃ i j : Nat, a = (i : Int) ∧ b = (j : Int) ∧ i ≤ j ∧ j ≤ xs.length ∧ ys = (xs.take j).drop i ∧ ys.length = j - i := by
  unfold cutI at h
  split at h
  · rename_i h1
    refine ⟨a.toNat, b.toNat, by omega, by omega, by omega, by omega, by simpa using h.symm, ?_⟩
    have : ys = (xs.take b.toNat).drop a.toNat := by simpa using h.symm
    rw [this]; simp; omega
  · cases h
theorem flat_take {α : Type} {f : α → List A} {k : Nat} (hk : ∀ x, (f x).length = k) : ∀ (xs : List α) (j : Nat), flat f (xs.take j) = (flat f xs).take (j * k)
  | [], j => by simp [flat]
  | x :: xs, 0 => by simp [flat]
  | x :: xs, j + 1 => by
    simp only [List.take_succ_cons, flat, flat_take hk xs j]
    rw [Nat.succ_mul, List.take_append, List.take_of_length_le (l := f x) (by rw [hk]; omega), hk, Nat.add_sub_cancel]
theorem flat_drop {α : Type} {f : α → List A} {k : Nat} (hk : ∀ x, (f x).length = k) : ∀ (xs : List α) (j : Nat), flat f (xs.drop j) = (flat f xs).drop (j * k)
  | [], j => by simp [flat]
  | x :: xs, 0 => by simp [flat]
  | x :: xs, j + 1 => by
    simp only [List.drop_succ_cons, flat, flat_drop hk xs j]
    rw [Nat.succ_mul, List.drop_append, List.drop_eq_nil_of_le (as := f x) (by rw [hk]; omega), hk, Nat.add_sub_cancel, List.nil_append]
/-- The value of a bound. -/
def bnd (E : Env) (d : Int) : Option Operand → Int → Prop
  | none, z => z = d
  | some x, z => ∃ k, val E x = .v (.int k z)
theorem bnd_run {F Λ w tmps} (hf : FrOK F Λ w tmps E) {d z : Int} {x : Option Operand} (h : bnd E d x z) : (x = none ∧ z = d) ∨ ∃ k, x.map (Act.eval ⟨tmps, []⟩) = some (.int k z) ∧ x ≠ none := by
  cases x with
  | none => exact .inl ⟨rfl, h⟩
  | some x =>
    obtain ⟨k, h⟩ := h
    have h1 := val_ok (ds := []) hf x
    rw [h] at h1
    exact .inr ⟨k, by simp [h1.v_inv], by simp⟩
theorem run_cut {F Λ w tmps} (hf : FrOK F Λ w tmps E) {t e k : Nat} {x : Operand} {lo hi : Option Operand} {a : Option Addr} {n cap i j : Nat} (hT : SlT P t e k) (h : o.op = .slice t x lo hi none) (hx : Act.eval ⟨tmps, []⟩ x = .slice a n cap) (hlo : bnd E 0 lo (i : Int)) (hhi : bnd E n hi (j : Int)) (hij : i ≤ j) (hj : j ≤ n) (hn : n ≤ cap) (w' : World) :
    (execOp (Act.eval ⟨tmps, []⟩) o).run P w' = .ok (.value (.slice (if cap = i then a else a.map (·.add (i * k))) (j - i) (cap - i))) w' := by
  have hb : (Instr.sliceBounds true n cap (lo.map (Act.eval ⟨tmps, []⟩)) (hi.map (Act.eval ⟨tmps, []⟩)) none).run P w' = .ok (i, j, cap) w' := by
    rcases bnd_run hf hlo with ⟨rfl, h1⟩ | ⟨k1, h1, _⟩ <;> rcases bnd_run hf hhi with ⟨rfl, h2⟩ | ⟨k2, h2, _⟩
    · have e1 : i = 0 := by omega
      have e2 : j = n := by omega
      subst e1 e2
      simp [Instr.sliceBounds]
    · have e1 : i = 0 := by omega
      subst e1
      rw [h2]
      simp [Instr.sliceBounds, run_sliceBound, show (j : Int) ≤ cap by omega]
    · have e2 : j = n := by omega
      subst e2
      rw [h1]
      simp [Instr.sliceBounds, run_sliceBound, show (i : Int) ≤ j by omega]
    · rw [h1, h2]
      simp [Instr.sliceBounds, run_sliceBound, show (j : Int) ≤ cap by omega, show (i : Int) ≤ j by omega]
  simp only [execOp, h, hx, Option.map_none]
  simp [Instr.sliceAt, run_underlying hT.u, Instr.slice, hb, run_sizeOf' hT.i]
theorem pur_cutT {α : Type} {T : Ty α} {t e : Nat} {x : Operand} {lo hi : Option Operand} {xs ys : List α} {a b : Int} (hT : SlT P t e T.k) (hx : val E x = sl T xs) (hlo : bnd E 0 lo a) (hhi : bnd E (xs.length : Int) hi b) (hc : cutI xs a b = some ys) (h : o.op = .slice t x lo hi none) : Pur P o E σ (sl T ys) := fun F Λ w tmps hs hf => by
  obtain ⟨i, j, rfl, rfl, h1, h2, rfl, h3⟩ := cutI_inv hc
  have e1 := val_ok (ds := []) hf x
  rw [hx] at e1
  rcases e1.i_inv2 T.pos (flat_len T.len xs) with ⟨h0, hz, ad, cap, h4⟩ | ⟨b, o', cap, cs, h4, h5, h6, h7, h8, h9, h10⟩
  · have ei : i = 0 := by omega
    have ej : j = 0 := by omega
    subst ei ej
    refine ⟨.slice (if cap = 0 then ad else ad.map (·.add (0 * T.k))) (0 - 0) (cap - 0), ?_, fun w' _ => run_cut hf hT h (by rw [h4, h0]) hlo hhi h1 h2 (by omega) w'⟩
    simp only [List.take_zero, List.drop_nil, flat]
    exact .imm (.i0 _ _ _)
  · refine ⟨.slice (if cap = i then some ⟨b, o', none⟩ else (some (⟨b, o', none⟩ : Addr)).map (·.add (i * T.k))) (j - i) (cap - i), ?_, fun w' _ => run_cut hf hT h h7 hlo hhi h1 h2 h5 w'⟩
    rcases Nat.eq_zero_or_pos (j - i) with hz | hz
    · have : (xs.take j).drop i = [] := List.eq_nil_of_length_eq_zero (by rw [h3]; exact hz)
      rw [this, hz]
      exact .imm (.i0 _ _ _)
    · rw [if_neg (by omega)]
      simp only [Option.map_some, addr_add]
      have hfl : flat T.enc ((xs.take j).drop i) = ((flat T.enc xs).take (j * T.k)).drop (i * T.k) := by rw [flat_drop T.len, flat_take T.len]
      have hat : ∀ (q : Nat) x, (flat T.enc ((xs.take j).drop i))[q]? = some x → (flat T.enc xs)[i * T.k + q]? = some x := fun q x hq => by
        rw [hfl, List.getElem?_drop] at hq
        have := (List.getElem?_eq_some_iff.1 hq).1
        rw [List.length_take] at this
        rwa [List.getElem?_take_of_lt (by omega)] at hq
      refine .imm (.i b (o' + i * T.k) (j - i) (cap - i) T.k (fun q => cs (i * T.k + q)) _ h8 hz (by omega) (by omega) (by rw [flat_len T.len, h3]) (fun q x hq => ?_) (fun q x hq => h10 _ x (hat q x hq)))
      rw [Nat.add_assoc]; exact h9 _ x (hat q x hq)
/-- Part of a row, to be copied. -/
theorem pur_cutM {t e k l : Nat} {x : Operand} {lo hi : Option Operand} {i j nn : Nat} (hT : SlT P t e k) (hx : val E x = .m [l] 0 nn k) (hlo : bnd E 0 lo (i : Int)) (hhi : bnd E (nn : Int) hi (j : Int)) (h1 : i ≤ j) (h2 : j ≤ nn) (h : o.op = .slice t x lo hi none) : Pur P o E σ (.m [l] (i * k) (j - i) k) := fun F Λ w tmps hs hf => by
  have e1 := val_ok (ds := []) hf x
  rw [hx] at e1
  rcases e1.m_inv with ⟨h0, ad, h4⟩ | ⟨b, o', cap, hL, h5, h6, h7, cs, t', h8, h9⟩
  · subst h0
    refine ⟨_, ?_, fun w' _ => run_cut hf hT h h4 hlo hhi h1 h2 (Nat.le_refl _) w'⟩
    rw [show j - i = 0 by omega, show 0 - i = 0 by omega]
    exact .m (.inl ⟨rfl, _, rfl⟩)
  · refine ⟨_, ?_, fun w' _ => run_cut hf hT h h5 hlo hhi h1 h2 h6 w'⟩
    by_cases hz : cap = i
    · rw [show j - i = 0 by omega, show cap - i = 0 by omega]
      exact .m (.inl ⟨rfl, _, rfl⟩)
    · rw [if_neg hz]
      simp only [Option.map_some, addr_add, Nat.add_zero]
      refine .m (.inr ⟨b, o', cap - i, hL, rfl, by omega, by omega, cs, t', h8, ?_⟩)
      have : i * k + (cap - i) * k = cap * k := by rw [← Nat.add_mul]; congr 1; omega
      omega
theorem src_cut {α : Type} {T : Ty α} {y : Operand} {xs ys : List α} {l i j : Nat} (hy : val E y = .m [l] (i * T.k) (j - i) T.k) (hr : σ[l]? = some (.row (flat T.enc xs))) (h1 : i ≤ j) (h2 : j ≤ xs.length) (hys : ys = (xs.take j).drop i) : SrcA P E σ y ys.length T.k (flat T.enc ys) := by
  have hl : ys.length = j - i := by rw [hys]; simp; omega
  rw [hl]
  have hfl : flat T.enc ys = ((flat T.enc xs).take (j * T.k)).drop (i * T.k) := by rw [hys, flat_drop T.len, flat_take T.len]
  refine src_m (zs := flat T.enc xs) hy (by rw [rowAt_cons, hr]; rfl) ?_ ?_ (by simp [isBox, hr]) (flat_cell T ys)
  · rw [flat_len T.len, ← Nat.add_mul]; exact Nat.mul_le_mul_right _ (by omega)
  · rw [hfl, List.drop_take]
    congr 1
    rw [← Nat.sub_mul]
end
end Go.Sep
/- Regions that draw their order and write, path by path: what looks at no world is taken first, the others in every order. -/
set_option linter.unusedVariables false
set_option linter.unusedSimpArgs false
namespace Go.Sep
open Go

/-- As Pur, in whatever world. -/
def PurI (P : Program) (o : Oper) (E : Env) (r : A) : Prop := ∀ F Λ w tmps, FrOK F Λ w tmps E → ∃ v, OK F Λ w v r ∧ ∀ w', (execOp (Act.eval ⟨tmps, []⟩) o).run P w' = .ok (.value v) w'
section
variable {P : Program} {o : Oper} {E : Env} {σ : Store}
theorem purI_move {x : Operand} (h : o.op = .move x) : PurI P o E (val E x) := fun F Λ w tmps hf => ⟨_, val_ok hf x, fun w' => by simp only [execOp, h]; rfl⟩
theorem purI_assign {x : Operand} (h : o.op = .assign x) : PurI P o E (val E x) := fun F Λ w tmps hf => ⟨_, val_ok hf x, fun w' => by simp only [execOp, h]; rfl⟩
theorem purI_bin {op t x y t'} {a b r : Value} (h : o.op = .binOp op t x y t') (hx : val E x = .v a) (hy : val E y = .v b)
    (hr : ∀ w, Sem.run P (do eqGuard op t x y a b; binOp op t a b) w = .ok r w) : PurI P o E (.v r) := fun F Λ w tmps hf => by
  have h1 := val_ok (ds := []) hf x
  have h2 := val_ok (ds := []) hf y
  rw [hx] at h1
  rw [hy] at h2
  refine ⟨r, .imm (.v r), fun w' => ?_⟩
  simp only [execOp, h, h1.v_inv, h2.v_inv]
  rw [Sem.run_bind, hr w']; rfl
theorem purI_add {t x y t' k} {a b c : Int} (h : o.op = .binOp .add t x y t') (hx : val E x = .v (.int k a)) (hy : val E y = .v (.int k b)) (hc : Fits k (a + b) c) : PurI P o E (.v (.int k c)) :=
  purI_bin h hx hy fun w => by simp [eqGuard_int, binOp, Op.intArith, hc.symm]
theorem purI_wadd {t x y t' k} {a b : Int} (h : o.op = .binOp .add t x y t') (hx : val E x = .v (.int k a)) (hy : val E y = .v (.int k b)) : PurI P o E (.v (.int k (k.wrap (a + b)))) := purI_add h hx hy rfl
theorem purI_lss {t x y t' k} {a b : Int} (h : o.op = .binOp .lss t x y t') (hx : val E x = .v (.int k a)) (hy : val E y = .v (.int k b)) : PurI P o E (.v (.bool (decide (a < b)))) :=
  purI_bin h hx hy fun w => by simp [eqGuard_int, binOp, Op.intCmp]
theorem purI_lenT {α : Type} {T : Ty α} {t x e k'} {xs : List α} (hT : SlT P t e k') (hx : val E x = sl T xs) (h : o.op = .call { callee := .builtin .len, args := #[x], argTypes := #[t] }) : PurI P o E (natA xs.length) := fun F Λ w tmps hf => by
  have h1 := val_ok (ds := []) hf x
  rw [hx] at h1
  refine ⟨_, .imm (.v _), fun w' => ?_⟩
  rcases h1.i_inv T.pos (flat_len T.len xs) with ⟨h0, _, ad, cap, h2⟩ | ⟨b, o', cap, cs, h0, _, h2, _⟩
  · simp only [execOp, h, resolve, Sem.run_bind, Sem.run_pure, invoke, builtin]
    simp [h2, Builtin.len_, run_underlying hT.u, goInt, h0]
  · simp only [execOp, h, resolve, Sem.run_bind, Sem.run_pure, invoke, builtin]
    simp [h2, Builtin.len_, run_underlying hT.u, goInt]
theorem purI_ixT {α : Type} {T : Ty α} {t x y e kk} {xs : List α} {z : Int} {i : Nat} {v : α} (hT : SlT P t e T.k) (hx : val E x = sl T xs) (hy : val E y = .v (.int kk z)) (hz : z = (i : Int)) (hv : xs[i]? = some v) (h : o.op = .indexAddr t x y) : PurI P o E (.q (flat T.enc xs) (i * T.k)) := fun F Λ w tmps hf => by
  have hi := (List.getElem?_eq_some_iff.1 hv).1
  subst hz
  have e1 := val_ok (ds := []) hf x
  have e2 := val_ok (ds := []) hf y
  rw [hx] at e1
  rw [hy] at e2
  have e2 := e2.v_inv
  rcases e1.i_inv hT.pos (flat_len T.len xs) with ⟨hz, _⟩ | ⟨b, o', cap, cs, _, _, h2, hb, hc, hi'⟩
  · omega
  · refine ⟨.pointer (some ⟨b, o' + i * T.k, none⟩), .imm (.q b o' _ cs _ hb hc hi'), fun w' => ?_⟩
    simp only [execOp, h, h2, e2]
    simp [Instr.indexAt, run_underlying hT.u, asIntOf, run_sizeOf' hT.i, addr_add, hi]
theorem purI_ixM {α : Type} {T : Ty α} {t x y e kk L} {xs : List α} {z : Int} {i : Nat} {v : α} (hT : SlT P t e T.k) (hx : val E x = .m L 0 xs.length T.k) (hy : val E y = .v (.int kk z)) (hz : z = (i : Int)) (hv : xs[i]? = some v) (h : o.op = .indexAddr t x y) : PurI P o E (.e L (i * T.k)) := fun F Λ w tmps hf => by
  have hi := (List.getElem?_eq_some_iff.1 hv).1
  subst hz
  have e1 := val_ok (ds := []) hf x
  have e2 := val_ok (ds := []) hf y
  rw [hx] at e1
  rw [hy] at e2
  have e2 := e2.v_inv
  rcases e1.m_inv with ⟨hz, _⟩ | ⟨b, o', cap, hL, h2, _⟩
  · omega
  · refine ⟨.pointer (some ⟨b, o' + i * T.k, none⟩), .e hL, fun w' => ?_⟩
    simp only [execOp, h, h2, e2]
    simp [Instr.indexAt, run_underlying hT.u, asIntOf, run_sizeOf' hT.i, addr_add, hi]
theorem purI_fa_q {t x fld off ft d} {xs : List A} (hT : FldT P t fld off ft) (hx : val E x = .q xs d) (h : o.op = .fieldAddr t x fld) : PurI P o E (.q xs (d + off)) := fun F Λ w tmps hf => by
  have e1 := val_ok (ds := []) hf x
  rw [hx] at e1
  obtain ⟨b, o', cs, h2, hb, hc, hi⟩ := e1.q_inv
  refine ⟨.pointer (some ⟨b, o' + (d + off), none⟩), .imm (.q b o' _ cs xs hb hc hi), fun w' => ?_⟩
  simp only [execOp, h, h2]
  simp [run_fieldAt hT, Nat.add_assoc]
theorem purI_fa_b {t x fld off ft a l} (hT : FldT P t fld off ft) (hx : val E x = .b l a) (h : o.op = .fieldAddr t x fld) : PurI P o E (.b l (a + off)) := fun F Λ w tmps hf => by
  have e1 := val_ok (ds := []) hf x
  rw [hx] at e1
  obtain ⟨b, o', hL, h2⟩ := e1.b_inv
  refine ⟨.pointer (some ⟨b, o' + (a + off), none⟩), .b hL, fun w' => ?_⟩
  simp only [execOp, h, h2]
  simp [run_fieldAt hT, Nat.add_assoc]
theorem purI_not {t x} {b : Bool} (h : o.op = .unOp .not t x) (hx : val E x = .v (.bool b)) : PurI P o E (.v (.bool (!b))) := fun F Λ w tmps hf => by
  have h1 := val_ok (ds := []) hf x
  rw [hx] at h1
  exact ⟨_, .imm (.v _), fun w' => by simp [execOp, h, h1.v_inv, Op.unary]⟩
theorem purI_extract {x ix y} {xs : List A} (hx : val E x = .t xs) (hy : xs[ix]? = some y) (h : o.op = .extract x ix) : PurI P o E y := fun F Λ w tmps hf => by
  have e1 := val_ok (ds := []) hf x
  rw [hx] at e1
  obtain ⟨vs, h2, hl, hi⟩ := e1.t_inv
  have hlt : ix < vs.length := by
    have := (List.getElem?_eq_some_iff.1 hy).1
    omega
  have hv : vs[ix]? = some vs[ix] := List.getElem?_eq_getElem hlt
  refine ⟨vs[ix], hi ix y _ hy hv, fun w' => ?_⟩
  simp only [execOp, h, h2]
  simp [Instr.extract, hlt]
theorem purI_build {t} {pl : List (Nat × Nat)} {zs : List Value} {parts : List (Nat × Operand)} {as : List A} (hT : BldT P t pl zs) (h : o.op = .build t parts.toArray) (hfill : fillA pl (zs.map constA) (parts.map fun p => (p.1, val E p.2)) = some as) : PurI P o E (.g as) := fun F Λ w tmps hf => by
  obtain ⟨⟨⟨inf, z, h1, h2, h3⟩, h4⟩, fs, h5, h6⟩ := hT
  obtain ⟨cs', g1, g2, g3⟩ := fill_ok hf parts z.cells (zs.map constA) as (by rw [← h3]; simp) (fun j y hy => by
    rw [List.getElem?_map] at hy
    cases hj : zs[j]? with
    | none => simp [hj] at hy
    | some c =>
      simp [hj] at hy
      subst hy
      refine ⟨c, ?_, constA_ok c⟩
      rw [← hj, ← h3]; simp) hfill
  refine ⟨.agg cs', ?_, fun w' => ?_⟩
  · have : OK F Λ w (.agg cs'.toList.toArray) (.g as) := .g cs'.toList as (by simpa using g2) fun j x y hx hy => by
      obtain ⟨c, g4, g5⟩ := g3 j x hx
      have : y = c := by
        rw [Array.getElem?_toList] at hy
        rw [hy] at g4; exact Option.some.inj g4
      rw [this]; exact g5
    simpa using this
  · simp only [execOp, h, Instr.build, Sem.run_bind]
    have hz : (zeroValue t).run P w' = .ok z w' := by simp [zeroValue, typeInfo, h1, h2]
    rw [hz]
    simp only [Result.andThen_ok, run_underlying h5, h6]
    have hm : (parts.toArray.map fun (x : Nat × Operand) => match x with | (i, x) => (i, Act.eval ⟨tmps, []⟩ x)).toList = parts.map fun p => (p.1, Act.eval ⟨tmps, []⟩ p.2) := by simp
    simp only [Sem.run_bind, Result.andThen_ok, h6, hm]
    have hpl : (fun i : Nat => pl.toArray[i]?) = fun i : Nat => pl[i]? := by funext i; simp
    rw [hpl, g1]
    simp
theorem purI_cutT {α : Type} {T : Ty α} {t e : Nat} {x : Operand} {lo hi : Option Operand} {xs ys : List α} {a b : Int} (hT : SlT P t e T.k) (hx : val E x = sl T xs) (hlo : bnd E 0 lo a) (hhi : bnd E (xs.length : Int) hi b) (hc : cutI xs a b = some ys) (h : o.op = .slice t x lo hi none) : PurI P o E (sl T ys) := fun F Λ w tmps hf => by
  obtain ⟨i, j, rfl, rfl, h1, h2, rfl, h3⟩ := cutI_inv hc
  have e1 := val_ok (ds := []) hf x
  rw [hx] at e1
  rcases e1.i_inv2 T.pos (flat_len T.len xs) with ⟨h0, hz, ad, cap, h4⟩ | ⟨b, o', cap, cs, h4, h5, h6, h7, h8, h9, h10⟩
  · have ei : i = 0 := by omega
    have ej : j = 0 := by omega
    subst ei ej
    refine ⟨.slice (if cap = 0 then ad else ad.map (·.add (0 * T.k))) (0 - 0) (cap - 0), ?_, fun w' => run_cut hf hT h (by rw [h4, h0]) hlo hhi h1 h2 (by omega) w'⟩
    simp only [List.take_zero, List.drop_nil, flat]
    exact .imm (.i0 _ _ _)
  · refine ⟨.slice (if cap = i then some ⟨b, o', none⟩ else (some (⟨b, o', none⟩ : Addr)).map (·.add (i * T.k))) (j - i) (cap - i), ?_, fun w' => run_cut hf hT h h7 hlo hhi h1 h2 h5 w'⟩
    rcases Nat.eq_zero_or_pos (j - i) with hz | hz
    · have : (xs.take j).drop i = [] := List.eq_nil_of_length_eq_zero (by rw [h3]; exact hz)
      rw [this, hz]
      exact .imm (.i0 _ _ _)
    · rw [if_neg (by omega)]
      simp only [Option.map_some, addr_add]
      have hfl : flat T.enc ((xs.take j).drop i) = ((flat T.enc xs).take (j * T.k)).drop (i * T.k) := by rw [flat_drop T.len, flat_take T.len]
      have hat : ∀ (q : Nat) x, (flat T.enc ((xs.take j).drop i))[q]? = some x → (flat T.enc xs)[i * T.k + q]? = some x := fun q x hq => by
        rw [hfl, List.getElem?_drop] at hq
        have := (List.getElem?_eq_some_iff.1 hq).1
        rw [List.length_take] at this
        rwa [List.getElem?_take_of_lt (by omega)] at hq
      refine .imm (.i b (o' + i * T.k) (j - i) (cap - i) T.k (fun q => cs (i * T.k + q)) _ h8 hz (by omega) (by omega) (by rw [flat_len T.len, h3]) (fun q x hq => ?_) (fun q x hq => h10 _ x (hat q x hq)))
      rw [Nat.add_assoc]; exact h9 _ x (hat q x hq)
theorem purI_cutM {t e k l : Nat} {x : Operand} {lo hi : Option Operand} {i j nn : Nat} (hT : SlT P t e k) (hx : val E x = .m [l] 0 nn k) (hlo : bnd E 0 lo (i : Int)) (hhi : bnd E (nn : Int) hi (j : Int)) (h1 : i ≤ j) (h2 : j ≤ nn) (h : o.op = .slice t x lo hi none) : PurI P o E (.m [l] (i * k) (j - i) k) := fun F Λ w tmps hf => by
  have e1 := val_ok (ds := []) hf x
  rw [hx] at e1
  rcases e1.m_inv with ⟨h0, ad, h4⟩ | ⟨b, o', cap, hL, h5, h6, h7, cs, t', h8, h9⟩
  · subst h0
    refine ⟨_, ?_, fun w' => run_cut hf hT h h4 hlo hhi h1 h2 (Nat.le_refl _) w'⟩
    rw [show j - i = 0 by omega, show 0 - i = 0 by omega]
    exact .m (.inl ⟨rfl, _, rfl⟩)
  · refine ⟨_, ?_, fun w' => run_cut hf hT h h5 hlo hhi h1 h2 h6 w'⟩
    by_cases hz : cap = i
    · rw [show j - i = 0 by omega, show cap - i = 0 by omega]
      exact .m (.inl ⟨rfl, _, rfl⟩)
    · rw [if_neg hz]
      simp only [Option.map_some, addr_add, Nat.add_zero]
      refine .m (.inr ⟨b, o', cap - i, hL, rfl, by omega, by omega, cs, t', h8, ?_⟩)
      have : i * k + (cap - i) * k = cap * k := by rw [← Nat.add_mul]; congr 1; omega
      omega
end

/-! ### paths -/
def onlyN (Q : Act → World → Prop) : Exit → Act → World → Prop := fun e a w => match e with
  | .normal => Q a w
  | _ => False
def TA (P : Program) (n m : Nat) (ops : Array Oper) (fuel : Nat) (listed : Array Bool) (N : Env → Store → Prop) (E : Env) (σ : Store) : Prop :=
  ∀ F Λ w tmps (Q : Act → World → Prop), tmps.size = n → St F Λ σ w → FrOK F Λ w tmps E →
    (∀ F' Λ' σ' w' tmps' E', tmps'.size = n → St F' Λ' σ' w' → FrOK F' Λ' w' tmps' E' → Step m F Λ σ w F' Λ' σ' w' → N E' σ' → Q ⟨tmps', []⟩ w') →
    wpAny P .any ops (onlyN Q) fuel listed ⟨tmps, []⟩ w
section
variable {P : Program} {n m : Nat} {K : Exit → Env → Store → Prop} {N : Env → Store → Prop} {E : Env} {σ : Store} {ops : Array Oper} {fuel : Nat} {listed : Array Bool}
theorem TA_nil (hr : Region.ready .any ops listed = []) (h : N E σ) : TA P n m ops fuel listed N E σ := fun F Λ w tmps Q hn hs hf hq => by
  have := hq F Λ σ w tmps E hn hs hf (.refl ..) h
  cases fuel with
  | zero => exact ⟨hr, this⟩
  | succ fuel => exact ⟨fun _ => this, fun i hi => by rw [hr] at hi; cases hi⟩
theorem TA_first (i : Nat) (listed' : Array Bool) {o : Oper} {r : A} (hi : ops[i]? = some o) (hp : PurI P o E r) (hg : o.guard = none) (hd : dstOK n o.dst = true) (hl : listed.setIfInBounds i true = listed') (hsel : Region.noSelect ops = true)
    (hr : (Region.ready .any ops listed).contains i = true) (hfr : Region.free .any ops listed i = true) (h : TA P n m ops fuel listed' N (put E o.dst r) σ) : TA P n m ops (fuel + 1) listed N E σ := fun F Λ w tmps Q hn hs hf hq => by
  obtain ⟨v, hv, hrun⟩ := hp F Λ w tmps hf
  obtain ⟨tmps', e, hn', hf'⟩ := hf.putO (ds := []) hn hd hv
  subst hl
  refine wpAny_first hi (Region.noSelect_spec hsel) (fun c a w h => h) fuel listed _ w (Region.free_spec hi hfr) (by simpa using hr) (.inl ⟨by simp [Region.wanted, hg], hrun⟩) ?_
  rw [e]
  exact h F Λ w tmps' Q hn' hs hf' hq
def AllR (P : Program) (n m : Nat) (ops : Array Oper) (fuel : Nat) (listed : Array Bool) (N : Env → Store → Prop) (E : Env) (σ : Store) : List Nat → Prop
  | [] => True
  | i :: rs => (∃ o, ops[i]? = some o ∧ o.guard = none ∧ TOp P n m o (TA P n m ops fuel (listed.setIfInBounds i true) N) E σ) ∧ AllR P n m ops fuel listed N E σ rs
theorem AllR.get : ∀ {rs : List Nat}, AllR P n m ops fuel listed N E σ rs → ∀ i ∈ rs, ∃ o, ops[i]? = some o ∧ o.guard = none ∧ TOp P n m o (TA P n m ops fuel (listed.setIfInBounds i true) N) E σ
  | [], _, i, h => by cases h
  | j :: rs, h, i, hi => by
    rcases List.mem_cons.1 hi with rfl | hi
    · exact h.1
    · exact AllR.get h.2 i hi
theorem TA_all (rs : List Nat) (hr : Region.ready .any ops listed = rs) (hne : rs ≠ []) (h : AllR P n m ops fuel listed N E σ rs) : TA P n m ops (fuel + 1) listed N E σ := fun F Λ w tmps Q hn hs hf hq => by
  refine ⟨fun h0 => absurd (hr.symm.trans h0) hne, fun i hi => ?_⟩
  rw [hr] at hi
  obtain ⟨o, h1, h2, h3⟩ := h.get i hi
  unfold wpOp
  rw [h1]
  simp only
  rw [if_pos (by simp [Region.wanted, h2])]
  exact .inl (h3 F Λ w tmps _ (onlyN Q) hn hs hf fun F' Λ' σ' w' tmps' E' hn' hs' hf' hst hN =>
    hN F' Λ' w' tmps' Q hn' hs' hf' fun F2 Λ2 σ2 w2 tmps2 E2 hn2 hs2 hf2 hst2 hN2 => hq F2 Λ2 σ2 w2 tmps2 E2 hn2 hs2 hf2 (hst.trans hst2) hN2)
theorem TA_listed (listed' : Array Bool) (hl : listed = listed') (h : TA P n m ops fuel listed' N E σ) : TA P n m ops fuel listed N E σ := hl ▸ h
theorem TA_ghost {E' σ'} (hg : Ghost m E σ E' σ') (h : TA P n m ops fuel listed N E' σ') : TA P n m ops fuel listed N E σ := fun F Λ w tmps Q hn hs hf hq => by
  obtain ⟨F1, Λ1, h1, h2, h3⟩ := hg F Λ w tmps hs hf
  exact h F1 Λ1 w tmps Q hn h1 h2 fun F2 Λ2 σ2 w2 tmps2 E2 hn2 hs2 hf2 hst2 hN2 => hq F2 Λ2 σ2 w2 tmps2 E2 hn2 hs2 hf2 (h3.trans hst2) hN2
theorem TA_env {E' : Env} (hE : Pk E E') (h : TA P n m ops fuel listed N E' σ) : TA P n m ops fuel listed N E σ := fun F Λ w tmps Q hn hs hf hq => h F Λ w tmps Q hn hs (hf.weak hE.all) hq
theorem TA_st {σ' : Store} (hσ : σ = σ') (h : TA P n m ops fuel listed N E σ') : TA P n m ops fuel listed N E σ := hσ ▸ h
theorem TA_frz1 (l : Nat) {xs : List A} {E' : Env} (hr : σ[l]? = some (.row xs)) (hb : boxNo l σ = true) (hm : m ≤ l) (hE : FzE l xs E E') (h : TA P n m ops fuel listed N E' (σ.set l .dead)) : TA P n m ops fuel listed N E σ :=
  TA_ghost (fun F Λ w tmps hs hf => ⟨_, _, hs.frz1 hr hb, hE.fr hs hr hf, Step.frz1 hs hr hm⟩) h
theorem T_pad {c : Code} (h : T P n m c K E (σ ++ [.dead])) : T P n m c K E σ := fun F Λ w tmps Q hn hs hf hq =>
  h F Λ w tmps Q hn hs.pad hf fun e F' Λ' σ' w' tmps' E' hn' hs' hf' hst hN => hq e F' Λ' σ' w' tmps' E' hn' hs' hf' (Step.pad.trans hst) hN
theorem T_move' (l l' : Nat) {c : Code} {zs} (hne : l ≠ l') (hl : l < σ.length) (hr : σ[l']? = some (.row zs)) (hb : noBox σ l = true) (hm : m ≤ l) (h : T P n m c K (mvE l l' E) (mvS l l' σ)) : T P n m c K E σ := T_move l l' hne hl hr hb hm h
theorem T_regionP {rid} {l : List Oper} (hm : P.follows .mixedOrders = true) (h : TA P n m l.toArray l.length (Array.replicate l.length false) (K .normal) E σ) : T P n m (.region rid l.toArray true) K E σ := fun F Λ w tmps Q hn hs hf hq => by
  have h1 := h F Λ { w with drawn := w.drawn + 1 } tmps (fun a w => Q .normal a w) hn
    ⟨fun L xs hx => (hs.row L xs hx).imp (fun h => h) fun ⟨b, o, cs, t, h1, h2, h3, h4⟩ => ⟨b, o, cs, t, h1, h2, h3, fun j x hj => (h4 j x hj).imp fun c hc => ⟨hc.1, Cell.mono (w := w) (w' := { w with drawn := w.drawn + 1 }) (fun b hb => ⟨hb, rfl⟩) (fun b cs t h => ⟨cs, h, rfl⟩) hc.2⟩⟩, hs.apart, hs.old, hs.lab⟩
    (FrOK.mono (w := w) (w' := { w with drawn := w.drawn + 1 }) (fun b hb => ⟨hb, rfl⟩) (fun b cs t h => ⟨cs, h, rfl⟩) hf)
    fun F' Λ' σ' w' tmps' E' hn' hs' hf' hst hN => hq .normal F' Λ' σ' w' tmps' E' hn' hs' hf'
      { os := hst.os, tape := hst.tape, output := hst.output, size := hst.size, sizes := hst.sizes, keep := hst.keep, mono := hst.mono, new := hst.new, own := hst.own, len := hst.len, boxes := hst.boxes, kept := hst.kept } hN
  exact wp_mono (wp_region_any hm (by simpa using h1)) fun e a w h => by cases e <;> first | exact h | exact h.elim
end
end Go.Sep
/- Calls that write into rows of the caller's, wherever these lie. -/
set_option linter.unusedVariables false
set_option linter.unusedSimpArgs false
namespace Go.Sep
open Go

/-! ### a row under whatever cells -/
def compat (zs zs' : List A) : Prop := ∀ (j : Nat) (x' : A), zs'[j]? = some x' → ∃ x, zs[j]? = some x ∧ (x' = x ∨ ∃ (k : Nat) (u u' : List A), x = .o k u ∧ x' = .o k u' ∧ u'.length = u.length)
theorem compat.refl (zs : List A) : compat zs zs := fun j x h => ⟨x, h, .inl rfl⟩
theorem compat.trans {a b c : List A} (h : compat a b) (h' : compat b c) : compat a c := fun j x hx => by
  obtain ⟨y, hy, h1⟩ := h' j x hx
  obtain ⟨z, hz, h2⟩ := h j y hy
  refine ⟨z, hz, ?_⟩
  rcases h1 with rfl | ⟨k, u, u', rfl, rfl, h3⟩
  · exact h2
  · rcases h2 with rfl | ⟨k2, v, v', rfl, e, h4⟩
    · exact .inr ⟨k, u, u', rfl, rfl, h3⟩
    · cases e; exact .inr ⟨k, v, u', rfl, rfl, h3.trans h4⟩
/-! ### several rows -/
/-- Rows of the store: where, and their cells; none lies under another. -/
inductive Sel (σ : Store) : List (List Nat) → List (List A) → Prop
  | nil : Sel σ [] []
  | cons {L Ls xs rows} : rowAt σ L = some xs → isBox σ L = false → (∀ L' ∈ Ls, ¬ L <+: L' ∧ ¬ L' <+: L) → Sel σ Ls rows → Sel σ (L :: Ls) (xs :: rows)
theorem Sel.get {σ : Store} {Ls : List (List Nat)} {rows : List (List A)} (h : Sel σ Ls rows) : ∀ (i : Nat) (L : List Nat), Ls[i]? = some L → ∃ xs, rows[i]? = some xs ∧ rowAt σ L = some xs ∧ isBox σ L = false := by
  induction h with
  | nil => intro i L h; simp at h
  | cons h1 h2 _ _ ih =>
    intro i L hi
    cases i with
    | zero => simp at hi; subst hi; exact ⟨_, rfl, h1, h2⟩
    | succ i => simpa using ih i L (by simpa using hi)
theorem Sel.len {σ : Store} {Ls : List (List Nat)} {rows : List (List A)} (h : Sel σ Ls rows) : rows.length = Ls.length := by
  induction h with
  | nil => rfl
  | cons _ _ _ _ ih => simp [ih]
/-! ### where a label lies -/
section
variable {F F1 : Nat → Prop} {Λ Λ1 : Lbl} {σ : Store} {w w1 : World} {Ls : List (List Nat)} {rows rows' : List (List A)}
theorem ne_nil_of_row {σ : Store} {L xs} (h : rowAt σ L = some xs) : L ≠ [] := by rintro rfl; simp [rowAt] at h
end

/-! ### the arguments, seen by the callee -/
section
variable {P : Program} {n m : Nat} {N : Env → Store → Prop} {E : Env} {σ : Store} {o : Oper}
end
theorem rowAt_el {α : Type} {f : α → List A} {k : Nat} (hf : ∀ x, (f x).length = k) {σ : Store} {l i off k' : Nat} {xs : List α} {v : α} {zs : List A} (hr : σ[l]? = some (.row (flat f xs))) (hv : xs[i]? = some v) (ho : (f v)[off]? = some (.o k' zs)) : rowAt σ [l, i * k + off] = some zs := by
  simp only [rowAt, hr, Root.cells, sub, flat_at' hf hv ho]
/-! ### an element that owns, stored into a row -/
theorem spl_in (cs zs ys : List A) (d off : Nat) (hz : (cs.drop d).take zs.length = zs) (hl : d + zs.length ≤ cs.length) (ho : off + ys.length ≤ zs.length) : spl cs (d + off) ys = spl cs d (spl zs off ys) := by
  apply List.ext_getElem?
  intro j
  rw [spl_get _ _ _ _ (by omega), spl_get _ _ _ _ (by rw [spl_len]; exact hl), spl_len]
  by_cases h1 : d ≤ j ∧ j < d + zs.length
  · rw [if_pos h1, spl_get _ _ _ _ ho]
    by_cases h2 : off ≤ j - d ∧ j - d < off + ys.length
    · rw [if_pos h2, if_pos (by omega)]; congr 1; omega
    · rw [if_neg h2, if_neg (by omega)]
      rw [← hz, List.getElem?_take_of_lt (by omega), List.getElem?_drop]; congr 1; omega
  · rw [if_neg h1, if_neg (by omega)]
theorem spl_set_at (cs zs : List A) (d off : Nat) (y : A) (hl : d + zs.length ≤ cs.length) : (spl cs d zs).set (d + off) y = if off < zs.length then spl cs d (zs.set off y) else (spl cs d zs).set (d + off) y := by
  split
  case isFalse => rfl
  rename_i ho
  apply List.ext_getElem?
  intro j
  rw [spl_get _ _ _ _ (by rw [List.length_set]; exact hl), List.getElem?_set, List.length_set, List.getElem?_set, spl_get _ _ _ _ hl, spl_len]
  by_cases e : d + off = j
  · subst e
    rw [if_pos rfl, if_pos (by omega), if_pos (by omega), if_pos (by omega), if_pos ho]
  · rw [if_neg e]
    by_cases h1 : d ≤ j ∧ j < d + zs.length
    · rw [if_pos h1, if_pos h1, if_neg (by omega)]
    · rw [if_neg h1, if_neg h1]
section
variable {P : Program} {n m : Nat} {N : Env → Store → Prop} {E : Env} {σ : Store} {ops : Array Oper} {os : List Oper} {o : Oper}
theorem TO_absorbS {α : Type} {T : Ty α} (s off l : Nat) {nn k i : Nat} {xs : List α} {v : α} {cs ys : List A} (hs : σ[s]? = some (.box (spl (flat T.own xs) (i * T.k) cs))) (hv : xs[i]? = some v) (hcl : cs.length = T.k) (hl : σ[l]? = some (.row ys)) (hx : cs[off]? = some (.m [l] 0 nn k)) (hne : s ≠ l) (hk : 0 < k) (hn : ys.length = nn * k) (hms : m ≤ s) (hml : m ≤ l)
    (hE : nmE (pre s (i * T.k + off)) E = false) (hb : nmS (pre s (i * T.k + off)) σ = false) (h : TO P n m ops os N E ((σ.set l .dead).set s (.box (spl (flat T.own xs) (i * T.k) (cs.set off (.o k ys)))))) : TO P n m ops os N E σ := by
  have hi := (List.getElem?_eq_some_iff.1 hv).1
  have hkk : i * T.k + cs.length ≤ (flat T.own xs).length := by rw [hcl, flat_len T.lenO, ← Nat.succ_mul]; exact Nat.mul_le_mul_right _ hi
  have ho : off < cs.length := (List.getElem?_eq_some_iff.1 hx).1
  refine TO_absorb s (i * T.k + off) l hs hl ?_ hne hk hn hms hml hE hb ?_
  · rw [spl_get _ _ _ _ hkk, if_pos (by omega), ← hx, Nat.add_sub_cancel_left]
  · unfold abS; rw [spl_set_at _ _ _ _ _ hkk, if_pos ho]; exact h
theorem TO_rowifyS {α : Type} {T : Ty α} (s : Nat) {i : Nat} {z : Int} {xs : List α} {v : α} {cs : List A} (y : α) (hz : z = (i : Int)) (hs : σ[s]? = some (.box (spl (flat T.own xs) (i * T.k) cs))) (hv : xs[i]? = some v) (hc : cs = T.own y) (hm : m ≤ s) (h : TO P n m ops os N E (σ.set s (.row (flat T.own (xs.set z.toNat y))))) : TO P n m ops os N E σ := by
  subst hz; rw [Int.toNat_natCast] at h
  have hi := (List.getElem?_eq_some_iff.1 hv).1
  have := spl_flat T.lenO xs i y hi
  rw [Nat.zero_add] at this
  rw [hc, this] at hs
  exact TO_rowify s hs (rowB_own (flat_ownR T _)) hm h
end
/-! ### make, of elements that own -/
section
variable {P : Program} {n m : Nat} {N : Env → Store → Prop} {E : Env} {σ : Store} {o : Oper}
end
theorem namesL_append {p : List Nat → Bool} : ∀ {xs ys : List A}, namesL p (xs ++ ys) = (namesL p xs || namesL p ys)
  | [], ys => by simp [namesL]
  | x :: xs, ys => by simp [namesL, namesL_append (xs := xs), Bool.or_assoc]
theorem ownR_names {p : List Nat → Bool} {x : A} (h : ownR x = true) : x.names p = false := by
  cases x <;> first | rfl | simp [ownR] at h
theorem ownRL_names {p : List Nat → Bool} : ∀ {xs : List A}, ownRL xs = true → namesL p xs = false
  | [], _ => rfl
  | x :: xs, h => by
    simp only [ownRL, Bool.and_eq_true] at h
    simp only [namesL, ownR_names h.1, ownRL_names h.2, Bool.or_self]
theorem namesL_own {α : Type} {T : Ty α} {xs : List α} {p : List Nat → Bool} : namesL p (flat T.own xs) = false := ownRL_names (flat_ownR T xs)
theorem namesL_set {p : List Nat → Bool} : ∀ {xs : List A} (d : Nat) {y : A}, namesL p xs = false → y.names p = false → namesL p (xs.set d y) = false
  | [], d, y, _, _ => rfl
  | x :: xs, 0, y, h, hy => by
    simp only [namesL, Bool.or_eq_false_iff] at h
    simp only [List.set, namesL, hy, h.2, Bool.or_self]
  | x :: xs, d + 1, y, h, hy => by
    simp only [namesL, Bool.or_eq_false_iff] at h
    simp only [List.set, namesL, h.1, namesL_set d h.2 hy, Bool.or_self]
theorem namesL_spl {p : List Nat → Bool} : ∀ {ys xs : List A} {d : Nat}, namesL p xs = false → namesL p ys = false → namesL p (spl xs d ys) = false
  | [], xs, d, h, _ => h
  | y :: ys, xs, d, h, hy => by
    simp only [namesL, Bool.or_eq_false_iff] at hy
    show namesL p (spl (xs.set d y) (d + 1) ys) = false
    exact namesL_spl (namesL_set d h hy.1) hy.2
theorem nms_nil {p : List Nat → Bool} : nmS p [] = false := rfl
theorem nms_row {p : List Nat → Bool} {xs σ} (h : nmS p σ = false) : nmS p (.row xs :: σ) = false := h
theorem nms_dead {p : List Nat → Bool} {σ} (h : nmS p σ = false) : nmS p (.dead :: σ) = false := h
theorem nms_box {p : List Nat → Bool} {xs σ} (h0 : namesL p xs = false) (h : nmS p σ = false) : nmS p (.box xs :: σ) = false := by simp only [nmS, h0, h, Bool.or_self]
theorem namesA {p : List Nat → Bool} {xs ys : List A} (h : namesL p xs = false) (h' : namesL p ys = false) : namesL p (xs ++ ys) = false := by rw [namesL_append, h, h']; rfl
theorem EnT.of {P : Program} {g : Nat} {fn : Func} {c : Code} (h : P.funcs[g]? = some fn) (hb : fn.body = some c) (hn : (fn.name == "runtime.NumGoroutine") = false) : EnT P g := fun args w => by
  have hn' : ¬ fn.name = "runtime.NumGoroutine" := by simpa using hn
  simp [callFunc, h, hb, hn']
end Go.Sep
/- Loops of the models, by what holds round after round. -/
set_option linter.unusedVariables false
set_option linter.unusedSimpArgs false
namespace Go.Sep
open Go
def CtlP {S R : Type} (I B : S → Prop) (Q : R → Prop) : Ctl S R → Prop
  | .next s => I s
  | .brk s => B s
  | .ret r => Q r
def SumP {S R : Type} (I : S → Prop) (Q : R → Prop) : S ⊕ R → Prop
  | .inl s => I s
  | .inr r => Q r
theorem forS_from {α S : Type} {f : Int → α → S → Option S} (I : Nat → S → Prop) {xs : List α} (h : ∀ (n : Nat) x s, xs[n]? = some x → I n s → ∃ s', f (n : Int) x s = some s' ∧ I (n + 1) s') : ∀ (k i : Nat) (s : S), i + k = xs.length → I i s → ∃ s', forS f (xs.drop i) (i : Int) s = some s' ∧ I xs.length s'
  | 0, i, s, hk, h0 => by
    rw [List.drop_eq_nil_of_le (by omega)]
    exact ⟨s, rfl, by rwa [← hk]⟩
  | k + 1, i, s, hk, h0 => by
    have hi : i < xs.length := by omega
    rw [List.drop_eq_getElem_cons hi]
    obtain ⟨s1, h1, h2⟩ := h i xs[i] s (List.getElem?_eq_getElem hi) h0
    obtain ⟨s2, h3, h4⟩ := forS_from I h k (i + 1) s1 (by omega) h2
    refine ⟨s2, ?_, h4⟩
    simp only [forS, h1, Option.bind_some]
    exact h3
theorem forS_ok {α S : Type} {f : Int → α → S → Option S} (I : Nat → S → Prop) {xs : List α} {s : S} (h0 : I 0 s) (h : ∀ (n : Nat) x s, xs[n]? = some x → I n s → ∃ s', f (n : Int) x s = some s' ∧ I (n + 1) s') : ∃ s', forS f xs 0 s = some s' ∧ I xs.length s' := by
  have := forS_from I h xs.length 0 s (by omega) h0
  simpa using this
theorem forL_from {α S R : Type} {f : Int → α → S → Option (Ctl S R)} (I : Nat → S → Prop) (B : S → Prop) (Q : R → Prop) {xs : List α} (h : ∀ (n : Nat) x s, xs[n]? = some x → I n s → ∃ c, f (n : Int) x s = some c ∧ CtlP (I (n + 1)) B Q c) : ∀ (k i : Nat) (s : S), i + k = xs.length → I i s → ∃ o, forL f (xs.drop i) (i : Int) s = some o ∧ SumP (fun s => I xs.length s ∨ B s) Q o
  | 0, i, s, hk, h0 => by
    rw [List.drop_eq_nil_of_le (by omega)]
    exact ⟨.inl s, rfl, .inl (by rwa [← hk])⟩
  | k + 1, i, s, hk, h0 => by
    have hi : i < xs.length := by omega
    rw [List.drop_eq_getElem_cons hi]
    obtain ⟨c, h1, h2⟩ := h i xs[i] s (List.getElem?_eq_getElem hi) h0
    simp only [forL, h1, Option.bind_some]
    cases c with
    | next s1 => exact forL_from I B Q h k (i + 1) s1 (by omega) h2
    | brk s1 => exact ⟨_, rfl, .inr h2⟩
    | ret r => exact ⟨_, rfl, h2⟩
theorem forL_ok {α S R : Type} {f : Int → α → S → Option (Ctl S R)} (I : Nat → S → Prop) (B : S → Prop) (Q : R → Prop) {xs : List α} {s : S} (h0 : I 0 s) (h : ∀ (n : Nat) x s, xs[n]? = some x → I n s → ∃ c, f (n : Int) x s = some c ∧ CtlP (I (n + 1)) B Q c) : ∃ o, forL f xs 0 s = some o ∧ SumP (fun s => I xs.length s ∨ B s) Q o := by
  have := forL_from I B Q h xs.length 0 s (by omega) h0
  simpa using this
/-- A loop of which no more than so many rounds are left (μ), with fuel enough. -/
theorem while_ok {S R : Type} {f : S → Option (Ctl S R)} (I : S → Prop) (μ : S → Nat) (B : S → Prop) (Q : R → Prop) (h : ∀ s, I s → ∃ c, f s = some c ∧ CtlP (fun s' => I s' ∧ μ s' < μ s) B Q c) : ∀ (u : Nat) (s : S), μ s < u → I s → ∃ o, whileF f u s = some o ∧ SumP B Q o
  | 0, s, hu, _ => by omega
  | u + 1, s, hu, hI => by
    obtain ⟨c, h1, h2⟩ := h s hI
    simp only [whileF, h1, Option.bind_some]
    cases c with
    | next s1 => exact while_ok I μ B Q h u s1 (by have := h2.2; omega) h2.1
    | brk s1 => exact ⟨_, rfl, h2⟩
    | ret r => exact ⟨_, rfl, h2⟩
/-! ### loops that look -/
/-- A loop that hands back r at the first element where p does not hold. -/
theorem forL_all {α R : Type} {f : Int → α → Unit → Option (Ctl Unit R)} {xs : List α} {r : R} (p : Nat → α → Bool) (h : ∀ (n : Nat) x, xs[n]? = some x → f (n : Int) x () = some (if p n x then .next () else .ret r)) :
    ∃ o, forL f xs 0 () = some o ∧ ((o = .inl () ∧ ∀ (n : Nat) x, xs[n]? = some x → p n x = true) ∨ (o = .inr r ∧ ∃ (n : Nat) (x : α), xs[n]? = some x ∧ p n x = false)) := by
  obtain ⟨o, h1, h2⟩ := forL_ok (f := f) (xs := xs) (s := ()) (fun n _ => ∀ (j : Nat) x, j < n → xs[j]? = some x → p j x = true) (fun _ => False) (fun r' => r' = r ∧ ∃ (n : Nat) (x : α), xs[n]? = some x ∧ p n x = false) (fun j x hj => by omega) fun n x s hx hI => by
    refine ⟨_, h n x hx, ?_⟩
    cases hp : p n x with
    | true =>
      simp only [if_true, CtlP]
      intro j y hj hy
      by_cases e : j = n
      · subst e; rw [hx] at hy; cases hy; exact hp
      · exact hI j y (by omega) hy
    | false => exact ⟨rfl, n, x, hx, hp⟩
  refine ⟨o, h1, ?_⟩
  cases o with
  | inl s => exact .inl ⟨rfl, fun n x hx => (h2.resolve_right id) n x (List.getElem?_eq_some_iff.1 hx).1 hx⟩
  | inr r' => exact .inr ⟨by rw [h2.1], h2.2⟩
theorem cond_T' {α : Type} {b : Bool} {x y : α} (h : b = true) : cond b x y = x := by subst h; rfl
theorem cond_F' {α : Type} {b : Bool} {x y : α} (h : b = false) : cond b x y = y := by subst h; rfl
/-- A loop of integers that counts down what is left. -/
theorem w64_id {x : Int} (h : -9223372036854775808 ≤ x ∧ x ≤ 9223372036854775807) : w64 x = x := w64_eq h.1 h.2
/-! ### the laws' helpers: sizes, copies, comparisons -/
/-- Two lists of integers, compared. -/
def cmpL : List Int → List Int → Int
  | [], [] => 0
  | [], _ :: _ => -1
  | _ :: _, [] => 1
  | x :: xs, y :: ys => if x < y then -1 else if y < x then 1 else cmpL xs ys
end Go.Sep
/- Strings and conversions. -/
set_option linter.unusedVariables false
set_option linter.unusedSimpArgs false
namespace Go.Sep
open Go
/-- s[i], of a string. -/
def getB (s : ByteArray) (i : Int) : Option Int := if 0 ≤ i then (s[i.toNat]?).map (fun b => (b.toNat : Int)) else none
def ltS (x y : ByteArray) : Bool := Op.bytesLess x.toList y.toList
section
variable {P : Program} {E : Env} {σ : Store} {o : Oper}
theorem pur_ixS {t x y kk} {s : ByteArray} {z v : Int} (hT : P.underlying t = some .string) (hx : val E x = .v (.string s)) (hy : val E y = .v (.int kk z)) (hv : getB s z = some v) (h : o.op = .index t x y) : Pur P o E σ (.v (.int .u8 v)) := fun F Λ w tmps hs hf => by
  have e1 := val_ok (ds := []) hf x
  have e2 := val_ok (ds := []) hf y
  rw [hx] at e1
  rw [hy] at e2
  have e1 := e1.v_inv
  have e2 := e2.v_inv
  unfold getB at hv
  split at hv
  case isFalse => cases hv
  rename_i h0
  cases hb : s[z.toNat]? with
  | none => rw [hb] at hv; cases hv
  | some b =>
    rw [hb] at hv
    simp only [Option.map_some, Option.some.injEq] at hv
    subst hv
    exact ⟨_, .imm (.v _), fun w' _ => by simp [execOp, h, e1, e2, Instr.index, asIntOf, run_underlying hT, h0, hb]⟩
theorem pur_geqS {t x y t'} {a b : ByteArray} (h : o.op = .binOp .geq t x y t') (hx : val E x = .v (.string a)) (hy : val E y = .v (.string b)) : Pur P o E σ (.v (.bool (!ltS a b))) :=
  pur_bin h hx hy fun w => by simp only [Sem.run_bind, eqGuard_string, binOp, Op.stringOp, Result.andThen, Sem.run_pure, ltS]
theorem pur_convI {s d x k k'} {z : Int} (hs : ∃ q, P.underlying s = some q) (hd : P.underlying d = some (.int k)) (h : o.op = .convert s d x) (hx : val E x = .v (.int k' z)) : Pur P o E σ (.v (.int k (k.wrap z))) := fun F Λ w tmps _ hf => by
  obtain ⟨q, hs⟩ := hs
  have e1 := val_ok (ds := []) hf x
  rw [hx] at e1
  have e1 := e1.v_inv
  exact ⟨_, .imm (.v _), fun w' _ => by simp [execOp, h, e1, convert, run_underlying hs, run_underlying hd, Conv.intToInt]⟩
end
end Go.Sep
/- A row under a cell, taken out of it: it is a row of its own then. -/
set_option linter.unusedVariables false
set_option linter.unusedSimpArgs false
namespace Go.Sep
open Go
def dtL (Λ : Lbl) (s j l : Nat) : Lbl := fun L => match L with
  | [] => Λ []
  | h :: q => if h = l then Λ (s :: j :: q) else if pre s j (h :: q) = true then none else Λ (h :: q)
def dtS (σ : Store) (s j : Nat) (xs ys : List A) : Store := σ.set s (.box (xs.set j .j)) ++ [.row ys]
section
variable {F : Nat → Prop} {Λ : Lbl} {σ : Store} {w : World} {s j k : Nat} {xs ys : List A}
theorem dtL_ok (h : St F Λ σ w) : ∀ L b o, pre s j L = false → Λ L = some (b, o) → dtL Λ s j σ.length L = some (b, o) := fun L b o hp hL => by
  cases L with
  | nil => exact hL
  | cons h0 q =>
    simp only [dtL]
    rw [if_neg (by rintro rfl; rw [h.lab _ (by simp)] at hL; cases hL), hp]
    simpa using hL
theorem rowAt_dt (hs : σ[s]? = some (.box xs)) (hx : xs[j]? = some (.o k ys)) {L zs} (h : rowAt (dtS σ s j xs ys) L = some zs) :
    (L = [s] ∧ zs = xs.set j .j) ∨ (∃ q, L = σ.length :: q ∧ rowAt σ (s :: j :: q) = some zs) ∨ (L ≠ [s] ∧ pre s j L = false ∧ L.headD 0 < σ.length ∧ rowAt σ L = some zs) := by
  have h1 : s < σ.length := (List.getElem?_eq_some_iff.1 hs).1
  have hj : j < xs.length := (List.getElem?_eq_some_iff.1 hx).1
  cases L with
  | nil => simp [rowAt] at h
  | cons h0 p =>
    simp only [dtS, rowAt] at h
    by_cases e : h0 = σ.length
    · subst e
      rw [List.getElem?_append_right (by simp)] at h
      simp only [List.length_set, Nat.sub_self, List.getElem?_cons_zero, Root.cells] at h
      refine .inr (.inl ⟨p, rfl, ?_⟩)
      simp only [rowAt, hs, Root.cells, sub, hx]; exact h
    · by_cases hlt : h0 < σ.length
      · rw [List.getElem?_append_left (by simpa using hlt), List.getElem?_set] at h
        by_cases es : s = h0
        · subst es
          rw [if_pos rfl, if_pos h1] at h
          simp only [Root.cells] at h
          cases p with
          | nil => simp only [sub, Option.some.injEq] at h; exact .inl ⟨rfl, h.symm⟩
          | cons i q =>
            by_cases ei : j = i
            · subst ei
              simp only [sub, List.getElem?_set_self hj] at h
              cases h
            · refine .inr (.inr ⟨by simp, by simp [pre]; omega, hlt, ?_⟩)
              simp only [sub, List.getElem?_set_ne ei] at h
              simpa only [rowAt, hs, Root.cells, sub] using h
        · rw [if_neg es] at h
          refine .inr (.inr ⟨by simp; omega, ?_, hlt, by simpa only [rowAt] using h⟩)
          cases p with
          | nil => rfl
          | cons i q => simp [pre]; omega
      · rw [List.getElem?_eq_none (by simp; omega)] at h
        cases h
theorem St.detach (h : St F Λ σ w) (hs : σ[s]? = some (.box xs)) (hx : xs[j]? = some (.o k ys)) (hb : nmS (pre s j) σ = false) : St F (dtL Λ s j σ.length) (dtS σ s j xs ys) w := by
  have hj : j < xs.length := (List.getElem?_eq_some_iff.1 hx).1
  have hls : s < σ.length := (List.getElem?_eq_some_iff.1 hs).1
  have hrs : rowAt σ [s] = some xs := by simp only [rowAt, hs, Root.cells, sub]
  have hsb : isBox σ [s] = true := by simp [isBox, hs]
  have hbx : isBox (dtS σ s j xs ys) [s] = true := by
    simp only [isBox, dtS]; rw [List.getElem?_append_left (by simpa using hls), List.getElem?_set_self hls]
  have e1 : dtL Λ s j σ.length [s] = Λ [s] := by simp only [dtL]; rw [if_neg (by omega)]; simp [pre]
  have e2 : ∀ q, dtL Λ s j σ.length (σ.length :: q) = Λ (s :: j :: q) := fun q => by simp [dtL]
  have e3 : ∀ L : List Nat, pre s j L = false → L.headD 0 < σ.length → dtL Λ s j σ.length L = Λ L := fun L hp hl => by
    cases L with
    | nil => rfl
    | cons h0 q => simp only [dtL]; rw [if_neg (by simp at hl; omega), hp]; simp
  have key : ∀ L zs, rowAt (dtS σ s j xs ys) L = some zs → ∃ L0 us, rowAt σ L0 = some us ∧ dtL Λ s j σ.length L = Λ L0 ∧ ((L = L0 ∧ L.headD 0 < σ.length ∧ pre s j L = false) ∨ ∃ q, L = σ.length :: q ∧ L0 = s :: j :: q) := fun L zs hz => by
    rcases rowAt_dt hs hx hz with ⟨rfl, rfl⟩ | ⟨q, rfl, h1⟩ | ⟨h1, h2, h3, h4⟩
    · exact ⟨[s], xs, hrs, e1, .inl ⟨rfl, by simpa using hls, by simp [pre]⟩⟩
    · exact ⟨_, zs, h1, e2 q, .inr ⟨q, rfl, rfl⟩⟩
    · exact ⟨L, zs, h4, e3 L h2 h3, .inl ⟨rfl, h3, h2⟩⟩
  refine ⟨fun L zs hz => ?_, fun L zs L' zs' b o o' g1 g2 g3 g4 => ?_, h.old, fun L hL => ?_⟩
  · rcases rowAt_dt hs hx hz with ⟨rfl, rfl⟩ | ⟨q, rfl, h1⟩ | ⟨h1, h2, h3, h4⟩
    · rw [e1, hbx]
      rcases h.row _ _ hrs with ⟨_, h5⟩ | ⟨b, o, cs, t, h5, h6, h7, h8⟩
      · subst h5; simp at hj
      · refine .inr ⟨b, o, cs, t, h5, h6, h7, fun i x hi => ?_⟩
        by_cases ei : j = i
        · subst ei
          rw [List.getElem?_set_self hj] at hi; cases hi
          obtain ⟨c, g1, _⟩ := h8 j _ hx
          exact ⟨c, g1, trivial⟩
        · rw [List.getElem?_set_ne ei] at hi
          obtain ⟨c, g1, g2⟩ := h8 i x hi
          rw [hsb] at g2
          refine ⟨c, g1, g2.relabel (pre s j) (dtL_ok h) (by simp [pre]; omega) fun _ => ?_⟩
          exact namesL_false (nmS_box hb xs (List.mem_of_getElem? hs)) x (List.mem_of_getElem? hi)
    · rw [e2 q]
      have hib : isBox (dtS σ s j xs ys) (σ.length :: q) = false := by
        cases q with
        | nil => simp [isBox, dtS]
        | cons => rfl
      rw [hib]
      refine (h.row _ _ h1).imp id fun ⟨b, o, cs, t, g1, g2, g3, g4⟩ => ⟨b, o, cs, t, g1, g2, g3, fun i x hi => (g4 i x hi).imp fun c hc => ⟨hc.1, ?_⟩⟩
      have h5 := hc.2
      rw [isBox_deep] at h5
      exact h5.unbox fun a n k v hv => hv.imp id fun ⟨b, o, cap, k1, k2⟩ => ⟨b, o, cap, by rw [List.cons_append, e2]; simpa using k1, k2⟩
    · rw [e3 L h2 h3]
      have hib : isBox (dtS σ s j xs ys) L = isBox σ L := by
        match L, h1, h3 with
        | [], _, _ => rfl
        | [h0], h1, h3 =>
          have hn : s ≠ h0 := fun e => h1 (by rw [e])
          simp only [List.headD_cons] at h3
          simp only [isBox, dtS]
          rw [List.getElem?_append_left (by simpa using h3), List.getElem?_set_ne hn]
        | _ :: _ :: _, _, _ => rfl
      rw [hib]
      refine (h.row _ _ h4).imp id fun ⟨b, o, cs, t, g1, g2, g3, g4⟩ => ⟨b, o, cs, t, g1, g2, g3, fun i x hi => (g4 i x hi).imp fun c hc => ⟨hc.1, ?_⟩⟩
      by_cases hbL : isBox σ L = true
      · match L, hbL, h4, hc.2 with
        | [h0], hbL, h4, h5 =>
          refine h5.relabel (pre s j) (dtL_ok h) ?_ fun _ => ?_
          · have : h0 ≠ s := fun e => h1 (by rw [e])
            simp [pre, this]
          · simp only [isBox] at hbL
            split at hbL
            · rename_i us2 hu
              simp only [rowAt, hu, Root.cells, sub, Option.some.injEq] at h4
              subst h4
              exact namesL_false (nmS_box hb us2 (List.mem_of_getElem? hu)) x (List.mem_of_getElem? hi)
            · cases hbL
        | [], hbL, _, _ => cases hbL
        | _ :: _ :: _, hbL, _, _ => cases hbL
      · have hbf : isBox σ L = false := by simpa using hbL
        have h5 := hc.2
        rw [hbf] at h5 ⊢
        refine h5.unbox fun a n k v hv => hv.imp id fun ⟨b, o, cap, k1, k2⟩ => ⟨b, o, cap, dtL_ok h _ _ _ ?_ k1, k2⟩
        match L, h1, h2 with
        | [], _, _ => rfl
        | [h0], h1, _ =>
          have : h0 ≠ s := fun e => h1 (by rw [e])
          simp [pre, this]
        | h0 :: i0 :: q, _, h2 => simpa [pre] using h2
  · obtain ⟨A0, us, a1, a2, a3⟩ := key _ _ g1
    obtain ⟨B0, us', b1, b2, b3⟩ := key _ _ g2
    rw [a2] at g3; rw [b2] at g4
    have := h.apart _ _ _ _ _ _ _ a1 b1 g3 g4
    subst this
    rcases a3 with ⟨rfl, a4, a5⟩ | ⟨q, rfl, rfl⟩
    · rcases b3 with ⟨rfl, _, _⟩ | ⟨q, rfl, rfl⟩
      · rfl
      · simp [pre] at a5
    · rcases b3 with ⟨rfl, b4, b5⟩ | ⟨q', rfl, e⟩
      · simp [pre] at b5
      · simp only [List.cons.injEq, true_and] at e; rw [e]
  · have hlen : (dtS σ s j xs ys).length = σ.length + 1 := by simp [dtS]
    rw [hlen] at hL
    cases L with
    | nil => simp at hL
    | cons h0 q =>
      simp only [List.headD_cons] at hL
      simp only [dtL]; rw [if_neg (by omega)]
      split
      · rfl
      · exact h.lab _ (by simp; omega)
theorem Step.detach {m : Nat} (h : St F Λ σ w) (hs : σ[s]? = some (.box xs)) (hx : xs[j]? = some (.o k ys)) (hms : m ≤ s) : Step m F Λ σ w F (dtL Λ s j σ.length) (dtS σ s j xs ys) w := by
  have hls : s < σ.length := (List.getElem?_eq_some_iff.1 hs).1
  have hrs : rowAt σ [s] = some xs := by simp only [rowAt, hs, Root.cells, sub]
  have e3 : ∀ L : List Nat, pre s j L = false → L.headD 0 < σ.length → dtL Λ s j σ.length L = Λ L := fun L hp hl => by
    cases L with
    | nil => rfl
    | cons h0 q => simp only [dtL]; rw [if_neg (by simp at hl; omega), hp]; simp
  exact { os := rfl, tape := rfl, output := rfl, size := Nat.le_refl _, sizes := Sizes.refl _, keep := fun _ _ _ => rfl, mono := fun _ h => h, new := fun _ h => .inl h
          own := fun b ⟨L, zs, o, g1, g2⟩ => by
            rcases rowAt_dt hs hx g1 with ⟨rfl, rfl⟩ | ⟨q, rfl, h1⟩ | ⟨h1, h2, h3, h4⟩
            · exact .inl ⟨[s], xs, o, hrs, by rw [e3 _ (by simp [pre]) (by simpa using hls)] at g2; exact g2⟩
            · exact .inl ⟨_, zs, o, h1, by simpa [dtL] using g2⟩
            · exact .inl ⟨L, zs, o, h4, by rw [e3 L h2 h3] at g2; exact g2⟩
          len := by simp [dtS]; omega
          boxes := fun a us ha hu => by
            have hal : a < σ.length := (List.getElem?_eq_some_iff.1 hu).1
            exact ⟨e3 [a] (by simp [pre]) (by simpa using hal), us, by simp only [dtS]; rw [List.getElem?_append_left (by simpa using hal), List.getElem?_set_ne (by omega)]; exact hu⟩
          kept := fun L b o ha hL => by
            refine dtL_ok h L b o ?_ hL
            match L, ha with
            | [], _ => rfl
            | [_], _ => rfl
            | h0 :: i0 :: q, ha =>
              simp only [List.headD_cons] at ha
              simp [pre]; omega }
end
section
variable {P : Program} {n m : Nat} {N : Env → Store → Prop} {E : Env} {σ : Store} {ops : Array Oper} {os : List Oper} {o : Oper}
/-- Slots that do not name what lies under a cell; slot d is the row there. -/
def dtE (s j l : Nat) (E : Env) (d : Nat) (nn k : Nat) : Env → Prop
  | [] => True
  | (t, a) :: E' => ((t = d ∧ a = .m [l] 0 nn k) ∨ (lk E t = a ∧ a.names (pre s j) = false)) ∧ dtE s j l E d nn k E'
theorem TO_detach (s j d : Nat) {nn k : Nat} {xs ys : List A} {E' : Env} (hs : σ[s]? = some (.box xs)) (hx : xs[j]? = some (.o k ys)) (hd : lk E d = .m [s, j] 0 nn k) (hms : m ≤ s) (hb : nmS (pre s j) σ = false) (hE : dtE s j σ.length E d nn k E')
    (h : TO P n m ops os N E' (σ.set s (.box (xs.set j .j)) ++ [.row ys])) : TO P n m ops os N E σ := fun F Λ w tmps Q hn hst hf hq => by
  refine h F _ w tmps Q hn (hst.detach hs hx hb) (fun t => ?_) fun F2 Λ2 σ2 w2 tmps2 E2 hn2 hs2 hf2 hst2 hN => hq F2 Λ2 σ2 w2 tmps2 E2 hn2 hs2 hf2 ((Step.detach hst hs hx hms).trans hst2) hN
  have key : ∀ {E' : Env}, dtE s j σ.length E d nn k E' → ∀ t, lk E' t = .j ∨ (t = d ∧ lk E' t = .m [σ.length] 0 nn k) ∨ (lk E t = lk E' t ∧ (lk E' t).names (pre s j) = false) := fun {E'} => by
    induction E' with
    | nil => intro _ t; exact .inl rfl
    | cons p E' ih =>
      intro hh t
      obtain ⟨u, a⟩ := p
      simp only [lk]
      split
      · rename_i e
        have e : u = t := by simpa using e
        subst e
        rcases hh.1 with ⟨h1, h2⟩ | ⟨h1, h2⟩
        · exact .inr (.inl ⟨h1, h2⟩)
        · exact .inr (.inr ⟨h1, h2⟩)
      · exact ih hh.2 t
  rcases key hE t with h1 | ⟨rfl, h1⟩ | ⟨h1, h2⟩
  · rw [h1]; exact .j _
  · rw [h1]
    have h3 := hf t
    rw [hd] at h3
    have h4 := h3.m_inv
    exact .m (h4.imp id fun ⟨b, o, cap, k1, k2⟩ => ⟨b, o, cap, by simpa [dtL] using k1, k2⟩)
  · rw [← h1]
    refine (hf t).relabel (pre s j) (dtL_ok hst) (by rw [h1]; exact h2)
/-- A store into an element that is open. -/
theorem TOp_setH {α : Type} {T : Ty α} {t k' : Nat} {addr x : Operand} {l d i off : Nat} {xs : List α} {v : α} {zs ys : List A} (hT : SzT P t k') (hk0 : 0 < k') (h : o.op = .store t addr x) (hdst : o.dst = none) (ha : val E addr = .e [l] d) (hd : d = i * T.k + off) (hr : σ[l]? = some (.box (spl (flat T.own xs) (i * T.k) zs))) (hzl : zs.length = T.k)
    (hv : xs[i]? = some v) (hys : cellsOf (val E x) = ys) (hyl : ys.length = k') (ho : off + k' ≤ T.k) (hc : boxAllB ys = true) (hN : N E (σ.set l (.box (spl (flat T.own xs) (i * T.k) (spl zs off ys))))) : TOp P n m o N E σ := by
  subst hd
  have hi := (List.getElem?_eq_some_iff.1 hv).1
  have hk : i * T.k + T.k ≤ (flat T.own xs).length := by rw [flat_len T.lenO, ← Nat.succ_mul]; exact Nat.mul_le_mul_right _ hi
  have hl0 : (spl (flat T.own xs) (i * T.k) zs).length = (flat T.own xs).length := spl_len ..
  have hrow : rowAt σ [l] = some (spl (flat T.own xs) (i * T.k) zs) := by simp only [rowAt, hr, Root.cells, sub]
  have hbx : isBox σ [l] = true := by simp [isBox, hr]
  refine store_row hT h hdst hrow hys hyl hk0 (show i * T.k + off + k' ≤ (spl (flat T.own xs) (i * T.k) zs).length by omega) (fun y hy => by rw [hbx, if_pos rfl]; exact boxAll hc y hy) (boxAll hc) (fun F Λ w tmps hs hf => ?_) ?_
  · have e1 := val_ok (ds := []) hf addr
    rw [ha] at e1
    exact e1.e_inv
  · have hcut : ((spl (flat T.own xs) (i * T.k) zs).drop (i * T.k)).take zs.length = zs := by
      apply List.ext_getElem?
      intro q
      rcases Nat.lt_or_ge q zs.length with hq | hq
      · rw [List.getElem?_take_of_lt hq, List.getElem?_drop, spl_get _ _ _ _ (by omega), if_pos (by omega)]; congr 1; omega
      · rw [List.getElem?_eq_none (by rw [List.length_take]; omega), List.getElem?_eq_none hq]
    have e : spl (spl (flat T.own xs) (i * T.k) zs) (i * T.k + off) ys = spl (flat T.own xs) (i * T.k) (spl zs off ys) := by
      rw [spl_in _ zs ys (i * T.k) off hcut (by omega) (by omega)]
      apply List.ext_getElem?
      intro q
      have hl2 : (spl zs off ys).length = zs.length := spl_len ..
      rw [spl_get (spl zs off ys) (spl (flat T.own xs) (i * T.k) zs) (i * T.k) q (by omega), spl_get (spl zs off ys) (flat T.own xs) (i * T.k) q (by omega)]
      split
      · rfl
      · rename_i hq
        rw [spl_get zs (flat T.own xs) (i * T.k) q (by omega), if_neg (by omega)]
    rw [e]
    simpa [setRow, hr, Root.under, setSub] using hN
theorem open_T {α : Type} {T : Ty α} {xs : List α} {i off : Nat} {v : α} {y : A} (hv : xs[i]? = some v) (ho : off < T.k) : (flat T.own xs).set (i * T.k + off) y = spl (flat T.own xs) (i * T.k) ((T.own v).set off y) := by
  have hi := (List.getElem?_eq_some_iff.1 hv).1
  have hk : i * T.k + T.k ≤ (flat T.own xs).length := by rw [flat_len T.lenO, ← Nat.succ_mul]; exact Nat.mul_le_mul_right _ hi
  have hcut := flat_cut T.lenO (off := 0) (k' := T.k) hv (by omega)
  rw [Nat.add_zero, List.drop_zero, List.take_of_length_le (Nat.le_of_eq (T.lenO v))] at hcut
  have := spl_in (flat T.own xs) (T.own v) [y] (i * T.k) off (by rw [T.lenO]; exact hcut) (by rw [T.lenO]; exact hk) (by rw [T.lenO]; exact ho)
  exact this
end
end Go.Sep
/- Regions that draw their order, with operations that wait for a test. -/
set_option linter.unusedVariables false
set_option linter.unusedSimpArgs false
namespace Go.Sep
open Go
section
variable {P : Program} {n m : Nat} {K : Exit → Env → Store → Prop} {N : Env → Store → Prop} {E : Env} {σ : Store} {ops : Array Oper} {fuel : Nat} {listed : Array Bool}
theorem T_caseB {c : Code} (t : Bool) (h1 : t = true → T P n m c K E σ) (h2 : t = false → T P n m c K E σ) : T P n m c K E σ := by
  cases t with
  | true => exact h1 rfl
  | false => exact h2 rfl
theorem TA_firstG (i : Nat) (listed' : Array Bool) {o : Oper} {r : A} {j d : Nat} {want : Bool} (hi : ops[i]? = some o) (hp : PurI P o E r) (hg : o.guard = some (j, want)) (hgd : (ops[j]?).bind (·.dst) = some d) (hdn : d < n) (hlk : lk E d = .v (.bool want)) (hd : dstOK n o.dst = true) (hl : listed.setIfInBounds i true = listed') (hsel : Region.noSelect ops = true)
    (hr : (Region.ready .any ops listed).contains i = true) (hfr : Region.free .any ops listed i = true) (h : TA P n m ops fuel listed' N (put E o.dst r) σ) : TA P n m ops (fuel + 1) listed N E σ := fun F Λ w tmps Q hn hs hf hq => by
  obtain ⟨v, hv, hrun⟩ := hp F Λ w tmps hf
  obtain ⟨tmps', e, hn', hf'⟩ := hf.putO (ds := []) hn hd hv
  subst hl
  refine wpAny_first hi (Region.noSelect_spec hsel) (fun c a w h => h) fuel listed _ w (Region.free_spec hi hfr) (by simpa using hr) (.inl ⟨by simp [Region.wanted, hg, yielded_of hf hn hgd hdn hlk], hrun⟩) ?_
  rw [e]
  exact h F Λ w tmps' Q hn' hs hf' hq
theorem TA_off (i : Nat) (listed' : Array Bool) {o : Oper} {j d : Nat} {want : Bool} {v0 : Value} (hi : ops[i]? = some o) (hg : o.guard = some (j, want)) (hgd : (ops[j]?).bind (·.dst) = some d) (hdn : d < n) (hlk : lk E d = .v v0) (hv0 : offB want v0 = true) (hd : dstOK n o.dst = true) (hl : listed.setIfInBounds i true = listed') (hsel : Region.noSelect ops = true)
    (hr : (Region.ready .any ops listed).contains i = true) (hfr : Region.free .any ops listed i = true) (h : TA P n m ops fuel listed' N (put E o.dst (.v undef)) σ) : TA P n m ops (fuel + 1) listed N E σ := fun F Λ w tmps Q hn hs hf hq => by
  obtain ⟨tmps', e, hn', hf'⟩ := hf.putO (ds := []) (v := undef) hn hd (.imm (.v _))
  subst hl
  refine wpAny_first hi (Region.noSelect_spec hsel) (fun c a w h => h) fuel listed _ w (Region.free_spec hi hfr) (by simpa using hr) (.inr ⟨by simpa [Region.wanted, hg] using yielded_off hf hn hgd hdn hlk hv0, rfl⟩) ?_
  rw [e]
  exact h F Λ w tmps' Q hn' hs hf' hq
/-- What an operation that is ready needs: it waits for nothing, or for a test that is as wanted. -/
def GoOK (n : Nat) (ops : Array Oper) (E : Env) (o : Oper) : Prop := o.guard = none ∨ ∃ j d want, o.guard = some (j, want) ∧ (ops[j]?).bind (·.dst) = some d ∧ d < n ∧ lk E d = .v (.bool want)
theorem goN {o : Oper} (h : o.guard = none) : GoOK n ops E o := .inl h
theorem goG {o : Oper} {j d : Nat} {want : Bool} (hg : o.guard = some (j, want)) (hgd : (ops[j]?).bind (·.dst) = some d) (hdn : d < n) (hlk : lk E d = .v (.bool want)) : GoOK n ops E o := .inr ⟨j, d, want, hg, hgd, hdn, hlk⟩
def AllG (P : Program) (n m : Nat) (ops : Array Oper) (fuel : Nat) (listed : Array Bool) (N : Env → Store → Prop) (E : Env) (σ : Store) : List Nat → Prop
  | [] => True
  | i :: rs => (∃ o, ops[i]? = some o ∧ GoOK n ops E o ∧ TOp P n m o (TA P n m ops fuel (listed.setIfInBounds i true) N) E σ) ∧ AllG P n m ops fuel listed N E σ rs
theorem AllG.get : ∀ {rs : List Nat}, AllG P n m ops fuel listed N E σ rs → ∀ i ∈ rs, ∃ o, ops[i]? = some o ∧ GoOK n ops E o ∧ TOp P n m o (TA P n m ops fuel (listed.setIfInBounds i true) N) E σ
  | [], _, i, h => by cases h
  | j :: rs, h, i, hi => by
    rcases List.mem_cons.1 hi with rfl | hi
    · exact h.1
    · exact AllG.get h.2 i hi
theorem TA_allG (rs : List Nat) (hr : Region.ready .any ops listed = rs) (hne : rs ≠ []) (h : AllG P n m ops fuel listed N E σ rs) : TA P n m ops (fuel + 1) listed N E σ := fun F Λ w tmps Q hn hs hf hq => by
  refine ⟨fun h0 => absurd (hr.symm.trans h0) hne, fun i hi => ?_⟩
  rw [hr] at hi
  obtain ⟨o, h1, h2, h3⟩ := h.get i hi
  unfold wpOp
  rw [h1]
  simp only
  have hw : Region.wanted o (yielded ops tmps) = true := by
    rcases h2 with h2 | ⟨j, d, want, g1, g2, g3, g4⟩
    · simp [Region.wanted, h2]
    · simp [Region.wanted, g1, yielded_of hf hn g2 g3 g4]
  rw [if_pos hw]
  exact .inl (h3 F Λ w tmps _ (onlyN Q) hn hs hf fun F' Λ' σ' w' tmps' E' hn' hs' hf' hst hN =>
    hN F' Λ' w' tmps' Q hn' hs' hf' fun F2 Λ2 σ2 w2 tmps2 E2 hn2 hs2 hf2 hst2 hN2 => hq F2 Λ2 σ2 w2 tmps2 E2 hn2 hs2 hf2 (hst.trans hst2) hN2)
/-- A slot that is this truth value. -/
theorem TA_bool (d : Nat) {t t' : Bool} (ht : t = t') (hl : lk E d = .v (.bool t)) (h : TA P n m ops fuel listed N ((d, .v (.bool t')) :: E) σ) : TA P n m ops fuel listed N E σ := fun F Λ w tmps Q hn hs hf hq => by
  subst ht
  exact h F Λ w tmps Q hn hs (hf.congr fun u => (lk_same hl u).symm) hq
end
end Go.Sep
/- Models that end well: rules, step by step. -/
set_option linter.unusedVariables false
set_option linter.unusedSimpArgs false
namespace Go.Sep
open Go
/-- The model ends, with what P says of its result. -/
def Ok {α : Type} (e : Option α) (P : α → Prop) : Prop := ∃ r, e = some r ∧ P r
theorem Ok.ret {α : Type} {a : α} {P : α → Prop} (h : P a) : Ok (some a) P := ⟨a, rfl, h⟩
theorem Ok.mono {α : Type} {e : Option α} {P Q : α → Prop} (h : Ok e P) (k : ∀ a, P a → Q a) : Ok e Q := by
  obtain ⟨r, h1, h2⟩ := h; exact ⟨r, h1, k r h2⟩
theorem Ok.bind {α β : Type} {e : Option α} {f : α → Option β} {P : α → Prop} {Q : β → Prop} (h : Ok e P) (k : ∀ a, P a → Ok (f a) Q) : Ok (e.bind f) Q := by
  obtain ⟨r, h1, h2⟩ := h; rw [h1]; exact k r h2
theorem Ok.eq {α β : Type} {e : Option α} {f : α → Option β} {a : α} {Q : β → Prop} (h : e = some a) (k : Ok (f a) Q) : Ok (e.bind f) Q := by
  rw [h]; exact k
theorem Ok.of {α : Type} {e : Option α} {a : α} (h : e = some a) : Ok e fun r => r = a := ⟨a, h, rfl⟩
theorem Ok.to {α : Type} {e : Option α} {a : α} (h : Ok e fun r => r = a) : e = some a := by obtain ⟨r, h1, rfl⟩ := h; exact h1
theorem Ok.cond {α : Type} {b : Bool} {x y : Option α} {P : α → Prop} (ht : b = true → Ok x P) (hf : b = false → Ok y P) : Ok (_root_.cond b x y) P := by
  cases b with
  | true => exact ht rfl
  | false => exact hf rfl
theorem Ok.ct {α : Type} {b : Bool} {x y : Option α} {P : α → Prop} (h : b = true) (k : Ok x P) : Ok (_root_.cond b x y) P := by subst h; exact k
theorem Ok.cf {α : Type} {b : Bool} {x y : Option α} {P : α → Prop} (h : b = false) (k : Ok y P) : Ok (_root_.cond b x y) P := by subst h; exact k
theorem Ok.get {α β : Type} {xs : List α} {i : Int} {f : α → Option β} {Q : β → Prop} {n : Nat} (hi : i = (n : Int)) (hn : n < xs.length) (k : Ok (f xs[n]) Q) : Ok ((Go.Sep.getI xs i).bind f) Q := by
  subst hi; exact .eq (getI_lt hn) k
theorem Ok.get' {α β : Type} {xs : List α} {i : Int} {f : α → Option β} {Q : β → Prop} (h0 : 0 ≤ i) (h1 : i < xs.length) (k : ∀ (n : Nat) (hn : n < xs.length), i = (n : Int) → Ok (f xs[n]) Q) : Ok ((Go.Sep.getI xs i).bind f) Q := by
  obtain ⟨n, rfl⟩ : ∃ n : Nat, i = n := ⟨i.toNat, by omega⟩
  exact .get rfl (by omega) (k n (by omega) rfl)
theorem Ok.app {α β : Type} {b : Nat} {xs ys : List α} {f : List α → Option β} {Q : β → Prop} (h : (xs.length + ys.length) * b ≤ 140737488355328) (k : Ok (f (xs ++ ys)) Q) : Ok ((Go.Sep.app b xs ys).bind f) Q := .eq (app_ok h) k
theorem Ok.mk {α β : Type} {b n : Nat} {z : α} {f : List α → Option β} {Q : β → Prop} (h1 : b * n ≤ 281474976710656) (h2 : n ≤ 1099511627776) (k : Ok (f (List.replicate n z)) Q) : Ok ((Go.Sep.mk b (n : Int) z).bind f) Q := .eq (mk_ok h1 h2) k
theorem Ok.gD {β : Type} {n : Int} {f : Unit → Option β} {Q : β → Prop} (h : n ≠ 0) (k : Ok (f ()) Q) : Ok ((Go.Sep.gD n).bind f) Q := .eq (gD_ok h) k
/-! ### loops -/
theorem Ok.forS {α S β : Type} {f : Int → α → S → Option S} {xs : List α} {s : S} {g : S → Option β} {Q : β → Prop} (I : Nat → S → Prop) (h0 : I 0 s) (h : ∀ (n : Nat) x s, xs[n]? = some x → I n s → Ok (f (n : Int) x s) (I (n + 1))) (k : ∀ s, I xs.length s → Ok (g s) Q) : Ok ((Go.Sep.forS f xs 0 s).bind g) Q := by
  obtain ⟨s', h1, h2⟩ := forS_ok (f := f) I h0 h; rw [h1]; exact k s' h2
theorem Ok.forL {α S R β : Type} {f : Int → α → S → Option (Ctl S R)} {xs : List α} {s : S} {K : S → Option β} {L : R → Option β} {Q : β → Prop} (I : Nat → S → Prop) (B : S → Prop) (T : R → Prop) (h0 : I 0 s) (h : ∀ (n : Nat) x s, xs[n]? = some x → I n s → Ok (f (n : Int) x s) (CtlP (I (n + 1)) B T)) (k1 : ∀ s, I xs.length s ∨ B s → Ok (K s) Q) (k2 : ∀ r, T r → Ok (L r) Q) : Ok ((Go.Sep.forL f xs 0 s).bind fun o => onS o K L) Q := by
  obtain ⟨o, h1, h2⟩ := forL_ok (f := f) I B T h0 h
  rw [h1]
  cases o with
  | inl s => exact k1 s h2
  | inr r => exact k2 r h2
theorem Ok.while {S R β : Type} {f : S → Option (Ctl S R)} {u : Nat} {s : S} {K : S → Option β} {L : R → Option β} {Q : β → Prop} (I : S → Prop) (μ : S → Nat) (B : S → Prop) (T : R → Prop) (hu : μ s < u) (h0 : I s) (h : ∀ s, I s → Ok (f s) (CtlP (fun s' => I s' ∧ μ s' < μ s) B T)) (k1 : ∀ s, B s → Ok (K s) Q) (k2 : ∀ r, T r → Ok (L r) Q) : Ok ((whileF f u s).bind fun o => onS o K L) Q := by
  obtain ⟨o, h1, h2⟩ := while_ok (f := f) I μ B T h u s hu h0
  rw [h1]
  cases o with
  | inl s => exact k1 s h2
  | inr r => exact k2 r h2
theorem Ok.next {S R : Type} {s : S} {I B : S → Prop} {T : R → Prop} (h : I s) : Ok (some (Ctl.next s)) (CtlP I B T) := ⟨_, rfl, h⟩
theorem Ok.brk {S R : Type} {s : S} {I B : S → Prop} {T : R → Prop} (h : B s) : Ok (some (Ctl.brk s)) (CtlP I B T) := ⟨_, rfl, h⟩
theorem Ok.out {S R : Type} {r : R} {I B : S → Prop} {T : R → Prop} (h : T r) : Ok (some (Ctl.ret r : Ctl S R)) (CtlP I B T) := ⟨_, rfl, h⟩
/-- Parts of a list, cut out of it. -/
theorem cutI_okN {α : Type} {xs : List α} {i j : Nat} (h1 : i ≤ j) (h2 : j ≤ xs.length) : cutI xs (i : Int) (j : Int) = some ((xs.take j).drop i) := by
  unfold cutI; rw [if_pos (by omega)]; simp
theorem Ok.cut {α β : Type} {xs : List α} {a b : Int} {f : List α → Option β} {Q : β → Prop} {i j : Nat} (ha : a = (i : Int)) (hb : b = (j : Int)) (h1 : i ≤ j) (h2 : j ≤ xs.length) (k : Ok (f ((xs.take j).drop i)) Q) : Ok ((cutI xs a b).bind f) Q := by
  subst ha hb; exact .eq (cutI_okN h1 h2) k
theorem Ok.allL {α R β : Type} {l : List α} {f : Int → α → Unit → Option (Ctl Unit R)} {K : Unit → Option β} {L : R → Option β} {Q : β → Prop} (P : Nat → Prop) (r0 : R) (hf : ∀ (n : Nat) x, l[n]? = some x → (∀ j, j < n → P j) → Ok (f (n : Int) x ()) (CtlP (fun _ => P n) (fun _ => False) (fun r => r = r0 ∧ ¬ P n))) (k1 : (∀ j, j < l.length → P j) → Ok (K ()) Q) (k2 : (∃ j, j < l.length ∧ ¬ P j) → Ok (L r0) Q) : Ok ((Go.Sep.forL f l 0 ()).bind fun o => onS o K L) Q := by
  refine .forL (fun n _ => ∀ j, j < n → P j) (fun _ => False) (fun r => r = r0 ∧ ∃ j, j < l.length ∧ ¬ P j) (fun j hj => by omega) (fun n x s hx hI => (hf n x hx hI).mono fun o ho => ?_) (fun s hs => k1 (hs.resolve_right id)) (fun r hr => by rw [hr.1]; exact k2 hr.2)
  cases o with
  | next s =>
    intro j hj
    by_cases e : j = n
    · rw [e]; exact ho
    · exact hI j (by omega)
  | brk s => exact ho
  | ret r => exact ⟨ho.1, n, (List.getElem?_eq_some_iff.1 hx).1, ho.2⟩
end Go.Sep
/- Calls that are handed some of the caller's roots (boxes and rows), to write into and to replace; what they hand back. -/
set_option linter.unusedVariables false
set_option linter.unusedSimpArgs false
namespace Go.Sep
open Go
def renR (f : Nat → Nat) : Root → Root
  | .box xs => .box (renL f xs)
  | .row xs => .row xs
  | .dead => .dead
theorem sub_renL (f : Nat → Nat) (xs : List A) (j : Nat) (p : List Nat) : sub (renL f xs) (j :: p) = sub xs (j :: p) := by
  simp only [sub, renL_get]
  cases hj : xs[j]? with
  | none => rfl
  | some x => cases x <;> simp [A.ren]
theorem rowAt_ren {σ : Store} {f : Nat → Nat} {h : Nat} {p : List Nat} {zs : List A} (hz : rowAt (σ.map (renR f)) (h :: p) = some zs) : ∃ zs0, rowAt σ (h :: p) = some zs0 ∧ zs = (if isBox σ (h :: p) = true then renL f zs0 else zs0) := by
  simp only [rowAt, List.getElem?_map] at hz ⊢
  cases hσ : σ[h]? with
  | none => rw [hσ] at hz; cases hz
  | some r =>
    rw [hσ] at hz
    cases r with
    | dead => cases hz
    | row xs =>
      refine ⟨zs, hz, ?_⟩
      cases p <;> simp [isBox, hσ]
    | box xs =>
      simp only [Option.map_some, renR, Root.cells] at hz
      cases p with
      | nil => simp only [sub, Option.some.injEq] at hz; subst hz; exact ⟨xs, rfl, by simp [isBox, hσ]⟩
      | cons j p => rw [sub_renL] at hz; exact ⟨zs, hz, by simp [isBox]⟩
theorem isBox_ren {σ : Store} {f : Nat → Nat} (L : List Nat) : isBox (σ.map (renR f)) L = isBox σ L := by
  cases L with
  | nil => rfl
  | cons h p =>
    cases p with
    | cons j p => rfl
    | nil =>
      simp only [isBox, List.getElem?_map]
      cases σ[h]? with
      | none => rfl
      | some r => cases r <;> rfl
theorem Cell.renB {F : Nat → Prop} {Λ Λ' : Lbl} {w : World} {L L' : List Nat} {c : Value} {x : A} (p : List Nat → Bool) (f : Nat → Nat) (h : ∀ L b o, p L = false → Λ L = some (b, o) → Λ' (rh f L) = some (b, o)) (hS : ∀ a n k v, Sl Λ w L a n k v → Sl Λ' w L' a n k v) (hn : x.names p = false) (hc : Cell F Λ w true L c x) : Cell F Λ' w true L' c (x.ren f) := by
  rcases hc.box with rfl | ⟨k, ys, rfl⟩ | ⟨h1, h2⟩
  · simp only [A.ren]; trivial
  · simp only [A.ren]; exact ⟨hc.1, hc.2.1, hc.2.2.elim fun n hn => ⟨n, hn.1, hS _ _ _ _ hn.2⟩⟩
  · have h3 := h2.ren p f h hn
    cases x with
    | j => simp [A.inBox] at h1
    | o k ys => simp [A.inBox] at h1
    | g xs => simp [A.inBox] at h1
    | t xs => simp [A.inBox] at h1
    | _ => simp only [A.ren] at h3 ⊢; exact ⟨by first | rfl | exact h1, h3⟩
/-! ### down -/
def pickR (σ : Store) (ls : List Nat) : Store := ls.map fun l => (σ[l]?).getD .dead
def subS (σ : Store) (ls : List Nat) : Store := (pickR σ ls).map (renR (ixOf ls))
theorem rowAt_pickR {σ : Store} {ls : List Nat} {h : Nat} {p zs} (hz : rowAt (pickR σ ls) (h :: p) = some zs) : ∃ l, ls[h]? = some l ∧ rowAt σ (l :: p) = some zs ∧ (pickR σ ls)[h]? = σ[l]? := by
  simp only [rowAt, pickR, List.getElem?_map] at hz ⊢
  cases hl : ls[h]? with
  | none => rw [hl] at hz; cases hz
  | some l =>
    rw [hl] at hz
    simp only [Option.map_some] at hz ⊢
    cases hs : σ[l]? with
    | none => rw [hs] at hz; cases hz
    | some r => rw [hs] at hz; exact ⟨l, rfl, by rw [hs]; exact hz, by rw [hs]; rfl⟩
theorem isBox_eq {σ σ' : Store} {h l : Nat} (e : σ'[h]? = σ[l]?) (p : List Nat) : isBox σ' (h :: p) = isBox σ (l :: p) := by
  cases p with
  | cons j p => rfl
  | nil => simp only [isBox, e]
theorem pickL_ix {Λ : Lbl} {ls : List Nat} (hnd : ls.Nodup) {L : List Nat} {b o : Nat} (hp : (!inL ls L) = false) (hL : Λ L = some (b, o)) : pickL Λ ls (rh (ixOf ls) L) = some (b, o) := by
  cases L with
  | nil => simp [inL] at hp
  | cons h p =>
    simp only [inL, Bool.not_eq_false'] at hp
    simp only [rh, pickL, ixOf_get hnd hp]; exact hL
theorem St.sub {F Λ σ w} (hs : St F Λ σ w) {ls : List Nat} (hnd : ls.Nodup) (hb : ∀ l ∈ ls, ∀ xs, σ[l]? = some (.box xs) → namesL (fun L => !inL ls L) xs = false) : St F (pickL Λ ls) (subS σ ls) w where
  row L zs hz := by
    cases L with
    | nil => simp [rowAt] at hz
    | cons h p =>
      obtain ⟨zs0, h1, rfl⟩ := rowAt_ren hz
      obtain ⟨l, h2, h3, h4⟩ := rowAt_pickR h1
      have e : pickL Λ ls (h :: p) = Λ (l :: p) := by simp [pickL, h2]
      have eb : isBox (subS σ ls) (h :: p) = isBox σ (l :: p) := by rw [subS, isBox_ren, isBox_eq h4]
      rw [e, eb, isBox_eq h4]
      rcases hs.row _ _ h3 with ⟨g1, rfl⟩ | ⟨b, o, cs, t, g1, g2, g3, g4⟩
      · refine .inl ⟨g1, ?_⟩
        split <;> rfl
      · refine .inr ⟨b, o, cs, t, g1, g2, g3, fun j x hj => ?_⟩
        have hSl : ∀ j, ∀ a n k v, Sl Λ w ((l :: p) ++ [j]) a n k v → Sl (pickL Λ ls) w ((h :: p) ++ [j]) a n k v := fun j a n k v hv => hv.imp id fun ⟨b, o, cap, k1, k2⟩ => ⟨b, o, cap, by simpa [pickL, h2] using k1, k2⟩
        by_cases hbx : isBox σ (l :: p) = true
        · rw [if_pos hbx, renL_get] at hj
          cases hx : zs0[j]? with
          | none => rw [hx] at hj; cases hj
          | some x0 =>
            rw [hx] at hj
            simp only [Option.map_some, Option.some.injEq] at hj
            subst hj
            obtain ⟨c, g5, g6⟩ := g4 j x0 hx
            refine ⟨c, g5, ?_⟩
            rw [hbx] at g6 ⊢
            have hpn : p = [] := by cases p with | nil => rfl | cons j p => simp [isBox] at hbx
            subst hpn
            have hbs : σ[l]? = some (.box zs0) := by
              simp only [isBox] at hbx
              split at hbx
              · rename_i us hu; simp only [rowAt, hu, Root.cells, Sep.sub, Option.some.injEq] at h3; rw [hu, h3]
              · cases hbx
            exact g6.renB (fun L => !inL ls L) _ (fun L b o hp hL => pickL_ix hnd hp hL) (hSl j) (namesL_false (hb l (List.mem_of_getElem? h2) _ hbs) _ (List.mem_of_getElem? hx))
        · rw [if_neg hbx] at hj
          have hbx' : isBox σ (l :: p) = false := by simpa using hbx
          obtain ⟨c, g5, g6⟩ := g4 j x hj
          refine ⟨c, g5, ?_⟩
          rw [hbx'] at g6 ⊢
          exact g6.unbox (hSl j)
  apart L zs L' zs' b o o' hr hr' h3 h4 := by
    cases L with
    | nil => simp [rowAt] at hr
    | cons h0 p =>
      cases L' with
      | nil => simp [rowAt] at hr'
      | cons h0' p' =>
        obtain ⟨z1, k1, _⟩ := rowAt_ren hr
        obtain ⟨z2, k2, _⟩ := rowAt_ren hr'
        obtain ⟨l, g1, g2, _⟩ := rowAt_pickR k1
        obtain ⟨l', g1', g2', _⟩ := rowAt_pickR k2
        have := hs.apart _ _ _ _ _ _ _ g2 g2' (by simpa [pickL, g1] using h3) (by simpa [pickL, g1'] using h4)
        simp only [List.cons.injEq] at this
        obtain ⟨rfl, rfl⟩ := this
        have e1 := List.getElem?_eq_some_iff.1 g1
        have e2 := List.getElem?_eq_some_iff.1 g1'
        have : h0 = h0' := by
          rcases Nat.lt_trichotomy h0 h0' with g | g | g
          · exact absurd (e1.2.trans e2.2.symm) (List.pairwise_iff_getElem.1 hnd h0 h0' e1.1 e2.1 g)
          · exact g
          · exact absurd (e2.2.trans e1.2.symm) (List.pairwise_iff_getElem.1 hnd h0' h0 e2.1 e1.1 g)
        rw [this]
  old := hs.old
  lab L hL := by
    cases L with
    | nil => rfl
    | cons h0 p =>
      simp only [List.headD_cons, subS, pickR, List.length_map] at hL
      simp [pickL, List.getElem?_eq_none hL]
theorem Own.sub {Λ : Lbl} {σ : Store} {ls : List Nat} {b : Nat} (h : Own (pickL Λ ls) (subS σ ls) b) : ∃ l p zs o, l ∈ ls ∧ rowAt σ (l :: p) = some zs ∧ Λ (l :: p) = some (b, o) := by
  obtain ⟨L, zs, o, h1, h2⟩ := h
  cases L with
  | nil => simp [rowAt] at h1
  | cons h0 p =>
    obtain ⟨z, k1, _⟩ := rowAt_ren h1
    obtain ⟨l, g1, g2, _⟩ := rowAt_pickR k1
    exact ⟨l, p, z, o, List.mem_of_getElem? g1, g2, by simpa [pickL, g1] using h2⟩
/-! ### up -/
def gi (ls : List Nat) (s h : Nat) : Option Nat := if ls.contains h = true then some (ixOf ls h) else if h < s then none else some (h - s + ls.length)
def gr (ls : List Nat) (s i : Nat) : Nat := match ls[i]? with
  | some l => l
  | none => i - ls.length + s
def setAll : Store → List Nat → Store → Store
  | σ, l :: ls, r :: rs => setAll (σ.set l r) ls rs
  | σ, _, _ => σ
def upS (σ : Store) (ls : List Nat) (σ1 : Store) : Store := setAll σ ls (σ1.map (renR (gr ls σ.length))) ++ (σ1.map (renR (gr ls σ.length))).drop ls.length
def upG (Λ Λ1 : Lbl) (ls : List Nat) (s : Nat) : Lbl := fun L => match L with
  | [] => Λ []
  | h :: p => match gi ls s h with
    | some i => Λ1 (i :: p)
    | none => Λ (h :: p)
theorem setAll_len : ∀ (ls : List Nat) (σ rs : Store), (setAll σ ls rs).length = σ.length
  | [], σ, rs => by simp [setAll]
  | l :: ls, σ, [] => by simp [setAll]
  | l :: ls, σ, r :: rs => by simp only [setAll]; rw [setAll_len ls]; simp
theorem ixOf_cons_self (l : Nat) (ls : List Nat) : ixOf (l :: ls) l = 0 := by simp [ixOf, List.findIdx_cons]
theorem ixOf_cons_ne {l h : Nat} (ls : List Nat) (e : l ≠ h) : ixOf (l :: ls) h = ixOf ls h + 1 := by
  simp only [ixOf, List.findIdx_cons]
  have : (l == h) = false := by simpa using e
  simp [this]
theorem setAll_get : ∀ (ls : List Nat) (σ rs : Store) (h : Nat), ls.Nodup → (∀ l ∈ ls, l < σ.length) → ls.length ≤ rs.length → (setAll σ ls rs)[h]? = if ls.contains h = true then rs[ixOf ls h]? else σ[h]?
  | [], σ, rs, h, _, _, _ => by simp [setAll]
  | l :: ls, σ, [], h, _, _, hl => by simp at hl
  | l :: ls, σ, r :: rs, h, hnd, hlt, hl => by
    have hnd' := List.nodup_cons.1 hnd
    simp only [setAll]
    rw [setAll_get ls (σ.set l r) rs h hnd'.2 (fun l' hl' => by rw [List.length_set]; exact hlt l' (List.mem_cons_of_mem _ hl')) (by simpa using hl)]
    by_cases e : l = h
    · subst e
      have h1 : ¬ ls.contains l = true := by rw [List.contains_iff_mem]; exact hnd'.1
      have h2 : (l :: ls).contains l = true := by simp
      rw [if_neg h1, if_pos h2, ixOf_cons_self, List.getElem?_set_self (hlt l (List.mem_cons_self ..))]; rfl
    · have hc : (l :: ls).contains h = ls.contains h := by
        rw [List.contains_cons]
        have : (h == l) = false := by simpa using (Ne.symm e)
        rw [this, Bool.false_or]
      rw [hc, ixOf_cons_ne ls e, List.getElem?_set_ne e]; rfl
theorem ixOf_lt {ls : List Nat} {h : Nat} (hm : ls.contains h = true) : ixOf ls h < ls.length := by
  have hm' : h ∈ ls := by simpa using hm
  exact List.findIdx_lt_length_of_exists ⟨h, hm', by simp⟩
theorem upS_get {σ σ1 : Store} {ls : List Nat} (hnd : ls.Nodup) (hlt : ∀ l ∈ ls, l < σ.length) (hl : ls.length ≤ σ1.length) (h : Nat) : (upS σ ls σ1)[h]? = match gi ls σ.length h with
    | some i => (σ1.map (renR (gr ls σ.length)))[i]?
    | none => σ[h]? := by
  have hl' : ls.length ≤ (σ1.map (renR (gr ls σ.length))).length := by simpa using hl
  simp only [upS, gi]
  by_cases hh : h < σ.length
  · rw [List.getElem?_append_left (by rw [setAll_len]; exact hh), setAll_get _ _ _ _ hnd hlt hl']
    by_cases hc : ls.contains h = true
    · rw [if_pos hc, if_pos hc]
    · rw [if_neg hc, if_neg hc, if_pos hh]
  · rw [List.getElem?_append_right (by rw [setAll_len]; omega), setAll_len, List.getElem?_drop]
    have hc : ¬ ls.contains h = true := fun hc => hh (hlt h (by simpa using hc))
    rw [if_neg hc, if_neg hh, Nat.add_comm]
theorem rowAt_get {σ σ' : Store} {h h' : Nat} (e : σ'[h]? = σ[h']?) (p : List Nat) : rowAt σ' (h :: p) = rowAt σ (h' :: p) := by simp only [rowAt, e]
theorem gi_gr {ls : List Nat} (hnd : ls.Nodup) {s : Nat} (hlt : ∀ l ∈ ls, l < s) (i : Nat) : gi ls s (gr ls s i) = some i := by
  simp only [gr]
  cases hi : ls[i]? with
  | some l =>
    have hm := List.mem_of_getElem? hi
    have hc : ls.contains l = true := by simpa using hm
    simp only [gi, if_pos hc]
    have h1 := ixOf_get hnd hc
    have hil := (List.getElem?_eq_some_iff.1 hi)
    have hjl := (List.getElem?_eq_some_iff.1 h1)
    have : ixOf ls l = i := by
      rcases Nat.lt_trichotomy (ixOf ls l) i with g | g | g
      · exact absurd (hjl.2.trans hil.2.symm) (List.pairwise_iff_getElem.1 hnd _ _ hjl.1 hil.1 g)
      · exact g
      · exact absurd (hil.2.trans hjl.2.symm) (List.pairwise_iff_getElem.1 hnd _ _ hil.1 hjl.1 g)
    rw [this]
  | none =>
    have hge : ls.length ≤ i := List.getElem?_eq_none_iff.1 hi
    have hc : ¬ ls.contains (i - ls.length + s) = true := fun hc => by have := hlt _ (by simpa using hc); omega
    simp only [gi]
    rw [if_neg hc, if_neg (by omega)]
    congr 1; omega
theorem gi_inj {ls : List Nat} (hnd : ls.Nodup) {s : Nat} (hlt : ∀ l ∈ ls, l < s) {h h' i : Nat} (e : gi ls s h = some i) (e' : gi ls s h' = some i) : h = h' := by
  have key : ∀ h, gi ls s h = some i → gr ls s i = h := fun h e => by
    simp only [gi] at e
    split at e
    · rename_i hc
      simp only [Option.some.injEq] at e
      subst e
      simp only [gr, ixOf_get hnd hc]
    · split at e
      · cases e
      · rename_i hc hh
        simp only [Option.some.injEq] at e
        subst e
        simp only [gr]
        rw [List.getElem?_eq_none (by omega)]
        simp only; omega
  rw [← key h e, ← key h' e']
section
variable {F F1 : Nat → Prop} {Λ Λ1 : Lbl} {σ σ1 : Store} {w w1 : World} {ls : List Nat}
theorem upG_ext (hs : St F Λ σ w) (hnd : ls.Nodup) (h : Step (subS σ ls).length F (pickL Λ ls) (subS σ ls) w F1 Λ1 σ1 w1) : ∀ L b o, Λ L = some (b, o) → upG Λ Λ1 ls σ.length L = some (b, o) := fun L b o hL => by
  cases L with
  | nil => exact hL
  | cons h0 p =>
    simp only [upG, gi]
    by_cases hc : ls.contains h0 = true
    · rw [if_pos hc]
      have h1 := ixOf_get hnd hc
      refine h.kept (ixOf ls h0 :: p) b o ?_ (by simp only [pickL, h1]; exact hL)
      have := ixOf_lt hc
      simp only [List.headD_cons, subS, pickR, List.length_map]; exact this
    · rw [if_neg hc]
      by_cases hh : h0 < σ.length
      · rw [if_pos hh]; exact hL
      · rw [hs.lab (h0 :: p) (by simp only [List.headD_cons]; omega)] at hL; cases hL
theorem upG_gr (hnd : ls.Nodup) (hlt : ∀ l ∈ ls, l < σ.length) {L : List Nat} {b o : Nat} (hp : decide (L = []) = false) (hL : Λ1 L = some (b, o)) : upG Λ Λ1 ls σ.length (rh (gr ls σ.length) L) = some (b, o) := by
  cases L with
  | nil => simp at hp
  | cons i p => simp only [rh, upG, gi_gr hnd hlt]; exact hL
/-- No box names nothing. -/
def boxNil (σ : Store) : Bool := σ.any fun r => match r with
  | .box xs => namesL (fun L => decide (L = [])) xs
  | _ => false
theorem St.upS (hs : St F Λ σ w) (hnd : ls.Nodup) (hlt : ∀ l ∈ ls, l < σ.length) (hb : ∀ l ∈ ls, ∀ xs, σ[l]? = some (.box xs) → namesL (fun L => !inL ls L) xs = false) (hn1 : boxNil σ1 = false)
    (h : Step (subS σ ls).length F (pickL Λ ls) (subS σ ls) w F1 Λ1 σ1 w1) (hs1 : St F1 Λ1 σ1 w1) :
    St F1 (upG Λ Λ1 ls σ.length) (Sep.upS σ ls σ1) w1 ∧ (∀ m, Step m F Λ σ w F1 (upG Λ Λ1 ls σ.length) (Sep.upS σ ls σ1) w1) := by
  have hlen : ls.length ≤ σ1.length := by
    have h1 := h.len
    have h2 : (subS σ ls).length = ls.length := by simp [subS, pickR]
    rw [h2] at h1; omega
  have hget := upS_get (σ1 := σ1) hnd hlt hlen
  have hext := upG_ext hs hnd h
  have hF : ∀ b, F b → F1 b ∧ w1.heap[b]? = w.heap[b]? := h.frozen (hs.sub hnd hb)
  have hno : ∀ h0 p zs b o, rowAt σ (h0 :: p) = some zs → gi ls σ.length h0 = none → Λ (h0 :: p) = some (b, o) → ¬ Own (pickL Λ ls) (subS σ ls) b := fun h0 p zs b o h1 h2 h3 h4 => by
    obtain ⟨l, p', zs', o', h5, h6, h7⟩ := Own.sub h4
    have := hs.apart _ _ _ _ _ _ _ h1 h6 h3 h7
    simp only [List.cons.injEq] at this
    obtain ⟨rfl, _⟩ := this
    have hc : ls.contains h0 = true := by simpa using h5
    simp only [gi] at h2; rw [if_pos hc] at h2; cases h2
  have hown1 : ∀ b, Own Λ1 σ1 b → (∃ l p zs o, l ∈ ls ∧ rowAt σ (l :: p) = some zs ∧ Λ (l :: p) = some (b, o)) ∨ w.heap.size ≤ b := fun b hb => (h.own b hb).imp Own.sub id
  have hnil : ∀ (i : Nat) xs, σ1[i]? = some (.box xs) → namesL (fun L => decide (L = [])) xs = false := fun i xs hi => by
    simp only [boxNil, List.any_eq_false] at hn1
    simpa using hn1 _ (List.mem_of_getElem? hi)
  have eR : ∀ h0 p i, gi ls σ.length h0 = some i → rowAt (Sep.upS σ ls σ1) (h0 :: p) = rowAt (σ1.map (renR (gr ls σ.length))) (i :: p) ∧ isBox (Sep.upS σ ls σ1) (h0 :: p) = isBox σ1 (i :: p) := fun h0 p i e => by
    have := hget h0
    rw [e] at this
    exact ⟨rowAt_get this p, by rw [isBox_eq this p, isBox_ren]⟩
  have eO : ∀ h0 p, gi ls σ.length h0 = none → rowAt (Sep.upS σ ls σ1) (h0 :: p) = rowAt σ (h0 :: p) ∧ isBox (Sep.upS σ ls σ1) (h0 :: p) = isBox σ (h0 :: p) := fun h0 p e => by
    have := hget h0
    rw [e] at this
    exact ⟨rowAt_get this p, isBox_eq this p⟩
  refine ⟨⟨fun L zs hz => ?_, fun L zs L' zs' b o o' h1 h2 h3 h4 => ?_, hs1.old, fun L hL => ?_⟩, fun m => ?_⟩
  · cases L with
    | nil => simp [rowAt] at hz
    | cons h0 p =>
      cases hg : gi ls σ.length h0 with
      | some i =>
        have e : upG Λ Λ1 ls σ.length (h0 :: p) = Λ1 (i :: p) := by simp only [upG, hg]
        obtain ⟨e1, e2⟩ := eR h0 p i hg
        rw [e1] at hz
        obtain ⟨zs0, k1, rfl⟩ := rowAt_ren hz
        rw [e, e2]
        rcases hs1.row _ _ k1 with ⟨g1, rfl⟩ | ⟨b, o, cs, t, g1, g2, g3, g4⟩
        · refine .inl ⟨g1, ?_⟩
          split <;> rfl
        · refine .inr ⟨b, o, cs, t, g1, g2, g3, fun j x hj => ?_⟩
          have hSl : ∀ j, ∀ a n k v, Sl Λ1 w1 ((i :: p) ++ [j]) a n k v → Sl (upG Λ Λ1 ls σ.length) w1 ((h0 :: p) ++ [j]) a n k v := fun j a n k v hv => hv.imp id fun ⟨b, o, cap, k1, k2⟩ => ⟨b, o, cap, by simpa only [upG, List.cons_append, hg] using k1, k2⟩
          by_cases hbx : isBox σ1 (i :: p) = true
          · rw [if_pos hbx, renL_get] at hj
            cases hx : zs0[j]? with
            | none => rw [hx] at hj; cases hj
            | some x0 =>
              rw [hx] at hj
              simp only [Option.map_some, Option.some.injEq] at hj
              subst hj
              obtain ⟨c, g5, g6⟩ := g4 j x0 hx
              refine ⟨c, g5, ?_⟩
              rw [hbx] at g6 ⊢
              have hpn : p = [] := by cases p with | nil => rfl | cons j p => simp [isBox] at hbx
              subst hpn
              have hbs : σ1[i]? = some (.box zs0) := by
                simp only [isBox] at hbx
                split at hbx
                · rename_i us hu; simp only [rowAt, hu, Root.cells, Sep.sub, Option.some.injEq] at k1; rw [hu, k1]
                · cases hbx
              exact g6.renB (fun L => decide (L = [])) _ (fun L b o hp hL => upG_gr hnd hlt hp hL) (hSl j) (namesL_false (hnil i _ hbs) _ (List.mem_of_getElem? hx))
          · rw [if_neg hbx] at hj
            have hbx' : isBox σ1 (i :: p) = false := by simpa using hbx
            obtain ⟨c, g5, g6⟩ := g4 j x hj
            refine ⟨c, g5, ?_⟩
            rw [hbx'] at g6 ⊢
            exact g6.unbox (hSl j)
      | none =>
        have e : upG Λ Λ1 ls σ.length (h0 :: p) = Λ (h0 :: p) := by simp only [upG, hg]
        obtain ⟨e1, e2⟩ := eO h0 p hg
        rw [e1] at hz
        rw [e, e2]
        rcases hs.row _ _ hz with h4 | ⟨b, o, cs, t, g1, g2, g3, g4⟩
        · exact .inl h4
        · have hltb : b < w.heap.size := (Array.getElem?_eq_some_iff.1 g3).1
          have hn := hno _ _ _ b o hz hg g1
          refine .inr ⟨b, o, cs, t, g1, fun hb => ?_, by rw [h.keep b hltb hn]; exact g3, fun j x hj => ?_⟩
          · rcases h.new b hb with k | k | k
            · exact g2 k
            · exact hn k
            · omega
          · obtain ⟨c, g5, g6⟩ := g4 j x hj
            exact ⟨c, g5, (g6.mono hF h.sizes).ext hext⟩
  · have key : ∀ L zs b o, rowAt (Sep.upS σ ls σ1) L = some zs → upG Λ Λ1 ls σ.length L = some (b, o) → (∃ h0 i p zs0, L = h0 :: p ∧ gi ls σ.length h0 = some i ∧ rowAt σ1 (i :: p) = some zs0 ∧ Λ1 (i :: p) = some (b, o)) ∨ (∃ h0 p, L = h0 :: p ∧ gi ls σ.length h0 = none ∧ rowAt σ (h0 :: p) = some zs ∧ Λ (h0 :: p) = some (b, o)) := fun L zs b o hz hb => by
      cases L with
      | nil => simp [rowAt] at hz
      | cons h0 p =>
        simp only [upG] at hb
        cases hg : gi ls σ.length h0 with
        | some i =>
          rw [hg] at hb
          rw [(eR h0 p i hg).1] at hz
          obtain ⟨zs0, k1, _⟩ := rowAt_ren hz
          exact .inl ⟨h0, i, p, zs0, rfl, hg, k1, hb⟩
        | none =>
          rw [hg] at hb
          rw [(eO h0 p hg).1] at hz
          exact .inr ⟨h0, p, rfl, hg, hz, hb⟩
    have cross : ∀ i p zs h0 p' zs' b o o', rowAt σ1 (i :: p) = some zs → Λ1 (i :: p) = some (b, o) → gi ls σ.length h0 = none → rowAt σ (h0 :: p') = some zs' → Λ (h0 :: p') = some (b, o') → False := fun i p zs h0 p' zs' b o o' g1 g2 g3 g4 g5 => by
      rcases hown1 b ⟨_, _, _, g1, g2⟩ with ⟨l, p2, zs2, o2, k0, k1, k2⟩ | k
      · have := hs.apart _ _ _ _ _ _ _ g4 k1 g5 k2
        simp only [List.cons.injEq] at this
        obtain ⟨rfl, _⟩ := this
        have hc : ls.contains h0 = true := by simpa using k0
        simp only [gi] at g3; rw [if_pos hc] at g3; cases g3
      · have := hs.owns ⟨_, _, _, g4, g5⟩; omega
    rcases key _ _ _ _ h1 h3 with ⟨h0, i, p, zs0, rfl, g0, g1, g2⟩ | ⟨h0, p, rfl, g0, g1, g2⟩ <;> rcases key _ _ _ _ h2 h4 with ⟨h0', i', p', zs0', rfl, g0', g3, g4⟩ | ⟨h0', p', rfl, g0', g3, g4⟩
    · have := hs1.apart _ _ _ _ _ _ _ g1 g3 g2 g4
      simp only [List.cons.injEq] at this
      obtain ⟨rfl, rfl⟩ := this
      rw [gi_inj hnd hlt g0 g0']
    · exact (cross _ _ _ _ _ _ _ _ _ g1 g2 g0' g3 g4).elim
    · exact (cross _ _ _ _ _ _ _ _ _ g3 g4 g0 g1 g2).elim
    · exact hs.apart _ _ _ _ _ _ _ g1 g3 g2 g4
  · cases L with
    | nil =>
      simp only [upG]
      refine hs.lab [] ?_
      simp only [List.headD_nil, Sep.upS, List.length_append, setAll_len] at hL ⊢; omega
    | cons h0 p =>
      simp only [List.headD_cons, Sep.upS, List.length_append, setAll_len, List.length_drop, List.length_map] at hL
      have hc : ¬ ls.contains h0 = true := fun hc => by have := hlt h0 (by simpa using hc); omega
      simp only [upG, gi]
      rw [if_neg hc, if_neg (by omega)]
      exact hs1.lab _ (by simp only [List.headD_cons]; omega)
  · exact { os := h.os, tape := h.tape, output := h.output, size := h.size, sizes := h.sizes
            keep := fun b hb hn => h.keep b hb fun ho => by
              obtain ⟨l, p, zs, o, _, h1, h2⟩ := Own.sub ho
              exact hn ⟨_, _, _, h1, h2⟩
            mono := h.mono
            new := fun b hb => (h.new b hb).imp id fun k => k.imp (fun ho => by
              obtain ⟨l, p, zs, o, _, h1, h2⟩ := Own.sub ho
              exact ⟨_, _, _, h1, h2⟩) id
            own := fun b ⟨L, zs, o, h1, h2⟩ => by
              cases L with
              | nil => simp [rowAt] at h1
              | cons h0 p =>
                simp only [upG] at h2
                cases hg : gi ls σ.length h0 with
                | some i =>
                  rw [hg] at h2
                  rw [(eR h0 p i hg).1] at h1
                  obtain ⟨zs0, k1, _⟩ := rowAt_ren h1
                  exact (hown1 b ⟨_, _, _, k1, h2⟩).imp (fun ⟨l, p, zs, o, _, k1, k2⟩ => ⟨_, _, _, k1, k2⟩) id
                | none =>
                  rw [hg] at h2
                  rw [(eO h0 p hg).1] at h1
                  exact .inl ⟨_, _, _, h1, h2⟩
            len := by simp only [Sep.upS, List.length_append, setAll_len]; omega
            boxes := fun a us _ ha => by
              have hal : a < σ.length := (List.getElem?_eq_some_iff.1 ha).1
              have hg := hget a
              simp only [gi] at hg
              by_cases hc : ls.contains a = true
              · rw [if_pos hc] at hg
                have h1 := ixOf_get hnd hc
                have hsub : (subS σ ls)[ixOf ls a]? = some (.box (renL (ixOf ls) us)) := by
                  simp only [subS, pickR, List.getElem?_map, h1, Option.map_some, ha, Option.getD_some, renR]
                obtain ⟨k1, xs', k2⟩ := h.boxes (ixOf ls a) _ (by have := ixOf_lt hc; simpa [subS, pickR] using this) hsub
                refine ⟨?_, renL (gr ls σ.length) xs', ?_⟩
                · simp only [upG, gi]; rw [if_pos hc]; simp only; rw [k1]; simp only [pickL, h1]
                · rw [hg]; simp only [List.getElem?_map, k2, Option.map_some, renR]
              · rw [if_neg hc, if_pos hal] at hg
                refine ⟨?_, us, by rw [hg]; exact ha⟩
                simp only [upG, gi]; rw [if_neg hc, if_pos hal]
            kept := fun L b o _ hL => hext L b o hL }
end
def subNames (σ : Store) (ls : List Nat) : Bool := ls.any fun l => match σ[l]? with
  | some (.box xs) => namesL (fun L => !inL ls L) xs
  | _ => false
theorem subNames_all {σ : Store} {ls : List Nat} (h : subNames σ ls = false) : ∀ l ∈ ls, ∀ xs, σ[l]? = some (.box xs) → namesL (fun L => !inL ls L) xs = false := fun l hl xs hx => by
  simp only [subNames, List.any_eq_false] at h
  have := h l hl
  rw [hx] at this; simpa using this
/-- Called with 'as' over σ0, function f hands back just r, and leaves σ1. -/
def FnS (P : Program) (f : Nat) (as : List A) (σ0 : Store) (r : A) (σ1 : Store) : Prop := Fn P f as σ0 fun r' σ' => r' = r ∧ σ' = σ1
section
variable {P : Program} {n m : Nat} {N : Env → Store → Prop} {E : Env} {σ : Store} {o : Oper}
/-- A call that is handed the roots ls. -/
theorem TOp_callS (ls : List Nat) {g : Nat} {as as' : List A} {r0 : A} {σc σ1 : Store} (hc : CallOp P o E g as) (hnd : ls.Nodup) (hlt : ls.all (fun l => decide (l < σ.length)) = true) (hb : subNames σ ls = false) (hn1 : boxNil σ1 = false) (hnm : namesL (fun L => !inL ls L) as = false) (has : renL (ixOf ls) as = as') (hσ : subS σ ls = σc)
    (hF : FnS P g as' σc r0 σ1) (hnn : r0.names (fun L => decide (L = [])) = false) (hd : dstOK n o.dst = true)
    (hN : N (put E o.dst (r0.ren (gr ls σ.length))) (upS σ ls σ1)) : TOp P n m o N E σ := fun F Λ w tmps K Qx hn hs hf hk => by
  obtain ⟨vs, ⟨hvl, hvs⟩, hrun⟩ := hc F Λ w tmps hf
  have hlt' : ∀ l ∈ ls, l < σ.length := fun l hl => by simpa using List.all_eq_true.1 hlt l hl
  have hb' := subNames_all hb
  unfold Oper.wp
  rw [hrun w, Oper.upon_enter]
  subst has hσ
  refine hF F (pickL Λ ls) w vs _ (hs.sub hnd hb') ⟨by rw [renL_len]; exact hvl, fun j a y hx hy => ?_⟩ fun F1 Λ1 σ2 w1 v r hs1 hst hv hq => ?_
  · rw [renL_get] at hx
    cases hj : as[j]? with
    | none => simp [hj] at hx
    | some u =>
      simp [hj] at hx; subst hx
      exact (hvs j u y hj hy).ren (fun L => !inL ls L) _ (fun L b o hp hL => pickL_ix hnd hp hL) (namesL_false hnm u (List.mem_of_getElem? hj))
  · obtain ⟨rfl, rfl⟩ := hq
    obtain ⟨hs2, hst2⟩ := hs.upS hnd hlt' hb' hn1 hst hs1
    have hf1 := (hf.mono ((hst2 m).frozen hs) hst.sizes).ext (upG_ext hs hnd hst)
    have hv' : OK F1 (upG Λ Λ1 ls σ.length) w1 v (r.ren (gr ls σ.length)) := hv.ren (fun L => decide (L = [])) _ (fun L b o hp hL => upG_gr hnd hlt' hp hL) hnn
    obtain ⟨tmps', e, hn2, hf2⟩ := hf1.putO (ds := []) hn hd hv'
    show K (Act.put ⟨tmps, []⟩ o.dst v) w1
    rw [e]
    exact hk F1 _ _ w1 tmps' _ hn2 hs2 hf2 (hst2 m) hN
end
/-! ### the callee's side -/
def PickX (m : Nat) (r0 : A) (σ0 : Store) (r : A) (σ : Store) : Prop := ∃ ls : List Nat, ls.Nodup ∧ m ≤ ls.length ∧ (∀ i, i < m → ls[i]? = some i) ∧ subS σ ls = σ0 ∧ subNames σ ls = false ∧ r.names (fun L => !inL ls L) = false ∧ r.ren (ixOf ls) = r0
def pickL0 (Λ : Lbl) (ls : List Nat) : Lbl := fun L => match L with
  | [] => if ls = [] then none else Λ []
  | h :: p => pickL Λ ls (h :: p)
theorem St.sub0 {F : Nat → Prop} {Λ : Lbl} {w : World} {σ0 : Store} {ls : List Nat} (hs : St F (pickL Λ ls) σ0 w) (hl : σ0.length = ls.length) : St F (pickL0 Λ ls) σ0 w := by
  have e : ∀ L, L ≠ [] → pickL0 Λ ls L = pickL Λ ls L := fun L h => by
    cases L with
    | nil => exact absurd rfl h
    | cons h p => rfl
  have hx : ∀ L b o, pickL Λ ls L = some (b, o) → pickL0 Λ ls L = some (b, o) := fun L b o h => by
    cases L with
    | nil => simp [pickL] at h
    | cons h' p => exact h
  refine ⟨fun L xs h => ?_, fun L xs L' xs' b o o' h1 h2 h3 h4 => ?_, hs.old, fun L h => ?_⟩
  · rw [e L (ne_nil_of_row h)]
    exact (hs.row L xs h).imp id fun ⟨b, o, cs, t, g1, g2, g3, g4⟩ => ⟨b, o, cs, t, g1, g2, g3, fun j x hj => (g4 j x hj).imp fun c hc => ⟨hc.1, hc.2.ext hx⟩⟩
  · rw [e L (ne_nil_of_row h1)] at h3
    rw [e L' (ne_nil_of_row h2)] at h4
    exact hs.apart _ _ _ _ _ _ _ h1 h2 h3 h4
  · cases L with
    | nil =>
      simp only [List.headD_nil, hl] at h
      have : ls = [] := List.eq_nil_of_length_eq_zero (by omega)
      simp [pickL0, this]
    | cons h0 p => exact hs.lab _ h
theorem Fn.pickX {P : Program} {f : Nat} {as : List A} {r0 : A} {σ σ0 : Store} (h : Fn P f as σ (PickX σ.length r0 σ0)) : FnS P f as σ r0 σ0 := fun F Λ w vs R hs ha hR => by
  refine h F Λ w vs R hs ha fun F1 Λ1 σ1 w1 v r hs1 hst hv hqr => ?_
  obtain ⟨ls, hnd, hml, hid, rfl, h2, h3, rfl⟩ := hqr
  have hb' := subNames_all h2
  have hsl : (subS σ1 ls).length = ls.length := by simp [subS, pickR]
  refine hR F1 (pickL0 Λ1 ls) (subS σ1 ls) w1 v _ ((hs1.sub hnd hb').sub0 hsl) ?_ ?_ ⟨rfl, rfl⟩
  · exact { os := hst.os, tape := hst.tape, output := hst.output, size := hst.size, sizes := hst.sizes, keep := hst.keep, mono := hst.mono, new := hst.new
            own := fun b hb => by
              obtain ⟨L, zs, o, g1, g2⟩ := hb
              have hne := ne_nil_of_row g1
              obtain ⟨l, p, zs, o, _, g1, g2⟩ := Own.sub (Λ := Λ1) ⟨L, zs, o, g1, by cases L with | nil => exact absurd rfl hne | cons h p => exact g2⟩
              exact hst.own b ⟨_, _, _, g1, g2⟩
            len := by simp only [subS, pickR, List.length_map]; omega
            boxes := fun l xs hl hx => by
              obtain ⟨k1, xs', k2⟩ := hst.boxes l xs hl hx
              refine ⟨by simp only [pickL0, Sep.pickL, hid l hl]; exact k1, renL (ixOf ls) xs', ?_⟩
              simp only [subS, pickR, List.getElem?_map, hid l hl, Option.map_some, k2, Option.getD_some, renR]
            kept := fun L b o hl hL => by
              cases L with
              | nil =>
                simp only [List.headD_nil] at hl
                have hne : ls ≠ [] := fun e => by rw [e] at hml; simp only [List.length_nil] at hml; omega
                simp only [pickL0, if_neg hne]
                exact hst.kept [] b o hl hL
              | cons h p => simp only [List.headD_cons] at hl; simp only [pickL0, Sep.pickL, hid h hl]; exact hst.kept (h :: p) b o hl hL }
  · exact (hv.ren (fun L => !inL ls L) (ixOf ls) (Λ' := Sep.pickL Λ1 ls) (fun L b o hp hL => pickL_ix hnd hp hL) h3).ext fun L b o h => by
      cases L with
      | nil => simp [Sep.pickL] at h
      | cons h' p => exact h
end Go.Sep
/- Functions that are handed boxes; bits; pointers that are looked at. -/
set_option linter.unusedVariables false
set_option linter.unusedSimpArgs false
namespace Go.Sep
open Go
theorem end_pickX {P : Program} {E : Env} {σ : Store} {rs as} {m : Nat} {r0 : A} {σ0 : Store} (h : ResA P E σ rs as) {r} (hr : resA as = r) (ls : List Nat) (hnd : ls.Nodup) (hml : m ≤ ls.length) (hid : (List.range m).all (fun i => ls[i]? == some i) = true) (hm : m ≤ σ.length) (hb : boxesE σ.length σ = false)
    (hn : r.names (fun L => decide (σ.length ≤ L.headD 0)) = false) (hp : subS σ ls = σ0) (hsn : subNames σ ls = false) (hnm : r.names (fun L => !inL ls L) = false) (hren : r.ren (ixOf ls) = r0) : EndK P rs m (PickX m r0 σ0) .ret E σ :=
  end_own h hr σ.length hm (List.take_length ..).symm hb hn hb ⟨ls, hnd, hml, fun i hi => by have := List.all_eq_true.1 hid i (List.mem_range.2 hi); simpa using this, hp, hsn, hnm, hren⟩
theorem fnS_of_T {P f} {fn : Func} {c : Code} {as : List A} {r0 : A} {σ σ0 : Store} {rs : List ResultVar} (hf : P.funcs[f]? = some fn) (hb : fn.body = some c) (hr : fn.results = rs.toArray) (hn : as.length ≤ fn.ntmps)
    (h : T P fn.ntmps σ.length c (EndK P rs σ.length (PickX σ.length r0 σ0)) (entry 0 as) σ) : FnS P f as σ r0 σ0 := Fn.pickX (fn_of_T hf hb hr hn h)
theorem fzN {l : Nat} {xs : List A} : FzLs l xs [] [] := trivial
theorem fzC {l : Nat} {xs : List A} {a b : A} {as bs : List A} (h : Fz1 l xs a b) (hs : FzLs l xs as bs) : FzLs l xs (a :: as) (b :: bs) := ⟨h, hs⟩
/-! ### one root frozen, that boxes name -/
theorem Fz1.o_inv {l : Nat} {xs : List A} {a : A} {k : Nat} {ys : List A} (h : Fz1 l xs a (.o k ys)) : a = .o k ys := by
  generalize hb : A.o k ys = b at h
  cases h with
  | keep => rfl
  | m h1 h2 => rw [← hb] at h2; simp [fzR] at h2
  | g => cases hb
theorem fzK {l : Nat} {xs : List A} : ∀ {as : List A}, namesL (hd l) as = false → FzLs l xs as as
  | [], _ => trivial
  | a :: as, h => by simp only [namesL, Bool.or_eq_false_iff] at h; exact ⟨.keep h.1, fzK h.2⟩
def FzRt (l : Nat) (xs : List A) : Root → Root → Prop
  | .box as, .box bs => FzLs l xs as bs
  | .row as, .row bs => as = bs
  | .dead, .dead => True
  | _, _ => False
def FzS (l : Nat) (xs : List A) : Store → Store → Prop
  | [], [] => True
  | r :: σ, r' :: σ' => FzRt l xs r r' ∧ FzS l xs σ σ'
  | _, _ => False
theorem FzS.get {l : Nat} {xs : List A} : ∀ {σ σ' : Store}, FzS l xs σ σ' → σ'.length = σ.length ∧ ∀ (j : Nat) r', σ'[j]? = some r' → ∃ r, σ[j]? = some r ∧ FzRt l xs r r'
  | [], [], _ => ⟨rfl, by simp⟩
  | [], _ :: _, h => h.elim
  | _ :: _, [], h => h.elim
  | r :: σ, r1 :: σ', ⟨h, hs⟩ => by
    obtain ⟨h1, h2⟩ := FzS.get hs
    refine ⟨by simp [h1], fun j r' hj => ?_⟩
    cases j with
    | zero => simp at hj; subst hj; exact ⟨r, rfl, h⟩
    | succ j => simpa using h2 j r' (by simpa using hj)
theorem sub_fz {l : Nat} {xs as bs : List A} (h : FzLs l xs as bs) {j : Nat} {p : List Nat} {zs : List A} (hz : sub bs (j :: p) = some zs) : sub as (j :: p) = some zs := by
  obtain ⟨h1, h2⟩ := h.get
  simp only [sub] at hz ⊢
  cases hj : bs[j]? with
  | none => rw [hj] at hz; cases hz
  | some b =>
    have hjl : j < as.length := by have := (List.getElem?_eq_some_iff.1 hj).1; omega
    have h3 := h2 j _ b (List.getElem?_eq_getElem hjl) hj
    rw [hj] at hz
    cases b with
    | o k us => rw [List.getElem?_eq_getElem hjl, h3.o_inv]; exact hz
    | _ => cases hz
section
variable {F : Nat → Prop} {Λ : Lbl} {σ σ' : Store} {w : World} {l : Nat} {xs : List A}
theorem rowAt_fz (hS : FzS l xs (σ.set l .dead) σ') {h0 : Nat} {p : List Nat} {zs : List A} (hz : rowAt σ' (h0 :: p) = some zs) : hd l (h0 :: p) = false ∧ isBox σ' (h0 :: p) = isBox σ (h0 :: p) ∧ ((isBox σ (h0 :: p) = false ∧ rowAt σ (h0 :: p) = some zs) ∨ (p = [] ∧ ∃ as, σ[h0]? = some (.box as) ∧ FzLs l xs as zs)) := by
  obtain ⟨_, hg⟩ := hS.get
  simp only [rowAt] at hz
  cases hr : σ'[h0]? with
  | none => rw [hr] at hz; cases hz
  | some r' =>
    rw [hr] at hz
    obtain ⟨r, h1, h2⟩ := hg h0 r' hr
    have hne : h0 ≠ l := by
      rintro rfl
      have hl : h0 < σ.length := by have := (List.getElem?_eq_some_iff.1 h1).1; simpa using this
      rw [List.getElem?_set_self hl] at h1; cases h1
      cases r' <;> first | (simp [Root.cells] at hz; done) | exact h2.elim
    rw [List.getElem?_set_ne (Ne.symm hne)] at h1
    refine ⟨by simpa [hd] using hne, ?_, ?_⟩
    · cases p with
      | cons j p => rfl
      | nil => simp only [isBox, hr, h1]; cases r <;> cases r' <;> first | rfl | exact h2.elim
    · cases r with
      | dead => cases r' <;> first | (simp [Root.cells] at hz; done) | exact h2.elim
      | row as =>
        cases r' with
        | row bs => cases h2; exact .inl ⟨by cases p <;> simp [isBox, h1], by simp only [rowAt, h1]; exact hz⟩
        | _ => exact h2.elim
      | box as =>
        cases r' with
        | box bs =>
          cases p with
          | nil => simp only [Root.cells, sub, Option.some.injEq] at hz; subst hz; exact .inr ⟨rfl, as, h1, h2⟩
          | cons j p => exact .inl ⟨rfl, by simp only [rowAt, h1, Root.cells]; exact sub_fz h2 hz⟩
        | _ => exact h2.elim
theorem Cell.frzB (hs : St F Λ σ w) (hr : σ[l]? = some (.row xs)) {L : List Nat} {c : Value} {a b : A} (hL : hd l L = false) (hz : Fz1 l xs a b) (hc : Cell F Λ w true L c a) : Cell (F1 F Λ l xs) (dropL l Λ) w true L c b := by
  have hz0 := hz
  cases hz with
  | keep hn => exact (hc.mono F1_mono (Sizes.refl w)).relabel (hd l) dropL_ok hL (fun _ => hn)
  | @m n k a0 a h1 h2 =>
    have h3 := OK.fz1 hs hr hz0 hc.2
    rw [← h2] at h3 ⊢
    exact ⟨rfl, h3⟩
  | g h1 h2 => have := hc.1; simp [A.inBox] at this
theorem St.frzB (hs : St F Λ σ w) (hr : σ[l]? = some (.row xs)) (hS : FzS l xs (σ.set l .dead) σ') : St (F1 F Λ l xs) (dropL l Λ) σ' w where
  row L ys h := by
    cases L with
    | nil => simp [rowAt] at h
    | cons h0 p =>
      obtain ⟨hn, hbx, hcase⟩ := rowAt_fz hS h
      have e : dropL l Λ (h0 :: p) = Λ (h0 :: p) := by simp [dropL, hn]
      have hn' : ∀ j, hd l ((h0 :: p) ++ [j]) = false := fun j => hn
      rw [e, hbx]
      rcases hcase with ⟨hb, h1⟩ | ⟨rfl, as, h1, h2⟩
      · rcases hs.row _ _ h1 with h2 | ⟨b, o, cs, t, h2, h3, h4, h5⟩
        · exact .inl h2
        · refine .inr ⟨b, o, cs, t, h2, not_F1 hs hr h1 h2 hn h3, h4, fun j x hx => ?_⟩
          obtain ⟨c, h6, h7⟩ := h5 j x hx
          rw [hb] at h7 ⊢
          exact ⟨c, h6, (h7.mono F1_mono (Sizes.refl w)).relabel (hd l) dropL_ok (hn' j) (fun h => by cases h)⟩
      · have hb : isBox σ [h0] = true := by simp [isBox, h1]
        have h1' : rowAt σ [h0] = some as := by simp [rowAt, h1, Root.cells, Sep.sub]
        obtain ⟨g1, g2⟩ := h2.get
        rcases hs.row _ _ h1' with ⟨h3, rfl⟩ | ⟨b, o, cs, t, h3, h4, h5, h6⟩
        · exact .inl ⟨h3, List.eq_nil_of_length_eq_zero (by simpa using g1.symm)⟩
        · refine .inr ⟨b, o, cs, t, h3, not_F1 hs hr h1' h3 hn h4, h5, fun j x hx => ?_⟩
          have hjl : j < as.length := by have := (List.getElem?_eq_some_iff.1 hx).1; omega
          obtain ⟨c, h7, h8⟩ := h6 j _ (List.getElem?_eq_getElem hjl)
          rw [hb] at h8 ⊢
          exact ⟨c, h7, Cell.frzB hs hr (hn' j) (g2 j _ x (List.getElem?_eq_getElem hjl) hx) h8⟩
  apart L ys L' ys' b o o' h1 h2 h3 h4 := by
    have key : ∀ L ys, rowAt σ' L = some ys → hd l L = false ∧ ∃ zs, rowAt σ L = some zs := fun L ys h => by
      cases L with
      | nil => simp [rowAt] at h
      | cons h0 p =>
        obtain ⟨hn, _, hcase⟩ := rowAt_fz hS h
        rcases hcase with ⟨_, h1⟩ | ⟨rfl, as, h1, _⟩
        · exact ⟨hn, _, h1⟩
        · exact ⟨hn, as, by simp [rowAt, h1, Root.cells, Sep.sub]⟩
    obtain ⟨g1, _, g2⟩ := key _ _ h1
    obtain ⟨g3, _, g4⟩ := key _ _ h2
    simp only [dropL, g1, g3] at h3 h4
    exact hs.apart _ _ _ _ _ _ _ g2 g4 h3 h4
  old b h := h.elim (hs.old b) fun h => hs.owns (Own.one hs hr h)
  lab L h := by
    have := hS.get.1
    rw [this, List.length_set] at h
    simp only [dropL]; split
    · rfl
    · exact hs.lab L h
theorem Step.frzB {m : Nat} (hs : St F Λ σ w) (hr : σ[l]? = some (.row xs)) (hm : m ≤ l) (hS : FzS l xs (σ.set l .dead) σ') : Step m F Λ σ w (F1 F Λ l xs) (dropL l Λ) σ' w where
  os := rfl
  tape := rfl
  output := rfl
  size := Nat.le_refl _
  sizes := Sizes.refl _
  keep _ _ _ := rfl
  mono b h := .inl h
  new b h := h.elim .inl fun h => .inr (.inl (Own.one hs hr h))
  own b h := by
    obtain ⟨L, ys, o, h1, h2⟩ := h
    cases L with
    | nil => simp [rowAt] at h1
    | cons h0 p =>
      obtain ⟨hn, _, hcase⟩ := rowAt_fz hS h1
      simp only [dropL, hn] at h2
      rcases hcase with ⟨_, h1⟩ | ⟨rfl, as, h1, _⟩
      · exact .inl ⟨_, _, o, h1, h2⟩
      · exact .inl ⟨_, as, o, by simp [rowAt, h1, Root.cells, Sep.sub], h2⟩
  len := by rw [hS.get.1, List.length_set]; exact Nat.min_le_right _ _
  boxes l' ys h1 h2 := by
    have hne : l ≠ l' := fun e => by omega
    refine ⟨by simp [dropL, hd]; omega, ?_⟩
    have hlt : l' < σ'.length := by rw [hS.get.1, List.length_set]; exact (List.getElem?_eq_some_iff.1 h2).1
    obtain ⟨r, k1, k2⟩ := hS.get.2 l' _ (List.getElem?_eq_getElem hlt)
    rw [List.getElem?_set_ne hne, h2] at k1; cases k1
    cases hc : σ'[l'] with
    | box us => exact ⟨us, by rw [List.getElem?_eq_getElem hlt, hc]⟩
    | _ => rw [hc] at k2; exact k2.elim
  kept L b o h1 h2 := by
    cases L with
    | nil => simp [dropL, hd, h2]
    | cons h p => simp only [List.headD_cons] at h1; simp [dropL, hd, h2]; omega
end
section
variable {P : Program} {n m : Nat} {K : Exit → Env → Store → Prop} {N : Env → Store → Prop} {E : Env} {σ σ' : Store} {ops : Array Oper} {os : List Oper} {fuel : Nat} {listed : Array Bool}
theorem T_frzB (l : Nat) {c : Code} {xs : List A} {E' : Env} (hr : σ[l]? = some (.row xs)) (hm : m ≤ l) (hE : FzE l xs E E') (hS : FzS l xs (σ.set l .dead) σ') (h : T P n m c K E' σ') : T P n m c K E σ := fun F Λ w tmps Q hn hs hf hq =>
  h _ _ w tmps Q hn (hs.frzB hr hS) (hE.fr hs hr hf) fun e F' Λ' σ' w' tmps' E' hn' hs' hf' hst hN => hq e F' Λ' σ' w' tmps' E' hn' hs' hf' ((Step.frzB hs hr hm hS).trans hst) hN
theorem TA_frzB (l : Nat) {xs : List A} {E' : Env} (hr : σ[l]? = some (.row xs)) (hm : m ≤ l) (hE : FzE l xs E E') (hS : FzS l xs (σ.set l .dead) σ') (h : TA P n m ops fuel listed N E' σ') : TA P n m ops fuel listed N E σ :=
  TA_ghost (fun F Λ w tmps hs hf => ⟨_, _, hs.frzB hr hS, hE.fr hs hr hf, Step.frzB hs hr hm hS⟩) h
end
/-- A part of a row, frozen. -/
theorem fz1C {α : Type} {T : Ty α} {l : Nat} {xs ys : List α} {i j : Nat} (hij : i ≤ j) (hj : j ≤ xs.length) (hy : ys = (xs.take j).drop i) : Fz1 l (flat T.enc xs) (.m [l] (i * T.k) (j - i) T.k) (sl T ys) := by
  subst hy
  have hlen := flat_len T.len xs
  have e : ((flat T.enc xs).drop (i * T.k)).take ((j - i) * T.k) = flat T.enc ((xs.take j).drop i) := by
    rw [flat_drop T.len, flat_take T.len, List.drop_take, Nat.sub_mul]
  have hr : rowAt [.row (flat T.enc xs)] [0] = some (flat T.enc xs) := rfl
  refine .m ⟨T.pos, _, hr, ?_, ?_⟩ ?_
  · rw [hlen, ← Nat.add_mul, Nat.add_sub_of_le hij]; exact Nat.mul_le_mul_right _ hj
  · rw [e]; exact flat_firm T _
  · simp only [fzR, hr, Option.getD_some]
    rw [e, flat_fz T.fz]
/-! ### bits -/
def bitI (op : BinOp) (k : IntKind) (a b : Int) : Int := match op with
  | .and => k.wrap ((BitVec.ofInt k.bits a &&& BitVec.ofInt k.bits b).toNat : Int)
  | .or => k.wrap ((BitVec.ofInt k.bits a ||| BitVec.ofInt k.bits b).toNat : Int)
  | .xor => k.wrap ((BitVec.ofInt k.bits a ^^^ BitVec.ofInt k.bits b).toNat : Int)
  | _ => 0
def shrI (k : IntKind) (a b : Int) : Int := a.fdiv (2 ^ (min b.toNat k.bits))
section
variable {P : Program} {o : Oper} {E : Env} {σ : Store}
theorem pur_and {t x y t' k} {a b : Int} (h : o.op = .binOp .and t x y t') (hx : val E x = .v (.int k a)) (hy : val E y = .v (.int k b)) : Pur P o E σ (.v (.int k (bitI .and k a b))) :=
  pur_bin h hx hy fun w => by simp [eqGuard_int, binOp, Op.intBits, bitI]
theorem pur_xor {t x y t' k} {a b : Int} (h : o.op = .binOp .xor t x y t') (hx : val E x = .v (.int k a)) (hy : val E y = .v (.int k b)) : Pur P o E σ (.v (.int k (bitI .xor k a b))) :=
  pur_bin h hx hy fun w => by simp [eqGuard_int, binOp, Op.intBits, bitI]
theorem pur_shr {t x y t' k k'} {a b : Int} (h : o.op = .binOp .shr t x y t') (hx : val E x = .v (.int k a)) (hy : val E y = .v (.int k' b)) (h0 : 0 ≤ b) : Pur P o E σ (.v (.int k (shrI k a b))) :=
  pur_bin h hx hy fun w => by simp [eqGuard_int, binOp, Op.shift, shrI, Int.not_lt.2 h0]
theorem pur_nil_b {x : Operand} {l a : Nat} (hx : val E x = .b l a) (h : o.op = .nilCheck x) : Pur P o E σ (.b l a) := fun F Λ w tmps _ hf => by
  have e1 := val_ok (ds := []) hf x
  rw [hx] at e1
  obtain ⟨b, o', hL, h2⟩ := e1.b_inv
  exact ⟨_, .b hL, fun w' _ => by simp only [execOp, h, h2]; rfl⟩
end
/-! ### less is known of a box: nil as an empty slice -/
theorem LeA.o_inv {x : A} {k : Nat} {ys : List A} (h : LeA x (.o k ys)) : x = .o k ys := by
  cases x with
  | n => rcases h with h | ⟨k, h⟩ | ⟨L, a, k, h⟩ <;> cases h
  | g xs => obtain ⟨ys, h, _⟩ := h; cases h
  | t xs => obtain ⟨ys, h, _⟩ := h; cases h
  | _ => first | (cases h; rfl) | cases h
theorem Cell.le {F : Nat → Prop} {Λ : Lbl} {w : World} {L : List Nat} {c : Value} {x y : A} (h : LeA x y) (hc : Cell F Λ w true L c x) : Cell F Λ w true L c y := by
  rcases hc.box with rfl | ⟨k, ys, rfl⟩ | ⟨h1, h2⟩
  · cases h; exact hc
  · cases h; exact hc
  · have h3 := h2.le h
    cases x with
    | n => rcases h with rfl | ⟨k, rfl⟩ | ⟨L, a, k, rfl⟩ <;> exact ⟨rfl, h3⟩
    | j => simp [A.inBox] at h1
    | o k ys => simp [A.inBox] at h1
    | g xs => simp [A.inBox] at h1
    | t xs => simp [A.inBox] at h1
    | _ => cases h; exact hc
theorem rowAt_boxle {σ : Store} {l : Nat} {xs ys : List A} (hr : σ[l]? = some (.box xs)) (hl : LeL xs ys) {h0 : Nat} {p : List Nat} {zs : List A} (hz : rowAt (σ.set l (.box ys)) (h0 :: p) = some zs) : (h0 = l ∧ p = [] ∧ zs = ys) ∨ (¬ (h0 = l ∧ p = []) ∧ rowAt σ (h0 :: p) = some zs) := by
  have hll : l < σ.length := (List.getElem?_eq_some_iff.1 hr).1
  simp only [rowAt] at hz ⊢
  by_cases e : h0 = l
  · subst e
    rw [List.getElem?_set_self hll] at hz
    simp only [Root.cells] at hz
    cases p with
    | nil => simp only [Sep.sub, Option.some.injEq] at hz; exact .inl ⟨rfl, rfl, hz.symm⟩
    | cons j p =>
      refine .inr ⟨by simp, ?_⟩
      simp only [hr, Root.cells, Sep.sub] at hz ⊢
      obtain ⟨h1, h2⟩ := hl.get
      cases hj : ys[j]? with
      | none => rw [hj] at hz; cases hz
      | some y =>
        have hjl : j < xs.length := by have := (List.getElem?_eq_some_iff.1 hj).1; omega
        have h3 := h2 j _ y (List.getElem?_eq_getElem hjl) hj
        rw [hj] at hz
        cases y with
        | o k us =>
          have h4 := h3.o_inv
          rw [List.getElem?_eq_getElem hjl, h4]; exact hz
        | _ => cases hz
  · rw [List.getElem?_set_ne (Ne.symm e)] at hz
    exact .inr ⟨fun h => e h.1, hz⟩
theorem isBox_boxle {σ : Store} {l : Nat} {xs ys : List A} (hr : σ[l]? = some (.box xs)) (L : List Nat) : isBox (σ.set l (.box ys)) L = isBox σ L := by
  have hll : l < σ.length := (List.getElem?_eq_some_iff.1 hr).1
  cases L with
  | nil => rfl
  | cons h p =>
    cases p with
    | cons j p => rfl
    | nil =>
      simp only [isBox]
      by_cases e : h = l
      · subst e; rw [List.getElem?_set_self hll, hr]
      · rw [List.getElem?_set_ne (Ne.symm e)]
theorem St.boxle {F Λ σ w} (hs : St F Λ σ w) {l : Nat} {xs ys : List A} (hr : σ[l]? = some (.box xs)) (hl : LeL xs ys) : St F Λ (σ.set l (.box ys)) w where
  row L zs hz := by
    cases L with
    | nil => simp [rowAt] at hz
    | cons h0 p =>
      rw [isBox_boxle hr]
      rcases rowAt_boxle hr hl hz with ⟨rfl, rfl, rfl⟩ | ⟨_, h1⟩
      · have h1 : rowAt σ [h0] = some xs := by simp [rowAt, hr, Root.cells, Sep.sub]
        have hb : isBox σ [h0] = true := by simp [isBox, hr]
        obtain ⟨h2, h3⟩ := hl.get
        rcases hs.row _ _ h1 with ⟨g1, rfl⟩ | ⟨b, o, cs, t, g1, g2, g3, g4⟩
        · exact .inl ⟨g1, List.eq_nil_of_length_eq_zero (by simpa using h2.symm)⟩
        · refine .inr ⟨b, o, cs, t, g1, g2, g3, fun j y hj => ?_⟩
          have hjl : j < xs.length := by have := (List.getElem?_eq_some_iff.1 hj).1; omega
          obtain ⟨c, g5, g6⟩ := g4 j _ (List.getElem?_eq_getElem hjl)
          rw [hb] at g6 ⊢
          exact ⟨c, g5, g6.le (h3 j _ y (List.getElem?_eq_getElem hjl) hj)⟩
      · exact hs.row _ _ h1
  apart L zs L' zs' b o o' h1 h2 := by
    have key : ∀ L zs, rowAt (σ.set l (.box ys)) L = some zs → ∃ zs', rowAt σ L = some zs' := fun L zs h => by
      cases L with
      | nil => simp [rowAt] at h
      | cons h0 p =>
        rcases rowAt_boxle hr hl h with ⟨rfl, rfl, rfl⟩ | ⟨_, h1⟩
        · exact ⟨xs, by simp [rowAt, hr, Root.cells, Sep.sub]⟩
        · exact ⟨_, h1⟩
    obtain ⟨_, k1⟩ := key _ _ h1
    obtain ⟨_, k2⟩ := key _ _ h2
    exact hs.apart _ _ _ _ _ _ _ k1 k2
  old := hs.old
  lab L h := hs.lab L (by simpa using h)
theorem Step.boxle {m F Λ σ w} {l : Nat} {xs ys : List A} (hr : σ[l]? = some (.box xs)) (hl : LeL xs ys) : Step m F Λ σ w F Λ (σ.set l (.box ys)) w :=
  { os := rfl, tape := rfl, output := rfl, size := Nat.le_refl _, sizes := Sizes.refl _, keep := fun _ _ _ => rfl, mono := fun _ h => h, new := fun _ h => .inl h
    own := fun b ⟨L, zs, o, g1, g2⟩ => by
      cases L with
      | nil => simp [rowAt] at g1
      | cons h0 p =>
        rcases rowAt_boxle hr hl g1 with ⟨rfl, rfl, rfl⟩ | ⟨_, h1⟩
        · exact .inl ⟨_, xs, o, by simp [rowAt, hr, Root.cells, Sep.sub], g2⟩
        · exact .inl ⟨_, _, o, h1, g2⟩
    len := by rw [List.length_set]; exact Nat.min_le_right _ _
    boxes := fun a us _ ha => by
      have hll : l < σ.length := (List.getElem?_eq_some_iff.1 hr).1
      by_cases e : a = l
      · subst e; exact ⟨rfl, ys, List.getElem?_set_self hll⟩
      · exact ⟨rfl, us, by rw [List.getElem?_set_ne (Ne.symm e)]; exact ha⟩
    kept := fun _ _ _ _ h => h }
section
variable {P : Program} {n m : Nat} {K : Exit → Env → Store → Prop} {N : Env → Store → Prop} {E : Env} {σ : Store} {ops : Array Oper} {os : List Oper}
theorem T_boxle (l : Nat) {c : Code} {xs ys : List A} (hr : σ[l]? = some (.box xs)) (hl : LeL xs ys) (h : T P n m c K E (σ.set l (.box ys))) : T P n m c K E σ := fun F Λ w tmps Q hn hs hf hq =>
  h F Λ w tmps Q hn (hs.boxle hr hl) hf fun e F' Λ' σ' w' tmps' E' hn' hs' hf' hst hN => hq e F' Λ' σ' w' tmps' E' hn' hs' hf' ((Step.boxle hr hl).trans hst) hN
end
/-! ### structs of plain fields, compared -/
/-- Pairs of plain values. -/
inductive Sc2 where
  | s (a b : ByteArray)
  | i (a b : Int)
def Sc2.x : Sc2 → A
  | .s a _ => strA a
  | .i a _ => intA a
def Sc2.y : Sc2 → A
  | .s _ b => strA b
  | .i _ b => intA b
def Sc2.vx : Sc2 → Value
  | .s a _ => .string a
  | .i a _ => .int .i64 a
def Sc2.vy : Sc2 → Value
  | .s _ b => .string b
  | .i _ b => .int .i64 b
def Sc2.eq : Sc2 → Bool
  | .s a b => decide (a = b)
  | .i a b => decide (a = b)
def Sc2.str : Sc2 → Bool
  | .s _ _ => true
  | .i _ _ => false
def cmpSc : List Sc2 → Bool
  | [] => true
  | p :: ps => p.eq && cmpSc ps
structure EqS (P : Program) (t : Nat) (ks : List Bool) : Prop where
  g : P.eqGuardType P.depth t = false
  e : ∀ (ps : List Sc2) w, ps.map Sc2.str = ks → Sem.run P (Op.equalIn 10000 t (.agg (ps.map Sc2.vx).toArray) (.agg (ps.map Sc2.vy).toArray)) w = .ok (cmpSc ps) w
theorem EqS.of {P : Program} {t : Nat} {ks : List Bool} {ts : List Nat} (g : P.eqGuardType P.depth t = false) (hS : P.underlying t = some (.struct (P.fieldsOf t))) (hp : P.stoodInHeld t = false)
    (hf : ((P.fieldsOf t).toList.map fun f => (decide (f.name = "_"), f.offset, f.type)) = (List.range ts.length).map fun i => (false, i, ts.getD i 0))
    (hk : ts.length = ks.length) (hu : ∀ i, i < ts.length → P.underlying (ts.getD i 0) = some (if ks.getD i false = true then .string else .int .i64)) : EqS P t ks := by
  refine ⟨g, fun ps w hps => ?_⟩
  have hlen : ps.length = ks.length := by have := congrArg List.length hps; simpa using this
  rw [show (10000 : Nat) = 9999 + 1 from rfl, run_equalIn_agg w 9999 t _ _ hS hp]
  have key : ∀ (fs : List Field) (k : Nat), k + fs.length = ps.length → (fs.map fun f => (decide (f.name = "_"), f.offset, f.type)) = ((List.range fs.length).map fun i => (false, k + i, ts.getD (k + i) 0)) → Sem.run P (Op.eqFields 9999 (ps.map Sc2.vx).toArray (ps.map Sc2.vy).toArray fs) w = .ok (cmpSc (ps.drop k)) w := by
    intro fs
    induction fs with
    | nil => intro k hk _; simp only [List.length_nil] at hk; rw [List.drop_eq_nil_of_le (by omega)]; simp [Op.eqFields, cmpSc]
    | cons f fs ih =>
      intro k hk hfs
      simp only [List.length_cons] at hk
      rw [List.length_cons, List.range_succ_eq_map, List.map_cons, List.map_cons, List.map_map] at hfs
      simp only [List.cons.injEq, Prod.mk.injEq, decide_eq_false_iff_not] at hfs
      obtain ⟨⟨h1, h2, h3⟩, h4⟩ := hfs
      have hkl : k < ps.length := by omega
      have ih' := ih (k + 1) (by omega) (by rw [h4]; refine List.map_congr_left fun i _ => ?_; simp only [Function.comp, Nat.succ_eq_add_one]; rw [Nat.add_assoc, Nat.add_comm 1 i])
      have hu' := hu k (by omega)
      have hks : ks.getD k false = ps[k].str := by
        rw [← hps, List.getD_eq_getElem?_getD, List.getElem?_map, List.getElem?_eq_getElem hkl]; rfl
      rw [hks] at hu'
      rw [Nat.add_zero] at h2 h3
      rw [← h3] at hu'
      have hx : (ps.map Sc2.vx).toArray[k]? = some ps[k].vx := by simp [hkl]
      have hy : (ps.map Sc2.vy).toArray[k]? = some ps[k].vy := by simp [hkl]
      have hag : ∀ w, (isAgg f.type).run P w = .ok false w := fun w => by
        cases hc : ps[k].str with
        | true => rw [hc, if_pos rfl] at hu'; simp [isAgg, run_underlying hu']
        | false => rw [hc, if_neg (by decide)] at hu'; simp [isAgg, run_underlying hu']
      have he : ∀ w, (Op.equalIn 9999 f.type ps[k].vx ps[k].vy).run P w = .ok ps[k].eq w := fun w => by
        cases hc : ps[k] with
        | s a b =>
          rw [hc] at hu'
          simp only [Sc2.str, if_true] at hu'
          simp only [Sc2.vx, Sc2.vy, Sc2.eq]
          rw [show (9999 : Nat) = 9998 + 1 from rfl, run_equalIn_string w 9998 _ a b hu', beq_bytes]
        | i a b =>
          rw [hc] at hu'
          simp only [Sc2.str, Bool.false_eq_true, if_false] at hu'
          simp only [Sc2.vx, Sc2.vy, Sc2.eq]
          rw [show (9999 : Nat) = 9998 + 1 from rfl, run_equalIn_int w 9998 _ .i64 .i64 a b hu']
          exact congrArg (fun z => Result.ok z w) (Bool.eq_iff_iff.2 (by simp))
      rw [List.drop_eq_getElem_cons hkl]
      simp only [Op.eqFields, h2, cmpSc]
      have hpx : ∀ w, (part f.type (ps.map Sc2.vx).toArray k).run P w = .ok ps[k].vx w := fun w => by simp [part, hag, hkl]
      have hpy : ∀ w, (part f.type (ps.map Sc2.vy).toArray k).run P w = .ok ps[k].vy w := fun w => by simp [part, hag, hkl]
      cases hq : ps[k].eq <;> simp [hpx, hpy, he, hq, h1, ih']
  have := key (P.fieldsOf t).toList 0 (by have := congrArg List.length hf; simp only [List.length_map, List.length_range] at this; omega) (by
    rw [hf]
    have hl := congrArg List.length hf
    simp only [List.length_map, List.length_range] at hl
    rw [hl]
    refine List.map_congr_left fun i _ => ?_
    rw [Nat.zero_add])
  rw [List.drop_zero] at this
  exact this
theorem plain_inv {F Λ w} : ∀ {ps : List Sc2} {vs : List Value} {f : Sc2 → A} {g : Sc2 → Value}, (∀ p, f p = .v (g p)) → vs.length = (ps.map f).length → (∀ (j : Nat) x y, (ps.map f)[j]? = some x → vs[j]? = some y → OK F Λ w y x) → vs = ps.map g
  | [], vs, f, g, _, hl, _ => by simpa using List.eq_nil_of_length_eq_zero (by simpa using hl)
  | p :: ps, [], f, g, _, hl, _ => by simp at hl
  | p :: ps, v :: vs, f, g, hfg, hl, h => by
    have h0 := h 0 _ v rfl rfl
    rw [hfg] at h0
    have e := h0.v_inv
    subst e
    have := plain_inv (ps := ps) (vs := vs) (f := f) (g := g) hfg (by simpa using hl) fun j x y hx hy => h (j + 1) x y (by simpa using hx) (by simpa using hy)
    rw [this]; rfl
theorem Sc2.hx (p : Sc2) : p.x = .v p.vx := by cases p <;> rfl
theorem Sc2.hy (p : Sc2) : p.y = .v p.vy := by cases p <;> rfl
theorem pur_neqT {P : Program} {E : Env} {σ : Store} {o : Oper} {t x y t'} {ks : List Bool} (ps : List Sc2) (hT : EqS P t ks) (hk : ps.map Sc2.str = ks) (h : o.op = .binOp .neq t x y t') (hx : val E x = .g (ps.map Sc2.x)) (hy : val E y = .g (ps.map Sc2.y)) : Pur P o E σ (.v (.bool (!cmpSc ps))) := fun F Λ w tmps hs hf => by
  have h1 := val_ok (ds := []) hf x
  have h2 := val_ok (ds := []) hf y
  rw [hx] at h1
  rw [hy] at h2
  obtain ⟨vs, e1, l1, i1⟩ := h1.g_inv
  obtain ⟨us, e2, l2, i2⟩ := h2.g_inv
  rw [plain_inv Sc2.hx l1 i1] at e1
  rw [plain_inv Sc2.hy l2 i2] at e2
  refine ⟨_, .imm (.v _), fun w' _ => ?_⟩
  simp only [execOp, h, e1, e2, Sem.run_bind, run_eqGuard_agg w' _ t x y _ _ hT.g, Result.andThen_ok, run_neq_struct, hT.e ps w' hk, Sem.run_pure]
theorem rd_u8 {P : Program} {t : Nat} (ht : P.underlying t = some (.int .u8)) (hs : P.cellsOf t = 1) : RdT P t 1 (fun z => [.v (.int .u8 z)]) (fun z => 0 ≤ z ∧ z ≤ 255) :=
  ⟨hs, fun enc w base spare held fuel cs x hx => by
    obtain ⟨n, rfl, _, hw⟩ := DataW.trod_int ht hx
    refine ⟨n, ?_, rfl, rfl, one_cell (.v _)⟩
    have h1 : IntKind.u8.max = 255 := rfl
    have h2 : IntKind.u8.min = 0 := rfl
    simp only [Lit.wf, Bool.and_eq_true, decide_eq_true_eq] at hw
    omega⟩
section
variable {P : Program} {n m : Nat} {N : Env → Store → Prop} {E : Env} {σ : Store} {ops : Array Oper} {fuel : Nat} {listed : Array Bool}
/-- What is wanted where several orders meet, told ahead. -/
theorem TA_have (fuel2 : Nat) (listed2 : Array Bool) (E2 : Env) (σ2 : Store) (h : TA P n m ops fuel2 listed2 N E2 σ2) (k : TA P n m ops fuel2 listed2 N E2 σ2 → TA P n m ops fuel listed N E σ) : TA P n m ops fuel listed N E σ := k h
end
/-! ### strings out of bytes -/
section
variable {P : Program} {o : Oper} {E : Env} {σ : Store}
end
/-! ### elements that own, in drawn regions -/
section
variable {P : Program} {n m : Nat} {N : Env → Store → Prop} {E : Env} {σ : Store} {ops : Array Oper} {fuel : Nat} {listed : Array Bool} {o : Oper}
end
end Go.Sep
/- Short forms, for printed walks. -/
set_option linter.unusedVariables false
set_option linter.unusedSimpArgs false
namespace Go.Sep
open Go
theorem lb {n m : Nat} (h : Nat.ble n m = true) : n ≤ m := Nat.le_of_ble_eq_true h
/-- An environment, read off. -/
def pkE (E : Env) : Env → Env
  | [] => []
  | (t, _) :: E' => (t, lk E t) :: pkE E E'
theorem pkE.of {E : Env} : ∀ {E' : Env}, pkE E E' = E' → Pk E E'
  | [], _ => trivial
  | (t, a) :: E', h => by
    simp only [pkE, List.cons.injEq, Prod.mk.injEq, true_and] at h
    exact ⟨h.1, pkE.of h.2⟩
section
variable {P : Program} {n m : Nat} {K : Exit → Env → Store → Prop} {N : Env → Store → Prop} {E : Env} {σ : Store} {ops : Array Oper} {os : List Oper} {o : Oper} {fuel : Nat} {listed : Array Bool}
theorem Tp {os' : List Oper} {o : Oper} {r : A} (ho : os = o :: os') (hg : o.guard = none) (hp : Pur P o E σ r) (hd : dstOK n o.dst = true) (h : TO P n m ops os' N (put E o.dst r) σ) : TO P n m ops os N E σ := by
  subst ho; exact TO_cons hg (TOp_pure hp hd h)
theorem te {c : Code} (E' : Env) (hE : pkE E E' = E') (h : T P n m c K E' σ) : T P n m c K E σ := T_env (pkE.of hE) h
theorem toe (E' : Env) (hE : pkE E E' = E') (h : TO P n m ops os N E' σ) : TO P n m ops os N E σ := TO_env (pkE.of hE) h
theorem tqe (E' : Env) (hE : pkE E E' = E') (h : TQ P n m ops os N E' σ) : TQ P n m ops os N E σ := TQ_env (pkE.of hE) h
theorem tae (E' : Env) (hE : pkE E E' = E') (h : TA P n m ops fuel listed N E' σ) : TA P n m ops fuel listed N E σ := TA_env (pkE.of hE) h
theorem sr {id : Nat} {l : List Oper} {b : Code} (h : TO P n m l.toArray l ((thenK (T P n m b K) K) .normal) E σ) : T P n m (.seq (.region id l.toArray false) b) K E σ := T_seq (T_region h)
/-- First of all an operation that looks at no world. -/
theorem tf (i : Nat) {o : Oper} {r : A} (hi : ops[i]? = some o) (hp : PurI P o E r) (hg : o.guard = none) (hd : dstOK n o.dst = true) (hc : (Region.noSelect ops && (Region.ready .any ops listed).contains i && Region.free .any ops listed i) = true) (h : TA P n m ops fuel (listed.setIfInBounds i true) N (put E o.dst r) σ) : TA P n m ops (fuel + 1) listed N E σ := by
  simp only [Bool.and_eq_true] at hc
  exact TA_first i _ hi hp hg hd rfl hc.1.1 hc.1.2 hc.2 h
/-- The one operation that is ready. -/
theorem t1 (i : Nat) {o : Oper} (hr : Region.ready .any ops listed = [i]) (hi : ops[i]? = some o) (hg : o.guard = none) (h : TOp P n m o (TA P n m ops fuel (listed.setIfInBounds i true) N) E σ) : TA P n m ops (fuel + 1) listed N E σ :=
  TA_all [i] hr (by simp) ⟨⟨o, hi, hg, h⟩, trivial⟩
theorem tmv (l l' : Nat) {zs : List A} (hne : l ≠ l') (hl : l < σ.length) (hr : σ[l']? = some (.row zs)) (hb : noBox σ l = true) (hm : m ≤ l) (h : TA P n m ops fuel listed N (mvE l l' E) (mvS l l' σ)) : TA P n m ops fuel listed N E σ :=
  TA_ghost (fun F Λ w tmps hs hf => ⟨F, _, hs.move hne hl hr, fun t => by rw [lk_mvE]; exact mvA_ok hne (hf t), Step.move hs hne hl hr hb hm⟩) h
theorem PkL.of : ∀ {E' : Env}, Pk E E' → PkL E E'
  | [], _ => trivial
  | (_, _) :: _, h => ⟨leR h.1, PkL.of h.2⟩
theorem wp {σ' : Store} {E' : Env} (k : Nat) (hm : m ≤ k) (ha : ascE E' = true) (hσ : σ' = σ.take k) (h1 : namesE k E' = false) (h2 : boxesE k σ' = false) (hE : pkE E E' = E') : WeakL m E σ E' σ' := WeakL.to k hm ha hσ h1 h2 (PkL.of (pkE.of hE))
/-- Orders meet. -/
theorem tj {listed2 : Array Bool} {E2 : Env} {σ2 : Store} (h : TA P n m ops fuel listed2 N E2 σ2) (hl : listed = listed2) (hw : WeakL m E σ E2 σ2) : TA P n m ops fuel listed N E σ := TA_listed _ hl (TA_ghost (Ghost.weak hw) h)
end
end Go.Sep


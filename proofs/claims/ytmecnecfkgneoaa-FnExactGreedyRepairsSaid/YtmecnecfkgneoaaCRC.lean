import Derived.Test.YtmecnecfkgneoaaCRB
import Derived.OrdersHeld
set_option linter.unusedVariables false
set_option linter.unusedSimpArgs false
namespace Go.Sep
open Go
theorem Cell.path {F Λ Λ' w bx L L' c x} (hS : ∀ a n k v, Sl Λ w L a n k v → Sl Λ' w L' a n k v) (hext : ∀ L b o, Λ L = some (b, o) → Λ' L = some (b, o)) (h : Cell F Λ w bx L c x) : Cell F Λ' w bx L' c x := by
 cases x with
 | j => trivial
 | o k ys => exact ⟨h.1, h.2.1, h.2.2.elim fun n hn => ⟨n, hn.1, hS _ _ _ _ hn.2⟩⟩
 | _ => exact ⟨h.1, h.2.ext hext⟩
theorem rowAt_growX {σ : Store} {l : Nat} {xs ys : List A} (hr : σ[l]? = some (.box xs)) (hp : ∀ x ∈ ys, x.plain = true) {L zs} (h : rowAt (σ.set l .dead ++ [.box (xs ++ ys)]) L = some zs) :
  (L = [σ.length] ∧ zs = xs ++ ys) ∨ (∃ j q, L = σ.length :: j :: q ∧ rowAt σ (l :: j :: q) = some zs) ∨ (∃ h0 p, L = h0 :: p ∧ h0 ≠ l ∧ h0 ≠ σ.length ∧ rowAt σ L = some zs) := by
 have hl : l < σ.length := (List.getElem?_eq_some_iff.1 hr).1
 cases L with
 | nil => simp [rowAt] at h
 | cons h0 p =>
  simp only [rowAt, grow_get hl] at h
  by_cases e : h0 = l
  ·rw [if_pos e] at h; simp [Root.cells] at h
  ·rw [if_neg e] at h
   by_cases e2 : h0 = σ.length
   ·subst e2
    simp only [if_true, Root.cells] at h
    cases p with
    | nil => simp only [sub, Option.some.injEq] at h; exact .inl ⟨rfl, h.symm⟩
    | cons j q => exact .inr (.inl ⟨j, q, rfl, by simp only [rowAt, hr, Root.cells]; exact sub_app hp h⟩)
   ·rw [if_neg e2] at h
    exact .inr (.inr ⟨h0, p, rfl, e, e2, by simpa only [rowAt] using h⟩)
theorem isBox_growX {σ : Store} {l : Nat} {zs : List A} (hl : l < σ.length) {h0 : Nat} (h1 : h0 ≠ l) (p : List Nat) : isBox (σ.set l .dead ++ [.box zs]) (h0 :: p) = if h0 = σ.length then (match p with | [] => true | _ => false) else isBox σ (h0 :: p) := by
 cases p with
 | cons j p => simp [isBox]
 | nil =>
  simp only [isBox, grow_get hl, if_neg h1]
  by_cases e : h0 = σ.length
  ·rw [if_pos e, if_pos e]
  ·rw [if_neg e, if_neg e]
structure GrowsX (F : Nat → Prop) (Λ : Lbl) (σ : Store) (w w' : World) (l : Nat) (xs ys : List A) (lab : Option (Nat × Nat)) : Prop where
  row : σ[l]? = some (.box xs)
  plain : ∀ x ∈ ys, x.plain = true
  os : OsLe w w'
  tape : w'.tape = w.tape
  output : w'.output = w.output
  size : w.heap.size ≤ w'.heap.size
  sizes : Sizes w w'
  keep : ∀ b, b < w.heap.size → (∀ o, Λ [l] ≠ some (b, o)) → w'.heap[b]? = w.heap[b]?
  new : (lab = none ∧ xs ++ ys = []) ∨ ∃ b o cs t, lab = some (b, o) ∧ ¬ F b ∧ (w.heap.size ≤ b ∨ Λ [l] = some (b, o)) ∧ w'.heap[b]? = some (.cells cs t (0, 0)) ∧
    ∀ j x, (xs ++ ys)[j]? = some x → ∃ c, cs[o + j]? = some c ∧ Cell F Λ w true [l, j] c x
theorem GrowsX.ext {F Λ σ w w' l xs ys lab} (hs : St F Λ σ w) (h : GrowsX F Λ σ w w' l xs ys lab) : ∀ L b o, Λ L = some (b, o) → apL Λ l σ.length lab L = some (b, o) := fun L b o hL => by
 cases L with
 | nil => exact hL
 | cons h0 p =>
  simp only [apL]
  rw [if_neg ?_]
  ·exact hL
  ·rintro rfl
   rw [hs.lab (σ.length :: p) (by simp)] at hL; cases hL
theorem GrowsX.frozen {F Λ σ w w' l xs ys lab} (hs : St F Λ σ w) (h : GrowsX F Λ σ w w' l xs ys lab) : ∀ b, F b → F b ∧ w'.heap[b]? = w.heap[b]? := fun b hb => ⟨hb, h.keep b (hs.old b hb) fun o hL => hs.notOwn hb ⟨[l], xs, o, by simp only [rowAt, h.row, Root.cells, sub], hL⟩⟩
theorem GrowsX.st {F Λ σ w w' l xs ys lab} (hs : St F Λ σ w) (h : GrowsX F Λ σ w w' l xs ys lab) : St F (apL Λ l σ.length lab) (σ.set l .dead ++ [.box (xs ++ ys)]) w' := by
  have hl : l < σ.length := (List.getElem?_eq_some_iff.1 h.row).1
  have hrow : rowAt σ [l] = some xs := by simp only [rowAt, h.row, Root.cells, sub]
  have hF := h.frozen hs
  have hext := h.ext hs
  have other : ∀ L zs, rowAt σ L = some zs → L ≠ [l] → ∀ b o, Λ L = some (b, o) → w'.heap[b]? = w.heap[b]? := fun L zs hL hne b o hb =>
    h.keep b (hs.owns ⟨L, zs, o, hL, hb⟩) fun o' h' => hne (hs.apart _ _ _ _ _ _ _ hL hrow hb h')
  refine ⟨fun L zs hz => ?_, fun L zs L' zs' b o o' h1 h2 h3 h4 => ?_, fun b hb => Nat.lt_of_lt_of_le (hs.old b hb) h.size, hs.tab.mono hF, fun L hL => ?_⟩
  · rcases rowAt_growX h.row h.plain hz with ⟨rfl, rfl⟩ | ⟨j, q, rfl, h1⟩ | ⟨h0, p, rfl, h1, h2, h3⟩
    · have e : apL Λ l σ.length lab [σ.length] = lab := by simp [apL]
      rw [e]
      rcases h.new with h4 | ⟨b, o, cs, t, h4, h5, _, h6, h7⟩
      · exact .inl h4
      · refine .inr ⟨b, o, cs, t, h4, h5, h6, fun j x hx => ?_⟩
        obtain ⟨c, h8, h9⟩ := h7 j x hx
        refine ⟨c, h8, ?_⟩
        rw [isBox_growX hl (by omega), if_pos rfl]
        have h9 := h9.mono hF h.sizes
        exact h9.path (fun a n k v hv => hv.imp id fun ⟨b, o, cap, g1, g2⟩ => ⟨b, o, cap, by simpa [apL] using g1, g2⟩) hext
    · have e : apL Λ l σ.length lab (σ.length :: j :: q) = Λ (l :: j :: q) := by simp [apL]
      rw [e]
      rcases hs.row _ _ h1 with h4 | ⟨b, o, cs, t, h4, h5, h6, h7⟩
      · exact .inl h4
      · refine .inr ⟨b, o, cs, t, h4, h5, by rw [other _ _ h1 (by simp) b o h4]; exact h6, fun i x hx => ?_⟩
        obtain ⟨c, h8, h9⟩ := h7 i x hx
        refine ⟨c, h8, ?_⟩
        have h9 := h9.mono hF h.sizes
        exact h9.unbox fun a n k v hv => hv.imp id fun ⟨b, o, cap, g1, g2⟩ => ⟨b, o, cap, by simpa [apL] using g1, g2⟩
    · have e : apL Λ l σ.length lab (h0 :: p) = Λ (h0 :: p) := by simp [apL, h2]
      rw [e]
      rcases hs.row _ _ h3 with h4 | ⟨b, o, cs, t, h4, h5, h6, h7⟩
      · exact .inl h4
      · refine .inr ⟨b, o, cs, t, h4, h5, by rw [other _ _ h3 (by simp [h1]) b o h4]; exact h6, fun i x hx => ?_⟩
        obtain ⟨c, h8, h9⟩ := h7 i x hx
        refine ⟨c, h8, ?_⟩
        rw [isBox_growX hl h1, if_neg h2]
        exact (h9.mono hF h.sizes).ext hext
  · have key : ∀ L zs b o, rowAt (σ.set l .dead ++ [.box (xs ++ ys)]) L = some zs → apL Λ l σ.length lab L = some (b, o) →
        (L = [σ.length] ∧ w.heap.size ≤ b) ∨ ∃ h0 p us, L = (if h0 = l then σ.length else h0) :: p ∧ h0 ≠ σ.length ∧ rowAt σ (h0 :: p) = some us ∧ Λ (h0 :: p) = some (b, o) := fun L zs b o hz hb => by
      rcases rowAt_growX h.row h.plain hz with ⟨rfl, rfl⟩ | ⟨j, q, rfl, h1⟩ | ⟨h0, p, rfl, h1, h2, h3⟩
      · have e : apL Λ l σ.length lab [σ.length] = lab := by simp [apL]
        rw [e] at hb
        rcases h.new with ⟨h4, _⟩ | ⟨b', o', cs, t, h4, h5, h6, _⟩
        · rw [h4] at hb; cases hb
        · rw [h4] at hb; cases hb
          rcases h6 with h6 | h6
          · exact .inl ⟨rfl, h6⟩
          · exact .inr ⟨l, [], xs, by rw [if_pos rfl], by omega, hrow, h6⟩
      · exact .inr ⟨l, j :: q, zs, by rw [if_pos rfl], by omega, h1, by simpa [apL] using hb⟩
      · exact .inr ⟨h0, p, zs, by rw [if_neg h1], h2, h3, by simpa [apL, h2] using hb⟩
    rcases key _ _ _ _ h1 h3 with ⟨g1, g2⟩ | ⟨a, p, us, rfl, ga, g1, g2⟩ <;> rcases key _ _ _ _ h2 h4 with ⟨g3, g4⟩ | ⟨a', p', us', rfl, ga', g3, g4⟩
    · rw [g1, g3]
    · have := hs.owns ⟨_, _, _, g3, g4⟩; omega
    · have := hs.owns ⟨_, _, _, g1, g2⟩; omega
    · have := hs.apart _ _ _ _ _ _ _ g1 g3 g2 g4
      simp only [List.cons.injEq] at this
      obtain ⟨rfl, rfl⟩ := this
      rfl
  · cases L with
    | nil => simp at hL
    | cons h0 p =>
      simp only [List.headD_cons, List.length_append, List.length_set, List.length_cons, List.length_nil] at hL
      simp only [apL]
      rw [if_neg (by omega)]
      exact hs.lab (h0 :: p) (by simp; omega)
theorem GrowsX.step {m F Λ σ w w' l xs ys lab} (hm : m ≤ l) (hs : St F Λ σ w) (h : GrowsX F Λ σ w w' l xs ys lab) : Step m F Λ σ w F (apL Λ l σ.length lab) (σ.set l .dead ++ [.box (xs ++ ys)]) w' := by
  have hl : l < σ.length := (List.getElem?_eq_some_iff.1 h.row).1
  have hrow : rowAt σ [l] = some xs := by simp only [rowAt, h.row, Root.cells, sub]
  exact { os := h.os, tape := h.tape, output := h.output, size := h.size, sizes := h.sizes
          keep := fun b hb hno => h.keep b hb fun o ho => hno ⟨[l], xs, o, hrow, ho⟩
          mono := fun _ h => h, new := fun _ h => .inl h
          own := fun b ⟨L, zs, o, h1, h2⟩ => by
            rcases rowAt_growX h.row h.plain h1 with ⟨rfl, rfl⟩ | ⟨j, q, rfl, h3⟩ | ⟨h0, p, rfl, h3, h4, h5⟩
            · have e : apL Λ l σ.length lab [σ.length] = lab := by simp [apL]
              rw [e] at h2
              rcases h.new with ⟨h4, _⟩ | ⟨b', o', cs, t, h4, h5, h6, _⟩
              · rw [h4] at h2; cases h2
              · rw [h4] at h2; cases h2
                rcases h6 with h6 | h6
                · exact .inr h6
                · exact .inl ⟨[l], xs, _, hrow, h6⟩
            · exact .inl ⟨_, zs, o, h3, by simpa [apL] using h2⟩
            · exact .inl ⟨_, zs, o, h5, by simpa [apL, h4] using h2⟩
          len := by simp; omega
          kept := fun L b o _ hL => h.ext hs L b o hL
          boxes := fun a us hlt ha => by
            have e1 : a ≠ l := by omega
            have e2 : a ≠ σ.length := by rintro rfl; simp at ha
            exact ⟨by simp [apL, e2], us, by rw [grow_get hl, if_neg e1, if_neg e2]; exact ha⟩ }
theorem GrowsX.fr {F Λ σ w w' l xs ys lab tmps E} (hs : St F Λ σ w) (h : GrowsX F Λ σ w w' l xs ys lab) (hf : FrOK F Λ w tmps E) : FrOK F (apL Λ l σ.length lab) w' tmps E :=
 (hf.mono (h.frozen hs) h.sizes).ext (h.ext hs)
section
variable {P : Program} {n m : Nat} {N : Env → Store → Prop} {E : Env} {σ : Store} {o : Oper} {ops : Array Oper} {os : List Oper}
theorem TOp_appendX {t e k l nn mm by_ : Nat} {x y : Operand} {zs : List Value} {xs ys : List A} (hT : SlT P t e k) (hz : ZeroT P e zs) (hzk : zs.length = k) (hby : (P.info? e).map (·.bytes) = some by_)
  (h : o.op = .call { callee := .builtin .append, args := #[x, y], argTypes := #[t, t] }) (hd : dstOK n o.dst = true) (hx : val E x = .m [l] 0 nn k) (hr : σ[l]? = some (.box xs)) (hl : xs.length = nn * k)
  (hsrc : SrcA P E σ y mm k ys) (hc : boxAllB ys = true) (hml : m ≤ l) (hm : nn + mm ≤ 9223372036854775807) (hb : (nn + mm) * by_ ≤ 140737488355328)
  (hN : N (put E o.dst (.m [σ.length] 0 (nn + mm) k)) (σ.set l .dead ++ [.box (xs ++ ys)])) : TOp P n m o N E σ := fun F Λ w tmps K Q hn hs hf hk => by
 obtain ⟨⟨inf, z, h1, h2, h3⟩, h4⟩ := hz
 have hbytes : inf.bytes = by_ := by simpa [h1] using hby
 have hsize : inf.size = k := by obtain ⟨i2, g1, g2⟩ := hT.i; rw [h1] at g1; cases g1; exact g2
 have hzc : z.cells.size = k := by rw [← hzk, ← h3]; simp
 have hk0 := hT.pos
 obtain ⟨hyl, hsrc⟩ := hsrc
 obtain ⟨ax, c, news, hy, hnl, hrun, hcells⟩ := hsrc F Λ w tmps hs hf
 have hrow : rowAt σ [l] = some xs := by simp only [rowAt, hr, Root.cells, sub]
 have hlt : l < σ.length := (List.getElem?_eq_some_iff.1 hr).1
 have hpl : ∀ x ∈ ys, x.plain = true := fun x hx => inBox_plain (boxAll hc x hx)
 have hcell : ∀ (j : Nat) x, ys[j]? = some x → ∃ u, news[j]? = some u ∧ ∀ L, Cell F Λ w true L u x := fun j x hx => by
  obtain ⟨u, g1, g2⟩ := hcells j x hx
  exact ⟨u, g1, fun L => .ofBox (boxAll hc x (List.mem_of_getElem? hx)) g2⟩
 have h1c : ∀ u ∈ news, u.oneCell' = true := fun u hu => by
  obtain ⟨j, hj⟩ := List.getElem?_of_mem hu
  have hjl : j < ys.length := by have := (List.getElem?_eq_some_iff.1 hj).1; omega
  obtain ⟨u', g1, g2⟩ := hcells j _ (List.getElem?_eq_getElem hjl)
  rw [hj] at g1; cases g1
  exact oneCell_sc (g2.cells1 (boxAll hc _ (List.getElem_mem hjl))).2
 have fin : ∀ (lab : Option (Nat × Nat)) (w' : World) (v : Value), (Builtin.append_ #[t, t] o.type #[Act.eval ⟨tmps, []⟩ x, .slice ax mm c]).run P w = .ok v w' → GrowsX F Λ σ w w' l xs ys lab → OK F (apL Λ l σ.length lab) w' v (.m [σ.length] 0 (nn + mm) k) → o.wp P ⟨tmps, []⟩ w K Q := fun lab w' v hr' hg hv => by
  obtain ⟨tmps', e', hn', hf'⟩ := (hg.fr hs hf).putO (ds := []) hn hd hv
  unfold Oper.wp execOp
  simp only [h, resolve, invoke, builtin, Sem.run_bind, Sem.run_pure, Result.andThen_ok, List.map_toArray, List.map_cons, List.map_nil, hy, hr']
  show K (Act.put ⟨tmps, []⟩ o.dst v) w'
  rw [e']
  exact hk F _ _ w' tmps' _ hn' (hg.st hs) hf' (hg.step hml hs) hN
 have grow : ∀ (ad : Option Addr) (cap : Nat) (olds : List Value), Act.eval ⟨tmps, []⟩ x = .slice ad nn cap → olds.length = nn * k → (∀ w' : World, w'.heap = w.heap → (Builtin.firstCells k nn (.slice ad nn cap)).run P w' = .ok olds.toArray w') →
   (∀ (j : Nat) x, xs[j]? = some x → ∃ u, olds[j]? = some u ∧ Cell F Λ w true [l, j] u x) → cap < nn + mm → o.wp P ⟨tmps, []⟩ w K Q := fun ad cap olds hv hol hold hoc hcap => by
  subst hsize hbytes
  have hge := grownCap_ge w (nn + mm) cap e
  have hcm : grownCap w (nn + mm) cap e ≤ maxLen := grownCap_le_maxLen w (nn + mm) cap e (by simp only [maxLen]; omega)
  have hsz : (olds.toArray ++ news.toArray ++ Builtin.zeroCells z.cells (grownCap w (nn + mm) cap e - (nn + mm))).size = grownCap w (nn + mm) cap e * inf.size := by
   simp only [Array.size_append, List.size_toArray, size_zeroCells, hzc, hol, hnl, ← Nat.add_mul]
   congr 1; omega
  refine fin (some (w.heap.size, 0)) _ _ (by rw [hv]; exact run_append_new w t o.type e inf z hT.u h1 h2 ad nn cap olds (hold _ rfl) ax mm c news (hrun _ rfl) hcap (by omega) (growslice_fits hcap hb)) ?_ ?_
  ·refine ⟨hr, hpl, ⟨rfl, fun _ => by first | exact Nat.le_refl _ | exact Nat.le_succ _⟩, rfl, rfl, by simp, Sizes.alloc w.drew _, fun b hb _ => (by first | exact Go.heap_alloc_old w.drew _ b hb | exact Go.heap_alloc_old w.drew _ hb), .inr ⟨w.heap.size, 0, _, e, rfl, fun hb => absurd (hs.old _ hb) (by omega), .inl (Nat.le_refl _), Go.heap_alloc_new w.drew _, fun j x hx => ?_⟩⟩
   rw [Nat.zero_add]
   by_cases hj : j < xs.length
   ·rw [List.getElem?_append_left hj] at hx
    obtain ⟨u, g1, g2⟩ := hoc j x hx
    refine ⟨u, ?_, g2⟩
    rw [Array.getElem?_append_left (by simp; omega), Array.getElem?_append_left (by simp; omega)]
    simpa using g1
   ·rw [List.getElem?_append_right (by omega)] at hx
    obtain ⟨u, g1, g2⟩ := hcell _ x hx
    refine ⟨u, ?_, g2 _⟩
    have := (List.getElem?_eq_some_iff.1 g1).1
    rw [Array.getElem?_append_left (by simp; omega), Array.getElem?_append_right (by simp; omega)]
    simpa [hol, hl] using g1
  ·exact .m (.inr ⟨w.heap.size, 0, _, by simp [apL], by simp, hge, hcm, _, e, heap_alloc_new w.drew _, by rw [hsz]; simp⟩)
 have e1 := val_ok (ds := []) hf x
 rw [hx] at e1
 rcases e1.m_inv with ⟨rfl, ad, g1⟩ | ⟨b, o', cap, g1, g2, g3, g4, cs, te, g5, g6⟩
 ·have hxs : xs = [] := List.eq_nil_of_length_eq_zero (by omega)
  subst hxs
  by_cases hm0 : mm = 0
  ·subst hm0
   have hys : ys = [] := List.eq_nil_of_length_eq_zero (by omega)
   subst hys
   refine fin none w (.slice ad 0 0) (by rw [g1]; exact run_append_empty w t o.type e inf hT.u h1 ad ax c) ⟨hr, hpl, ⟨rfl, fun _ => by first | exact Nat.le_refl _ | exact Nat.le_succ _⟩, rfl, rfl, Nat.le_refl _, Sizes.refl _, fun _ _ _ => rfl, .inl ⟨rfl, rfl⟩⟩ (.m (.inl ⟨rfl, ad, rfl⟩))
  ·exact grow ad 0 [] g1 (by simp) (fun w' _ => firstCells_zero w' k ad 0) (by simp) (by omega)
 ·have hold : ∀ (j : Nat) x, xs[j]? = some x → ∃ u, w.cell? ⟨b, o' + 0 + j, none⟩ = some u ∧ Cell F Λ w true [l, j] u x := fun j x hx => by
   obtain ⟨u, k1, k2⟩ := hs.cellAt hrow g1 hx
   rw [show isBox σ [l] = true by simp [isBox, hr]] at k2
   exact ⟨u, k1, k2⟩
  by_cases hroom : nn + mm ≤ cap
  ·subst hsize hbytes
   have hfit : o' + 0 + nn * inf.size + news.length ≤ cs.size := by
    have : (nn + mm) * inf.size ≤ cap * inf.size := Nat.mul_le_mul_right _ hroom
    rw [Nat.add_mul] at this; omega
   have hbr := setRow_heap w b cs (cs.toList.take (o' + 0 + nn * inf.size) ++ news ++ cs.toList.drop (o' + 0 + nn * inf.size + news.length)).toArray te (0, 0) g5
   have hsz : (cs.toList.take (o' + 0 + nn * inf.size) ++ news ++ cs.toList.drop (o' + 0 + nn * inf.size + news.length)).length = cs.size := by
    simp only [List.length_append, List.length_take, List.length_drop, Array.length_toList]; omega
   refine fin (some (b, o')) _ _ (by rw [g2]; exact run_append_in w t o.type e inf hT.u h1 b (o' + 0) nn cap cs te g5 ax mm c news (hrun w rfl) h1c hroom hfit) ?_ ?_
   ·refine ⟨hr, hpl, ⟨rfl, fun _ => by first | exact Nat.le_refl _ | exact Nat.le_succ _⟩, rfl, rfl, by simp [World.setRow], fun b2 cs2 t2 hb2 => ?_, fun b2 hb2 hne => setRow_other w b b2 _ (by rintro rfl; exact hne o' g1), .inr ⟨b, o', _, te, rfl, fun hb2 => hs.notOwn hb2 ⟨[l], xs, o', hrow, g1⟩, .inr g1, hbr, fun j x hx => ?_⟩⟩
    ·by_cases e2 : b2 = b
     ·subst e2
      rw [g5] at hb2; cases hb2
      exact ⟨_, hbr, by simpa using hsz⟩
     ·exact ⟨cs2, by rw [setRow_other w b b2 _ e2]; exact hb2, rfl⟩
    ·by_cases hj : j < xs.length
     ·rw [List.getElem?_append_left hj] at hx
      obtain ⟨u, k1, k2⟩ := hold j x hx
      refine ⟨u, ?_, k2⟩
      rw [cell_of_row w b _ cs te (0, 0) g5] at k1
      simp only [List.getElem?_toArray]
      rw [List.append_assoc, List.getElem?_append_left (by simp; omega), List.getElem?_take_of_lt (by omega)]
      simpa using k1
     ·rw [List.getElem?_append_right (by omega)] at hx
      obtain ⟨u, k1, k2⟩ := hcell _ x hx
      refine ⟨u, ?_, k2 _⟩
      have hjj := (List.getElem?_eq_some_iff.1 k1).1
      simp only [List.getElem?_toArray]
      rw [List.append_assoc, List.getElem?_append_right (by simp; omega), List.getElem?_append_left (by simp; omega), ← k1]
      congr 1
      simp only [List.length_take, Array.length_toList]
      omega
   ·exact .m (.inr ⟨b, o', cap, by simp [apL], rfl, hroom, g4, _, te, hbr, by simp only [List.size_toArray, hsz]; exact g6⟩)
  ·obtain ⟨olds, k1, k2⟩ := cellAt_news (w := w) (fun j x hx => (hold j x hx).imp fun c h => h.1) hl
   refine grow _ cap olds g2 k1 (run_news k1 k2) (fun j x hx => ?_) (by omega)
   obtain ⟨u, k3, k4⟩ := hold j x hx
   obtain ⟨u', k5, k6⟩ := k2 j (by have := (List.getElem?_eq_some_iff.1 hx).1; omega)
   rw [k3] at k6; cases k6
   exact ⟨_, k5, k4⟩
end
def rowB (xs : List A) : Bool := xs.all fun x => match x with
 | .o _ _ => true
 | .j => true
 | x => x.inCell
theorem St.rekind {F Λ σ w} (hs : St F Λ σ w) {l : Nat} {r r' : Root} {xs : List A} (hr : σ[l]? = some r) (h1 : r.cells = some xs) (h2 : r'.cells = some xs) (hc : ∀ c x, x ∈ xs → ∀ L, Cell F Λ w (isB r) L c x → Cell F Λ w (isB r') L c x) : St F Λ (σ.set l r') w := by
 have hl : l < σ.length := (List.getElem?_eq_some_iff.1 hr).1
 have e : ∀ L ys, rowAt (σ.set l r') L = some ys → rowAt σ L = some ys := fun L ys h => by
  cases L with
  | nil => simp [rowAt] at h
  | cons h0 p =>
   simp only [rowAt, List.getElem?_set] at h ⊢
   by_cases e : l = h0
   ·subst e; rw [if_pos rfl, if_pos hl] at h; rw [hr]; simpa only [h1, h2] using h
   ·rw [if_neg e] at h; exact h
 refine ⟨fun L ys h => ?_, fun L ys L' ys' b o o' g1 g2 => hs.apart L ys L' ys' b o o' (e _ _ g1) (e _ _ g2), hs.old, hs.tab, fun L h => hs.lab L (by simpa using h)⟩
 refine (hs.row L ys (e _ _ h)).imp id fun ⟨b, o, cs, t, g1, g2, g3, g4⟩ => ⟨b, o, cs, t, g1, g2, g3, fun j x hj => (g4 j x hj).imp fun c hcc => ⟨hcc.1, ?_⟩⟩
 have h5 := hcc.2
 by_cases e2 : L = [l]
 ·subst e2
  have hy := e _ _ h
  simp only [rowAt, hr, h1, sub, Option.some.injEq] at hy
  subst hy
  have b1 : isBox σ [l] = isB r := by simp [isBox_one, hr]
  have b2 : isBox (σ.set l r') [l] = isB r' := by simp [isBox_one, hl]
  rw [b1] at h5; rw [b2]
  exact hc c x (List.mem_of_getElem? hj) _ h5
 ·have : isBox (σ.set l r') L = isBox σ L := by
   match L, e2 with
   | [], _ => rfl
   | [h0], e2 =>
    have : l ≠ h0 := fun e => e2 (by rw [e])
    simp only [isBox, List.getElem?_set_ne this]
   | _ :: _ :: _, _ => rfl
  rw [this]; exact h5
theorem Step.rekind {m F Λ σ w} {l : Nat} {r r' : Root} {xs : List A} (hr : σ[l]? = some r) (h1 : r.cells = some xs) (h2 : r'.cells = some xs) (hm : m ≤ l) : Step m F Λ σ w F Λ (σ.set l r') w := by
  have hl : l < σ.length := (List.getElem?_eq_some_iff.1 hr).1
  have e : ∀ L ys, rowAt (σ.set l r') L = some ys → rowAt σ L = some ys := fun L ys h => by
    cases L with
    | nil => simp [rowAt] at h
    | cons h0 p =>
      simp only [rowAt, List.getElem?_set] at h ⊢
      by_cases e : l = h0
      · subst e; rw [if_pos rfl, if_pos hl] at h; rw [hr]; simpa only [h1, h2] using h
      · rw [if_neg e] at h; exact h
  exact { os := ⟨rfl, fun _ => by first | exact Nat.le_refl _ | exact Nat.le_succ _⟩, tape := rfl, output := rfl, size := Nat.le_refl _, sizes := Sizes.refl _, keep := fun _ _ _ => rfl, mono := fun _ h => h, new := fun _ h => .inl h
          own := fun b ⟨L, ys, o, g1, g2⟩ => .inl ⟨L, ys, o, e _ _ g1, g2⟩
          len := by rw [List.length_set]; exact Nat.min_le_right _ _
          boxes := fun a us ha hu => ⟨rfl, us, by rw [List.getElem?_set_ne (by omega)]; exact hu⟩
          kept := fun _ _ _ _ h => h }
theorem Cell.boxed {F Λ w L c x} (h : Cell F Λ w false L c x) : Cell F Λ w true L c x := by
 cases x with
 | j => trivial
 | o k ys => exact h
 | _ => exact ⟨by rw [if_pos rfl]; exact inCell_inBox (by have h1 := h.1; rwa [if_neg (by simp)] at h1), h.2⟩
theorem Cell.rowed {F Λ w L c x} (hx : (match x with | .o _ _ => true | .j => true | x => x.inCell) = true) (h : Cell F Λ w true L c x) : Cell F Λ w false L c x := by
 cases x with
 | j => trivial
 | o k ys => exact h
 | _ => exact ⟨by rw [if_neg (by simp)]; exact hx, h.2⟩
def pre (s j : Nat) (L : List Nat) : Bool := match L with
 | h :: i :: _ => h == s && i == j
 | _ => false
def nmE (p : List Nat → Bool) : Env → Bool
 | [] => false
 | (_, a) :: E => a.names p || nmE p E
theorem nmE_lk {p : List Nat → Bool} : ∀ {E : Env}, nmE p E = false → ∀ t, (lk E t).names p = false
 | [], _, t => rfl
 | (u, a) :: E, h, t => by
  simp only [nmE, Bool.or_eq_false_iff] at h
  simp only [lk]; split
  ·exact h.1
  ·exact nmE_lk h.2 t
def nmS (p : List Nat → Bool) : Store → Bool
 | [] => false
 | .box xs :: σ => namesL p xs || nmS p σ
 | .row _ :: σ => nmS p σ
 | .dead :: σ => nmS p σ
theorem nmS_box {p : List Nat → Bool} : ∀ {σ : Store}, nmS p σ = false → ∀ xs, Root.box xs ∈ σ → namesL p xs = false
 | [], _, xs, h => by cases h
 | .box ys :: σ, hb, xs, h => by
  simp only [nmS, Bool.or_eq_false_iff] at hb
  rcases List.mem_cons.1 h with h | h
  ·cases h; exact hb.1
  ·exact nmS_box hb.2 xs h
 | .row _ :: σ, hb, xs, h => by
  rcases List.mem_cons.1 h with h | h
  ·cases h
  ·exact nmS_box (σ := σ) hb xs h
 | .dead :: σ, hb, xs, h => by
  rcases List.mem_cons.1 h with h | h
  ·cases h
  ·exact nmS_box (σ := σ) hb xs h
def abL (Λ : Lbl) (s j l : Nat) : Lbl := fun L => match L with
 | [] => Λ []
 | [h] => Λ [h]
 | h :: i :: q => if h = s ∧ i = j then Λ (l :: q) else Λ (h :: i :: q)
def abS (σ : Store) (s j l k : Nat) (xs ys : List A) : Store := (σ.set l .dead).set s (.box (xs.set j (.o k ys)))
section
variable {F : Nat → Prop} {Λ : Lbl} {σ : Store} {w : World} {s j l nn k : Nat} {xs ys : List A}
theorem abL_ok : ∀ L b o, pre s j L = false → Λ L = some (b, o) → abL Λ s j l L = some (b, o) := fun L b o hp hL => by
 match L with
 | [] => exact hL
 | [h] => exact hL
 | h :: i :: q =>
  simp only [pre, Bool.and_eq_false_iff, beq_eq_false_iff_ne] at hp
  simp only [abL]
  rw [if_neg (by rintro ⟨rfl, rfl⟩; simp at hp)]; exact hL
theorem rowAt_ab (hs : σ[s]? = some (.box xs)) (hl : σ[l]? = some (.row ys)) (hj : j < xs.length) (hne : s ≠ l) {L zs} (h : rowAt (abS σ s j l k xs ys) L = some zs) :
  (L = [s] ∧ zs = xs.set j (.o k ys)) ∨ (∃ q, L = s :: j :: q ∧ rowAt σ (l :: q) = some zs) ∨ (L ≠ [s] ∧ pre s j L = false ∧ hd l L = false ∧ rowAt σ L = some zs) := by
 have h1 : s < σ.length := (List.getElem?_eq_some_iff.1 hs).1
 cases L with
 | nil => simp [rowAt] at h
 | cons h0 p =>
  simp only [abS, rowAt, List.getElem?_set, List.length_set] at h
  by_cases e : s = h0
  ·subst e
   rw [if_pos rfl, if_pos h1] at h
   simp only [Root.cells] at h
   cases p with
   | nil => simp only [sub, Option.some.injEq] at h; exact .inl ⟨rfl, h.symm⟩
   | cons i q =>
    by_cases ei : j = i
    ·subst ei
     refine .inr (.inl ⟨q, rfl, ?_⟩)
     simp only [sub, List.getElem?_set_self hj] at h
     simpa only [rowAt, hl, Root.cells] using h
    ·refine .inr (.inr ⟨by simp, by simp [pre]; omega, by simp [hd]; omega, ?_⟩)
     simp only [sub, List.getElem?_set_ne ei] at h
     simpa only [rowAt, hs, Root.cells, sub] using h
  ·rw [if_neg e] at h
   by_cases e2 : l = h0
   ·subst e2
    rw [if_pos rfl] at h
    split at h
    ·rename_i r hr
     split at hr
     ·cases hr; simp [Root.cells] at h
     ·cases hr
    ·cases h
   ·rw [if_neg e2] at h
    refine .inr (.inr ⟨by simp; omega, ?_, by simp [hd]; omega, by simpa only [rowAt] using h⟩)
    cases p with
    | nil => rfl
    | cons i q => simp [pre]; omega
theorem St.absorb (h : St F Λ σ w) (hs : σ[s]? = some (.box xs)) (hl : σ[l]? = some (.row ys)) (hx : xs[j]? = some (.m [l] 0 nn k)) (hne : s ≠ l) (hk : 0 < k) (hn : ys.length = nn * k) (hb : nmS (pre s j) σ = false) : St F (abL Λ s j l) (abS σ s j l k xs ys) w := by
 have hj : j < xs.length := (List.getElem?_eq_some_iff.1 hx).1
 have hrs : rowAt σ [s] = some xs := by simp only [rowAt, hs, Root.cells, sub]
 have hls : s < σ.length := (List.getElem?_eq_some_iff.1 hs).1
 have hbx : isBox (abS σ s j l k xs ys) [s] = true := by simp [isBox, abS, hls]
 have hsb : isBox σ [s] = true := by simp [isBox, hs]
 have key : ∀ L zs, rowAt (abS σ s j l k xs ys) L = some zs → ∃ L0 us, rowAt σ L0 = some us ∧ abL Λ s j l L = Λ L0 ∧ (L = L0 ∨ ∃ q, L = s :: j :: q ∧ L0 = l :: q) ∧ (hd l L0 = true → ∃ q, L = s :: j :: q) := fun L zs h => by
  rcases rowAt_ab hs hl hj hne h with ⟨rfl, rfl⟩ | ⟨q, rfl, h1⟩ | ⟨h1, h2, h3, h4⟩
  ·exact ⟨[s], xs, hrs, rfl, .inl rfl, fun h => by simp [hd] at h; omega⟩
  ·exact ⟨l :: q, zs, h1, by simp [abL], .inr ⟨q, rfl, rfl⟩, fun _ => ⟨q, rfl⟩⟩
  ·refine ⟨L, zs, h4, ?_, .inl rfl, fun h => by rw [h3] at h; cases h⟩
   match L, h2 with
   | [], _ => rfl
   | [h], _ => rfl
   | h :: i :: q, h2 =>
    simp only [pre, Bool.and_eq_false_iff, beq_eq_false_iff_ne] at h2
    simp only [abL]; rw [if_neg (by rintro ⟨rfl, rfl⟩; simp at h2)]
 refine ⟨fun L zs hz => ?_, fun L zs L' zs' b o o' g1 g2 g3 g4 => ?_, h.old, h.tab, fun L hL => ?_⟩
 ·rcases rowAt_ab hs hl hj hne hz with ⟨rfl, rfl⟩ | ⟨q, rfl, h1⟩ | ⟨h1, h2, h3, h4⟩
  ·have e : abL Λ s j l [s] = Λ [s] := rfl
   rw [e, hbx]
   rcases h.row _ _ hrs with ⟨_, h5⟩ | ⟨b, o, cs, t, h5, h6, h7, h8⟩
   ·subst h5; simp at hj
   ·refine .inr ⟨b, o, cs, t, h5, h6, h7, fun i x hi => ?_⟩
    by_cases ei : j = i
    ·subst ei
     rw [List.getElem?_set_self hj] at hi; cases hi
     obtain ⟨c, g1, g2⟩ := h8 j _ hx
     rw [hsb] at g2
     refine ⟨c, g1, trivial, hk, nn, hn, ?_⟩
     have := OK.m_inv g2.2
     exact this.imp id fun ⟨b, o, cap, k1, k2⟩ => ⟨b, o, cap, by simpa [abL] using k1, k2⟩
    ·rw [List.getElem?_set_ne ei] at hi
     obtain ⟨c, g1, g2⟩ := h8 i x hi
     rw [hsb] at g2
     refine ⟨c, g1, g2.relabel (pre s j) abL_ok (by simp [pre]; omega) fun _ => ?_⟩
     exact namesL_false (nmS_box hb xs (List.mem_of_getElem? hs)) x (List.mem_of_getElem? hi)
  ·have e : abL Λ s j l (s :: j :: q) = Λ (l :: q) := by simp [abL]
   rw [e, isBox_deep]
   refine (h.row _ _ h1).imp id fun ⟨b, o, cs, t, g1, g2, g3, g4⟩ => ⟨b, o, cs, t, g1, g2, g3, fun i x hi => (g4 i x hi).imp fun c hc => ⟨hc.1, ?_⟩⟩
   have h5 := hc.2
   rw [isBox_row hl q] at h5
   exact h5.unbox fun a n k v hv => hv.imp id fun ⟨b, o, cap, k1, k2⟩ => ⟨b, o, cap, by simpa [abL] using k1, k2⟩
  ·obtain ⟨L0, us, k1, k2, k3, k4⟩ := key L zs hz
   have hL0 : L = L0 := by
    rcases k3 with k3 | ⟨q, rfl, _⟩
    ·exact k3
    ·simp [pre] at h2
   subst hL0
   rw [k2]
   have hib : isBox (abS σ s j l k xs ys) L = isBox σ L := by
    match L, h1, h3 with
    | [], _, _ => rfl
    | [h0], h1, h3 =>
     have e1 : s ≠ h0 := fun e => h1 (by rw [e])
     have e2 : l ≠ h0 := fun e => by simp [hd, e] at h3
     simp only [isBox, abS, List.getElem?_set_ne e1, List.getElem?_set_ne e2]
    | _ :: _ :: _, _, _ => rfl
   rw [hib]
   refine (h.row _ _ h4).imp id fun ⟨b, o, cs, t, g1, g2, g3, g4⟩ => ⟨b, o, cs, t, g1, g2, g3, fun i x hi => (g4 i x hi).imp fun c hc => ⟨hc.1, ?_⟩⟩
   by_cases hbL : isBox σ L = true
   ·match L, hbL, h4, hc.2 with
    | [h0], hbL, h4, h5 =>
     refine h5.relabel (pre s j) abL_ok ?_ fun _ => ?_
     ·have : h0 ≠ s := fun e => h1 (by rw [e])
      simp [pre, this]
     ·simp only [isBox] at hbL
      split at hbL
      ·rename_i us2 hu
       simp only [rowAt, hu, Root.cells, sub, Option.some.injEq] at h4
       subst h4
       exact namesL_false (nmS_box hb us2 (List.mem_of_getElem? hu)) x (List.mem_of_getElem? hi)
      ·cases hbL
    | [], hbL, _, _ => cases hbL
    | _ :: _ :: _, hbL, _, _ => cases hbL
   ·have hbf : isBox σ L = false := by simpa using hbL
    have h5 := hc.2
    rw [hbf] at h5 ⊢
    refine h5.unbox fun a n k v hv => hv.imp id fun ⟨b, o, cap, k1, k2⟩ => ⟨b, o, cap, abL_ok _ _ _ ?_ k1, k2⟩
    match L, h1, h2 with
    | [], _, _ => rfl
    | [h0], h1, _ =>
     have : h0 ≠ s := fun e => h1 (by rw [e])
     simp [pre, this]
    | h0 :: i0 :: q, _, h2 => simpa [pre] using h2
 ·obtain ⟨A0, us, a1, a2, a3, a4⟩ := key _ _ g1
  obtain ⟨B0, us', b1, b2, b3, b4⟩ := key _ _ g2
  rw [a2] at g3; rw [b2] at g4
  have := h.apart _ _ _ _ _ _ _ a1 b1 g3 g4
  subst this
  rcases a3 with rfl | ⟨q, rfl, rfl⟩
  ·rcases b3 with rfl | ⟨q, rfl, rfl⟩
   ·rfl
   ·obtain ⟨q', e⟩ := a4 (by simp [hd])
    simp only [List.cons.injEq] at e
    exact absurd e.1.symm hne
  ·rcases b3 with rfl | ⟨q', rfl, e⟩
   ·obtain ⟨q', e⟩ := b4 (by simp [hd])
    simp only [List.cons.injEq] at e
    exact absurd e.1.symm hne
   ·simp only [List.cons.injEq, true_and] at e; rw [e]
 ·have hlen : (abS σ s j l k xs ys).length = σ.length := by simp [abS]
  rw [hlen] at hL
  match L, hL with
  | [], hL => exact h.lab [] hL
  | [h0], hL => exact h.lab [h0] hL
  | h0 :: i0 :: q, hL =>
   simp only [List.headD_cons] at hL
   simp only [abL]; rw [if_neg (by rintro ⟨rfl, _⟩; omega)]
   exact h.lab _ (by simpa using hL)
theorem Step.absorb {m : Nat} (h : St F Λ σ w) (hs : σ[s]? = some (.box xs)) (hl : σ[l]? = some (.row ys)) (hx : xs[j]? = some (.m [l] 0 nn k)) (hne : s ≠ l) (hms : m ≤ s) (hml : m ≤ l) : Step m F Λ σ w F (abL Λ s j l) (abS σ s j l k xs ys) w := by
  have hj : j < xs.length := (List.getElem?_eq_some_iff.1 hx).1
  have hrs : rowAt σ [s] = some xs := by simp only [rowAt, hs, Root.cells, sub]
  exact { os := ⟨rfl, fun _ => by first | exact Nat.le_refl _ | exact Nat.le_succ _⟩, tape := rfl, output := rfl, size := Nat.le_refl _, sizes := Sizes.refl _, keep := fun _ _ _ => rfl, mono := fun _ h => h, new := fun _ h => .inl h
          own := fun b ⟨L, zs, o, g1, g2⟩ => by
            rcases rowAt_ab hs hl hj hne g1 with ⟨rfl, rfl⟩ | ⟨q, rfl, h1⟩ | ⟨h1, h2, h3, h4⟩
            · exact .inl ⟨[s], xs, o, hrs, g2⟩
            · exact .inl ⟨l :: q, zs, o, h1, by simpa [abL] using g2⟩
            · refine .inl ⟨L, zs, o, h4, ?_⟩
              match L, h2, g2 with
              | [], _, g2 => exact g2
              | [_], _, g2 => exact g2
              | h0 :: i0 :: q, h2, g2 =>
                simp only [pre, Bool.and_eq_false_iff, beq_eq_false_iff_ne] at h2
                simp only [abL] at g2; rw [if_neg (by rintro ⟨rfl, rfl⟩; simp at h2)] at g2; exact g2
          len := by simp [abS]; omega
          boxes := fun a us ha hu => ⟨rfl, us, by simp only [abS]; rw [List.getElem?_set_ne (by omega), List.getElem?_set_ne (by omega)]; exact hu⟩
          kept := fun L b o ha hL => by
            match L, ha, hL with
            | [], _, hL => exact hL
            | [_], _, hL => exact hL
            | h0 :: i0 :: q, ha, hL =>
              simp only [List.headD_cons] at ha
              simp only [abL]; rw [if_neg (by rintro ⟨rfl, _⟩; omega)]; exact hL }
end
section
variable {P : Program} {n m : Nat} {K : Exit → Env → Store → Prop} {N : Env → Store → Prop} {E : Env} {σ : Store} {ops : Array Oper} {os : List Oper} {o : Oper}
theorem TOp_litB {t e k nn : Nat} {zs : List Value} {parts : List (Nat × Operand)} {as : List A} (hT : SlT P t e k) (hz : ZeroT P e zs) (h : o.op = .buildSlice t nn parts.toArray) (hd : dstOK n o.dst = true)
  (hfill : fillA (litPl nn k) (List.replicate (nn * k) .j) (parts.map fun p => (p.1, val E p.2)) = some as) (hc : boxAllB as = true) (hsz : nn * k ≤ 16777216)
  (hN : N (put E o.dst (.m [σ.length] 0 nn k)) (σ ++ [.box as])) : TOp P n m o N E σ := by
 obtain ⟨⟨inf, z, h1, h2, h3⟩, h4⟩ := hz
 have hsize : inf.size = k := by obtain ⟨i2, g1, g2⟩ := hT.i; rw [h1] at g1; cases g1; exact g2
 refine TOp_new (.box as) as rfl e (fun y hy => inBox_plain (boxAll hc y hy)) _ hd (fun F Λ w tmps hs hf => ?_) hN
 obtain ⟨cs', g1, g2, g3⟩ := fill_ok2 (f := fun i => some (i * k, k)) (fun i p hp => litPl_get hp) hf parts ((Array.range (nn * k)).map ((if nn * k = 0 then #[] else z.cells)[· % (if nn * k = 0 then #[] else z.cells).size]!)) (List.replicate (nn * k) .j) as (by simp) (fun j y hy => by
  have hj : j < nn * k := by have := (List.getElem?_eq_some_iff.1 hy).1; simpa using this
  rw [List.getElem?_replicate, if_pos hj] at hy
  cases hy
  exact ⟨_, Array.getElem?_eq_getElem (by simpa using hj), .j _⟩) hfill
 have hlen : as.length = nn * k := by
  have key : ∀ (parts : List (Nat × A)) (as as' : List A), fillA (litPl nn k) as parts = some as' → as'.length = as.length := fun parts => by
   induction parts with
   | nil => intro as as' h; simp only [fillA, Option.some.injEq] at h; subst h; rfl
   | cons p rest ih =>
    intro as as' h
    obtain ⟨i, a⟩ := p
    simp only [fillA] at h
    split at h
    ·split at h
     ·rw [ih _ _ h, spl_len]
     ·cases h
    ·cases h
  rw [key _ _ _ hfill]; simp
 refine ⟨cs'.toList, .slice (some ⟨w.heap.size, 0, none⟩) nn nn, fun j x hx => ?_, ?_, ?_⟩
 ·obtain ⟨c, g4, g5⟩ := g3 j x hx
  exact ⟨c, by rw [Array.getElem?_toList]; exact g4, .ofBox (boxAll hc x (List.mem_of_getElem? hx)) g5⟩
 ·simp only [execOp, h, Instr.buildSlice, run_underlying hT.u, Sem.run_bind, Result.andThen_ok, run_sizeOf' hT.i]
  rw [if_neg (by omega)]
  have hm : (parts.toArray.map fun (x : Nat × Operand) => match x with | (i, x) => (i, Act.eval ⟨tmps, []⟩ x)).toList = parts.map fun p => (p.1, Act.eval ⟨tmps, []⟩ p.2) := by simp
  have hzr : (zeroValue e).run P w = .ok z w := by simp [zeroValue, typeInfo, h1, h2]
  by_cases h0 : nn * k = 0
  ·rw [if_pos h0] at g1
   simp only [h0, if_true, Sem.run_pure, Result.andThen_ok, Sem.run_bind, hm] at g1 ⊢
   rw [g1]
   simp [newRow]
  ·rw [if_neg h0] at g1
   simp only [h0, if_false, Sem.run_pure, Sem.run_bind, hzr, Result.andThen_ok, hm]
   rw [g1]
   simp [newRow]
 ·exact .m (.inr ⟨w.heap.size, 0, nn, by simp [pushL], by simp, Nat.le_refl _, by
   have := hT.pos
   have : nn ≤ nn * k := Nat.le_mul_of_pos_right _ hT.pos
   simp only [maxLen]; omega, _, e, heap_alloc_new w _, by simp only [Array.toArray_toList, Nat.zero_add]; omega⟩)
theorem src_b {y : Operand} {mm k s : Nat} {zs : List A} (hy : val E y = .m [s] 0 mm k) (hr : σ[s]? = some (.box zs)) (hl : zs.length = mm * k) (hc : boxAllB zs = true) : SrcA P E σ y mm k zs := by
 refine ⟨hl, fun F Λ w tmps hs hf => ?_⟩
 have hrow : rowAt σ [s] = some zs := by simp only [rowAt, hr, Root.cells, sub]
 have e1 := val_ok (ds := []) hf y
 rw [hy] at e1
 rcases e1.m_inv with ⟨rfl, ad, h1⟩ | ⟨b, o', cap, h1, h2, _, _, _⟩
 ·have : zs = [] := List.eq_nil_of_length_eq_zero (by omega)
  subst this
  exact ⟨ad, 0, [], h1, by simp, fun w' _ => firstCells_zero w' k ad 0, by simp⟩
 ·have key : ∀ (j : Nat) x, zs[j]? = some x → ∃ c, w.cell? ⟨b, o' + 0 + j, none⟩ = some c ∧ OK F Λ w c x := fun j x hx => by
   obtain ⟨c, h3, h4⟩ := hs.cellAt hrow h1 hx
   refine ⟨c, h3, ?_⟩
   have hin := boxAll hc x (List.mem_of_getElem? hx)
   rw [show isBox σ [s] = true by simp [isBox, hr]] at h4
   cases x <;> first | exact h4.2 | (simp [A.inBox] at hin)
  obtain ⟨news, h6, h7⟩ := cellAt_news (w := w) (fun j x hx => (key j x hx).imp fun c h => h.1) hl
  refine ⟨_, cap, news, h2, h6, run_news h6 h7, fun j x hx => ?_⟩
  obtain ⟨c, h8, h9⟩ := h7 j (by have := (List.getElem?_eq_some_iff.1 hx).1; omega)
  obtain ⟨c', g1, g2⟩ := key j x hx
  rw [g1] at h9; cases h9
  exact ⟨_, h8, g2⟩
end
end Go.Sep
set_option linter.unusedVariables false
set_option linter.unusedSimpArgs false
namespace Go.Sep
open Go
theorem app_len {α : Type} {b : Nat} {xs ys us : List α} (h : app b xs ys = some us) : xs.length + ys.length = us.length := by rw [(app_inv h).1]; simp
theorem set_right {α : Type} (xs ys : List α) (i : Nat) (y : α) : (xs ++ ys).set (xs.length + i) y = xs ++ ys.set i y := by
 rw [List.set_append]; rw [if_neg (by omega)]; simp
section
variable {P : Program} {n m : Nat} {N : Env → Store → Prop} {E : Env} {σ : Store} {ops : Array Oper} {os : List Oper} {o : Oper}
theorem TOp_appB {α : Type} {T : Ty α} {t e l s by_ : Nat} {x y : Operand} {zs : List Value} {xs us : List α} {v : α} {cs : List A} (hT : SlT P t e T.k) (hz : ZeroT P e zs) (hzk : zs.length = T.k) (hby : (P.info? e).map (·.bytes) = some by_) (hb1 : 1 ≤ by_)
  (h : o.op = .call { callee := .builtin .append, args := #[x, y], argTypes := #[t, t] }) (hd : dstOK n o.dst = true) (hx : val E x = .m [l] 0 xs.length T.k) (hr : σ[l]? = some (.box (flat T.own xs)))
  (hy : val E y = .m [s] 0 1 T.k) (hs : σ[s]? = some (.box cs)) (hcs : cs.length = T.k) (hc : boxAllB cs = true) (ha : app by_ xs [v] = some us) (hml : m ≤ l)
  (hN : N (put E o.dst (.m [σ.length] 0 (xs.length + 1) T.k)) (σ.set l .dead ++ [.box (flat T.own xs ++ cs)])) : TOp P n m o N E σ := by
 obtain ⟨_, hb⟩ := app_inv ha
 simp only [List.length_cons, List.length_nil, Nat.zero_add] at hb
 have h63 : xs.length + 1 ≤ 9223372036854775807 := by
  have : (xs.length + 1) * 1 ≤ (xs.length + 1) * by_ := Nat.mul_le_mul_left _ hb1
  omega
 exact TOp_appendX hT hz hzk hby h hd hx hr (flat_len T.lenO xs) (src_b hy hs (by rw [hcs, Nat.one_mul]) hc) hc hml h63 hb hN
theorem rowB_own {xs : List A} (h : ownRL xs = true) : rowB xs = true := by
 simp only [rowB, List.all_eq_true]
 intro x hx
 have := ownRL_mem h x hx
 cases x <;> simp_all [ownR, A.inCell]
end
theorem St.kill {F Λ σ w} (hs : St F Λ σ w) (l : Nat) : St F Λ (σ.set l .dead) w where
 row L ys h := by
  obtain ⟨hn, h1⟩ := rowAt_kill h
  rw [isBox_kill hn]; exact hs.row L ys h1
 apart L ys L' ys' b o o' h1 h2 := hs.apart _ _ _ _ _ _ _ (rowAt_kill h1).2 (rowAt_kill h2).2
 old := hs.old
 tab := hs.tab
 lab L h := hs.lab L (by simpa using h)
theorem Step.kill {m F Λ σ w} {l : Nat} (hm : m ≤ l) : Step m F Λ σ w F Λ (σ.set l .dead) w :=
  { os := ⟨rfl, fun _ => by first | exact Nat.le_refl _ | exact Nat.le_succ _⟩, tape := rfl, output := rfl, size := Nat.le_refl _, sizes := Sizes.refl _, keep := fun _ _ _ => rfl, mono := fun _ h => h, new := fun _ h => .inl h
    own := fun b ⟨L, ys, o, g1, g2⟩ => .inl ⟨L, ys, o, (rowAt_kill g1).2, g2⟩
    len := by rw [List.length_set]; exact Nat.min_le_right _ _
    boxes := fun a us ha hu => ⟨rfl, us, by rw [List.getElem?_set_ne (by omega)]; exact hu⟩
    kept := fun _ _ _ _ h => h }
mutual
def ownLeaf : A → Bool
 | .v _ => true
 | .n => true
 | .m _ _ _ _ => true
 | .g xs => ownLeafL xs
 | .t xs => ownLeafL xs
 | .j => true
 | .i _ _ => false
 | .o _ _ => false
 | .e _ _ => false
 | .b _ _ => false
 | .q _ _ => false
 | .f _ _ => false
 | .raw _ _ => false
def ownLeafL : List A → Bool
 | [] => true
 | x :: xs => ownLeaf x && ownLeafL xs
end
theorem ownLeafL_mem {xs : List A} (h : ownLeafL xs = true) : ∀ x ∈ xs, ownLeaf x = true := by
 induction xs with
 | nil => simp
 | cons y ys ih =>
  simp only [ownLeafL, Bool.and_eq_true] at h
  intro x hx
  rcases List.mem_cons.1 hx with rfl | hx
  ·exact h.1
  ·exact ih h.2 x hx
theorem Imm.leaf {F F' : Nat → Prop} {w : World} {v : Value} {x : A} (h : Imm F w v x) (hl : ownLeaf x = true) : Imm F' w v x := by
 induction h with
 | v x => exact .v x
 | n ad => exact .n ad
 | i0 => simp [ownLeaf] at hl
 | i => simp [ownLeaf] at hl
 | q => simp [ownLeaf] at hl
 | raw => simp [ownLeaf] at hl
 | g vs xs hl' _ ih => simp only [ownLeaf] at hl; exact .g vs xs hl' fun j x y hx hy => ih j x y hx hy (ownLeafL_mem hl x (List.mem_of_getElem? hx))
 | t vs xs hl' _ ih => simp only [ownLeaf] at hl; exact .t vs xs hl' fun j x y hx hy => ih j x y hx hy (ownLeafL_mem hl x (List.mem_of_getElem? hx))
 | f => simp [ownLeaf] at hl
theorem OK.leaf {F F' : Nat → Prop} {Λ : Lbl} {w : World} {v : Value} {x : A} (h : OK F Λ w v x) (hl : ownLeaf x = true) : OK F' Λ w v x := by
 induction h with
 | imm h => exact .imm (h.leaf hl)
 | j v => exact .j v
 | m h => exact .m h
 | e => simp [ownLeaf] at hl
 | b => simp [ownLeaf] at hl
 | g vs xs hl' _ ih => simp only [ownLeaf] at hl; exact .g vs xs hl' fun j x y hx hy => ih j x y hx hy (ownLeafL_mem hl x (List.mem_of_getElem? hx))
 | t vs xs hl' _ ih => simp only [ownLeaf] at hl; exact .t vs xs hl' fun j x y hx hy => ih j x y hx hy (ownLeafL_mem hl x (List.mem_of_getElem? hx))
 | f => simp [ownLeaf] at hl
section
variable {P : Program} {n m : Nat} {N : Env → Store → Prop} {E : Env} {σ : Store} {o : Oper}
theorem TOp_callOG {g : Nat} {as as' : List A} (hc : CallOp P o E g as) (hf : frzOKL σ as) (has : fzRL σ as = as') {r0 : A} {σ0 : Store} (hF : FnO P g as' r0 σ0) (hr : isRows σ0 = true) (ho : OwnC σ0) (hlf : ownLeaf r0 = true) (hnn : r0.names (fun L => decide (L = [])) = false) (hd : dstOK n o.dst = true)
  (hN : N (put E o.dst (r0.ren (· + σ.length))) (σ ++ σ0)) : TOp P n m o N E σ := fun F Λ w tmps K Qx hn hs hfr hk => by
 obtain ⟨vs, ⟨hvl, hvs⟩, hrun⟩ := hc F Λ w tmps hfr
 unfold Oper.wp
 rw [hrun w, Oper.upon_enter]
 subst has
 refine hF (FO F Λ σ) (fun _ => none) w vs _ hs.frz ⟨by rw [fzRL_len]; exact hvl, fun j a y hx hy => ?_⟩ fun F1 Λ1 σ1 w1 v r hs1 hst hv hq => ?_
 ·rw [fzRL_get] at hx
  cases hj : as[j]? with
  | none => simp [hj] at hx
  | some u => simp [hj] at hx; subst hx; exact (hvs j u y hj hy).frz hs (frzOKL_mem hf u (List.mem_of_getElem? hj))
 ·obtain ⟨rfl, rfl⟩ := hq
  have hst' := Step.joinB (m := m) hs hst
  have hf1 : FrOK F (joinL Λ Λ1 σ.length) w1 tmps E := (hfr.mono (fun b hb => ⟨hb, hst.keep b (hs.old b hb) fun ho => ho.empty⟩) hst.sizes).ext (joinL_ext hs Λ1)
  have hv' : OK F (joinL Λ Λ1 σ.length) w1 v (r.ren (· + σ.length)) := (hv.leaf hlf).ren (fun L => decide (L = [])) _ (fun L b o hp hL => by
   cases L with
   | nil => simp at hp
   | cons h p => simp only [rh, joinL]; rw [if_neg (by omega)]; simpa using hL) hnn
  obtain ⟨tmps', e, hn2, hf2⟩ := hf1.putO (ds := []) hn hd hv'
  show K (Act.put ⟨tmps, []⟩ o.dst v) w1
  rw [e]
  exact hk F _ _ w1 tmps' _ hn2 (hs.joinB hst hs1 hr ho) hf2 hst' hN
end
end Go.Sep
set_option linter.unusedVariables false
set_option linter.unusedSimpArgs false
namespace Go.Sep
open Go
def Ghost (m : Nat) (E : Env) (σ : Store) (E' : Env) (σ' : Store) : Prop := ∀ F Λ w tmps, St F Λ σ w → FrOK F Λ w tmps E → ∃ F' Λ', St F' Λ' σ' w ∧ FrOK F' Λ' w tmps E' ∧ Step m F Λ σ w F' Λ' σ' w
theorem Ghost.weak {m E σ E' σ'} (h : WeakL m E σ E' σ') : Ghost m E σ E' σ' := fun F Λ w tmps hs hf => ⟨F, h.go hs hf⟩
theorem Ghost.trans {m E σ E1 σ1 E2 σ2} (h : Ghost m E σ E1 σ1) (h' : Ghost m E1 σ1 E2 σ2) : Ghost m E σ E2 σ2 := fun F Λ w tmps hs hf => by
 obtain ⟨F1, Λ1, h1, h2, h3⟩ := h F Λ w tmps hs hf
 obtain ⟨F2, Λ2, g1, g2, g3⟩ := h' F1 Λ1 w tmps h1 h2
 exact ⟨F2, Λ2, g1, g2, h3.trans g3⟩
theorem Ghost.move {m E σ E' σ'} (l l' : Nat) {zs} (hne : l ≠ l') (hl : l < σ.length) (hr : σ[l']? = some (.row zs)) (hb : noBox σ l = true) (hm : m ≤ l) (h : Ghost m (mvE l l' E) (mvS l l' σ) E' σ') : Ghost m E σ E' σ' :=
 Ghost.trans (fun F Λ w tmps hs hf => ⟨F, _, hs.move hne hl hr, fun t => by rw [lk_mvE]; exact mvA_ok hne (hf t), Step.move hs hne hl hr hb hm⟩) h
theorem rowAt_pad {σ : Store} {L xs} (h : rowAt (σ ++ [.dead]) L = some xs) : L.headD 0 < σ.length ∧ rowAt σ L = some xs := by
 rcases rowAt_push h with h | ⟨p, ys, rfl, h1, h2⟩
 ·exact h
 ·cases h1
theorem St.pad {F Λ σ w} (hs : St F Λ σ w) : St F Λ (σ ++ [.dead]) w where
 row L xs h := by
  obtain ⟨h1, h2⟩ := rowAt_pad h
  rw [isBox_push h1]; exact hs.row L xs h2
 apart L xs L' xs' b o o' h1 h2 := hs.apart _ _ _ _ _ _ _ (rowAt_pad h1).2 (rowAt_pad h2).2
 old := hs.old
 tab := hs.tab
 lab L h := hs.lab L (Nat.le_trans (by simp) h)
theorem Step.pad {m F Λ σ w} : Step m F Λ σ w F Λ (σ ++ [.dead]) w :=
  { os := ⟨rfl, fun _ => by first | exact Nat.le_refl _ | exact Nat.le_succ _⟩, tape := rfl, output := rfl, size := Nat.le_refl _, sizes := Sizes.refl _, keep := fun _ _ _ => rfl, mono := fun _ h => h, new := fun _ h => .inl h
    own := fun b ⟨L, xs, o, h1, h2⟩ => .inl ⟨L, xs, o, (rowAt_pad h1).2, h2⟩
    len := by simp; omega
    boxes := fun a us ha hu => ⟨rfl, us, by rw [List.getElem?_append_left (List.getElem?_eq_some_iff.1 hu).1]; exact hu⟩
    kept := fun _ _ _ _ h => h }
theorem Ghost.pad {m E σ E' σ'} (h : Ghost m E (σ ++ [.dead]) E' σ') : Ghost m E σ E' σ' :=
 Ghost.trans (fun F Λ w tmps hs hf => ⟨F, Λ, hs.pad, hf, Step.pad⟩) h
def upd (I : Nat → Bool) (i : Nat) : Nat → Bool := fun k => if k = i then true else I k
def depOf (deps : List (List Nat)) (i : Nat) : List Nat := deps.getD i []
section
variable {P : Program} {n m : Nat} {K : Exit → Env → Store → Prop} {N : Env → Store → Prop} {E : Env} {σ : Store} {ops : Array Oper} {os : List Oper} {o : Oper}
def Steps (P : Program) (n m : Nat) (deps : List (List Nat)) (Est : (Nat → Bool) → Env) (Sst : (Nat → Bool) → Store) : List Oper → Nat → Prop
 | [], _ => True
 | o :: os, i => (∀ I : Nat → Bool, I i = false → (∀ j ∈ depOf deps i, I j = true) → (∀ k, I k = true → ∀ j ∈ depOf deps k, I j = true) →
   TOp P n m o (fun E' σ' => Ghost m E' σ' (Est (upd I i)) (Sst (upd I i))) (Est I) (Sst I)) ∧ Steps P n m deps Est Sst os (i + 1)
theorem Steps.get {deps Est Sst} : ∀ {l : List Oper} {k : Nat}, Steps P n m deps Est Sst l k → ∀ i o, l[i]? = some o → ∀ I : Nat → Bool, I (k + i) = false → (∀ j ∈ depOf deps (k + i), I j = true) → (∀ k, I k = true → ∀ j ∈ depOf deps k, I j = true) →
      TOp P n m o (fun E' σ' => Ghost m E' σ' (Est (upd I (k + i))) (Sst (upd I (k + i)))) (Est I) (Sst I)
  | [], _, _, i, o, h => by simp at h
  | o' :: os, k, hs, 0, o, h => by
    simp only [List.getElem?_cons_zero, Option.some.injEq] at h; subst h; exact hs.1
  | o' :: os, k, hs, i + 1, o, h => by
    have := Steps.get hs.2 i o (by simpa using h)
    rw [show k + 1 + i = k + (i + 1) by omega] at this; exact this
theorem TOp_appY {α : Type} {T : Ty α} {f : α → List A} (hf : ∀ x, (f x).length = T.k) {t e l by_ : Nat} {x y : Operand} {zs : List Value} {xs ys us : List α} (hT : SlT P t e T.k) (hz : ZeroT P e zs) (hzk : zs.length = T.k) (hby : (P.info? e).map (·.bytes) = some by_) (hb1 : 1 ≤ by_)
  (h : o.op = .call { callee := .builtin .append, args := #[x, y], argTypes := #[t, t] }) (hd : dstOK n o.dst = true) (hx : val E x = .m [l] 0 xs.length T.k) (hr : σ[l]? = some (.row (flat f xs)))
  (hsrc : SrcA P E σ y ys.length T.k (flat f ys)) (hc : cellAllB (flat f ys) = true) (ha : app by_ xs ys = some us)
  (hN : N (put E o.dst (.m [σ.length] 0 us.length T.k)) (σ.set l .dead ++ [.row (flat f us)])) : TOp P n m o N E σ := by
 obtain ⟨rfl, hb⟩ := app_inv ha
 have h63 : xs.length + ys.length ≤ 9223372036854775807 := by
  have : (xs.length + ys.length) * 1 ≤ (xs.length + ys.length) * by_ := Nat.mul_le_mul_left _ hb1
  omega
 refine TOp_append hT hz hzk hby h hd hx hr (flat_len hf xs) hsrc hc h63 hb ?_
 rw [← List.length_append, flat_app]; exact hN
def cutI {α : Type} (xs : List α) (a b : Int) : Option (List α) := if 0 ≤ a ∧ a ≤ b ∧ b ≤ xs.length then some ((xs.take b.toNat).drop a.toNat) else none
theorem cutI_inv {α : Type} {xs ys : List α} {a b : Int} (h : cutI xs a b = some ys) : ∃ i j : Nat, a = (i : Int) ∧ b = (j : Int) ∧ i ≤ j ∧ j ≤ xs.length ∧ ys = (xs.take j).drop i ∧ ys.length = j - i := by
 unfold cutI at h
 split at h
 ·rename_i h1
  refine ⟨a.toNat, b.toNat, by omega, by omega, by omega, by omega, by simpa using h.symm, ?_⟩
  have : ys = (xs.take b.toNat).drop a.toNat := by simpa using h.symm
  rw [this]; simp; omega
 ·cases h
theorem flat_take {α : Type} {f : α → List A} {k : Nat} (hk : ∀ x, (f x).length = k) : ∀ (xs : List α) (j : Nat), flat f (xs.take j) = (flat f xs).take (j * k)
 | [], j => by simp [flat]
 | x :: xs, 0 => by simp [flat]
 | x :: xs, j + 1 => by
  simp only [List.take_succ_cons, flat, flat_take hk xs j]
  rw [Nat.succ_mul, List.take_append, List.take_of_length_le (l := f x) (by rw [hk]; omega), hk, Nat.add_sub_cancel]
theorem flat_drop {α : Type} {f : α → List A} {k : Nat} (hk : ∀ x, (f x).length = k) : ∀ (xs : List α) (j : Nat), flat f (xs.drop j) = (flat f xs).drop (j * k)
 | [], j => by simp [flat]
 | x :: xs, 0 => by simp [flat]
 | x :: xs, j + 1 => by
  simp only [List.drop_succ_cons, flat, flat_drop hk xs j]
  rw [Nat.succ_mul, List.drop_append, List.drop_eq_nil_of_le (as := f x) (by rw [hk]; omega), hk, Nat.add_sub_cancel, List.nil_append]
def bnd (E : Env) (d : Int) : Option Operand → Int → Prop
 | none, z => z = d
 | some x, z => ∃ k, val E x = .v (.int k z)
theorem bnd_run {F Λ w tmps} (hf : FrOK F Λ w tmps E) {d z : Int} {x : Option Operand} (h : bnd E d x z) : (x = none ∧ z = d) ∨ ∃ k, x.map (Act.eval ⟨tmps, []⟩) = some (.int k z) ∧ x ≠ none := by
 cases x with
 | none => exact .inl ⟨rfl, h⟩
 | some x =>
  obtain ⟨k, h⟩ := h
  have h1 := val_ok (ds := []) hf x
  rw [h] at h1
  exact .inr ⟨k, by simp [h1.v_inv], by simp⟩
theorem run_cut {F Λ w tmps} (hf : FrOK F Λ w tmps E) {t e k : Nat} {x : Operand} {lo hi : Option Operand} {a : Option Addr} {n cap i j : Nat} (hT : SlT P t e k) (h : o.op = .slice t x lo hi none) (hx : Act.eval ⟨tmps, []⟩ x = .slice a n cap) (hlo : bnd E 0 lo (i : Int)) (hhi : bnd E n hi (j : Int)) (hij : i ≤ j) (hj : j ≤ n) (hn : n ≤ cap) (w' : World) :
  (execOp (Act.eval ⟨tmps, []⟩) o).run P w' = .ok (.value (.slice (if cap = i then a else a.map (·.add (i * k))) (j - i) (cap - i))) w' := by
 have hb : (Instr.sliceBounds true n cap (lo.map (Act.eval ⟨tmps, []⟩)) (hi.map (Act.eval ⟨tmps, []⟩)) none).run P w' = .ok (i, j, cap) w' := by
  rcases bnd_run hf hlo with ⟨rfl, h1⟩ | ⟨k1, h1, _⟩ <;> rcases bnd_run hf hhi with ⟨rfl, h2⟩ | ⟨k2, h2, _⟩
  ·have e1 : i = 0 := by omega
   have e2 : j = n := by omega
   subst e1 e2
   simp [Instr.sliceBounds]
  ·have e1 : i = 0 := by omega
   subst e1
   rw [h2]
   simp [Instr.sliceBounds, run_sliceBound, show (j : Int) ≤ cap by omega]
  ·have e2 : j = n := by omega
   subst e2
   rw [h1]
   simp [Instr.sliceBounds, run_sliceBound, show (i : Int) ≤ j by omega]
  ·rw [h1, h2]
   simp [Instr.sliceBounds, run_sliceBound, show (j : Int) ≤ cap by omega, show (i : Int) ≤ j by omega]
 simp only [execOp, h, hx, Option.map_none]
 simp [Instr.sliceAt, run_underlying hT.u, Instr.slice, hb, run_sizeOf' hT.i]
theorem pur_cutM {t e k l : Nat} {x : Operand} {lo hi : Option Operand} {i j nn : Nat} (hT : SlT P t e k) (hx : val E x = .m [l] 0 nn k) (hlo : bnd E 0 lo (i : Int)) (hhi : bnd E (nn : Int) hi (j : Int)) (h1 : i ≤ j) (h2 : j ≤ nn) (h : o.op = .slice t x lo hi none) : Pur P o E σ (.m [l] (i * k) (j - i) k) := fun F Λ w tmps hs hf => by
 have e1 := val_ok (ds := []) hf x
 rw [hx] at e1
 rcases e1.m_inv with ⟨h0, ad, h4⟩ | ⟨b, o', cap, hL, h5, h6, h7, cs, t', h8, h9⟩
 ·subst h0
  refine ⟨_, ?_, fun w' _ => run_cut hf hT h h4 hlo hhi h1 h2 (Nat.le_refl _) w'⟩
  rw [show j - i = 0 by omega, show 0 - i = 0 by omega]
  exact .m (.inl ⟨rfl, _, rfl⟩)
 ·refine ⟨_, ?_, fun w' _ => run_cut hf hT h h5 hlo hhi h1 h2 h6 w'⟩
  by_cases hz : cap = i
  ·rw [show j - i = 0 by omega, show cap - i = 0 by omega]
   exact .m (.inl ⟨rfl, _, rfl⟩)
  ·rw [if_neg hz]
   simp only [Option.map_some, addr_add, Nat.add_zero]
   refine .m (.inr ⟨b, o', cap - i, hL, rfl, by omega, by omega, cs, t', h8, ?_⟩)
   have : i * k + (cap - i) * k = cap * k := by rw [← Nat.add_mul]; congr 1; omega
   omega
theorem src_cut {α : Type} {T : Ty α} {y : Operand} {xs ys : List α} {l i j : Nat} (hy : val E y = .m [l] (i * T.k) (j - i) T.k) (hr : σ[l]? = some (.row (flat T.enc xs))) (h1 : i ≤ j) (h2 : j ≤ xs.length) (hys : ys = (xs.take j).drop i) : SrcA P E σ y ys.length T.k (flat T.enc ys) := by
 have hl : ys.length = j - i := by rw [hys]; simp; omega
 rw [hl]
 have hfl : flat T.enc ys = ((flat T.enc xs).take (j * T.k)).drop (i * T.k) := by rw [hys, flat_drop T.len, flat_take T.len]
 refine src_m (zs := flat T.enc xs) hy (by rw [rowAt_cons, hr]; rfl) ?_ ?_ (by simp [isBox, hr]) (flat_cell T ys)
 ·rw [flat_len T.len, ← Nat.add_mul]; exact Nat.mul_le_mul_right _ (by omega)
 ·rw [hfl, List.drop_take]
  congr 1
  rw [← Nat.sub_mul]
end
end Go.Sep
set_option linter.unusedVariables false
set_option linter.unusedSimpArgs false
namespace Go.Sep
open Go
section
variable {P : Program} {o : Oper} {E : Env} {σ : Store}
end
def heldC (M : Nat) : A → Bool
 | .o _ _ => false
 | x => !x.names (fun L => decide (M ≤ L.headD 0))
def holdR (M : Nat) : Bool → Root → Root
 | true, .box (x :: xs) => if (x :: xs).all (heldC M) then .box (x :: xs) else .dead
 | _, _ => .dead
def restR (M : Nat) : Bool → Root → Root
 | true, .box (x :: xs) => if (x :: xs).all (heldC M) then .dead else .box (x :: xs)
 | _, r => r
def hold (ks : Nat → Bool) (M : Nat) (σ : Store) : Store := (σ.take M).zipIdx.map fun p => holdR M (ks p.2) p.1
def rest (ks : Nat → Bool) (M : Nat) (σ : Store) : Store := ((σ.take M).zipIdx.map fun p => restR M (ks p.2) p.1) ++ σ.drop M
def back1 : Root → Root → Root
 | .dead, r => r
 | r, _ => r
def back : Store → Store → Store
 | [], σ => σ
 | _, [] => []
 | r :: κ, s :: σ => back1 r s :: back κ σ
theorem back_get : ∀ (κ σ : Store) (l : Nat), (back κ σ)[l]? = (σ[l]?).map (back1 ((κ[l]?).getD .dead))
 | [], σ, l => by
  simp only [back, List.getElem?_nil, Option.getD_none]
  cases σ[l]? <;> rfl
 | _ :: _, [], l => by simp [back]
 | r :: κ, s :: σ, 0 => by simp [back]
 | r :: κ, s :: σ, l + 1 => by simp only [back, List.getElem?_cons_succ]; exact back_get κ σ l
theorem back_len : ∀ (κ σ : Store), (back κ σ).length = σ.length
 | [], σ => rfl
 | _ :: _, [] => rfl
 | r :: κ, s :: σ => by simp [back, back_len κ σ]
def Helds (κ : Store) : Prop := ∀ (l : Nat) r, κ[l]? = some r → r = .dead ∨ ∃ xs, r = .box xs ∧ xs ≠ [] ∧ ∀ x ∈ xs, heldC κ.length x = true
theorem heldC_no {M : Nat} {x : A} (h : heldC M x = true) : (∀ k ys, x ≠ .o k ys) ∧ x.names (fun L => decide (M ≤ L.headD 0)) = false := by
 cases x <;> simp_all [heldC, A.names]
theorem hold_len {ks : Nat → Bool} {M : Nat} {σ : Store} : (hold ks M σ).length = min M σ.length := by simp [hold]
theorem hold_get {ks : Nat → Bool} {M : Nat} {σ : Store} {l : Nat} {r : Root} (h : (hold ks M σ)[l]? = some r) : l < M ∧ ∃ r0, σ[l]? = some r0 ∧ holdR M (ks l) r0 = r := by
 have hl := (List.getElem?_eq_some_iff.1 h).1
 rw [hold_len] at hl
 simp only [hold, List.getElem?_map, List.getElem?_zipIdx, Option.map_eq_some_iff] at h
 obtain ⟨p, ⟨r0, h1, rfl⟩, h2⟩ := h
 rw [List.getElem?_take_of_lt (by omega)] at h1
 exact ⟨by omega, r0, h1, by simpa using h2⟩
theorem holdR_box {M : Nat} {b : Bool} {r0 : Root} {xs : List A} (h : holdR M b r0 = .box xs) : r0 = .box xs ∧ restR M b r0 = .dead ∧ xs ≠ [] ∧ ∀ x ∈ xs, heldC M x = true := by
 cases b with
 | false => cases r0 <;> cases h
 | true =>
  cases r0 with
  | dead => cases h
  | row => cases h
  | box ys =>
   cases ys with
   | nil => cases h
   | cons y ys =>
    simp only [holdR] at h
    split at h
    ·rename_i hc
     cases h
     exact ⟨rfl, by simp only [restR, if_pos hc], by simp, by simpa using hc⟩
    ·cases h
theorem holdR_dead {M : Nat} {b : Bool} {r0 : Root} (h : holdR M b r0 = .dead) : restR M b r0 = r0 := by
 cases b with
 | false => cases r0 <;> rfl
 | true =>
  cases r0 with
  | dead => rfl
  | row => rfl
  | box ys =>
   cases ys with
   | nil => rfl
   | cons y ys =>
    simp only [holdR] at h
    split at h
    ·cases h
    ·rename_i hc; simp only [restR, if_neg hc]
theorem holdR_or (M : Nat) (b : Bool) (r0 : Root) : holdR M b r0 = .dead ∨ ∃ xs, holdR M b r0 = .box xs := by
 cases b with
 | false => cases r0 <;> exact .inl rfl
 | true =>
  cases r0 with
  | dead => exact .inl rfl
  | row => exact .inl rfl
  | box ys =>
   cases ys with
   | nil => exact .inl rfl
   | cons y ys =>
    simp only [holdR]
    split
    ·exact .inr ⟨_, rfl⟩
    ·exact .inl rfl
theorem rest_get {ks : Nat → Bool} {M : Nat} {σ : Store} {l : Nat} : (rest ks M σ)[l]? = if l < M then (σ[l]?).map (restR M (ks l)) else σ[l]? := by
 have hlen : ((σ.take M).zipIdx.map fun p => restR M (ks p.2) p.1).length = min M σ.length := by simp
 simp only [rest]
 split
 ·rename_i h
  rcases Nat.lt_or_ge l σ.length with h' | h'
  ·rw [List.getElem?_append_left (by omega), List.getElem?_map, List.getElem?_zipIdx, List.getElem?_take_of_lt h]
   cases σ[l]? <;> simp
  ·rw [List.getElem?_append_right (by omega), List.getElem?_drop, List.getElem?_eq_none (by omega), List.getElem?_eq_none h']; rfl
 ·rename_i h
  rcases Nat.lt_or_ge M σ.length with h' | h'
  ·rw [List.getElem?_append_right (by omega), List.getElem?_drop]
   congr 1; omega
  ·rw [List.getElem?_append_right (by omega), List.getElem?_drop, List.getElem?_eq_none (by omega), List.getElem?_eq_none (by omega)]
theorem rest_len {ks : Nat → Bool} {M : Nat} {σ : Store} : (rest ks M σ).length = σ.length := by simp [rest]; omega
theorem rowAt_some {σ : Store} {L : List Nat} {xs : List A} (h : rowAt σ L = some xs) : ∃ l p r zs, L = l :: p ∧ σ[l]? = some r ∧ r.cells = some zs ∧ sub zs p = some xs := by
 cases L with
 | nil => cases h
 | cons l p =>
  simp only [rowAt] at h
  cases hr : σ[l]? with
  | none => simp [hr] at h
  | some r =>
   simp only [hr] at h
   cases hz : r.cells with
   | none => simp [hz] at h
   | some zs => simp only [hz] at h; exact ⟨l, p, r, zs, rfl, hr, hz, h⟩
theorem Helds.rowAt {κ : Store} (hk : Helds κ) {L : List Nat} {xs : List A} (h : rowAt κ L = some xs) : ∃ l, L = [l] ∧ κ[l]? = some (.box xs) := by
 obtain ⟨l, p, r, zs, rfl, h1, h2, h3⟩ := rowAt_some h
 rcases hk l r h1 with rfl | ⟨ys, rfl, hne, hx⟩
 ·cases h2
 ·simp only [Root.cells, Option.some.injEq] at h2
  subst h2
  cases p with
  | nil => simp only [sub, Option.some.injEq] at h3; subst h3; exact ⟨l, rfl, h1⟩
  | cons j p =>
   simp only [sub] at h3
   split at h3
   ·rename_i k us hj
    exact absurd rfl ((heldC_no (hx _ (List.mem_of_getElem? hj))).1 k us)
   ·cases h3
theorem helds_hold {ks : Nat → Bool} {M : Nat} {σ : Store} (hM : M ≤ σ.length) : Helds (hold ks M σ) := fun l r h => by
 obtain ⟨_, r0, h1, h2⟩ := hold_get h
 rcases holdR_or M (ks l) r0 with h3 | ⟨xs, h3⟩
 ·exact .inl (h2.symm.trans h3)
 ·obtain ⟨_, _, h5, h6⟩ := holdR_box h3
  have : (hold ks M σ).length = M := by rw [hold_len]; omega
  exact .inr ⟨xs, h2.symm.trans h3, h5, by rw [this]; exact h6⟩
structure Hl (F : Nat → Prop) (Λ : Lbl) (κ σ : Store) (w : World) : Prop where
  helds : Helds κ
  box : ∀ l xs, κ[l]? = some (.box xs) → ∃ b o cs t, Λ [l] = some (b, o) ∧ ¬ F b ∧ w.heap[b]? = some (.cells cs t (0, 0)) ∧ (∀ j x, xs[j]? = some x → ∃ c, cs[o + j]? = some c ∧ Cell F Λ w true ([l] ++ [j]) c x) ∧ ¬ Own Λ σ b
  apart : ∀ l xs l' xs' b o o', κ[l]? = some (.box xs) → κ[l']? = some (.box xs') → Λ [l] = some (b, o) → Λ [l'] = some (b, o') → l = l'
  len : κ.length ≤ σ.length
theorem lt_of_get {κ : Store} {l : Nat} {r : Root} (h : κ[l]? = some r) : l < κ.length := (List.getElem?_eq_some_iff.1 h).1
theorem Hl.label {F Λ κ σ w m F' Λ' σ' w'} (h : Hl F Λ κ σ w) (hst : Step m F Λ σ w F' Λ' σ' w') (hm : κ.length ≤ m) {l : Nat} {xs : List A} (hx : κ[l]? = some (.box xs)) : Λ' [l] = Λ [l] := by
 obtain ⟨b, o, cs, t, h1, _⟩ := h.box l xs hx
 have hl := lt_of_get hx
 rw [h1]
 exact hst.kept [l] b o (by simpa using (by omega : l < m)) h1
theorem Hl.step {F Λ κ σ w m F' Λ' σ' w'} (h : Hl F Λ κ σ w) (hs : St F Λ σ w) (hst : Step m F Λ σ w F' Λ' σ' w') (hm : κ.length ≤ m) : Hl F' Λ' κ σ' w' where
 helds := h.helds
 len := by have := hst.len; have := h.len; omega
 apart l xs l' xs' b o o' h1 h2 h3 h4 := h.apart l xs l' xs' b o o' h1 h2 (h.label hst hm h1 ▸ h3) (h.label hst hm h2 ▸ h4)
 box l xs hx := by
  obtain ⟨b, o, cs, t, h1, h2, h3, h4, h5⟩ := h.box l xs hx
  have hb : b < w.heap.size := (Array.getElem?_eq_some_iff.1 h3).1
  have hl := lt_of_get hx
  have hc : ∀ x ∈ xs, heldC κ.length x = true := by
   rcases h.helds l _ hx with h6 | ⟨ys, h6, _, h7⟩
   ·cases h6
   ·cases h6; exact h7
  refine ⟨b, o, cs, t, (h.label hst hm hx).trans h1, fun hf => ?_, (hst.keep b hb h5).trans h3, fun j x hj => ?_, fun ho => ?_⟩
  ·rcases hst.new b hf with h6 | h6 | h6
   ·exact h2 h6
   ·exact h5 h6
   ·omega
  ·obtain ⟨c, h6, h7⟩ := h4 j x hj
   refine ⟨c, h6, (h7.mono (hst.frozen hs) hst.sizes).relabel (fun L => decide (κ.length ≤ L.headD 0)) (fun L b o hp hL => hst.kept L b o (by have := of_decide_eq_false hp; omega) hL) (by simpa using hl) fun _ => (heldC_no (hc x (List.mem_of_getElem? hj))).2⟩
  ·rcases hst.own b ho with h6 | h6
   ·exact h5 h6
   ·omega
theorem Hl.alike {F Λ κ σ w m F' Λ' σ' w'} (h : Hl F Λ κ σ w) (hs : St F Λ σ w) (hst : Step m F Λ σ w F' Λ' σ' w') (hm : κ.length ≤ m) : Alike F Λ κ w w' := fun b hb => by
 rcases hb with hb | ⟨L, xs, o, h1, h2⟩
 ·exact (hst.frozen hs b hb).2
 ·obtain ⟨l, rfl, h3⟩ := h.helds.rowAt h1
  obtain ⟨b', o', cs, t, h4, _, h5, _, h6⟩ := h.box l xs h3
  rw [h2] at h4; cases h4
  exact hst.keep b (Array.getElem?_eq_some_iff.1 h5).1 h6
theorem Hl.alike2 {F Λ κ σ w m F' Λ' σ' w' w''} (h : Hl F Λ κ σ w) (hs : St F Λ σ w) (hst : Step m F Λ σ w F' Λ' σ' w') (hm : κ.length ≤ m) (ha : Alike F' Λ' κ w' w'') : Alike F Λ κ w w'' := fun b hb => by
 refine (ha b ?_).trans (h.alike hs hst hm b hb)
 rcases hb with hb | ⟨L, xs, o, h1, h2⟩
 ·exact .inl (hst.mono b hb)
 ·obtain ⟨l, rfl, h3⟩ := h.helds.rowAt h1
  exact .inr ⟨[l], xs, o, h1, (h.label hst hm h3).trans h2⟩
def pads (κ : Store) (k : Nat) : Store := κ ++ List.replicate (k - κ.length) .dead
theorem pads_row {κ : Store} {k : Nat} {L : List Nat} {xs : List A} (h : rowAt (pads κ k) L = some xs) : rowAt κ L = some xs := by
 obtain ⟨l, p, r, zs, rfl, h1, h2, h3⟩ := rowAt_some h
 rcases Nat.lt_or_ge l κ.length with hl | hl
 ·rw [pads, List.getElem?_append_left hl] at h1
  simp only [rowAt, h1, h2]; exact h3
 ·rw [pads, List.getElem?_append_right hl] at h1
  have := List.mem_of_getElem? h1
  rw [List.mem_replicate] at this
  rw [this.2] at h2; cases h2
theorem Hl.st {F Λ κ σ w} (h : Hl F Λ κ σ w) (hs : St F Λ σ w) : St F Λ (pads κ σ.length) w where
 row L xs hr := by
  obtain ⟨l, rfl, h1⟩ := h.helds.rowAt (pads_row hr)
  obtain ⟨b, o, cs, t, h2, h3, h4, h5, _⟩ := h.box l xs h1
  have hbx : isBox (pads κ σ.length) [l] = true := by
   simp only [isBox, pads, List.getElem?_append_left (lt_of_get h1), h1]
  rw [hbx]
  exact .inr ⟨b, o, cs, t, h2, h3, h4, h5⟩
 apart L xs L' xs' b o o' h1 h2 h3 h4 := by
  obtain ⟨l, rfl, h5⟩ := h.helds.rowAt (pads_row h1)
  obtain ⟨l', rfl, h6⟩ := h.helds.rowAt (pads_row h2)
  rw [h.apart l xs l' xs' b o o' h5 h6 h3 h4]
 old := hs.old
 tab := hs.tab
 lab L hL := hs.lab L (by have := h.len; simp only [pads, List.length_append, List.length_replicate] at hL; omega)
def onlyN (Q : Act → World → Prop) : Exit → Act → World → Prop := fun e a w => match e with
 | .normal => Q a w
 | _ => False
def TA (P : Program) (n m : Nat) (κ : Store) (ops : Array Oper) (fuel : Nat) (listed : Array Bool) (N : Env → Store → Prop) (E : Env) (σ : Store) : Prop :=
 ∀ F Λ w tmps (Q : Act → World → Prop), tmps.size = n → κ.length ≤ m → St F Λ σ w → Hl F Λ κ σ w → FrOK F Λ w tmps E →
  (∀ F' Λ' σ' w' tmps' E', tmps'.size = n → St F' Λ' σ' w' → Hl F' Λ' κ σ' w' → FrOK F' Λ' w' tmps' E' → Step m F Λ σ w F' Λ' σ' w' → N E' σ' → Q ⟨tmps', []⟩ w') →
  wpAnyH P .any ops (onlyN Q) (Alike F Λ κ w) fuel listed ⟨tmps, []⟩ w
theorem wpAnyH_weak {P : Program} {ops : Array Oper} {Q : Exit → Act → World → Prop} {md : Region.Mode} {S S' : World → Prop} (hS : ∀ w, S' w → S w) : ∀ (fuel : Nat) (listed : Array Bool) (a : Act) (w : World), wpAnyH P md ops Q S' fuel listed a w → wpAnyH P md ops Q S fuel listed a w
 | 0, _, _, _, h => h
 | fuel + 1, _, _, _, h => ⟨h.1, fun i hi => wpOp_mono (fun a' w' h' => ⟨hS _ h'.1, wpAnyH_weak hS fuel _ a' w' h'.2⟩) (h.2 i hi)⟩
section
variable {P : Program} {n m : Nat} {K : Exit → Env → Store → Prop} {N : Env → Store → Prop} {E : Env} {σ κ : Store} {ops : Array Oper} {fuel : Nat} {listed : Array Bool}
theorem TA_nil (hr : Region.ready .any ops listed = []) (h : N E σ) : TA P n m κ ops fuel listed N E σ := fun F Λ w tmps Q hn hm hs hk hf hq =>
 wpAnyH_done hr (hq F Λ σ w tmps E hn hs hk hf (.refl ..) h) fuel
theorem TA_first (i : Nat) (listed' : Array Bool) {o : Oper} {r : A} (hi : ops[i]? = some o) (hp : Pur P o E (pads κ σ.length) r) (hg : ∀ F Λ w tmps, tmps.size = n → FrOK F Λ w tmps E → Region.wanted o (yielded ops tmps) = true) (hd : dstOK n o.dst = true) (hl : listed.setIfInBounds i true = listed') (hsel : Region.noSelect ops = true)
  (hr : (Region.ready .any ops listed).contains i = true) (hfr : Region.free .any ops listed i = true) (h : TA P n m κ ops fuel listed' N (put E o.dst r) σ) : TA P n m κ ops (fuel + 1) listed N E σ := fun F Λ w tmps Q hn hm hs hk hf hq => by
 obtain ⟨v, hv, hrun⟩ := hp F Λ w tmps (hk.st hs) hf
 obtain ⟨tmps', e, hn', hf'⟩ := hf.putO (ds := []) hn hd hv
 subst hl
 refine wpAnyH_take hi hsel hfr hr (fun c a w h => h) (.inl ⟨hg F Λ w tmps hn hf, fun w' hw' => hrun w' fun b hb => hw' b (hb.imp id fun ⟨L, xs, o, h1, h2⟩ => ⟨L, xs, o, pads_row h1, h2⟩)⟩) (Alike.refl _ _ _ _) ?_
 rw [e]
 exact h F Λ w tmps' Q hn' hm hs hk hf' hq
def AllR (P : Program) (n m : Nat) (κ : Store) (ops : Array Oper) (fuel : Nat) (listed : Array Bool) (N : Env → Store → Prop) (E : Env) (σ : Store) : List Nat → Prop
 | [] => True
 | i :: rs => (∃ o, ops[i]? = some o ∧ o.guard = none ∧ TOp P n m o (TA P n m κ ops fuel (listed.setIfInBounds i true) N) E σ) ∧ AllR P n m κ ops fuel listed N E σ rs
theorem AllR.get : ∀ {rs : List Nat}, AllR P n m κ ops fuel listed N E σ rs → ∀ i ∈ rs, ∃ o, ops[i]? = some o ∧ o.guard = none ∧ TOp P n m o (TA P n m κ ops fuel (listed.setIfInBounds i true) N) E σ
 | [], _, i, h => by cases h
 | j :: rs, h, i, hi => by
  rcases List.mem_cons.1 hi with rfl | hi
  ·exact h.1
  ·exact AllR.get h.2 i hi
theorem TA_op {i : Nat} {o : Oper} (h1 : ops[i]? = some o) (hw : ∀ F Λ w tmps, tmps.size = n → FrOK F Λ w tmps E → Region.wanted o (yielded ops tmps) = true) (h3 : TOp P n m o (TA P n m κ ops fuel (listed.setIfInBounds i true) N) E σ) {F Λ w tmps} {Q : Act → World → Prop} (hn : tmps.size = n) (hm : κ.length ≤ m) (hs : St F Λ σ w) (hk : Hl F Λ κ σ w) (hf : FrOK F Λ w tmps E)
  (hq : ∀ F' Λ' σ' w' tmps' E', tmps'.size = n → St F' Λ' σ' w' → Hl F' Λ' κ σ' w' → FrOK F' Λ' w' tmps' E' → Step m F Λ σ w F' Λ' σ' w' → N E' σ' → Q ⟨tmps', []⟩ w') :
  wpOp P ops (onlyN Q) i (fun a' w' => Alike F Λ κ w w' ∧ wpAnyH P .any ops (onlyN Q) (Alike F Λ κ w) fuel (listed.setIfInBounds i true) a' w') ⟨tmps, []⟩ w := by
 unfold wpOp
 rw [h1]
 simp only
 rw [if_pos (hw F Λ w tmps hn hf)]
 exact .inl (h3 F Λ w tmps _ (onlyN Q) hn hs hf fun F' Λ' σ' w' tmps' E' hn' hs' hf' hst hN =>
  ⟨hk.alike hs hst hm, wpAnyH_weak (fun w2 h2 => hk.alike2 hs hst hm h2) _ _ _ _ (hN F' Λ' w' tmps' Q hn' hm hs' (hk.step hs hst hm) hf' fun F2 Λ2 σ2 w2 tmps2 E2 hn2 hs2 hk2 hf2 hst2 hN2 => hq F2 Λ2 σ2 w2 tmps2 E2 hn2 hs2 hk2 hf2 (hst.trans hst2) hN2)⟩)
theorem TA_all (rs : List Nat) (hr : Region.ready .any ops listed = rs) (hne : rs ≠ []) (h : AllR P n m κ ops fuel listed N E σ rs) : TA P n m κ ops (fuel + 1) listed N E σ := fun F Λ w tmps Q hn hm hs hk hf hq =>
 wpAnyH_all hr hne fun i hi => by
  obtain ⟨o, h1, h2, h3⟩ := h.get i hi
  exact TA_op h1 (fun F Λ w tmps _ _ => by simp [Region.wanted, h2]) h3 hn hm hs hk hf hq
theorem TA_listed (listed' : Array Bool) (hl : listed = listed') (h : TA P n m κ ops fuel listed' N E σ) : TA P n m κ ops fuel listed N E σ := hl ▸ h
theorem TA_ghost {E' σ'} (hg : Ghost m E σ E' σ') (h : TA P n m κ ops fuel listed N E' σ') : TA P n m κ ops fuel listed N E σ := fun F Λ w tmps Q hn hm hs hk hf hq => by
 obtain ⟨F1, Λ1, h1, h2, h3⟩ := hg F Λ w tmps hs hf
 exact wpAnyH_weak (fun w2 h4 => hk.alike2 hs h3 hm h4) _ _ _ _ (h F1 Λ1 w tmps Q hn hm h1 (hk.step hs h3 hm) h2 fun F2 Λ2 σ2 w2 tmps2 E2 hn2 hs2 hk2 hf2 hst2 hN2 => hq F2 Λ2 σ2 w2 tmps2 E2 hn2 hs2 hk2 hf2 (h3.trans hst2) hN2)
theorem TA_env {E' : Env} (hE : Pk E E') (h : TA P n m κ ops fuel listed N E' σ) : TA P n m κ ops fuel listed N E σ := fun F Λ w tmps Q hn hm hs hk hf hq => h F Λ w tmps Q hn hm hs hk (hf.weak hE.all) hq
theorem TA_st {σ' : Store} (hσ : σ = σ') (h : TA P n m κ ops fuel listed N E σ') : TA P n m κ ops fuel listed N E σ := hσ ▸ h
theorem TA_frz1 (l : Nat) {xs : List A} {E' : Env} (hr : σ[l]? = some (.row xs)) (hb : boxNo l σ = true) (hm : m ≤ l) (hE : FzE l xs E E') (h : TA P n m κ ops fuel listed N E' (σ.set l .dead)) : TA P n m κ ops fuel listed N E σ :=
 TA_ghost (fun F Λ w tmps hs hf => ⟨_, _, hs.frz1 hr hb, hE.fr hs hr hf, Step.frz1 hs hr hm⟩) h
theorem T_pad {c : Code} (h : T P n m c K E (σ ++ [.dead])) : T P n m c K E σ := fun F Λ w tmps Q hn hs hf hq =>
 h F Λ w tmps Q hn hs.pad hf fun e F' Λ' σ' w' tmps' E' hn' hs' hf' hst hN => hq e F' Λ' σ' w' tmps' E' hn' hs' hf' (Step.pad.trans hst) hN
theorem T_move' (l l' : Nat) {c : Code} {zs} (hne : l ≠ l') (hl : l < σ.length) (hr : σ[l']? = some (.row zs)) (hb : noBox σ l = true) (hm : m ≤ l) (h : T P n m c K (mvE l l' E) (mvS l l' σ)) : T P n m c K E σ := T_move l l' hne hl hr hb hm h
theorem rowAt_rest {ks : Nat → Bool} {M : Nat} {L : List Nat} {xs : List A} (h : rowAt (rest ks M σ) L = some xs) : rowAt σ L = some xs ∧ (rest ks M σ)[L.headD 0]? = σ[L.headD 0]? := by
 obtain ⟨l, p, r, zs, rfl, h1, h2, h3⟩ := rowAt_some h
 have h1' := h1
 rw [rest_get] at h1
 have key : σ[l]? = some r := by
  split at h1
  ·simp only [Option.map_eq_some_iff] at h1
   obtain ⟨r0, h4, h5⟩ := h1
   rcases holdR_or M (ks l) r0 with h6 | ⟨ys, h6⟩
   ·rw [holdR_dead h6] at h5; rw [h4, h5]
   ·rw [(holdR_box h6).2.1] at h5; rw [← h5] at h2; cases h2
  ·exact h1
 exact ⟨by simp only [rowAt, key, h2]; exact h3, h1'.trans key.symm⟩
theorem isBox_head {σ' : Store} {L : List Nat} (hL : L ≠ []) (h : σ'[L.headD 0]? = σ[L.headD 0]?) : isBox σ' L = isBox σ L := by
 match L, hL, h with
 | [l], _, h => simp only [List.headD_cons] at h; simp only [isBox, h]
 | _ :: _ :: _, _, _ => rfl
theorem St.rest {F Λ w} (hs : St F Λ σ w) (ks : Nat → Bool) (M : Nat) : St F Λ (rest ks M σ) w where
 row L xs h := by
  obtain ⟨h1, h2⟩ := rowAt_rest h
  rw [isBox_head (by rintro rfl; cases h1) h2]; exact hs.row L xs h1
 apart L xs L' xs' b o o' h1 h2 := hs.apart _ _ _ _ _ _ _ (rowAt_rest h1).1 (rowAt_rest h2).1
 old := hs.old
 tab := hs.tab
 lab L h := hs.lab L (by rw [rest_len] at h; exact h)
theorem Own.rest {Λ : Lbl} {ks : Nat → Bool} {M : Nat} {b : Nat} (h : Own Λ (rest ks M σ) b) : Own Λ σ b := by
 obtain ⟨L, xs, o, h1, h2⟩ := h
 exact ⟨L, xs, o, (rowAt_rest h1).1, h2⟩
theorem hold_box {ks : Nat → Bool} {M l : Nat} {xs : List A} (h : (hold ks M σ)[l]? = some (.box xs)) : l < M ∧ σ[l]? = some (.box xs) ∧ (Sep.rest ks M σ)[l]? = some .dead ∧ xs ≠ [] := by
 obtain ⟨h1, r0, h2, h3⟩ := hold_get h
 obtain ⟨rfl, h5, h6, _⟩ := holdR_box h3
 exact ⟨h1, h2, by rw [rest_get, if_pos h1, h2]; exact congrArg some h5, h6⟩
theorem St.hold {F Λ w} (hs : St F Λ σ w) {ks : Nat → Bool} {M : Nat} (hM : M ≤ σ.length) : Hl F Λ (hold ks M σ) (Sep.rest ks M σ) w where
 helds := helds_hold hM
 len := by rw [rest_len, hold_len]; omega
 apart l xs l' xs' b o o' h1 h2 h3 h4 := by
  obtain ⟨_, h5, _⟩ := hold_box h1
  obtain ⟨_, h6, _⟩ := hold_box h2
  have := hs.apart [l] xs [l'] xs' b o o' (by simp only [rowAt, h5, Root.cells, sub]) (by simp only [rowAt, h6, Root.cells, sub]) h3 h4
  simpa using this
 box l xs h := by
  obtain ⟨_, h1, h2, h3⟩ := hold_box h
  have hr : rowAt σ [l] = some xs := by simp only [rowAt, h1, Root.cells, sub]
  rcases hs.row [l] xs hr with ⟨_, h4⟩ | ⟨b, o, cs, t, h4, h5, h6, h7⟩
  ·exact absurd h4 h3
  ·refine ⟨b, o, cs, t, h4, h5, h6, fun j x hj => ?_, fun ⟨L, ys, o', g1, g2⟩ => ?_⟩
   ·have := h7 j x hj
    rwa [show isBox σ [l] = true by simp only [isBox, h1]] at this
   ·have e := hs.apart _ _ _ _ _ _ _ hr (rowAt_rest g1).1 h4 g2
    subst e
    simp only [rowAt, h2, Root.cells] at g1
    cases g1
theorem rowAt_back {L : List Nat} {xs : List A} (hk : Helds κ) (h : rowAt (back κ σ) L = some xs) : (∃ l, L = [l] ∧ κ[l]? = some (.box xs)) ∨ (rowAt σ L = some xs ∧ (back κ σ)[L.headD 0]? = σ[L.headD 0]?) := by
 obtain ⟨l, p, r, zs, rfl, h1, h2, h3⟩ := rowAt_some h
 have h1' := h1
 rw [back_get, Option.map_eq_some_iff] at h1
 obtain ⟨s, h4, h5⟩ := h1
 cases hκ : κ[l]? with
 | none =>
  rw [hκ] at h5
  simp only [Option.getD_none, back1] at h5
  subst h5
  exact .inr ⟨by simp only [rowAt, h4, h2]; exact h3, h1'.trans h4.symm⟩
 | some r0 =>
  rw [hκ] at h5
  simp only [Option.getD_some] at h5
  rcases hk l r0 hκ with rfl | ⟨ys, rfl, hne, hx⟩
  ·simp only [back1] at h5
   subst h5
   exact .inr ⟨by simp only [rowAt, h4, h2]; exact h3, h1'.trans h4.symm⟩
  ·simp only [back1] at h5
   subst h5
   have : rowAt κ (l :: p) = some xs := by simp only [rowAt, hκ]; rw [h2]; exact h3
   exact .inl (hk.rowAt this)
theorem St.back {F Λ w} (hs : St F Λ σ w) (hk : Hl F Λ κ σ w) : St F Λ (back κ σ) w where
 row L xs h := by
  rcases rowAt_back hk.helds h with ⟨l, rfl, h1⟩ | ⟨h1, h2⟩
  ·obtain ⟨b, o, cs, t, h2, h3, h4, h5, _⟩ := hk.box l xs h1
   have hlt := Nat.lt_of_lt_of_le (lt_of_get h1) hk.len
   have hbx : isBox (Sep.back κ σ) [l] = true := by
    simp only [isBox, back_get, h1, List.getElem?_eq_getElem hlt, Option.map_some, Option.getD_some, back1]
   rw [hbx]
   exact .inr ⟨b, o, cs, t, h2, h3, h4, h5⟩
  ·rw [isBox_head (by rintro rfl; cases h1) h2]; exact hs.row L xs h1
 apart L xs L' xs' b o o' h1 h2 h3 h4 := by
  rcases rowAt_back hk.helds h1 with ⟨l, rfl, g1⟩ | ⟨g1, _⟩ <;> rcases rowAt_back hk.helds h2 with ⟨l', rfl, g2⟩ | ⟨g2, _⟩
  ·rw [hk.apart l xs l' xs' b o o' g1 g2 h3 h4]
  ·obtain ⟨b', o1, cs, t, e1, _, _, _, e2⟩ := hk.box l xs g1
   rw [h3] at e1; cases e1
   exact absurd ⟨L', xs', o', g2, h4⟩ e2
  ·obtain ⟨b', o1, cs, t, e1, _, _, _, e2⟩ := hk.box l' xs' g2
   rw [h4] at e1; cases e1
   exact absurd ⟨L, xs, o, g1, h3⟩ e2
  ·exact hs.apart _ _ _ _ _ _ _ g1 g2 h3 h4
 old := hs.old
 tab := hs.tab
 lab L h := hs.lab L (by rw [back_len] at h; exact h)
theorem Step.back {F Λ w F' Λ' w' M k} {ks : Nat → Bool} {σ' : Store} (hs : St F Λ σ w) (hmM : m ≤ M) (hkM : k ≤ M) (hM : k ≤ σ.length) (hk' : Hl F' Λ' (hold ks k σ) σ' w') (h : Step M F Λ (Sep.rest ks k σ) w F' Λ' σ' w') : Step m F Λ σ w F' Λ' (Sep.back (hold ks k σ) σ') w' :=
  have hlen : (hold ks k σ).length = k := by rw [hold_len]; omega
  have hk := hs.hold (ks := ks) hM
  { os := h.os, tape := h.tape, output := h.output, size := h.size, sizes := h.sizes, mono := h.mono
    keep := fun b hb ho => h.keep b hb fun ho' => ho ho'.rest
    new := fun b hb => (h.new b hb).imp id fun h1 => h1.imp Own.rest id
    own := fun b ⟨L, xs, o, h1, h2⟩ => by
      rcases rowAt_back hk'.helds h1 with ⟨l, rfl, g1⟩ | ⟨g1, _⟩
      · refine .inl ⟨[l], xs, o, ?_, ?_⟩
        · simp only [rowAt, (hold_box g1).2.1, Root.cells, sub]
        · rw [← hk.label h (by omega) g1]; exact h2
      · exact (h.own b ⟨L, xs, o, g1, h2⟩).imp Own.rest id
    len := by have := h.len; rw [rest_len] at this; rw [back_len]; omega
    boxes := fun l xs hl hx => by
      by_cases hl' : l < k
      · have hr0 : (hold ks k σ)[l]? = some (holdR k (ks l) (.box xs)) := by
          simp only [hold, List.getElem?_map, List.getElem?_zipIdx, List.getElem?_take_of_lt hl', hx, Option.map_some, Nat.zero_add]
        rcases holdR_or k (ks l) (.box xs) with h1 | ⟨ys, h1⟩
        · have hr : (Sep.rest ks k σ)[l]? = some (.box xs) := by rw [rest_get, if_pos hl', hx]; exact congrArg some (holdR_dead h1)
          obtain ⟨e1, xs', e2⟩ := h.boxes l xs (by omega) hr
          exact ⟨e1, xs', by rw [back_get, e2, hr0, h1]; rfl⟩
        · have e := (holdR_box h1).1
          cases e
          rw [h1] at hr0
          have hlt := Nat.lt_of_lt_of_le (lt_of_get hr0) hk'.len
          exact ⟨hk.label h (by omega) hr0, xs, by rw [back_get, hr0, List.getElem?_eq_getElem hlt]; rfl⟩
      · have hr : (Sep.rest ks k σ)[l]? = some (.box xs) := by rw [rest_get, if_neg hl', hx]
        obtain ⟨e1, xs', e2⟩ := h.boxes l xs (by omega) hr
        exact ⟨e1, xs', by rw [back_get, e2, List.getElem?_eq_none (by omega)]; rfl⟩
    kept := fun L b o hL h1 => h.kept L b o (by omega) h1 }
theorem T_regionPk (ks : Nat → Bool) (k : Nat) {rid} {l : List Oper} (hm : P.follows .mixedOrders = true) (hM : Nat.ble k σ.length = true) (h : TA P n (max m k) (hold ks k σ) l.toArray l.length (Array.replicate l.length false) (fun E' σ' => K .normal E' (back (hold ks k σ) σ')) E (rest ks k σ)) : T P n m (.region rid l.toArray true) K E σ := fun F Λ w tmps Q hn hs0 hf hq => by
 have hM : k ≤ σ.length := Nat.le_of_ble_eq_true hM
 have hlen : (hold ks k σ).length = k := by rw [hold_len]; omega
 have hs : St F Λ σ { w with drawn := w.drawn + 1 } := ⟨fun L xs hx => (hs0.row L xs hx).imp (fun h => h) fun ⟨b, o, cs, t, h1, h2, h3, h4⟩ => ⟨b, o, cs, t, h1, h2, h3, fun j x hj => (h4 j x hj).imp fun c hc => ⟨hc.1, Cell.mono (w := w) (w' := { w with drawn := w.drawn + 1 }) (fun b hb => ⟨hb, rfl⟩) (fun b cs t h => ⟨cs, h, rfl⟩) hc.2⟩⟩, hs0.apart, hs0.old, hs0.tab, hs0.lab⟩
 have h1 := h F Λ { w with drawn := w.drawn + 1 } tmps (fun a w => Q .normal a w) hn (by omega) (hs.rest ks k) (hs.hold hM)
  (FrOK.mono (w := w) (w' := { w with drawn := w.drawn + 1 }) (fun b hb => ⟨hb, rfl⟩) (fun b cs t h => ⟨cs, h, rfl⟩) hf)
  fun F' Λ' σ' w' tmps' E' hn' hs' hk' hf' hst' hN => by
   have hst := Step.back hs (Nat.le_max_left m k) (Nat.le_max_right m k) hM hk' hst'
   exact hq .normal F' Λ' _ w' tmps' E' hn' (hs'.back hk') hf'
    { os := hst.os.pre, tape := hst.tape, output := hst.output, size := hst.size, sizes := hst.sizes, keep := hst.keep, mono := hst.mono, new := hst.new, own := hst.own, len := hst.len, boxes := hst.boxes, kept := hst.kept } hN
 exact wp_mono (wp_region_held hm (by simpa using h1)) fun e a w h => by cases e <;> first | exact h | exact h.elim
def phaseB (l : List Oper) (p : Nat) : Bool :=
 ((l.take p).zipIdx.all fun q => (q.1.after.all fun e => !Region.binds .any e || decide (e.on < q.2)) && (match q.1.guard with | some (j, _) => decide (j < p) | none => true)) &&
 ((l.drop p).all fun o => (List.range p).all fun k => o.after.any fun e => Region.binds .any e && e.on == k) && decide (p ≤ l.length)
theorem wpAny_fuel {Q : Exit → Act → World → Prop} {md : Region.Mode} : ∀ (f : Nat) (l : Array Bool) (a : Act) (w : World), wpAny P md ops Q f l a w → wpAny P md ops Q (f + 1) l a w
 | 0, l, a, w, h => ⟨fun _ => h.2, fun i hi => by rw [h.1] at hi; cases hi⟩
 | f + 1, l, a, w, h => ⟨h.1, fun i hi => wpOp_mono (fun a w => wpAny_fuel f _ a w) (h.2 i hi)⟩
theorem wpAny_fuels {Q : Exit → Act → World → Prop} {md : Region.Mode} (f : Nat) (l : Array Bool) (a : Act) (w : World) (h : wpAny P md ops Q f l a w) : ∀ k, wpAny P md ops Q (f + k) l a w
 | 0 => h
 | k + 1 => wpAny_fuel _ _ _ _ (wpAny_fuels f l a w h k)
theorem wpAny_split {l : List Oper} {p : Nat} {Q : Act → World → Prop} (hp : phaseB l p = true) (f2 : Nat) : ∀ (f : Nat) (lA : Array Bool) (a : Act) (w : World), lA.size = p →
  wpAny P .any (l.take p).toArray (onlyN fun a w => wpAny P .any l.toArray (onlyN Q) f2 (Array.replicate p true ++ Array.replicate (l.length - p) false) a w) f lA a w →
  wpAny P .any l.toArray (onlyN Q) (f + f2) (lA ++ Array.replicate (l.length - p) false) a w := by
 simp only [phaseB, Bool.and_eq_true, List.all_eq_true, decide_eq_true_eq] at hp
 obtain ⟨⟨hA, hB⟩, hpl⟩ := hp
 have hlen : (l.take p).length = p := by simp; omega
 have getA : ∀ i, i < p → (l.take p).toArray[i]? = l.toArray[i]? := fun i hi => by
  rw [List.getElem?_toArray, List.getElem?_toArray, List.getElem?_take_of_lt hi]
 have zA : ∀ i o, i < p → l.toArray[i]? = some o → (o, i) ∈ (l.take p).zipIdx := fun i o hi ho => by
  rw [List.mem_iff_getElem?]
  refine ⟨i, ?_⟩
  rw [List.getElem?_zipIdx, List.getElem?_take_of_lt hi]
  rw [List.getElem?_toArray] at ho
  rw [ho]; simp
 have depA : ∀ i o, i < p → l.toArray[i]? = some o → ∀ e ∈ o.after, Region.binds .any e = true → e.on < i := fun i o hi ho e he hb => by
  have h1 := (hA _ (zA i o hi ho)).1
  rw [Array.all_eq_true_iff_forall_mem] at h1
  simpa [hb] using h1 e he
 have all : ∀ lA : Array Bool, lA.size = p → Region.ready .any (l.take p).toArray lA = [] → lA = Array.replicate p true := fun lA hsz hr => by
  have key : ∀ i, i < p → lA.getD i true = true := fun i => by
   induction i using Nat.strongRecOn with
   | _ i ih =>
    intro hi
    cases hb : lA.getD i true with
    | true => rfl
    | false =>
     exfalso
     have hi' : i < l.length := by omega
     have ho : l.toArray[i]? = some l[i] := by simp [hi']
     have : i ∈ Region.ready .any (l.take p).toArray lA := by
      rw [mem_ready]
      refine ⟨hb, l[i], by rw [getA i hi]; exact ho, fun e he hbe => ?_⟩
      have h3 := depA i _ hi ho e he hbe
      have h4 := ih e.on h3 (by omega)
      have h5 : e.on < lA.size := by omega
      simpa [Array.getD, h5] using h4
     rw [hr] at this; cases this
  apply Array.ext (by simp [hsz])
  intro i h1 h2
  have := key i (by omega)
  simp [Array.getD, h1] at this
  simp [this]
 have getL : ∀ (lA : Array Bool), lA.size = p → ∀ i d, i < p → (lA ++ Array.replicate (l.length - p) false).getD i d = lA.getD i d := fun lA hsz i d hi => by
  rw [Array.getD_eq_getD_getElem?, Array.getD_eq_getD_getElem?, Array.getElem?_append_left (by omega)]
 have rdy : ∀ (lA : Array Bool), lA.size = p → Region.ready .any (l.take p).toArray lA ≠ [] → ∀ i, i ∈ Region.ready .any l.toArray (lA ++ Array.replicate (l.length - p) false) → i < p ∧ i ∈ Region.ready .any (l.take p).toArray lA := fun lA hsz hne i hi => by
  obtain ⟨h1, o, h2, h3⟩ := mem_ready.1 hi
  have hip : i < p := by
   rcases Nat.lt_or_ge i p with h | h
   ·exact h
   ·exfalso
    have hil : i < l.length := by have := (Array.getElem?_eq_some_iff.1 h2).1; simpa using this
    have ho : o ∈ l.drop p := by
     rw [List.mem_iff_getElem?]
     refine ⟨i - p, ?_⟩
     rw [List.getElem?_drop, show p + (i - p) = i by omega]
     rw [List.getElem?_toArray] at h2; exact h2
    have hw := hB o ho
    obtain ⟨j, hj⟩ := List.exists_mem_of_ne_nil _ hne
    obtain ⟨j1, oj, j2, _⟩ := mem_ready.1 hj
    have hjp : j < p := by have := (Array.getElem?_eq_some_iff.1 j2).1; simpa [hlen] using this
    have h4 := hw j (by simpa using hjp)
    simp only [Array.any_eq_true', Bool.and_eq_true, beq_iff_eq] at h4
    obtain ⟨e, he, hb, rfl⟩ := h4
    have h5 := h3 e he hb
    rw [getL lA hsz _ _ hjp] at h5
    have hs' : e.on < lA.size := by omega
    simp [Array.getD, hs'] at h5 j1
    rw [j1] at h5; cases h5
  refine ⟨hip, mem_ready.2 ⟨by rw [← getL lA hsz i true hip]; exact h1, o, by rw [getA i hip]; exact h2, fun e he hb => ?_⟩⟩
  have h4 := depA i o hip h2 e he hb
  rw [← getL lA hsz e.on false (by omega)]
  exact h3 e he hb
 intro f
 induction f with
 | zero =>
  intro lA a w hsz h
  have e := all lA hsz h.1
  subst e
  rw [Nat.zero_add]
  exact h.2
 | succ f ih =>
  intro lA a w hsz h
  by_cases hr : Region.ready .any (l.take p).toArray lA = []
  ·have e := all lA hsz hr
   subst e
   rw [Nat.add_comm]
   exact wpAny_fuels _ _ _ _ (h.1 hr) _
  ·rw [Nat.add_right_comm]
   refine ⟨fun h0 => ?_, fun i hi => ?_⟩
   ·exfalso
    obtain ⟨j, hj⟩ := List.exists_mem_of_ne_nil _ hr
    obtain ⟨j1, oj, j2, j3⟩ := mem_ready.1 hj
    have hjp : j < p := by have := (Array.getElem?_eq_some_iff.1 j2).1; simpa [hlen] using this
    have : j ∈ Region.ready .any l.toArray (lA ++ Array.replicate (l.length - p) false) := by
     rw [getA j hjp] at j2
     refine mem_ready.2 ⟨by rw [getL lA hsz j true hjp]; exact j1, oj, j2, fun e he hb => ?_⟩
     have h4 := depA j oj hjp j2 e he hb
     rw [getL lA hsz e.on false (by omega)]
     exact j3 e he hb
    rw [h0] at this; cases this
   ·obtain ⟨hip, hi'⟩ := rdy lA hsz hr i hi
    have h1 := h.2 i hi'
    have hset : (lA ++ Array.replicate (l.length - p) false).setIfInBounds i true = lA.setIfInBounds i true ++ Array.replicate (l.length - p) false := by
     rw [Array.setIfInBounds_append_left (by omega)]
    rw [hset]
    unfold wpOp at h1 ⊢
    rw [getA i hip] at h1
    cases ho : l.toArray[i]? with
    | none =>
     rw [ho] at h1
     exact ih _ _ _ (by simpa using hsz) h1
    | some o =>
     rw [ho] at h1
     simp only at h1 ⊢
     have hw : Region.wanted o (yielded (l.take p).toArray a.tmps) = Region.wanted o (yielded l.toArray a.tmps) := by
      have h2 := (hA _ (zA i o hip ho)).2
      unfold Region.wanted
      cases hg : o.guard with
      | none => rfl
      | some q =>
       obtain ⟨j, want⟩ := q
       rw [hg] at h2
       simp only [decide_eq_true_eq] at h2
       simp only [yielded, getA j h2]
     rw [hw] at h1
     split
     ·rename_i hwt
      rw [if_pos hwt] at h1
      rcases h1 with h1 | ⟨_, hlo⟩
      ·refine .inl (Oper.wp_mono (fun a w h => ih _ _ _ (by simpa using hsz) h) ?_)
       have hQ : ∀ (K : Act → World → Prop), o.wp P a w K (onlyN fun a w => wpAny P .any l.toArray (onlyN Q) f2 (Array.replicate p true ++ Array.replicate (l.length - p) false) a w) → o.wp P a w K (onlyN Q) := fun K hk => by
        unfold Oper.wp at *
        generalize (execOp a.eval o).run P w = r at *
        cases r with
        | ok n w' =>
         cases n <;> simp only [Oper.upon] at hk ⊢ <;> first | exact hk | exact Calls.mono hk fun e w'' he => by cases e <;> first | exact he | exact he.elim
        | halt x w' =>
         cases x <;> simp only [Oper.upon] at hk ⊢ <;> first | exact hk | exact hk.elim
       exact hQ _ h1
      ·obtain ⟨a', w', h2⟩ := hlo
       exact h2.elim
     ·rename_i hwt
      rw [if_neg hwt] at h1
      exact ih _ _ _ (by simpa using hsz) h1
theorem T_regionPhk (ks : Nat → Bool) (k p : Nat) {rid} {l : List Oper} (hm : P.follows .mixedOrders = true) (hM : Nat.ble k σ.length = true) (hp : phaseB l p = true)
  (h : TA P n (max m k) (hold ks k σ) (l.take p).toArray p (Array.replicate p false) (fun E' σ' => TA P n m [] l.toArray (l.length - p) (Array.replicate p true ++ Array.replicate (l.length - p) false) (K .normal) E' (back (hold ks k σ) σ')) E (rest ks k σ)) : T P n m (.region rid l.toArray true) K E σ := fun F Λ w tmps Q hn hs0 hf hq => by
 have hM : k ≤ σ.length := Nat.le_of_ble_eq_true hM
 have hlen : (hold ks k σ).length = k := by rw [hold_len]; omega
 have hpl : p ≤ l.length := by simp only [phaseB, Bool.and_eq_true, decide_eq_true_eq] at hp; exact hp.2
 have hs : St F Λ σ { w with drawn := w.drawn + 1 } := ⟨fun L xs hx => (hs0.row L xs hx).imp (fun h => h) fun ⟨b, o, cs, t, h1, h2, h3, h4⟩ => ⟨b, o, cs, t, h1, h2, h3, fun j x hj => (h4 j x hj).imp fun c hc => ⟨hc.1, Cell.mono (w := w) (w' := { w with drawn := w.drawn + 1 }) (fun b hb => ⟨hb, rfl⟩) (fun b cs t h => ⟨cs, h, rfl⟩) hc.2⟩⟩, hs0.apart, hs0.old, hs0.tab, hs0.lab⟩
 have h1 := h F Λ { w with drawn := w.drawn + 1 } tmps (fun a w => wpAny P .any l.toArray (onlyN fun a w => Q .normal a w) (l.length - p) (Array.replicate p true ++ Array.replicate (l.length - p) false) a w) hn (by omega) (hs.rest ks k) (hs.hold hM)
  (FrOK.mono (w := w) (w' := { w with drawn := w.drawn + 1 }) (fun b hb => ⟨hb, rfl⟩) (fun b cs t h => ⟨cs, h, rfl⟩) hf)
  fun F' Λ' σ' w' tmps' E' hn' hs' hk' hf' hst' hN => by
   have hst := Step.back hs (Nat.le_max_left m k) (Nat.le_max_right m k) hM hk' hst'
   refine wpAny_of_held _ _ _ _ (hN F' Λ' w' tmps' (fun a w => Q .normal a w) hn' (Nat.zero_le _) (hs'.back hk') ⟨fun l r h => by simp at h, fun l xs h => by simp at h, fun l xs l' xs' b o o' h => by simp at h, Nat.zero_le _⟩ hf' fun F2 Λ2 σ2 w2 tmps2 E2 hn2 hs2 hk2 hf2 hst2 hK2 => ?_)
   have hst3 := hst.trans hst2
   exact hq .normal F2 Λ2 _ w2 tmps2 E2 hn2 hs2 hf2
    { os := hst3.os.pre, tape := hst3.tape, output := hst3.output, size := hst3.size, sizes := hst3.sizes, keep := hst3.keep, mono := hst3.mono, new := hst3.new, own := hst3.own, len := hst3.len, boxes := hst3.boxes, kept := hst3.kept } hK2
 have h2 := wpAny_split (Q := fun a w => Q .normal a w) hp (l.length - p) p (Array.replicate p false) ⟨tmps, []⟩ _ (by simp) (wpAny_of_held _ _ _ _ h1)
 have e1 : Array.replicate p false ++ Array.replicate (l.length - p) false = Array.replicate l.toArray.size false := by
  rw [Array.replicate_append_replicate]; congr 1; simp; omega
 have e2 : p + (l.length - p) = l.toArray.size := by simp; omega
 rw [e1, e2] at h2
 exact wp_mono (wp_region_any hm h2) fun e a w h => by cases e <;> first | exact h | exact h.elim
theorem T_regionP (k : Nat) {rid} {l : List Oper} (hm : P.follows .mixedOrders = true) (hM : Nat.ble k σ.length = true) (h : TA P n (max m k) (hold (fun _ => true) k σ) l.toArray l.length (Array.replicate l.length false) (fun E' σ' => K .normal E' (back (hold (fun _ => true) k σ) σ')) E (rest (fun _ => true) k σ)) : T P n m (.region rid l.toArray true) K E σ := T_regionPk _ k hm hM h
theorem T_regionPh (k p : Nat) {rid} {l : List Oper} (hm : P.follows .mixedOrders = true) (hM : Nat.ble k σ.length = true) (hp : phaseB l p = true)
  (h : TA P n (max m k) (hold (fun _ => true) k σ) (l.take p).toArray p (Array.replicate p false) (fun E' σ' => TA P n m [] l.toArray (l.length - p) (Array.replicate p true ++ Array.replicate (l.length - p) false) (K .normal) E' (back (hold (fun _ => true) k σ) σ')) E (rest (fun _ => true) k σ)) : T P n m (.region rid l.toArray true) K E σ := T_regionPhk _ k p hm hM hp h
end
end Go.Sep
set_option linter.unusedVariables false
set_option linter.unusedSimpArgs false
namespace Go.Sep
open Go
def compat (zs zs' : List A) : Prop := ∀ (j : Nat) (x' : A), zs'[j]? = some x' → ∃ x, zs[j]? = some x ∧ (x' = x ∨ ∃ (k : Nat) (u u' : List A), x = .o k u ∧ x' = .o k u' ∧ u'.length = u.length)
theorem compat.refl (zs : List A) : compat zs zs := fun j x h => ⟨x, h, .inl rfl⟩
theorem compat.trans {a b c : List A} (h : compat a b) (h' : compat b c) : compat a c := fun j x hx => by
 obtain ⟨y, hy, h1⟩ := h' j x hx
 obtain ⟨z, hz, h2⟩ := h j y hy
 refine ⟨z, hz, ?_⟩
 rcases h1 with rfl | ⟨k, u, u', rfl, rfl, h3⟩
 ·exact h2
 ·rcases h2 with rfl | ⟨k2, v, v', rfl, e, h4⟩
  ·exact .inr ⟨k, u, u', rfl, rfl, h3⟩
  ·cases e; exact .inr ⟨k, v, u', rfl, rfl, h3.trans h4⟩
theorem sub_app' : ∀ (p q : List Nat) (xs ys : List A), sub xs p = some ys → sub xs (p ++ q) = sub ys q
 | [], q, xs, ys, h => by simp only [sub, Option.some.injEq] at h; subst h; rfl
 | j :: p, q, xs, ys, h => by
  simp only [sub] at h
  split at h
  ·rename_i k zs hj
   simp only [List.cons_append, sub, hj]; exact sub_app' p q zs ys h
  ·cases h
theorem rowAt_app {σ : Store} {L : List Nat} {xs} (h : rowAt σ L = some xs) (p : List Nat) : rowAt σ (L ++ p) = sub xs p := by
 cases L with
 | nil => simp [rowAt] at h
 | cons l q =>
  simp only [rowAt] at h
  split at h
  ·rename_i r hr
   split at h
   ·rename_i ys hy
    simp only [List.cons_append, rowAt, hr, hy]; exact sub_app' q p ys xs h
   ·cases h
  ·cases h
theorem sub_setX : ∀ (p : List Nat) (xs xs0 ys : List A), sub xs p = some xs0 → ys.length = xs0.length → ∀ q zs', sub (setSub xs p ys) q = some zs' →
  (∃ r, q = p ++ r ∧ sub ys r = some zs') ∨ (¬ p <+: q ∧ ∃ zs, sub xs q = some zs ∧ compat zs zs' ∧ (zs' = zs ∨ q <+: p))
 | [], xs, xs0, ys, h, hl, q, zs', hq => .inl ⟨q, rfl, by simpa [setSub] using hq⟩
 | i :: p, xs, xs0, ys, h, hl, q, zs', hq => by
  simp only [sub] at h
  split at h
  case h_2 => cases h
  rename_i k zs0 hi
  simp only [setSub, hi] at hq
  have hil : i < xs.length := (List.getElem?_eq_some_iff.1 hi).1
  cases q with
  | nil =>
   simp only [sub, Option.some.injEq] at hq
   subst hq
   refine .inr ⟨by simp, xs, rfl, fun j x' hx => ?_, .inr (List.nil_prefix ..)⟩
   rw [List.getElem?_set] at hx
   split at hx
   ·rename_i e
    subst e
    simp [hil] at hx
    subst hx
    exact ⟨_, hi, .inr ⟨k, zs0, _, rfl, rfl, setSub_len p zs0 xs0 ys h hl⟩⟩
   ·exact ⟨x', hx, .inl rfl⟩
  | cons j q =>
   simp only [sub] at hq
   by_cases e : i = j
   ·subst e
    rw [List.getElem?_set] at hq
    simp only [if_true, hil] at hq
    rcases sub_setX p zs0 xs0 ys h hl q zs' hq with ⟨r, rfl, h1⟩ | ⟨h1, zs, h2, h3, h4⟩
    ·exact .inl ⟨r, rfl, h1⟩
    ·refine .inr ⟨fun hp => h1 (List.cons_prefix_cons.1 hp).2, zs, by simp only [sub, hi]; exact h2, h3, h4.imp id fun hp => List.cons_prefix_cons.2 ⟨rfl, hp⟩⟩
   ·rw [List.getElem?_set, if_neg e] at hq
    exact .inr ⟨fun hp => e (List.cons_prefix_cons.1 hp).1, zs', by simp only [sub]; exact hq, compat.refl _, .inl rfl⟩
theorem rowAt_setX {σ : Store} {L : List Nat} {xs ys : List A} (hr : rowAt σ L = some xs) (hl : ys.length = xs.length) {L' zs'} (h : rowAt (setRow σ L ys) L' = some zs') :
  (∃ r, L' = L ++ r ∧ sub ys r = some zs') ∨ (¬ L <+: L' ∧ ∃ zs, rowAt σ L' = some zs ∧ compat zs zs' ∧ (zs' = zs ∨ L' <+: L)) := by
 cases L with
 | nil => simp [rowAt] at hr
 | cons l p =>
  simp only [rowAt] at hr
  split at hr
  case h_2 => cases hr
  rename_i r hlr
  split at hr
  case h_2 => cases hr
  rename_i ws hws
  simp only [setRow, hlr] at h
  have hll : l < σ.length := (List.getElem?_eq_some_iff.1 hlr).1
  cases L' with
  | nil => simp [rowAt] at h
  | cons l' q =>
   simp only [rowAt] at h
   by_cases e : l = l'
   ·subst e
    rw [List.getElem?_set] at h
    simp only [if_true, hll, under_cells, hws, Option.map_some] at h
    rcases sub_setX p ws xs ys hr hl q zs' h with ⟨r2, rfl, h1⟩ | ⟨h1, zs, h2, h3, h4⟩
    ·exact .inl ⟨r2, rfl, h1⟩
    ·exact .inr ⟨fun hp => h1 (List.cons_prefix_cons.1 hp).2, zs, by simp only [rowAt, hlr, hws]; exact h2, h3, h4.imp id fun hp => List.cons_prefix_cons.2 ⟨rfl, hp⟩⟩
   ·rw [List.getElem?_set, if_neg e] at h
    exact .inr ⟨fun hp => e (List.cons_prefix_cons.1 hp).1, zs', by simp only [rowAt]; exact h, compat.refl _, .inl rfl⟩
def setRows : Store → List (List Nat) → List (List A) → Store
 | σ, L :: Ls, ys :: rows => setRows (setRow σ L ys) Ls rows
 | σ, _, _ => σ
inductive Sel (σ : Store) : List (List Nat) → List (List A) → Prop
  | nil : Sel σ [] []
  | cons {L Ls xs rows} : rowAt σ L = some xs → isBox σ L = false → (∀ L' ∈ Ls, ¬ L <+: L' ∧ ¬ L' <+: L) → Sel σ Ls rows → Sel σ (L :: Ls) (xs :: rows)
def sameLens : List (List A) → List (List A) → Prop
 | [], [] => True
 | x :: xs, y :: ys => y.length = x.length ∧ sameLens xs ys
 | _, _ => False
def rowsS (rows : List (List A)) : Store := rows.map .row
theorem Sel.get {σ : Store} {Ls : List (List Nat)} {rows : List (List A)} (h : Sel σ Ls rows) : ∀ (i : Nat) (L : List Nat), Ls[i]? = some L → ∃ xs, rows[i]? = some xs ∧ rowAt σ L = some xs ∧ isBox σ L = false := by
 induction h with
 | nil => intro i L h; simp at h
 | cons h1 h2 _ _ ih =>
  intro i L hi
  cases i with
  | zero => simp at hi; subst hi; exact ⟨_, rfl, h1, h2⟩
  | succ i => simpa using ih i L (by simpa using hi)
theorem Sel.len {σ : Store} {Ls : List (List Nat)} {rows : List (List A)} (h : Sel σ Ls rows) : rows.length = Ls.length := by
 induction h with
 | nil => rfl
 | cons _ _ _ _ ih => simp [ih]
theorem Sel.sep {σ : Store} {Ls : List (List Nat)} {rows : List (List A)} (h : Sel σ Ls rows) : ∀ (i j : Nat) (L L' p p' : List Nat), Ls[i]? = some L → Ls[j]? = some L' → L ++ p = L' ++ p' → i = j := by
 induction h with
 | nil => intro i j L L' p p' h; simp at h
 | @cons L0 Ls xs rows h1 h2 h3 _ ih =>
  have key : ∀ j L' p p', Ls[j]? = some L' → L0 ++ p = L' ++ p' → False := fun j L' p p' hj he => by
   have hm := h3 L' (List.mem_of_getElem? hj)
   rcases List.prefix_or_prefix_of_prefix (List.prefix_append L0 p) (he ▸ List.prefix_append L' p') with h | h
   ·exact hm.1 h
   ·exact hm.2 h
  intro i j L L' p p' hi hj he
  cases i with
  | zero =>
   simp at hi; subst hi
   cases j with
   | zero => rfl
   | succ j => exact (key j L' p p' (by simpa using hj) he).elim
  | succ i =>
   cases j with
   | zero => simp at hj; subst hj; exact (key i L p' p (by simpa using hi) he.symm).elim
   | succ j => rw [ih i j L L' p p' (by simpa using hi) (by simpa using hj) he]
theorem rowAt_rows {rows : List (List A)} {i : Nat} {p : List Nat} : rowAt (rowsS rows) (i :: p) = (rows[i]?).bind fun xs => sub xs p := by
 simp only [rowAt, rowsS, List.getElem?_map]
 cases rows[i]? <;> rfl
theorem isRows_rows (rows : List (List A)) : isRows (rowsS rows) = true := by simp [isRows, rowsS]
theorem Sel.pushes {σ : Store} {L : List Nat} {xs ys : List A} (hr : rowAt σ L = some xs) (hl : ys.length = xs.length) : ∀ {Ls rows}, (∀ L' ∈ Ls, ¬ L <+: L' ∧ ¬ L' <+: L) → Sel σ Ls rows → Sel (setRow σ L ys) Ls rows := fun {Ls rows} hs h => by
 induction h with
 | nil => exact .nil
 | @cons L' Ls us rows h1 h2 h3 h4 ih =>
  refine .cons ?_ ?_ h3 (ih fun L2 h => hs L2 (List.mem_cons_of_mem _ h))
  ·have hn := hs L' (List.mem_cons_self ..)
   -- the row at L' is as it was
   have key : ∀ zs, rowAt (setRow σ L ys) L' = some zs → zs = us := fun zs hz => by
    rcases rowAt_setX hr hl hz with ⟨r, rfl, _⟩ | ⟨_, zs2, g1, _, g2⟩
    ·exact (hn.1 (List.prefix_append ..)).elim
    ·rw [h1] at g1; cases g1
     rcases g2 with rfl | g2
     ·rfl
     ·exact (hn.2 g2).elim
   have ex : ∀ (p q : List Nat) (ws ws0 vs : List A), sub ws p = some ws0 → sub ws q = some vs → ¬ p <+: q → ∃ zs, sub (setSub ws p ys) q = some zs := by
    intro p
    induction p with
    | nil => intro q ws ws0 vs _ _ hn; exact (hn (List.nil_prefix ..)).elim
    | cons i p ihp =>
     intro q ws ws0 vs g1 g2 hn
     simp only [sub] at g1
     split at g1
     case h_2 => cases g1
     rename_i k zs0 hi
     have hil : i < ws.length := (List.getElem?_eq_some_iff.1 hi).1
     simp only [setSub, hi]
     cases q with
     | nil => exact ⟨_, rfl⟩
     | cons j q =>
      simp only [sub]
      by_cases e : i = j
      ·subst e
       rw [List.getElem?_set_self hil]
       simp only [sub, hi] at g2
       exact ihp q zs0 ws0 vs g1 g2 fun hp => hn (List.cons_prefix_cons.2 ⟨rfl, hp⟩)
      ·rw [List.getElem?_set_ne e]
       simp only [sub] at g2
       exact ⟨vs, g2⟩
   have : ∃ zs, rowAt (setRow σ L ys) L' = some zs := by
    cases L with
    | nil => simp [rowAt] at hr
    | cons l p =>
     cases L' with
     | nil => simp [rowAt] at h1
     | cons l' q =>
      simp only [rowAt] at hr
      split at hr
      case h_2 => cases hr
      rename_i r hlr
      split at hr
      case h_2 => cases hr
      rename_i ws hws
      have hll : l < σ.length := (List.getElem?_eq_some_iff.1 hlr).1
      simp only [setRow, hlr, rowAt]
      by_cases e : l = l'
      ·subst e
       rw [List.getElem?_set_self hll]
       simp only [under_cells, hws, Option.map_some]
       simp only [rowAt, hlr, hws] at h1
       exact ex p q ws xs us hr h1 fun hp => hn.1 (List.cons_prefix_cons.2 ⟨rfl, hp⟩)
      ·rw [List.getElem?_set_ne e]
       simp only [rowAt] at h1
       exact ⟨us, h1⟩
   obtain ⟨zs, hz⟩ := this
   rw [hz, key zs hz]
  ·rw [isBox_setRow]; exact h2
theorem Sel.after {rows' : List (List A)} : ∀ {σ : Store} {Ls : List (List Nat)} {rows : List (List A)}, Sel σ Ls rows → sameLens rows rows' → ∀ {L zs'}, rowAt (setRows σ Ls rows') L = some zs' →
  (∃ i L0 p, Ls[i]? = some L0 ∧ L = L0 ++ p ∧ rowAt (rowsS rows') (i :: p) = some zs') ∨ ((∀ L0 ∈ Ls, ¬ L0 <+: L) ∧ ∃ zs, rowAt σ L = some zs ∧ compat zs zs' ∧ (zs' = zs ∨ ∃ L0 ∈ Ls, L <+: L0)) := by
 induction rows' with
 | nil =>
  intro σ Ls rows h hl L zs' hz
  cases h with
  | nil => exact .inr ⟨by simp, zs', by simpa [setRows] using hz, compat.refl _, .inl rfl⟩
  | cons => exact hl.elim
 | cons ys rows' ih =>
  intro σ Ls rows h hl L zs' hz
  cases h with
  | nil => exact hl.elim
  | @cons L1 Ls xs rows h1 h2 h3 h4 =>
   simp only [setRows] at hz
   have h4' := Sel.pushes h1 hl.1 h3 h4
   rcases ih h4' hl.2 hz with ⟨i, L0, p, g1, g2, g3⟩ | ⟨g1, zs, g2, g3, g4⟩
   ·exact .inl ⟨i + 1, L0, p, by simpa using g1, g2, by rw [rowAt_rows] at g3 ⊢; simpa using g3⟩
   ·rcases rowAt_setX h1 hl.1 g2 with ⟨r, rfl, k1⟩ | ⟨k1, zs0, k2, k3, k4⟩
    ·refine .inl ⟨0, L1, r, rfl, rfl, ?_⟩
     rw [rowAt_rows]
     have : zs' = zs := by
      rcases g4 with g4 | ⟨L0, hm, hp⟩
      ·exact g4
      ·exact ((h3 L0 hm).1 (List.IsPrefix.trans (List.prefix_append ..) hp)).elim
     rw [this]; simpa using k1
    ·refine .inr ⟨fun L0 hm => ?_, zs0, k2, k3.trans g3, ?_⟩
     ·rcases List.mem_cons.1 hm with rfl | hm
      ·exact k1
      ·exact g1 L0 hm
     ·rcases g4 with rfl | ⟨L0, hm, hp⟩
      ·rcases k4 with rfl | k4
       ·exact .inl rfl
       ·exact .inr ⟨L1, List.mem_cons_self .., k4⟩
      ·exact .inr ⟨L0, List.mem_cons_of_mem _ hm, hp⟩
theorem setRows_len : ∀ (rows : List (List A)) (σ : Store) (Ls), (setRows σ Ls rows).length = σ.length
 | [], σ, Ls => by cases Ls <;> rfl
 | ys :: rows, σ, [] => rfl
 | ys :: rows, σ, L :: Ls => by simp only [setRows]; rw [setRows_len rows, setRow_len]
theorem isBox_setRows : ∀ (rows : List (List A)) (σ : Store) (Ls L), isBox (setRows σ Ls rows) L = isBox σ L
 | [], σ, Ls, L => by cases Ls <;> rfl
 | ys :: rows, σ, [], L => rfl
 | ys :: rows, σ, L0 :: Ls, L => by simp only [setRows]; rw [isBox_setRows rows, isBox_setRow]
theorem setRows_box {rows : List (List A)} {σ : Store} {Ls} {l : Nat} {xs} (h : σ[l]? = some (.box xs)) : ∃ xs', (setRows σ Ls rows)[l]? = some (.box xs') := by
 have h1 : isBox (setRows σ Ls rows) [l] = true := by rw [isBox_setRows]; simp [isBox, h]
 simp only [isBox] at h1
 split at h1
 ·rename_i us hu; exact ⟨us, hu⟩
 ·cases h1
def locP : List (List Nat) → Nat → List Nat → Option (Nat × List Nat)
 | [], _, _ => none
 | L0 :: Ls, i, L => if L0.isPrefixOf L then some (i, L.drop L0.length) else locP Ls (i + 1) L
theorem locP_some : ∀ {Ls : List (List Nat)} {k : Nat} {L i p}, locP Ls k L = some (i, p) → ∃ j L0, i = k + j ∧ Ls[j]? = some L0 ∧ L = L0 ++ p
 | [], k, L, i, p, h => by simp [locP] at h
 | L0 :: Ls, k, L, i, p, h => by
  simp only [locP] at h
  split at h
  ·rename_i hp
   simp only [Option.some.injEq, Prod.mk.injEq] at h
   obtain ⟨rfl, rfl⟩ := h
   refine ⟨0, L0, rfl, rfl, ?_⟩
   rw [List.isPrefixOf_iff_prefix] at hp
   obtain ⟨r, rfl⟩ := hp
   simp
  ·obtain ⟨j, L1, rfl, h1, h2⟩ := locP_some h
   exact ⟨j + 1, L1, by omega, by simpa using h1, h2⟩
theorem locP_none : ∀ {Ls : List (List Nat)} {k : Nat} {L}, locP Ls k L = none → ∀ L0 ∈ Ls, ¬ L0 <+: L
 | [], k, L, h, L0, hm => by cases hm
 | L1 :: Ls, k, L, h, L0, hm => by
  simp only [locP] at h
  split at h
  ·cases h
  ·rename_i hp
   rcases List.mem_cons.1 hm with rfl | hm
   ·rwa [List.isPrefixOf_iff_prefix] at hp
   ·exact locP_none h L0 hm
theorem locP_at {σ Ls rows} (hs : Sel σ Ls rows) {i : Nat} {L0 : List Nat} (h : Ls[i]? = some L0) (p : List Nat) : locP Ls 0 (L0 ++ p) = some (i, p) := by
 cases hl : locP Ls 0 (L0 ++ p) with
 | none => exact (locP_none hl L0 (List.mem_of_getElem? h) (List.prefix_append ..)).elim
 | some x =>
  obtain ⟨i', p'⟩ := x
  obtain ⟨j, L1, rfl, h1, h2⟩ := locP_some hl
  have := hs.sep i j L0 L1 p p' h h1 h2
  subst this
  rw [h] at h1; cases h1
  have := List.append_cancel_left h2
  subst this
  simp
def downP (Λ : Lbl) (Ls : List (List Nat)) : Lbl := fun L => match L with
 | [] => none
 | i :: p => match Ls[i]? with
  | some L0 => Λ (L0 ++ p)
  | none => none
def upP (Λ Λ1 : Lbl) (Ls : List (List Nat)) : Lbl := fun L => match locP Ls 0 L with
 | some (i, p) => Λ1 (i :: p)
 | none => Λ L
section
variable {F F1 : Nat → Prop} {Λ Λ1 : Lbl} {σ : Store} {w w1 : World} {Ls : List (List Nat)} {rows rows' : List (List A)}
theorem rows_at (hS : Sel σ Ls rows) {i : Nat} {p : List Nat} {zs} (h : rowAt (rowsS rows) (i :: p) = some zs) : ∃ L0, Ls[i]? = some L0 ∧ rowAt σ (L0 ++ p) = some zs := by
 rw [rowAt_rows] at h
 cases hi : rows[i]? with
 | none => simp [hi] at h
 | some xs =>
  have hlt : i < Ls.length := by have := (List.getElem?_eq_some_iff.1 hi).1; rw [hS.len] at this; exact this
  obtain ⟨us, h1, h2, _⟩ := hS.get i _ (List.getElem?_eq_getElem hlt)
  rw [hi] at h1; cases h1
  refine ⟨_, List.getElem?_eq_getElem hlt, ?_⟩
  rw [rowAt_app h2]; simpa [hi] using h
theorem deepBox {σ : Store} {L p : List Nat} (h : isBox σ L = false) (hne : L ≠ []) : isBox σ (L ++ p) = false := by
 cases p with
 | nil => simpa using h
 | cons j p =>
  cases L with
  | nil => exact (hne rfl).elim
  | cons l q => cases q <;> rfl
theorem ne_nil_of_row {σ : Store} {L xs} (h : rowAt σ L = some xs) : L ≠ [] := by rintro rfl; simp [rowAt] at h
theorem St.downP (hs : St F Λ σ w) (hS : Sel σ Ls rows) : St F (Sep.downP Λ Ls) (rowsS rows) w where
 row L zs hz := by
  cases L with
  | nil => simp [rowAt] at hz
  | cons i p =>
   obtain ⟨L0, h1, h2⟩ := rows_at hS hz
   have e : Sep.downP Λ Ls (i :: p) = Λ (L0 ++ p) := by simp [Sep.downP, h1]
   rw [e, isBox_rows (isRows_rows rows)]
   obtain ⟨us, _, h3, h4⟩ := hS.get i L0 h1
   refine (hs.row _ _ h2).imp id fun ⟨b, o, cs, t, g1, g2, g3, g4⟩ => ⟨b, o, cs, t, g1, g2, g3, fun j x hj => (g4 j x hj).imp fun c hc => ⟨hc.1, ?_⟩⟩
   have h5 := hc.2
   rw [deepBox h4 (ne_nil_of_row h3)] at h5
   exact h5.unbox fun a n k v hv => hv.imp id fun ⟨b, o, cap, k1, k2⟩ => ⟨b, o, cap, by simpa [Sep.downP, h1] using k1, k2⟩
 apart L zs L' zs' b o o' h1 h2 h3 h4 := by
  cases L with
  | nil => simp [rowAt] at h1
  | cons i p =>
   cases L' with
   | nil => simp [rowAt] at h2
   | cons i' p' =>
    obtain ⟨L0, g1, g2⟩ := rows_at hS h1
    obtain ⟨L0', g1', g2'⟩ := rows_at hS h2
    have := hs.apart _ _ _ _ _ _ _ g2 g2' (by simpa [Sep.downP, g1] using h3) (by simpa [Sep.downP, g1'] using h4)
    have e := hS.sep i i' L0 L0' p p' g1 g1' this
    subst e
    rw [g1] at g1'; cases g1'
    rw [List.append_cancel_left this]
 old := hs.old
 tab := hs.tab
 lab L hL := by
  cases L with
  | nil => rfl
  | cons h p =>
   simp only [List.headD_cons, rowsS, List.length_map, hS.len] at hL
   simp [Sep.downP, List.getElem?_eq_none hL]
theorem Own.downP (hS : Sel σ Ls rows) {b : Nat} (h : Own (Sep.downP Λ Ls) (rowsS rows) b) : ∃ (i : Nat) (L0 p : List Nat) (zs : List A) (o : Nat), Ls[i]? = some L0 ∧ rowAt σ (L0 ++ p) = some zs ∧ Λ (L0 ++ p) = some (b, o) := by
 obtain ⟨L, zs, o, h1, h2⟩ := h
 cases L with
 | nil => simp [rowAt] at h1
 | cons i p =>
  obtain ⟨L0, g1, g2⟩ := rows_at hS h1
  exact ⟨i, L0, p, zs, o, g1, g2, by simpa [Sep.downP, g1] using h2⟩
theorem St.upP (hs : St F Λ σ w) (hS : Sel σ Ls rows) (hlen : sameLens rows rows') (h : Step rows.length F (Sep.downP Λ Ls) (rowsS rows) w F1 Λ1 (rowsS rows') w1) (hs1 : St F1 Λ1 (rowsS rows') w1) :
    St F1 (Sep.upP Λ Λ1 Ls) (setRows σ Ls rows') w1 ∧ (∀ m, Step m F Λ σ w F1 (Sep.upP Λ Λ1 Ls) (setRows σ Ls rows') w1) ∧ (∀ L b o, Λ L = some (b, o) → Sep.upP Λ Λ1 Ls L = some (b, o)) := by
  have hext : ∀ L b o, Λ L = some (b, o) → Sep.upP Λ Λ1 Ls L = some (b, o) := fun L b o hL => by
    simp only [Sep.upP]
    cases hl : locP Ls 0 L with
    | none => exact hL
    | some x =>
      obtain ⟨i, p⟩ := x
      obtain ⟨j, L0, rfl, h1, rfl⟩ := locP_some hl
      simp only [Nat.zero_add]
      refine h.kept (j :: p) b o ?_ (by simpa [Sep.downP, h1] using hL)
      have := (List.getElem?_eq_some_iff.1 h1).1
      simp only [List.headD_cons, hS.len]; exact this
  have hF : ∀ b, F b → F1 b ∧ w1.heap[b]? = w.heap[b]? := h.frozen (hs.downP hS)
  have hno : ∀ L zs b o, rowAt σ L = some zs → (∀ L0 ∈ Ls, ¬ L0 <+: L) → Λ L = some (b, o) → ¬ Own (Sep.downP Λ Ls) (rowsS rows) b := fun L zs b o h1 h2 h3 h4 => by
    obtain ⟨i, L0, p, zs', o', h5, h6, h7⟩ := Own.downP hS h4
    have := hs.apart _ _ _ _ _ _ _ h1 h6 h3 h7
    subst this; exact h2 L0 (List.mem_of_getElem? h5) (List.prefix_append ..)
  have hown1 : ∀ b, Own Λ1 (rowsS rows') b → (∃ (i : Nat) (L0 p : List Nat) (zs : List A) (o : Nat), Ls[i]? = some L0 ∧ rowAt σ (L0 ++ p) = some zs ∧ Λ (L0 ++ p) = some (b, o)) ∨ w.heap.size ≤ b := fun b hb => (h.own b hb).imp (Own.downP hS) id
  have eA : ∀ i L0 p, Ls[i]? = some L0 → Sep.upP Λ Λ1 Ls (L0 ++ p) = Λ1 (i :: p) := fun i L0 p h1 => by simp only [Sep.upP, locP_at hS h1]
  have eB : ∀ L, (∀ L0 ∈ Ls, ¬ L0 <+: L) → Sep.upP Λ Λ1 Ls L = Λ L := fun L h1 => by
    simp only [Sep.upP]
    cases hl : locP Ls 0 L with
    | none => rfl
    | some x =>
      obtain ⟨i, p⟩ := x
      obtain ⟨j, L0, rfl, h2, rfl⟩ := locP_some hl
      exact (h1 L0 (List.mem_of_getElem? h2) (List.prefix_append ..)).elim
  refine ⟨⟨fun L zs' hz => ?_, fun L zs L' zs' b o o' h1 h2 h3 h4 => ?_, hs1.old, hs1.tab, fun L hL => ?_⟩, fun m => ?_, hext⟩
  · rcases hS.after hlen hz with ⟨i, L0, p, h1, rfl, h2⟩ | ⟨h1, zs, h2, h3, _⟩
    · rw [eA i L0 p h1, isBox_setRows]
      obtain ⟨us, _, h4, h5⟩ := hS.get i L0 h1
      rw [deepBox h5 (ne_nil_of_row h4)]
      refine (hs1.row _ _ h2).imp id fun ⟨b, o, cs, t, g1, g2, g3, g4⟩ => ⟨b, o, cs, t, g1, g2, g3, fun j x hj => (g4 j x hj).imp fun c hc => ⟨hc.1, ?_⟩⟩
      have h6 := hc.2
      rw [isBox_rows (isRows_rows rows')] at h6
      refine h6.unbox fun a n k v hv => hv.imp id fun ⟨b, o, cap, k1, k2⟩ => ⟨b, o, cap, ?_, k2⟩
      rw [List.append_assoc, eA i L0 _ h1]; simpa using k1
    · rw [eB L h1, isBox_setRows]
      rcases hs.row _ _ h2 with ⟨g1, g2⟩ | ⟨b, o, cs, t, g1, g2, g3, g4⟩
      · refine .inl ⟨g1, ?_⟩
        subst g2
        cases zs' with
        | nil => rfl
        | cons x xs => obtain ⟨y, hy, _⟩ := h3 0 x rfl; simp at hy
      · have hlt : b < w.heap.size := (Array.getElem?_eq_some_iff.1 g3).1
        have hn := hno _ _ b o h2 h1 g1
        refine .inr ⟨b, o, cs, t, g1, fun hb => ?_, by rw [h.keep b hlt hn]; exact g3, fun j x' hj => ?_⟩
        · rcases h.new b hb with k | k | k
          · exact g2 k
          · exact hn k
          · omega
        · obtain ⟨x, hx, hxx⟩ := h3 j x' hj
          obtain ⟨c, g5, g6⟩ := g4 j x hx
          refine ⟨c, g5, ?_⟩
          have g7 := (g6.mono hF h.sizes).ext hext
          rcases hxx with rfl | ⟨k, u, u', rfl, rfl, hu⟩
          · exact g7
          · exact ⟨g7.1, g7.2.1, g7.2.2.imp fun n hn => ⟨by rw [hu]; exact hn.1, hn.2⟩⟩
  · have key : ∀ L zs b o, rowAt (setRows σ Ls rows') L = some zs → Sep.upP Λ Λ1 Ls L = some (b, o) → (∃ i L0 p, Ls[i]? = some L0 ∧ L = L0 ++ p ∧ rowAt (rowsS rows') (i :: p) = some zs ∧ Λ1 (i :: p) = some (b, o)) ∨ ((∀ L0 ∈ Ls, ¬ L0 <+: L) ∧ ∃ us, rowAt σ L = some us ∧ Λ L = some (b, o)) := fun L zs b o hz hb => by
      rcases hS.after hlen hz with ⟨i, L0, p, h1, rfl, h2⟩ | ⟨h1, us, h2, _, _⟩
      · rw [eA i L0 p h1] at hb; exact .inl ⟨i, L0, p, h1, rfl, h2, hb⟩
      · rw [eB L h1] at hb; exact .inr ⟨h1, us, h2, hb⟩
    have cross : ∀ i p zs L' us b o o', rowAt (rowsS rows') (i :: p) = some zs → Λ1 (i :: p) = some (b, o) → (∀ L0 ∈ Ls, ¬ L0 <+: L') → rowAt σ L' = some us → Λ L' = some (b, o') → False := fun i p zs L' us b o o' g1 g2 g3 g4 g5 => by
      rcases hown1 b ⟨_, _, _, g1, g2⟩ with ⟨i2, L2, p2, zs2, o2, k0, k1, k2⟩ | k
      · have := hs.apart _ _ _ _ _ _ _ g4 k1 g5 k2
        subst this; exact g3 L2 (List.mem_of_getElem? k0) (List.prefix_append ..)
      · have := hs.owns ⟨_, _, _, g4, g5⟩; omega
    rcases key _ _ _ _ h1 h3 with ⟨i, L0, p, k0, rfl, g1, g2⟩ | ⟨g0, us, g1, g2⟩ <;> rcases key _ _ _ _ h2 h4 with ⟨i', L0', p', k0', rfl, g3, g4⟩ | ⟨g0', us', g3, g4⟩
    · have := hs1.apart _ _ _ _ _ _ _ g1 g3 g2 g4
      simp only [List.cons.injEq] at this
      obtain ⟨rfl, rfl⟩ := this
      rw [k0] at k0'; cases k0'; rfl
    · exact (cross _ _ _ _ _ _ _ _ g1 g2 g0' g3 g4).elim
    · exact (cross _ _ _ _ _ _ _ _ g3 g4 g0 g1 g2).elim
    · exact hs.apart _ _ _ _ _ _ _ g1 g3 g2 g4
  · rw [setRows_len] at hL
    rw [eB L fun L0 hm hp => ?_]
    · exact hs.lab L hL
    · obtain ⟨i, hi⟩ := List.getElem?_of_mem hm
      obtain ⟨us, _, h4, _⟩ := hS.get i L0 hi
      obtain ⟨r, rfl⟩ := hp
      cases L0 with
      | nil => simp [rowAt] at h4
      | cons l q =>
        simp only [List.cons_append, List.headD_cons] at hL
        simp [rowAt, List.getElem?_eq_none hL] at h4
  · exact { os := h.os, tape := h.tape, output := h.output, size := h.size, sizes := h.sizes
            keep := fun b hb hn => h.keep b hb fun ho => by
              obtain ⟨i, L0, p, zs, o, _, h1, h2⟩ := Own.downP hS ho
              exact hn ⟨_, _, _, h1, h2⟩
            mono := h.mono
            new := fun b hb => (h.new b hb).imp id fun k => k.imp (fun ho => by
              obtain ⟨i, L0, p, zs, o, _, h1, h2⟩ := Own.downP hS ho
              exact ⟨_, _, _, h1, h2⟩) id
            own := fun b ⟨L, zs, o, h1, h2⟩ => by
              rcases hS.after hlen h1 with ⟨i, L0, p, k1, rfl, k2⟩ | ⟨k1, us, k2, _, _⟩
              · rw [eA i L0 p k1] at h2
                exact (hown1 b ⟨_, _, _, k2, h2⟩).imp (fun ⟨i, L0, p, zs, o, _, k1, k2⟩ => ⟨_, _, _, k1, k2⟩) id
              · rw [eB L k1] at h2; exact .inl ⟨_, _, _, k2, h2⟩
            len := by rw [setRows_len]; omega
            boxes := fun a us _ ha => by
              refine ⟨?_, setRows_box ha⟩
              refine eB [a] fun L0 hm hp => ?_
              obtain ⟨i, hi⟩ := List.getElem?_of_mem hm
              obtain ⟨ws, _, h4, h5⟩ := hS.get i L0 hi
              obtain ⟨r, hr⟩ := hp
              cases L0 with
              | nil => simp [rowAt] at h4
              | cons l q =>
                simp only [List.cons_append, List.cons.injEq, List.append_eq_nil_iff] at hr
                obtain ⟨rfl, rfl, _⟩ := hr
                simp [isBox, ha] at h5
            kept := fun L b o _ hL => hext L b o hL }
end
mutual
def A.renP (f : List Nat → List Nat) : A → A
 | .m L a n k => .m (f L) a n k
 | .e L a => .e (f L) a
 | .b _ _ => .j
 | .g xs => .g (renPL f xs)
 | .t xs => .t (renPL f xs)
 | .f g xs => .f g (renPL f xs)
 | .o k xs => .o k xs
 | .v x => .v x
 | .n => .n
 | .i k xs => .i k xs
 | .q xs d => .q xs d
 | .j => .j
 | .raw v a => .raw v a
def renPL (f : List Nat → List Nat) : List A → List A
 | [] => []
 | x :: xs => x.renP f :: renPL f xs
end
theorem renPL_get (f : List Nat → List Nat) : ∀ (xs : List A) (j : Nat), (renPL f xs)[j]? = (xs[j]?).map (A.renP f)
 | [], j => by simp [renPL]
 | x :: xs, 0 => by simp [renPL]
 | x :: xs, j + 1 => by simp [renPL, renPL_get f xs j]
theorem renPL_len (f : List Nat → List Nat) : ∀ xs : List A, (renPL f xs).length = xs.length
 | [] => rfl
 | x :: xs => by simp [renPL, renPL_len f xs]
theorem Imm.renP {F w v} {f : List Nat → List Nat} {x : A} (h : Imm F w v x) : x.renP f = x := by
 have aux : ∀ {vs : List Value} {xs : List A}, vs.length = xs.length → (∀ (j : Nat) (x : A) (y : Value), xs[j]? = some x → vs[j]? = some y → x.renP f = x) → renPL f xs = xs := fun {vs xs} hl ih => by
  apply List.ext_getElem?
  intro j
  rw [renPL_get]
  cases hj : xs[j]? with
  | none => rfl
  | some x =>
   have hlt : j < vs.length := by have := (List.getElem?_eq_some_iff.1 hj).1; omega
   simp [ih j x _ hj (List.getElem?_eq_getElem hlt)]
 induction h with
 | g vs xs hl _ ih => simp only [A.renP]; rw [aux hl ih]
 | t vs xs hl _ ih => simp only [A.renP]; rw [aux hl ih]
 | f fn vs xs hl _ ih => simp only [A.renP]; rw [aux hl ih]
 | _ => rfl
theorem OK.renP {F Λ Λ' w v x} (p : List Nat → Bool) (f : List Nat → List Nat) (h : ∀ L b o, p L = false → Λ L = some (b, o) → Λ' (f L) = some (b, o)) (hi : OK F Λ w v x) (hn : x.names p = false) : OK F Λ' w v (x.renP f) := by
 induction hi with
 | imm hi => rw [hi.renP]; exact .imm hi
 | j v => exact .j v
 | m h1 =>
  simp only [A.names] at hn
  refine .m ?_
  rcases h1 with h1 | ⟨b, o, cap, h1, h2⟩
  ·exact .inl h1
  ·exact .inr ⟨b, o, cap, h _ _ _ hn h1, h2⟩
 | e h1 => simp only [A.names] at hn; exact .e (h _ _ _ hn h1)
 | b h1 => exact .j _
 | g vs xs hl _ ih =>
  simp only [A.names] at hn
  refine .g vs _ (by rw [renPL_len]; exact hl) fun j x y hx hy => ?_
  rw [renPL_get] at hx
  cases hj : xs[j]? with
  | none => simp [hj] at hx
  | some u => simp [hj] at hx; subst hx; exact ih j u y hj hy (namesL_false hn u (List.mem_of_getElem? hj))
 | t vs xs hl _ ih =>
  simp only [A.names] at hn
  refine .t vs _ (by rw [renPL_len]; exact hl) fun j x y hx hy => ?_
  rw [renPL_get] at hx
  cases hj : xs[j]? with
  | none => simp [hj] at hx
  | some u => simp [hj] at hx; subst hx; exact ih j u y hj hy (namesL_false hn u (List.mem_of_getElem? hj))
 | f fn vs xs hl _ ih =>
  simp only [A.names] at hn
  refine .f fn vs _ (by rw [renPL_len]; exact hl) fun j x y hx hy => ?_
  rw [renPL_get] at hx
  cases hj : xs[j]? with
  | none => simp [hj] at hx
  | some u => simp [hj] at hx; subst hx; exact ih j u y hj hy (namesL_false hn u (List.mem_of_getElem? hj))
def locF (Ls : List (List Nat)) (L : List Nat) : List Nat := match locP Ls 0 L with
 | some (i, p) => i :: p
 | none => []
section
variable {P : Program} {n m : Nat} {N : Env → Store → Prop} {E : Env} {σ : Store} {o : Oper}
def FnM (P : Program) (f : Nat) (as : List A) (rows : List (List A)) (x : Value) (rows' : List (List A)) : Prop := Fn P f as (rowsS rows) fun r σ => r = .v x ∧ σ = rowsS rows' ∧ sameLens rows rows'
theorem TOp_callG (Ls : List (List Nat)) {rows rows' : List (List A)} {g : Nat} {aa0 aa as' : List A} {x : Value} (hc : CallOp P o E g aa0) (h0 : aa0 = aa) (hS : Sel σ Ls rows) (hnm : namesL (fun L => (locP Ls 0 L).isNone) aa = false) (has : renPL (locF Ls) aa = as')
  (hF : FnM P g as' rows x rows') (hd : dstOK n o.dst = true) (hN : sameLens rows rows' → N (put E o.dst (.v x)) (setRows σ Ls rows')) : TOp P n m o N E σ := fun F Λ w tmps K Qx hn hs hf hk => by
 subst h0
 obtain ⟨vs, ⟨hvl, hvs⟩, hrun⟩ := hc F Λ w tmps hf
 unfold Oper.wp
 rw [hrun w, Oper.upon_enter]
 subst has
 refine hF F (downP Λ Ls) w vs _ (hs.downP hS) ⟨by rw [renPL_len]; exact hvl, fun j a y hx hy => ?_⟩ fun F1 Λ1 σ1 w1 v r hs1 hst hv hq => ?_
 ·rw [renPL_get] at hx
  cases hj : aa0[j]? with
  | none => simp [hj] at hx
  | some u =>
   simp [hj] at hx; subst hx
   refine (hvs j u y hj hy).renP (fun L => (locP Ls 0 L).isNone) (locF Ls) (fun L b o hp hL => ?_) (namesL_false hnm u (List.mem_of_getElem? hj))
   simp only [locF]
   cases hl : locP Ls 0 L with
   | none => simp [hl] at hp
   | some x =>
    obtain ⟨i, p⟩ := x
    obtain ⟨j, L0, rfl, h1, rfl⟩ := locP_some hl
    simpa [downP, h1] using hL
 ·obtain ⟨rfl, rfl, hlen⟩ := hq
  have hst' : Step rows.length F (downP Λ Ls) (rowsS rows) w F1 Λ1 (rowsS rows') w1 := by
   have : (rowsS rows).length = rows.length := by simp [rowsS]
   rwa [this] at hst
  obtain ⟨h1, h2, h3⟩ := hs.upP hS hlen hst' hs1
  have hf1 := (hf.mono (hst'.frozen (hs.downP hS)) hst'.sizes).ext h3
  obtain ⟨tmps', e, hn2, hf2⟩ := hf1.putO (ds := []) hn hd (.imm (.v x))
  have := hv.v_inv
  subst this
  show K (Act.put ⟨tmps, []⟩ o.dst v) w1
  rw [e]
  exact hk F1 _ _ w1 tmps' _ hn2 h1 hf2 (h2 m) (hN hlen)
end
theorem fnM_of_T {P f} {fn : Func} {c : Code} {as : List A} {rows rows' : List (List A)} {x : Value} {rs : List ResultVar} (hf : P.funcs[f]? = some fn) (hb : fn.body = some c) (hr : fn.results = rs.toArray) (hn : as.length ≤ fn.ntmps)
    (h : T P fn.ntmps rows.length c (EndK P rs rows.length fun r σ => r = .v x ∧ σ = rowsS rows' ∧ sameLens rows rows') (entry 0 as) (rowsS rows)) : FnM P f as rows x rows' :=
  fn_of_T hf hb hr hn (by have e : (rowsS rows).length = rows.length := by simp [rowsS]
                          rw [e]; exact h)
theorem end_M {P : Program} {E : Env} {σ : Store} {rs as} {rows rows' : List (List A)} {x : Value} {m : Nat} (h : ResA P E σ rs as) (hr : resA as = .v x) (hσ : σ.take m = rowsS rows') (hm : m ≤ m) (hl : sameLens rows rows') (hb : boxesE m (rowsS rows') = false) (hb2 : boxesE (rowsS rows').length (rowsS rows') = false) :
  EndK P rs m (fun r σ => r = .v x ∧ σ = rowsS rows' ∧ sameLens rows rows') .ret E σ :=
 end_own h hr m hm hσ.symm hb rfl hb2 ⟨rfl, rfl, hl⟩
theorem sameLens_T {α : Type} {T : Ty α} {xs xs' : List α} {rows rows' : List (List A)} (h : sameLens (flat T.own xs :: rows) (flat T.own xs' :: rows')) : xs'.length = xs.length ∧ sameLens rows rows' := by
 refine ⟨?_, h.2⟩
 have := h.1
 rw [flat_len T.lenO, flat_len T.lenO] at this
 exact Nat.eq_of_mul_eq_mul_right T.pos this
theorem sameLens_c {α : Type} {T : Ty α} {xs xs' : List α} {rows rows' : List (List A)} (h : xs'.length = xs.length) (hr : sameLens rows rows') : sameLens (flat T.own xs :: rows) (flat T.own xs' :: rows') := ⟨by rw [flat_len T.lenO, flat_len T.lenO, h], hr⟩
theorem rowAt_el {α : Type} {f : α → List A} {k : Nat} (hf : ∀ x, (f x).length = k) {σ : Store} {l i off k' : Nat} {xs : List α} {v : α} {zs : List A} (hr : σ[l]? = some (.row (flat f xs))) (hv : xs[i]? = some v) (ho : (f v)[off]? = some (.o k' zs)) : rowAt σ [l, i * k + off] = some zs := by
 simp only [rowAt, hr, Root.cells, sub, flat_at' hf hv ho]
theorem list_set_same {α : Type} {xs : List α} {i : Nat} {x : α} (h : xs[i]? = some x) : xs.set i x = xs := by
 apply List.ext_getElem?
 intro j
 rw [List.getElem?_set]
 split
 ·rename_i e; subst e
  split
  ·exact h.symm
  ·rename_i hn; exact (List.getElem?_eq_none (by omega)).symm
 ·rfl
theorem spl_self (cs : List A) (d n : Nat) (hl : d + ((cs.drop d).take n).length ≤ cs.length) : spl cs d ((cs.drop d).take n) = cs := by
 apply List.ext_getElem?
 intro j
 rw [spl_get _ _ _ _ hl]
 split
 ·rename_i h
  have h2 : j - d < n := by have := h.2; rw [List.length_take] at this; omega
  rw [List.getElem?_take_of_lt h2, List.getElem?_drop]
  congr 1; omega
 ·rfl
theorem spl_set_in (cs ys : List A) (d o : Nat) (x : A) (ho : o < ys.length) (hl : d + ys.length ≤ cs.length) : spl (cs.set (d + o) x) d ys = spl cs d ys := by
 apply List.ext_getElem?
 intro j
 rw [spl_get _ _ _ _ (by rw [List.length_set]; exact hl), spl_get _ _ _ _ hl]
 split
 ·rfl
 ·rw [List.getElem?_set_ne (by omega)]
def updO : List A → List Nat → List (List A) → List A
 | xs, o :: os, ys :: rows => updO (match xs[o]? with | some (.o k _) => xs.set o (.o k ys) | _ => xs) os rows
 | xs, _, _ => xs
theorem updO_len : ∀ (rows : List (List A)) (xs : List A) (os : List Nat), (updO xs os rows).length = xs.length
 | [], xs, os => by cases os <;> rfl
 | ys :: rows, xs, [] => rfl
 | ys :: rows, xs, o :: os => by
  simp only [updO]; rw [updO_len rows]
  split <;> simp
theorem setRows_cells {l d : Nat} : ∀ (rows : List (List A)) (os : List Nat) (σ : Store) (cs xs : List A), σ[l]? = some (.row cs) → (cs.drop d).take xs.length = xs → d + xs.length ≤ cs.length → (∀ o ∈ os, o < xs.length) →
  (∀ o ∈ os, ∃ k zs, xs[o]? = some (.o k zs)) → setRows σ (os.map fun o => [l, d + o]) rows = σ.set l (.row (spl cs d (updO xs os rows)))
 | [], os, σ, cs, xs, hr, hd, hl, ho, hx => by
  have e : spl cs d xs = cs := by
   have := spl_self cs d xs.length (by rw [hd]; exact hl)
   rwa [hd] at this
  have : setRows σ (os.map fun o => [l, d + o]) [] = σ := by cases os <;> rfl
  rw [this]
  have : updO xs os [] = xs := by cases os <;> rfl
  rw [this, e]
  exact (list_set_same hr).symm
 | ys :: rows, [], σ, cs, xs, hr, hd, hl, ho, hx => by
  have e : spl cs d xs = cs := by
   have := spl_self cs d xs.length (by rw [hd]; exact hl)
   rwa [hd] at this
  simp only [List.map_nil, setRows, updO, e]
  exact (list_set_same hr).symm
 | ys :: rows, o :: os, σ, cs, xs, hr, hd, hl, ho, hx => by
  obtain ⟨k, zs, hk⟩ := hx o (List.mem_cons_self ..)
  have hlt := ho o (List.mem_cons_self ..)
  have hj : cs[d + o]? = some (.o k zs) := by
   rw [← hd] at hk
   rwa [List.getElem?_take_of_lt hlt, List.getElem?_drop] at hk
  simp only [List.map_cons, setRows]
  have e1 : setRow σ [l, d + o] ys = σ.set l (.row (cs.set (d + o) (.o k ys))) := by
   simp only [setRow, hr, Root.under, setSub, hj]
  have hll : l < σ.length := (List.getElem?_eq_some_iff.1 hr).1
  rw [e1]
  have hl' : (xs.set o (.o k ys)).length = xs.length := List.length_set ..
  have hc' : (cs.set (d + o) (.o k ys)).length = cs.length := List.length_set ..
  rw [setRows_cells rows os (σ.set l (.row (cs.set (d + o) (.o k ys)))) (cs.set (d + o) (.o k ys)) (xs.set o (.o k ys)) (by rw [List.getElem?_set_self hll]) ?_ (by rw [hl', hc']; exact hl) (fun o' hm => by rw [hl']; exact ho o' (List.mem_cons_of_mem _ hm)) ?_]
  ·rw [List.set_set]
   congr 2
   simp only [updO, hk]
   exact spl_set_in _ _ _ _ _ (by rw [updO_len, hl']; exact hlt) (by rw [updO_len, hl']; exact hl)
  ·rw [hl']
   apply List.ext_getElem?
   intro q
   simp only [List.getElem?_take, List.getElem?_drop, List.getElem?_set]
   by_cases hq : q < xs.length
   ·simp only [hq, if_true]
    by_cases e : o = q
    ·subst e
     have : d + o < cs.length := by omega
     simp [hq, this]
    ·have : ¬ d + o = d + q := by omega
     simp only [e, this, if_false]
     rw [← List.getElem?_drop, ← List.getElem?_take_of_lt hq, hd]
   ·simp only [hq, if_false]
    have : o ≠ q := by omega
    rw [List.getElem?_eq_none (by omega), if_neg this]
  ·intro o' hm
   obtain ⟨k', zs', h'⟩ := hx o' (List.mem_cons_of_mem _ hm)
   by_cases e : o = o'
   ·subst e; exact ⟨k, ys, by rw [List.getElem?_set_self hlt]⟩
   ·exact ⟨k', zs', by rw [List.getElem?_set_ne e]; exact h'⟩
theorem setRows_T {α : Type} {f : α → List A} {k : Nat} (hf : ∀ x, (f x).length = k) {σ : Store} {l i : Nat} {z : Int} {xs : List α} {v v' : α} (hz : z = (i : Int)) (os : List Nat) {rows : List (List A)} (hr : σ[l]? = some (.row (flat f xs))) (hv : xs[i]? = some v) (ho : ∀ o ∈ os, ∃ k zs, (f v)[o]? = some (.o k zs)) (hv' : f v' = updO (f v) os rows) :
  setRows σ (os.map fun o => [l, i * k + o]) rows = σ.set l (.row (flat f (xs.set z.toNat v'))) := by
 subst hz; rw [Int.toNat_natCast]
 have hi := (List.getElem?_eq_some_iff.1 hv).1
 have hk : i * k + k ≤ (flat f xs).length := by rw [flat_len hf, ← Nat.succ_mul]; exact Nat.mul_le_mul_right _ hi
 have hcut := flat_cut hf (off := 0) (k' := k) hv (by omega)
 rw [Nat.add_zero, List.drop_zero] at hcut
 rw [setRows_cells rows os σ (flat f xs) (f v) hr (by rw [hf]; simpa [List.take_of_length_le (Nat.le_of_eq (hf v))] using hcut) (by rw [hf]; exact hk) (fun o hm => by obtain ⟨k', zs, h⟩ := ho o hm; exact (List.getElem?_eq_some_iff.1 h).1) ho, ← hv']
 congr 2
 have := spl_flat hf xs i v' hi
 rwa [Nat.zero_add] at this
theorem allO_nil {p : Nat → Prop} : ∀ o ∈ ([] : List Nat), p o := fun _ h => by cases h
theorem allO_cons {p : Nat → Prop} {x : Nat} {xs : List Nat} (h : p x) (h' : ∀ o ∈ xs, p o) : ∀ o ∈ x :: xs, p o := fun o hm => by
 rcases List.mem_cons.1 hm with rfl | hm
 ·exact h
 ·exact h' o hm
section
variable {P : Program} {n m : Nat} {N : Env → Store → Prop} {E : Env} {σ : Store} {ops : Array Oper} {os : List Oper} {o : Oper}
end
section
variable {P : Program} {n m : Nat} {N : Env → Store → Prop} {E : Env} {σ : Store} {o : Oper}
end
theorem namesL_append {p : List Nat → Bool} : ∀ {xs ys : List A}, namesL p (xs ++ ys) = (namesL p xs || namesL p ys)
 | [], ys => by simp [namesL]
 | x :: xs, ys => by simp [namesL, namesL_append (xs := xs), Bool.or_assoc]
theorem ownR_names {p : List Nat → Bool} {x : A} (h : ownR x = true) : x.names p = false := by
 cases x <;> first | rfl | simp [ownR] at h
theorem ownRL_names {p : List Nat → Bool} : ∀ {xs : List A}, ownRL xs = true → namesL p xs = false
 | [], _ => rfl
 | x :: xs, h => by
  simp only [ownRL, Bool.and_eq_true] at h
  simp only [namesL, ownR_names h.1, ownRL_names h.2, Bool.or_self]
theorem namesL_own {α : Type} {T : Ty α} {xs : List α} {p : List Nat → Bool} : namesL p (flat T.own xs) = false := ownRL_names (flat_ownR T xs)
theorem nms_nil {p : List Nat → Bool} : nmS p [] = false := rfl
theorem nms_row {p : List Nat → Bool} {xs σ} (h : nmS p σ = false) : nmS p (.row xs :: σ) = false := h
theorem nms_dead {p : List Nat → Bool} {σ} (h : nmS p σ = false) : nmS p (.dead :: σ) = false := h
theorem nms_box {p : List Nat → Bool} {xs σ} (h0 : namesL p xs = false) (h : nmS p σ = false) : nmS p (.box xs :: σ) = false := by simp only [nmS, h0, h, Bool.or_self]
theorem namesA {p : List Nat → Bool} {xs ys : List A} (h : namesL p xs = false) (h' : namesL p ys = false) : namesL p (xs ++ ys) = false := by rw [namesL_append, h, h']; rfl
theorem EnT.of {P : Program} {g : Nat} {fn : Func} {c : Code} (h : P.funcs[g]? = some fn) (hb : fn.body = some c) (hn : (fn.name == "runtime.NumGoroutine") = false) : EnT P g := fun args w => by
 have hn' : ¬ fn.name = "runtime.NumGoroutine" := by simpa using hn
 simp [callFunc, h, hb, hn']
end Go.Sep
set_option linter.unusedVariables false
set_option linter.unusedSimpArgs false
namespace Go.Sep
open Go
def CtlP {S R : Type} (I B : S → Prop) (Q : R → Prop) : Ctl S R → Prop
 | .next s => I s
 | .brk s => B s
 | .ret r => Q r
def SumP {S R : Type} (I : S → Prop) (Q : R → Prop) : S ⊕ R → Prop
 | .inl s => I s
 | .inr r => Q r
theorem forS_from {α S : Type} {f : Int → α → S → Option S} (I : Nat → S → Prop) {xs : List α} (h : ∀ (n : Nat) x s, xs[n]? = some x → I n s → ∃ s', f (n : Int) x s = some s' ∧ I (n + 1) s') : ∀ (k i : Nat) (s : S), i + k = xs.length → I i s → ∃ s', forS f (xs.drop i) (i : Int) s = some s' ∧ I xs.length s'
 | 0, i, s, hk, h0 => by
  rw [List.drop_eq_nil_of_le (by omega)]
  exact ⟨s, rfl, by rwa [← hk]⟩
 | k + 1, i, s, hk, h0 => by
  have hi : i < xs.length := by omega
  rw [List.drop_eq_getElem_cons hi]
  obtain ⟨s1, h1, h2⟩ := h i xs[i] s (List.getElem?_eq_getElem hi) h0
  obtain ⟨s2, h3, h4⟩ := forS_from I h k (i + 1) s1 (by omega) h2
  refine ⟨s2, ?_, h4⟩
  simp only [forS, h1, Option.bind_some]
  exact h3
theorem forS_ok {α S : Type} {f : Int → α → S → Option S} (I : Nat → S → Prop) {xs : List α} {s : S} (h0 : I 0 s) (h : ∀ (n : Nat) x s, xs[n]? = some x → I n s → ∃ s', f (n : Int) x s = some s' ∧ I (n + 1) s') : ∃ s', forS f xs 0 s = some s' ∧ I xs.length s' := by
 have := forS_from I h xs.length 0 s (by omega) h0
 simpa using this
theorem forL_from {α S R : Type} {f : Int → α → S → Option (Ctl S R)} (I : Nat → S → Prop) (B : S → Prop) (Q : R → Prop) {xs : List α} (h : ∀ (n : Nat) x s, xs[n]? = some x → I n s → ∃ c, f (n : Int) x s = some c ∧ CtlP (I (n + 1)) B Q c) : ∀ (k i : Nat) (s : S), i + k = xs.length → I i s → ∃ o, forL f (xs.drop i) (i : Int) s = some o ∧ SumP (fun s => I xs.length s ∨ B s) Q o
 | 0, i, s, hk, h0 => by
  rw [List.drop_eq_nil_of_le (by omega)]
  exact ⟨.inl s, rfl, .inl (by rwa [← hk])⟩
 | k + 1, i, s, hk, h0 => by
  have hi : i < xs.length := by omega
  rw [List.drop_eq_getElem_cons hi]
  obtain ⟨c, h1, h2⟩ := h i xs[i] s (List.getElem?_eq_getElem hi) h0
  simp only [forL, h1, Option.bind_some]
  cases c with
  | next s1 => exact forL_from I B Q h k (i + 1) s1 (by omega) h2
  | brk s1 => exact ⟨_, rfl, .inr h2⟩
  | ret r => exact ⟨_, rfl, h2⟩
theorem forL_ok {α S R : Type} {f : Int → α → S → Option (Ctl S R)} (I : Nat → S → Prop) (B : S → Prop) (Q : R → Prop) {xs : List α} {s : S} (h0 : I 0 s) (h : ∀ (n : Nat) x s, xs[n]? = some x → I n s → ∃ c, f (n : Int) x s = some c ∧ CtlP (I (n + 1)) B Q c) : ∃ o, forL f xs 0 s = some o ∧ SumP (fun s => I xs.length s ∨ B s) Q o := by
 have := forL_from I B Q h xs.length 0 s (by omega) h0
 simpa using this
theorem forM_from {S : Type} {f : Int → S → Option S} (I : Nat → S → Prop) {m : Nat} (h : ∀ (n : Nat) s, n < m → I n s → ∃ s', f (n : Int) s = some s' ∧ I (n + 1) s') : ∀ (k i : Nat) (s : S), i + k = m → I i s → ∃ s', forM f k (i : Int) s = some s' ∧ I m s'
 | 0, i, s, hk, h0 => ⟨s, rfl, by rwa [← hk]⟩
 | k + 1, i, s, hk, h0 => by
  obtain ⟨s1, h1, h2⟩ := h i s (by omega) h0
  obtain ⟨s2, h3, h4⟩ := forM_from I h k (i + 1) s1 (by omega) h2
  refine ⟨s2, ?_, h4⟩
  simp only [forM, h1, Option.bind_some]
  exact h3
theorem forM_ok {S : Type} {f : Int → S → Option S} (I : Nat → S → Prop) {m : Nat} {s : S} (h0 : I 0 s) (h : ∀ (n : Nat) s, n < m → I n s → ∃ s', f (n : Int) s = some s' ∧ I (n + 1) s') : ∃ s', forM f ((m : Int) - 0).toNat 0 s = some s' ∧ I m s' := by
 have := forM_from I h m 0 s (by omega) h0
 simpa using this
theorem forN_from {S R : Type} {f : Int → S → Option (Ctl S R)} (I : Nat → S → Prop) (B : S → Prop) (Q : R → Prop) {m : Nat} (h : ∀ (n : Nat) s, n < m → I n s → ∃ c, f (n : Int) s = some c ∧ CtlP (I (n + 1)) B Q c) : ∀ (k i : Nat) (s : S), i + k = m → I i s → ∃ o, forN f k (i : Int) s = some o ∧ SumP (fun s => I m s ∨ B s) Q o
 | 0, i, s, hk, h0 => ⟨.inl s, rfl, .inl (by rwa [← hk])⟩
 | k + 1, i, s, hk, h0 => by
  obtain ⟨c, h1, h2⟩ := h i s (by omega) h0
  simp only [forN, h1, Option.bind_some]
  cases c with
  | next s1 => exact forN_from I B Q h k (i + 1) s1 (by omega) h2
  | brk s1 => exact ⟨_, rfl, .inr h2⟩
  | ret r => exact ⟨_, rfl, h2⟩
theorem forN_ok {S R : Type} {f : Int → S → Option (Ctl S R)} (I : Nat → S → Prop) (B : S → Prop) (Q : R → Prop) {m : Nat} {s : S} (h0 : I 0 s) (h : ∀ (n : Nat) s, n < m → I n s → ∃ c, f (n : Int) s = some c ∧ CtlP (I (n + 1)) B Q c) : ∃ o, forN f ((m : Int) - 0).toNat 0 s = some o ∧ SumP (fun s => I m s ∨ B s) Q o := by
 have := forN_from I B Q h m 0 s (by omega) h0
 simpa using this
theorem while_ok {S R : Type} {f : S → Option (Ctl S R)} (I : S → Prop) (μ : S → Nat) (B : S → Prop) (Q : R → Prop) (h : ∀ s, I s → ∃ c, f s = some c ∧ CtlP (fun s' => I s' ∧ μ s' < μ s) B Q c) : ∀ (u : Nat) (s : S), μ s < u → I s → ∃ o, whileF f u s = some o ∧ SumP B Q o
 | 0, s, hu, _ => by omega
 | u + 1, s, hu, hI => by
  obtain ⟨c, h1, h2⟩ := h s hI
  simp only [whileF, h1, Option.bind_some]
  cases c with
  | next s1 => exact while_ok I μ B Q h u s1 (by have := h2.2; omega) h2.1
  | brk s1 => exact ⟨_, rfl, h2⟩
  | ret r => exact ⟨_, rfl, h2⟩
theorem forL_all {α R : Type} {f : Int → α → Unit → Option (Ctl Unit R)} {xs : List α} {r : R} (p : Nat → α → Bool) (h : ∀ (n : Nat) x, xs[n]? = some x → f (n : Int) x () = some (if p n x then .next () else .ret r)) :
  ∃ o, forL f xs 0 () = some o ∧ ((o = .inl () ∧ ∀ (n : Nat) x, xs[n]? = some x → p n x = true) ∨ (o = .inr r ∧ ∃ (n : Nat) (x : α), xs[n]? = some x ∧ p n x = false)) := by
 obtain ⟨o, h1, h2⟩ := forL_ok (f := f) (xs := xs) (s := ()) (fun n _ => ∀ (j : Nat) x, j < n → xs[j]? = some x → p j x = true) (fun _ => False) (fun r' => r' = r ∧ ∃ (n : Nat) (x : α), xs[n]? = some x ∧ p n x = false) (fun j x hj => by omega) fun n x s hx hI => by
  refine ⟨_, h n x hx, ?_⟩
  cases hp : p n x with
  | true =>
   simp only [if_true, CtlP]
   intro j y hj hy
   by_cases e : j = n
   ·subst e; rw [hx] at hy; cases hy; exact hp
   ·exact hI j y (by omega) hy
  | false => exact ⟨rfl, n, x, hx, hp⟩
 refine ⟨o, h1, ?_⟩
 cases o with
 | inl s => exact .inl ⟨rfl, fun n x hx => (h2.resolve_right id) n x (List.getElem?_eq_some_iff.1 hx).1 hx⟩
 | inr r' => exact .inr ⟨by rw [h2.1], h2.2⟩
theorem cond_T' {α : Type} {b : Bool} {x y : α} (h : b = true) : cond b x y = x := by subst h; rfl
theorem cond_F' {α : Type} {b : Bool} {x y : α} (h : b = false) : cond b x y = y := by subst h; rfl
theorem forS_fill {α β : Type} {f : Int → α → List β → Option (List β)} {xs : List α} {ys : List β} (g : α → β) (hl : ys.length = xs.length) (h : ∀ (n : Nat) x (zs : List β), xs[n]? = some x → zs.length = xs.length → f (n : Int) x zs = some (zs.set n (g x))) :
  forS f xs 0 ys = some (xs.map g) := by
 obtain ⟨s, h1, h2⟩ := forS_ok (f := f) (xs := xs) (s := ys) (fun n s => s = (xs.take n).map g ++ ys.drop n) (by simp) fun n x s hx hI => by
  have hn : n < xs.length := (List.getElem?_eq_some_iff.1 hx).1
  refine ⟨_, h n x s hx (by subst hI; simp; omega), ?_⟩
  subst hI
  rw [List.take_add_one, hx]
  simp only [Option.toList_some, List.map_append, List.map_cons, List.map_nil]
  rw [List.set_append_right _ _ (by simp; omega)]
  have : n - ((xs.take n).map g).length = 0 := by simp; omega
  have e : ys.drop n = ys[n] :: ys.drop (n + 1) := List.drop_eq_getElem_cons (by omega)
  rw [this, e, List.set_cons_zero, List.append_assoc]; rfl
 rw [h1, h2, List.take_length, List.drop_eq_nil_of_le (by omega)]; simp
theorem w64_id {x : Int} (h : -9223372036854775808 ≤ x ∧ x ≤ 9223372036854775807) : w64 x = x := w64_eq h.1 h.2
def cmpL : List Int → List Int → Int
 | [], [] => 0
 | [], _ :: _ => -1
 | _ :: _, [] => 1
 | x :: xs, y :: ys => if x < y then -1 else if y < x then 1 else cmpL xs ys
end Go.Sep
set_option linter.unusedVariables false
set_option linter.unusedSimpArgs false
namespace Go.Sep
open Go
def getB (s : ByteArray) (i : Int) : Option Int := if 0 ≤ i then (s[i.toNat]?).map (fun b => (b.toNat : Int)) else none
def ltS (x y : ByteArray) : Bool := Op.bytesLess x.toList y.toList
section
variable {P : Program} {E : Env} {σ : Store} {o : Oper}
end
end Go.Sep
set_option linter.unusedVariables false
set_option linter.unusedSimpArgs false
namespace Go.Sep
open Go
section
variable {F : Nat → Prop} {Λ : Lbl} {σ : Store} {w : World} {s j k : Nat} {xs ys : List A}
end
section
variable {P : Program} {n m : Nat} {N : Env → Store → Prop} {E : Env} {σ : Store} {ops : Array Oper} {os : List Oper} {o : Oper}
end
end Go.Sep
set_option linter.unusedVariables false
set_option linter.unusedSimpArgs false
namespace Go.Sep
open Go
section
variable {P : Program} {n m : Nat} {K : Exit → Env → Store → Prop} {N : Env → Store → Prop} {E : Env} {σ κ : Store} {ops : Array Oper} {fuel : Nat} {listed : Array Bool}
theorem TA_off (i : Nat) (listed' : Array Bool) {o : Oper} {j d : Nat} {want : Bool} {v0 : Value} (hi : ops[i]? = some o) (hg : o.guard = some (j, want)) (hgd : (ops[j]?).bind (·.dst) = some d) (hdn : d < n) (hlk : lk E d = .v v0) (hv0 : offB want v0 = true) (hd : dstOK n o.dst = true) (hl : listed.setIfInBounds i true = listed') (hsel : Region.noSelect ops = true)
  (hr : (Region.ready .any ops listed).contains i = true) (hfr : Region.free .any ops listed i = true) (h : TA P n m κ ops fuel listed' N (put E o.dst (.v undef)) σ) : TA P n m κ ops (fuel + 1) listed N E σ := fun F Λ w tmps Q hn hm hs hk hf hq => by
 obtain ⟨tmps', e, hn', hf'⟩ := hf.putO (ds := []) (v := undef) hn hd (.imm (.v _))
 subst hl
 refine wpAnyH_take hi hsel hfr hr (fun c a w h => h) (.inr ⟨by simpa [Region.wanted, hg] using yielded_off hf hn hgd hdn hlk hv0, rfl⟩) (Alike.refl _ _ _ _) ?_
 rw [e]
 exact h F Λ w tmps' Q hn' hm hs hk hf' hq
def GoOK (n : Nat) (ops : Array Oper) (E : Env) (o : Oper) : Prop := o.guard = none ∨ ∃ j d want, o.guard = some (j, want) ∧ (ops[j]?).bind (·.dst) = some d ∧ d < n ∧ lk E d = .v (.bool want)
def AllG (P : Program) (n m : Nat) (κ : Store) (ops : Array Oper) (fuel : Nat) (listed : Array Bool) (N : Env → Store → Prop) (E : Env) (σ : Store) : List Nat → Prop
 | [] => True
 | i :: rs => (∃ o, ops[i]? = some o ∧ GoOK n ops E o ∧ TOp P n m o (TA P n m κ ops fuel (listed.setIfInBounds i true) N) E σ) ∧ AllG P n m κ ops fuel listed N E σ rs
theorem AllG.get : ∀ {rs : List Nat}, AllG P n m κ ops fuel listed N E σ rs → ∀ i ∈ rs, ∃ o, ops[i]? = some o ∧ GoOK n ops E o ∧ TOp P n m o (TA P n m κ ops fuel (listed.setIfInBounds i true) N) E σ
 | [], _, i, h => by cases h
 | j :: rs, h, i, hi => by
  rcases List.mem_cons.1 hi with rfl | hi
  ·exact h.1
  ·exact AllG.get h.2 i hi
end
end Go.Sep
set_option linter.unusedVariables false
set_option linter.unusedSimpArgs false
namespace Go.Sep
open Go
def Ok {α : Type} (e : Option α) (P : α → Prop) : Prop := ∃ r, e = some r ∧ P r
theorem Ok.ret {α : Type} {a : α} {P : α → Prop} (h : P a) : Ok (some a) P := ⟨a, rfl, h⟩
theorem Ok.mono {α : Type} {e : Option α} {P Q : α → Prop} (h : Ok e P) (k : ∀ a, P a → Q a) : Ok e Q := by
 obtain ⟨r, h1, h2⟩ := h; exact ⟨r, h1, k r h2⟩
theorem Ok.bind {α β : Type} {e : Option α} {f : α → Option β} {P : α → Prop} {Q : β → Prop} (h : Ok e P) (k : ∀ a, P a → Ok (f a) Q) : Ok (e.bind f) Q := by
 obtain ⟨r, h1, h2⟩ := h; rw [h1]; exact k r h2
theorem Ok.eq {α β : Type} {e : Option α} {f : α → Option β} {a : α} {Q : β → Prop} (h : e = some a) (k : Ok (f a) Q) : Ok (e.bind f) Q := by
 rw [h]; exact k
theorem Ok.of {α : Type} {e : Option α} {a : α} (h : e = some a) : Ok e fun r => r = a := ⟨a, h, rfl⟩
theorem Ok.to {α : Type} {e : Option α} {a : α} (h : Ok e fun r => r = a) : e = some a := by obtain ⟨r, h1, rfl⟩ := h; exact h1
theorem Ok.cond {α : Type} {b : Bool} {x y : Option α} {P : α → Prop} (ht : b = true → Ok x P) (hf : b = false → Ok y P) : Ok (_root_.cond b x y) P := by
 cases b with
 | true => exact ht rfl
 | false => exact hf rfl
theorem Ok.ct {α : Type} {b : Bool} {x y : Option α} {P : α → Prop} (h : b = true) (k : Ok x P) : Ok (_root_.cond b x y) P := by subst h; exact k
theorem Ok.cf {α : Type} {b : Bool} {x y : Option α} {P : α → Prop} (h : b = false) (k : Ok y P) : Ok (_root_.cond b x y) P := by subst h; exact k
theorem Ok.get {α β : Type} {xs : List α} {i : Int} {f : α → Option β} {Q : β → Prop} {n : Nat} (hi : i = (n : Int)) (hn : n < xs.length) (k : Ok (f xs[n]) Q) : Ok ((Go.Sep.getI xs i).bind f) Q := by
 subst hi; exact .eq (getI_lt hn) k
theorem Ok.get' {α β : Type} {xs : List α} {i : Int} {f : α → Option β} {Q : β → Prop} (h0 : 0 ≤ i) (h1 : i < xs.length) (k : ∀ (n : Nat) (hn : n < xs.length), i = (n : Int) → Ok (f xs[n]) Q) : Ok ((Go.Sep.getI xs i).bind f) Q := by
 obtain ⟨n, rfl⟩ : ∃ n : Nat, i = n := ⟨i.toNat, by omega⟩
 exact .get rfl (by omega) (k n (by omega) rfl)
theorem Ok.app {α β : Type} {b : Nat} {xs ys : List α} {f : List α → Option β} {Q : β → Prop} (h : (xs.length + ys.length) * b ≤ 140737488355328) (k : Ok (f (xs ++ ys)) Q) : Ok ((Go.Sep.app b xs ys).bind f) Q := .eq (app_ok h) k
theorem Ok.mk {α β : Type} {b n : Nat} {z : α} {f : List α → Option β} {Q : β → Prop} (h1 : b * n ≤ 281474976710656) (h2 : n ≤ 1099511627776) (k : Ok (f (List.replicate n z)) Q) : Ok ((Go.Sep.mk b (n : Int) z).bind f) Q := .eq (mk_ok h1 h2) k
theorem Ok.gN {β : Type} {n : Int} {f : Unit → Option β} {Q : β → Prop} (h : n ≤ 9223372036854775807) (k : Ok (f ()) Q) : Ok ((Go.Sep.gN n).bind f) Q := .eq (gN_ok h) k
theorem Ok.forS {α S β : Type} {f : Int → α → S → Option S} {xs : List α} {s : S} {g : S → Option β} {Q : β → Prop} (I : Nat → S → Prop) (h0 : I 0 s) (h : ∀ (n : Nat) x s, xs[n]? = some x → I n s → Ok (f (n : Int) x s) (I (n + 1))) (k : ∀ s, I xs.length s → Ok (g s) Q) : Ok ((Go.Sep.forS f xs 0 s).bind g) Q := by
 obtain ⟨s', h1, h2⟩ := forS_ok (f := f) I h0 h; rw [h1]; exact k s' h2
theorem Ok.forL {α S R β : Type} {f : Int → α → S → Option (Ctl S R)} {xs : List α} {s : S} {K : S → Option β} {L : R → Option β} {Q : β → Prop} (I : Nat → S → Prop) (B : S → Prop) (T : R → Prop) (h0 : I 0 s) (h : ∀ (n : Nat) x s, xs[n]? = some x → I n s → Ok (f (n : Int) x s) (CtlP (I (n + 1)) B T)) (k1 : ∀ s, I xs.length s ∨ B s → Ok (K s) Q) (k2 : ∀ r, T r → Ok (L r) Q) : Ok ((Go.Sep.forL f xs 0 s).bind fun o => onS o K L) Q := by
 obtain ⟨o, h1, h2⟩ := forL_ok (f := f) I B T h0 h
 rw [h1]
 cases o with
 | inl s => exact k1 s h2
 | inr r => exact k2 r h2
theorem Ok.forM {S β : Type} {f : Int → S → Option S} {m : Nat} {s : S} {g : S → Option β} {Q : β → Prop} (I : Nat → S → Prop) (h0 : I 0 s) (h : ∀ (n : Nat) s, n < m → I n s → Ok (f (n : Int) s) (I (n + 1))) (k : ∀ s, I m s → Ok (g s) Q) : Ok ((Go.Sep.forM f ((m : Int) - 0).toNat 0 s).bind g) Q := by
 obtain ⟨s', h1, h2⟩ := forM_ok (f := f) (m := m) I h0 h; rw [h1]; exact k s' h2
theorem Ok.forN {S R β : Type} {f : Int → S → Option (Ctl S R)} {m : Nat} {s : S} {K : S → Option β} {L : R → Option β} {Q : β → Prop} (I : Nat → S → Prop) (B : S → Prop) (T : R → Prop) (h0 : I 0 s) (h : ∀ (n : Nat) s, n < m → I n s → Ok (f (n : Int) s) (CtlP (I (n + 1)) B T)) (k1 : ∀ s, I m s ∨ B s → Ok (K s) Q) (k2 : ∀ r, T r → Ok (L r) Q) : Ok ((Go.Sep.forN f ((m : Int) - 0).toNat 0 s).bind fun o => onS o K L) Q := by
 obtain ⟨o, h1, h2⟩ := forN_ok (f := f) (m := m) I B T h0 h
 rw [h1]
 cases o with
 | inl s => exact k1 s h2
 | inr r => exact k2 r h2
theorem Ok.while {S R β : Type} {f : S → Option (Ctl S R)} {u : Nat} {s : S} {K : S → Option β} {L : R → Option β} {Q : β → Prop} (I : S → Prop) (μ : S → Nat) (B : S → Prop) (T : R → Prop) (hu : μ s < u) (h0 : I s) (h : ∀ s, I s → Ok (f s) (CtlP (fun s' => I s' ∧ μ s' < μ s) B T)) (k1 : ∀ s, B s → Ok (K s) Q) (k2 : ∀ r, T r → Ok (L r) Q) : Ok ((whileF f u s).bind fun o => onS o K L) Q := by
 obtain ⟨o, h1, h2⟩ := while_ok (f := f) I μ B T h u s hu h0
 rw [h1]
 cases o with
 | inl s => exact k1 s h2
 | inr r => exact k2 r h2
theorem Ok.next {S R : Type} {s : S} {I B : S → Prop} {T : R → Prop} (h : I s) : Ok (some (Ctl.next s)) (CtlP I B T) := ⟨_, rfl, h⟩
theorem Ok.brk {S R : Type} {s : S} {I B : S → Prop} {T : R → Prop} (h : B s) : Ok (some (Ctl.brk s)) (CtlP I B T) := ⟨_, rfl, h⟩
theorem Ok.out {S R : Type} {r : R} {I B : S → Prop} {T : R → Prop} (h : T r) : Ok (some (Ctl.ret r : Ctl S R)) (CtlP I B T) := ⟨_, rfl, h⟩
theorem cutI_okN {α : Type} {xs : List α} {i j : Nat} (h1 : i ≤ j) (h2 : j ≤ xs.length) : cutI xs (i : Int) (j : Int) = some ((xs.take j).drop i) := by
 unfold cutI; rw [if_pos (by omega)]; simp
theorem Ok.cut {α β : Type} {xs : List α} {a b : Int} {f : List α → Option β} {Q : β → Prop} {i j : Nat} (ha : a = (i : Int)) (hb : b = (j : Int)) (h1 : i ≤ j) (h2 : j ≤ xs.length) (k : Ok (f ((xs.take j).drop i)) Q) : Ok ((cutI xs a b).bind f) Q := by
 subst ha hb; exact .eq (cutI_okN h1 h2) k
theorem Ok.allL {α R β : Type} {l : List α} {f : Int → α → Unit → Option (Ctl Unit R)} {K : Unit → Option β} {L : R → Option β} {Q : β → Prop} (P : Nat → Prop) (r0 : R) (hf : ∀ (n : Nat) x, l[n]? = some x → (∀ j, j < n → P j) → Ok (f (n : Int) x ()) (CtlP (fun _ => P n) (fun _ => False) (fun r => r = r0 ∧ ¬ P n))) (k1 : (∀ j, j < l.length → P j) → Ok (K ()) Q) (k2 : (∃ j, j < l.length ∧ ¬ P j) → Ok (L r0) Q) : Ok ((Go.Sep.forL f l 0 ()).bind fun o => onS o K L) Q := by
 refine .forL (fun n _ => ∀ j, j < n → P j) (fun _ => False) (fun r => r = r0 ∧ ∃ j, j < l.length ∧ ¬ P j) (fun j hj => by omega) (fun n x s hx hI => (hf n x hx hI).mono fun o ho => ?_) (fun s hs => k1 (hs.resolve_right id)) (fun r hr => by rw [hr.1]; exact k2 hr.2)
 cases o with
 | next s =>
  intro j hj
  by_cases e : j = n
  ·rw [e]; exact ho
  ·exact hI j (by omega)
 | brk s => exact ho
 | ret r => exact ⟨ho.1, n, (List.getElem?_eq_some_iff.1 hx).1, ho.2⟩
theorem Ok.allN {R β : Type} {m : Nat} {f : Int → Unit → Option (Ctl Unit R)} {K : Unit → Option β} {L : R → Option β} {Q : β → Prop} (P : Nat → Prop) (r0 : R) (hf : ∀ (n : Nat), n < m → Ok (f (n : Int) ()) (CtlP (fun _ => P n) (fun _ => False) (fun r => r = r0 ∧ ¬ P n))) (k1 : (∀ j, j < m → P j) → Ok (K ()) Q) (k2 : (∃ j, j < m ∧ ¬ P j) → Ok (L r0) Q) : Ok ((Go.Sep.forN f ((m : Int) - 0).toNat 0 ()).bind fun o => onS o K L) Q := by
 refine .forN (fun n _ => ∀ j, j < n → P j) (fun _ => False) (fun r => r = r0 ∧ ∃ j, j < m ∧ ¬ P j) (fun j hj => by omega) (fun n s hn hI => (hf n hn).mono fun o ho => ?_) (fun s hs => k1 (hs.resolve_right id)) (fun r hr => by rw [hr.1]; exact k2 hr.2)
 cases o with
 | next s =>
  intro j hj
  by_cases e : j = n
  ·rw [e]; exact ho
  ·exact hI j (by omega)
 | brk s => exact ho
 | ret r => exact ⟨ho.1, n, hn, ho.2⟩
theorem Ok.test {α : Type} {e : Option Bool} {P : Prop} {r0 : α} (h : Ok e fun t => (t = true ↔ ¬ P)) : Ok (e.bind fun t => _root_.cond t (some (Ctl.ret r0)) (some (Ctl.next ()))) (CtlP (fun _ => P) (fun _ => False) (fun r => r = r0 ∧ ¬ P)) :=
 .bind h fun t ht => .cond (fun h => .out ⟨rfl, ht.1 h⟩) fun h => .next (Classical.byContradiction fun hc => by have := ht.2 hc; rw [h] at this; cases this)
end Go.Sep
set_option linter.unusedVariables false
set_option linter.unusedSimpArgs false
namespace Go.Sep
open Go
def renR (f : Nat → Nat) : Root → Root
 | .box xs => .box (renL f xs)
 | .row xs => .row xs
 | .dead => .dead
theorem sub_renL (f : Nat → Nat) (xs : List A) (j : Nat) (p : List Nat) : sub (renL f xs) (j :: p) = sub xs (j :: p) := by
 simp only [sub, renL_get]
 cases hj : xs[j]? with
 | none => rfl
 | some x => cases x <;> simp [A.ren]
theorem rowAt_ren {σ : Store} {f : Nat → Nat} {h : Nat} {p : List Nat} {zs : List A} (hz : rowAt (σ.map (renR f)) (h :: p) = some zs) : ∃ zs0, rowAt σ (h :: p) = some zs0 ∧ zs = (if isBox σ (h :: p) = true then renL f zs0 else zs0) := by
 simp only [rowAt, List.getElem?_map] at hz ⊢
 cases hσ : σ[h]? with
 | none => rw [hσ] at hz; cases hz
 | some r =>
  rw [hσ] at hz
  cases r with
  | dead => cases hz
  | row xs =>
   refine ⟨zs, hz, ?_⟩
   cases p <;> simp [isBox, hσ]
  | box xs =>
   simp only [Option.map_some, renR, Root.cells] at hz
   cases p with
   | nil => simp only [sub, Option.some.injEq] at hz; subst hz; exact ⟨xs, rfl, by simp [isBox, hσ]⟩
   | cons j p => rw [sub_renL] at hz; exact ⟨zs, hz, by simp [isBox]⟩
theorem isBox_ren {σ : Store} {f : Nat → Nat} (L : List Nat) : isBox (σ.map (renR f)) L = isBox σ L := by
 cases L with
 | nil => rfl
 | cons h p =>
  cases p with
  | cons j p => rfl
  | nil =>
   simp only [isBox, List.getElem?_map]
   cases σ[h]? with
   | none => rfl
   | some r => cases r <;> rfl
theorem Cell.renB {F : Nat → Prop} {Λ Λ' : Lbl} {w : World} {L L' : List Nat} {c : Value} {x : A} (p : List Nat → Bool) (f : Nat → Nat) (h : ∀ L b o, p L = false → Λ L = some (b, o) → Λ' (rh f L) = some (b, o)) (hS : ∀ a n k v, Sl Λ w L a n k v → Sl Λ' w L' a n k v) (hn : x.names p = false) (hc : Cell F Λ w true L c x) : Cell F Λ' w true L' c (x.ren f) := by
 rcases hc.box with rfl | ⟨k, ys, rfl⟩ | ⟨h1, h2⟩
 ·simp only [A.ren]; trivial
 ·simp only [A.ren]; exact ⟨hc.1, hc.2.1, hc.2.2.elim fun n hn => ⟨n, hn.1, hS _ _ _ _ hn.2⟩⟩
 ·have h3 := h2.ren p f h hn
  cases x with
  | j => simp [A.inBox] at h1
  | o k ys => simp [A.inBox] at h1
  | g xs => simp [A.inBox] at h1
  | t xs => simp [A.inBox] at h1
  | _ => simp only [A.ren] at h3 ⊢; exact ⟨by first | rfl | exact h1, h3⟩
def pickR (σ : Store) (ls : List Nat) : Store := ls.map fun l => (σ[l]?).getD .dead
def subS (σ : Store) (ls : List Nat) : Store := (pickR σ ls).map (renR (ixOf ls))
theorem rowAt_pickR {σ : Store} {ls : List Nat} {h : Nat} {p zs} (hz : rowAt (pickR σ ls) (h :: p) = some zs) : ∃ l, ls[h]? = some l ∧ rowAt σ (l :: p) = some zs ∧ (pickR σ ls)[h]? = σ[l]? := by
 simp only [rowAt, pickR, List.getElem?_map] at hz ⊢
 cases hl : ls[h]? with
 | none => rw [hl] at hz; cases hz
 | some l =>
  rw [hl] at hz
  simp only [Option.map_some] at hz ⊢
  cases hs : σ[l]? with
  | none => rw [hs] at hz; cases hz
  | some r => rw [hs] at hz; exact ⟨l, rfl, by rw [hs]; exact hz, by rw [hs]; rfl⟩
theorem isBox_eq {σ σ' : Store} {h l : Nat} (e : σ'[h]? = σ[l]?) (p : List Nat) : isBox σ' (h :: p) = isBox σ (l :: p) := by
 cases p with
 | cons j p => rfl
 | nil => simp only [isBox, e]
theorem pickL_ix {Λ : Lbl} {ls : List Nat} (hnd : ls.Nodup) {L : List Nat} {b o : Nat} (hp : (!inL ls L) = false) (hL : Λ L = some (b, o)) : pickL Λ ls (rh (ixOf ls) L) = some (b, o) := by
 cases L with
 | nil => simp [inL] at hp
 | cons h p =>
  simp only [inL, Bool.not_eq_false'] at hp
  simp only [rh, pickL, ixOf_get hnd hp]; exact hL
theorem St.sub {F Λ σ w} (hs : St F Λ σ w) {ls : List Nat} (hnd : ls.Nodup) (hb : ∀ l ∈ ls, ∀ xs, σ[l]? = some (.box xs) → namesL (fun L => !inL ls L) xs = false) : St F (pickL Λ ls) (subS σ ls) w where
 row L zs hz := by
  cases L with
  | nil => simp [rowAt] at hz
  | cons h p =>
   obtain ⟨zs0, h1, rfl⟩ := rowAt_ren hz
   obtain ⟨l, h2, h3, h4⟩ := rowAt_pickR h1
   have e : pickL Λ ls (h :: p) = Λ (l :: p) := by simp [pickL, h2]
   have eb : isBox (subS σ ls) (h :: p) = isBox σ (l :: p) := by rw [subS, isBox_ren, isBox_eq h4]
   rw [e, eb, isBox_eq h4]
   rcases hs.row _ _ h3 with ⟨g1, rfl⟩ | ⟨b, o, cs, t, g1, g2, g3, g4⟩
   ·refine .inl ⟨g1, ?_⟩
    split <;> rfl
   ·refine .inr ⟨b, o, cs, t, g1, g2, g3, fun j x hj => ?_⟩
    have hSl : ∀ j, ∀ a n k v, Sl Λ w ((l :: p) ++ [j]) a n k v → Sl (pickL Λ ls) w ((h :: p) ++ [j]) a n k v := fun j a n k v hv => hv.imp id fun ⟨b, o, cap, k1, k2⟩ => ⟨b, o, cap, by simpa [pickL, h2] using k1, k2⟩
    by_cases hbx : isBox σ (l :: p) = true
    ·rw [if_pos hbx, renL_get] at hj
     cases hx : zs0[j]? with
     | none => rw [hx] at hj; cases hj
     | some x0 =>
      rw [hx] at hj
      simp only [Option.map_some, Option.some.injEq] at hj
      subst hj
      obtain ⟨c, g5, g6⟩ := g4 j x0 hx
      refine ⟨c, g5, ?_⟩
      rw [hbx] at g6 ⊢
      have hpn : p = [] := by cases p with | nil => rfl | cons j p => simp [isBox] at hbx
      subst hpn
      have hbs : σ[l]? = some (.box zs0) := by
       simp only [isBox] at hbx
       split at hbx
       ·rename_i us hu; simp only [rowAt, hu, Root.cells, Sep.sub, Option.some.injEq] at h3; rw [hu, h3]
       ·cases hbx
      exact g6.renB (fun L => !inL ls L) _ (fun L b o hp hL => pickL_ix hnd hp hL) (hSl j) (namesL_false (hb l (List.mem_of_getElem? h2) _ hbs) _ (List.mem_of_getElem? hx))
    ·rw [if_neg hbx] at hj
     have hbx' : isBox σ (l :: p) = false := by simpa using hbx
     obtain ⟨c, g5, g6⟩ := g4 j x hj
     refine ⟨c, g5, ?_⟩
     rw [hbx'] at g6 ⊢
     exact g6.unbox (hSl j)
 apart L zs L' zs' b o o' hr hr' h3 h4 := by
  cases L with
  | nil => simp [rowAt] at hr
  | cons h0 p =>
   cases L' with
   | nil => simp [rowAt] at hr'
   | cons h0' p' =>
    obtain ⟨z1, k1, _⟩ := rowAt_ren hr
    obtain ⟨z2, k2, _⟩ := rowAt_ren hr'
    obtain ⟨l, g1, g2, _⟩ := rowAt_pickR k1
    obtain ⟨l', g1', g2', _⟩ := rowAt_pickR k2
    have := hs.apart _ _ _ _ _ _ _ g2 g2' (by simpa [pickL, g1] using h3) (by simpa [pickL, g1'] using h4)
    simp only [List.cons.injEq] at this
    obtain ⟨rfl, rfl⟩ := this
    have e1 := List.getElem?_eq_some_iff.1 g1
    have e2 := List.getElem?_eq_some_iff.1 g1'
    have : h0 = h0' := by
     rcases Nat.lt_trichotomy h0 h0' with g | g | g
     ·exact absurd (e1.2.trans e2.2.symm) (List.pairwise_iff_getElem.1 hnd h0 h0' e1.1 e2.1 g)
     ·exact g
     ·exact absurd (e2.2.trans e1.2.symm) (List.pairwise_iff_getElem.1 hnd h0' h0 e2.1 e1.1 g)
    rw [this]
 old := hs.old
 tab := hs.tab
 lab L hL := by
  cases L with
  | nil => rfl
  | cons h0 p =>
   simp only [List.headD_cons, subS, pickR, List.length_map] at hL
   simp [pickL, List.getElem?_eq_none hL]
theorem Own.sub {Λ : Lbl} {σ : Store} {ls : List Nat} {b : Nat} (h : Own (pickL Λ ls) (subS σ ls) b) : ∃ l p zs o, l ∈ ls ∧ rowAt σ (l :: p) = some zs ∧ Λ (l :: p) = some (b, o) := by
 obtain ⟨L, zs, o, h1, h2⟩ := h
 cases L with
 | nil => simp [rowAt] at h1
 | cons h0 p =>
  obtain ⟨z, k1, _⟩ := rowAt_ren h1
  obtain ⟨l, g1, g2, _⟩ := rowAt_pickR k1
  exact ⟨l, p, z, o, List.mem_of_getElem? g1, g2, by simpa [pickL, g1] using h2⟩
def gi (ls : List Nat) (s h : Nat) : Option Nat := if ls.contains h = true then some (ixOf ls h) else if h < s then none else some (h - s + ls.length)
def gr (ls : List Nat) (s i : Nat) : Nat := match ls[i]? with
 | some l => l
 | none => i - ls.length + s
def setAll : Store → List Nat → Store → Store
 | σ, l :: ls, r :: rs => setAll (σ.set l r) ls rs
 | σ, _, _ => σ
def upS (σ : Store) (ls : List Nat) (σ1 : Store) : Store := setAll σ ls (σ1.map (renR (gr ls σ.length))) ++ (σ1.map (renR (gr ls σ.length))).drop ls.length
def upG (Λ Λ1 : Lbl) (ls : List Nat) (s : Nat) : Lbl := fun L => match L with
 | [] => Λ []
 | h :: p => match gi ls s h with
  | some i => Λ1 (i :: p)
  | none => Λ (h :: p)
theorem setAll_len : ∀ (ls : List Nat) (σ rs : Store), (setAll σ ls rs).length = σ.length
 | [], σ, rs => by simp [setAll]
 | l :: ls, σ, [] => by simp [setAll]
 | l :: ls, σ, r :: rs => by simp only [setAll]; rw [setAll_len ls]; simp
theorem ixOf_cons_self (l : Nat) (ls : List Nat) : ixOf (l :: ls) l = 0 := by simp [ixOf, List.findIdx_cons]
theorem ixOf_cons_ne {l h : Nat} (ls : List Nat) (e : l ≠ h) : ixOf (l :: ls) h = ixOf ls h + 1 := by
 simp only [ixOf, List.findIdx_cons]
 have : (l == h) = false := by simpa using e
 simp [this]
theorem setAll_get : ∀ (ls : List Nat) (σ rs : Store) (h : Nat), ls.Nodup → (∀ l ∈ ls, l < σ.length) → ls.length ≤ rs.length → (setAll σ ls rs)[h]? = if ls.contains h = true then rs[ixOf ls h]? else σ[h]?
 | [], σ, rs, h, _, _, _ => by simp [setAll]
 | l :: ls, σ, [], h, _, _, hl => by simp at hl
 | l :: ls, σ, r :: rs, h, hnd, hlt, hl => by
  have hnd' := List.nodup_cons.1 hnd
  simp only [setAll]
  rw [setAll_get ls (σ.set l r) rs h hnd'.2 (fun l' hl' => by rw [List.length_set]; exact hlt l' (List.mem_cons_of_mem _ hl')) (by simpa using hl)]
  by_cases e : l = h
  ·subst e
   have h1 : ¬ ls.contains l = true := by rw [List.contains_iff_mem]; exact hnd'.1
   have h2 : (l :: ls).contains l = true := by simp
   rw [if_neg h1, if_pos h2, ixOf_cons_self, List.getElem?_set_self (hlt l (List.mem_cons_self ..))]; rfl
  ·have hc : (l :: ls).contains h = ls.contains h := by
    rw [List.contains_cons]
    have : (h == l) = false := by simpa using (Ne.symm e)
    rw [this, Bool.false_or]
   rw [hc, ixOf_cons_ne ls e, List.getElem?_set_ne e]; rfl
theorem ixOf_lt {ls : List Nat} {h : Nat} (hm : ls.contains h = true) : ixOf ls h < ls.length := by
 have hm' : h ∈ ls := by simpa using hm
 exact List.findIdx_lt_length_of_exists ⟨h, hm', by simp⟩
theorem upS_get {σ σ1 : Store} {ls : List Nat} (hnd : ls.Nodup) (hlt : ∀ l ∈ ls, l < σ.length) (hl : ls.length ≤ σ1.length) (h : Nat) : (upS σ ls σ1)[h]? = match gi ls σ.length h with
  | some i => (σ1.map (renR (gr ls σ.length)))[i]?
  | none => σ[h]? := by
 have hl' : ls.length ≤ (σ1.map (renR (gr ls σ.length))).length := by simpa using hl
 simp only [upS, gi]
 by_cases hh : h < σ.length
 ·rw [List.getElem?_append_left (by rw [setAll_len]; exact hh), setAll_get _ _ _ _ hnd hlt hl']
  by_cases hc : ls.contains h = true
  ·rw [if_pos hc, if_pos hc]
  ·rw [if_neg hc, if_neg hc, if_pos hh]
 ·rw [List.getElem?_append_right (by rw [setAll_len]; omega), setAll_len, List.getElem?_drop]
  have hc : ¬ ls.contains h = true := fun hc => hh (hlt h (by simpa using hc))
  rw [if_neg hc, if_neg hh, Nat.add_comm]
theorem rowAt_get {σ σ' : Store} {h h' : Nat} (e : σ'[h]? = σ[h']?) (p : List Nat) : rowAt σ' (h :: p) = rowAt σ (h' :: p) := by simp only [rowAt, e]
theorem gi_gr {ls : List Nat} (hnd : ls.Nodup) {s : Nat} (hlt : ∀ l ∈ ls, l < s) (i : Nat) : gi ls s (gr ls s i) = some i := by
 simp only [gr]
 cases hi : ls[i]? with
 | some l =>
  have hm := List.mem_of_getElem? hi
  have hc : ls.contains l = true := by simpa using hm
  simp only [gi, if_pos hc]
  have h1 := ixOf_get hnd hc
  have hil := (List.getElem?_eq_some_iff.1 hi)
  have hjl := (List.getElem?_eq_some_iff.1 h1)
  have : ixOf ls l = i := by
   rcases Nat.lt_trichotomy (ixOf ls l) i with g | g | g
   ·exact absurd (hjl.2.trans hil.2.symm) (List.pairwise_iff_getElem.1 hnd _ _ hjl.1 hil.1 g)
   ·exact g
   ·exact absurd (hil.2.trans hjl.2.symm) (List.pairwise_iff_getElem.1 hnd _ _ hil.1 hjl.1 g)
  rw [this]
 | none =>
  have hge : ls.length ≤ i := List.getElem?_eq_none_iff.1 hi
  have hc : ¬ ls.contains (i - ls.length + s) = true := fun hc => by have := hlt _ (by simpa using hc); omega
  simp only [gi]
  rw [if_neg hc, if_neg (by omega)]
  congr 1; omega
theorem gi_inj {ls : List Nat} (hnd : ls.Nodup) {s : Nat} (hlt : ∀ l ∈ ls, l < s) {h h' i : Nat} (e : gi ls s h = some i) (e' : gi ls s h' = some i) : h = h' := by
 have key : ∀ h, gi ls s h = some i → gr ls s i = h := fun h e => by
  simp only [gi] at e
  split at e
  ·rename_i hc
   simp only [Option.some.injEq] at e
   subst e
   simp only [gr, ixOf_get hnd hc]
  ·split at e
   ·cases e
   ·rename_i hc hh
    simp only [Option.some.injEq] at e
    subst e
    simp only [gr]
    rw [List.getElem?_eq_none (by omega)]
    simp only; omega
 rw [← key h e, ← key h' e']
section
variable {F F1 : Nat → Prop} {Λ Λ1 : Lbl} {σ σ1 : Store} {w w1 : World} {ls : List Nat}
theorem upG_ext (hs : St F Λ σ w) (hnd : ls.Nodup) (h : Step (subS σ ls).length F (pickL Λ ls) (subS σ ls) w F1 Λ1 σ1 w1) : ∀ L b o, Λ L = some (b, o) → upG Λ Λ1 ls σ.length L = some (b, o) := fun L b o hL => by
 cases L with
 | nil => exact hL
 | cons h0 p =>
  simp only [upG, gi]
  by_cases hc : ls.contains h0 = true
  ·rw [if_pos hc]
   have h1 := ixOf_get hnd hc
   refine h.kept (ixOf ls h0 :: p) b o ?_ (by simp only [pickL, h1]; exact hL)
   have := ixOf_lt hc
   simp only [List.headD_cons, subS, pickR, List.length_map]; exact this
  ·rw [if_neg hc]
   by_cases hh : h0 < σ.length
   ·rw [if_pos hh]; exact hL
   ·rw [hs.lab (h0 :: p) (by simp only [List.headD_cons]; omega)] at hL; cases hL
theorem upG_gr (hnd : ls.Nodup) (hlt : ∀ l ∈ ls, l < σ.length) {L : List Nat} {b o : Nat} (hp : decide (L = []) = false) (hL : Λ1 L = some (b, o)) : upG Λ Λ1 ls σ.length (rh (gr ls σ.length) L) = some (b, o) := by
 cases L with
 | nil => simp at hp
 | cons i p => simp only [rh, upG, gi_gr hnd hlt]; exact hL
def boxNil (σ : Store) : Bool := σ.any fun r => match r with
 | .box xs => namesL (fun L => decide (L = [])) xs
 | _ => false
theorem St.upS (hs : St F Λ σ w) (hnd : ls.Nodup) (hlt : ∀ l ∈ ls, l < σ.length) (hb : ∀ l ∈ ls, ∀ xs, σ[l]? = some (.box xs) → namesL (fun L => !inL ls L) xs = false) (hn1 : boxNil σ1 = false)
    (h : Step (subS σ ls).length F (pickL Λ ls) (subS σ ls) w F1 Λ1 σ1 w1) (hs1 : St F1 Λ1 σ1 w1) :
    St F1 (upG Λ Λ1 ls σ.length) (Sep.upS σ ls σ1) w1 ∧ (∀ m, Step m F Λ σ w F1 (upG Λ Λ1 ls σ.length) (Sep.upS σ ls σ1) w1) := by
  have hlen : ls.length ≤ σ1.length := by
    have h1 := h.len
    have h2 : (subS σ ls).length = ls.length := by simp [subS, pickR]
    rw [h2] at h1; omega
  have hget := upS_get (σ1 := σ1) hnd hlt hlen
  have hext := upG_ext hs hnd h
  have hF : ∀ b, F b → F1 b ∧ w1.heap[b]? = w.heap[b]? := h.frozen (hs.sub hnd hb)
  have hno : ∀ h0 p zs b o, rowAt σ (h0 :: p) = some zs → gi ls σ.length h0 = none → Λ (h0 :: p) = some (b, o) → ¬ Own (pickL Λ ls) (subS σ ls) b := fun h0 p zs b o h1 h2 h3 h4 => by
    obtain ⟨l, p', zs', o', h5, h6, h7⟩ := Own.sub h4
    have := hs.apart _ _ _ _ _ _ _ h1 h6 h3 h7
    simp only [List.cons.injEq] at this
    obtain ⟨rfl, _⟩ := this
    have hc : ls.contains h0 = true := by simpa using h5
    simp only [gi] at h2; rw [if_pos hc] at h2; cases h2
  have hown1 : ∀ b, Own Λ1 σ1 b → (∃ l p zs o, l ∈ ls ∧ rowAt σ (l :: p) = some zs ∧ Λ (l :: p) = some (b, o)) ∨ w.heap.size ≤ b := fun b hb => (h.own b hb).imp Own.sub id
  have hnil : ∀ (i : Nat) xs, σ1[i]? = some (.box xs) → namesL (fun L => decide (L = [])) xs = false := fun i xs hi => by
    simp only [boxNil, List.any_eq_false] at hn1
    simpa using hn1 _ (List.mem_of_getElem? hi)
  have eR : ∀ h0 p i, gi ls σ.length h0 = some i → rowAt (Sep.upS σ ls σ1) (h0 :: p) = rowAt (σ1.map (renR (gr ls σ.length))) (i :: p) ∧ isBox (Sep.upS σ ls σ1) (h0 :: p) = isBox σ1 (i :: p) := fun h0 p i e => by
    have := hget h0
    rw [e] at this
    exact ⟨rowAt_get this p, by rw [isBox_eq this p, isBox_ren]⟩
  have eO : ∀ h0 p, gi ls σ.length h0 = none → rowAt (Sep.upS σ ls σ1) (h0 :: p) = rowAt σ (h0 :: p) ∧ isBox (Sep.upS σ ls σ1) (h0 :: p) = isBox σ (h0 :: p) := fun h0 p e => by
    have := hget h0
    rw [e] at this
    exact ⟨rowAt_get this p, isBox_eq this p⟩
  refine ⟨⟨fun L zs hz => ?_, fun L zs L' zs' b o o' h1 h2 h3 h4 => ?_, hs1.old, hs1.tab, fun L hL => ?_⟩, fun m => ?_⟩
  · cases L with
    | nil => simp [rowAt] at hz
    | cons h0 p =>
      cases hg : gi ls σ.length h0 with
      | some i =>
        have e : upG Λ Λ1 ls σ.length (h0 :: p) = Λ1 (i :: p) := by simp only [upG, hg]
        obtain ⟨e1, e2⟩ := eR h0 p i hg
        rw [e1] at hz
        obtain ⟨zs0, k1, rfl⟩ := rowAt_ren hz
        rw [e, e2]
        rcases hs1.row _ _ k1 with ⟨g1, rfl⟩ | ⟨b, o, cs, t, g1, g2, g3, g4⟩
        · refine .inl ⟨g1, ?_⟩
          split <;> rfl
        · refine .inr ⟨b, o, cs, t, g1, g2, g3, fun j x hj => ?_⟩
          have hSl : ∀ j, ∀ a n k v, Sl Λ1 w1 ((i :: p) ++ [j]) a n k v → Sl (upG Λ Λ1 ls σ.length) w1 ((h0 :: p) ++ [j]) a n k v := fun j a n k v hv => hv.imp id fun ⟨b, o, cap, k1, k2⟩ => ⟨b, o, cap, by simpa only [upG, List.cons_append, hg] using k1, k2⟩
          by_cases hbx : isBox σ1 (i :: p) = true
          · rw [if_pos hbx, renL_get] at hj
            cases hx : zs0[j]? with
            | none => rw [hx] at hj; cases hj
            | some x0 =>
              rw [hx] at hj
              simp only [Option.map_some, Option.some.injEq] at hj
              subst hj
              obtain ⟨c, g5, g6⟩ := g4 j x0 hx
              refine ⟨c, g5, ?_⟩
              rw [hbx] at g6 ⊢
              have hpn : p = [] := by cases p with | nil => rfl | cons j p => simp [isBox] at hbx
              subst hpn
              have hbs : σ1[i]? = some (.box zs0) := by
                simp only [isBox] at hbx
                split at hbx
                · rename_i us hu; simp only [rowAt, hu, Root.cells, Sep.sub, Option.some.injEq] at k1; rw [hu, k1]
                · cases hbx
              exact g6.renB (fun L => decide (L = [])) _ (fun L b o hp hL => upG_gr hnd hlt hp hL) (hSl j) (namesL_false (hnil i _ hbs) _ (List.mem_of_getElem? hx))
          · rw [if_neg hbx] at hj
            have hbx' : isBox σ1 (i :: p) = false := by simpa using hbx
            obtain ⟨c, g5, g6⟩ := g4 j x hj
            refine ⟨c, g5, ?_⟩
            rw [hbx'] at g6 ⊢
            exact g6.unbox (hSl j)
      | none =>
        have e : upG Λ Λ1 ls σ.length (h0 :: p) = Λ (h0 :: p) := by simp only [upG, hg]
        obtain ⟨e1, e2⟩ := eO h0 p hg
        rw [e1] at hz
        rw [e, e2]
        rcases hs.row _ _ hz with h4 | ⟨b, o, cs, t, g1, g2, g3, g4⟩
        · exact .inl h4
        · have hltb : b < w.heap.size := (Array.getElem?_eq_some_iff.1 g3).1
          have hn := hno _ _ _ b o hz hg g1
          refine .inr ⟨b, o, cs, t, g1, fun hb => ?_, by rw [h.keep b hltb hn]; exact g3, fun j x hj => ?_⟩
          · rcases h.new b hb with k | k | k
            · exact g2 k
            · exact hn k
            · omega
          · obtain ⟨c, g5, g6⟩ := g4 j x hj
            exact ⟨c, g5, (g6.mono hF h.sizes).ext hext⟩
  · have key : ∀ L zs b o, rowAt (Sep.upS σ ls σ1) L = some zs → upG Λ Λ1 ls σ.length L = some (b, o) → (∃ h0 i p zs0, L = h0 :: p ∧ gi ls σ.length h0 = some i ∧ rowAt σ1 (i :: p) = some zs0 ∧ Λ1 (i :: p) = some (b, o)) ∨ (∃ h0 p, L = h0 :: p ∧ gi ls σ.length h0 = none ∧ rowAt σ (h0 :: p) = some zs ∧ Λ (h0 :: p) = some (b, o)) := fun L zs b o hz hb => by
      cases L with
      | nil => simp [rowAt] at hz
      | cons h0 p =>
        simp only [upG] at hb
        cases hg : gi ls σ.length h0 with
        | some i =>
          rw [hg] at hb
          rw [(eR h0 p i hg).1] at hz
          obtain ⟨zs0, k1, _⟩ := rowAt_ren hz
          exact .inl ⟨h0, i, p, zs0, rfl, hg, k1, hb⟩
        | none =>
          rw [hg] at hb
          rw [(eO h0 p hg).1] at hz
          exact .inr ⟨h0, p, rfl, hg, hz, hb⟩
    have cross : ∀ i p zs h0 p' zs' b o o', rowAt σ1 (i :: p) = some zs → Λ1 (i :: p) = some (b, o) → gi ls σ.length h0 = none → rowAt σ (h0 :: p') = some zs' → Λ (h0 :: p') = some (b, o') → False := fun i p zs h0 p' zs' b o o' g1 g2 g3 g4 g5 => by
      rcases hown1 b ⟨_, _, _, g1, g2⟩ with ⟨l, p2, zs2, o2, k0, k1, k2⟩ | k
      · have := hs.apart _ _ _ _ _ _ _ g4 k1 g5 k2
        simp only [List.cons.injEq] at this
        obtain ⟨rfl, _⟩ := this
        have hc : ls.contains h0 = true := by simpa using k0
        simp only [gi] at g3; rw [if_pos hc] at g3; cases g3
      · have := hs.owns ⟨_, _, _, g4, g5⟩; omega
    rcases key _ _ _ _ h1 h3 with ⟨h0, i, p, zs0, rfl, g0, g1, g2⟩ | ⟨h0, p, rfl, g0, g1, g2⟩ <;> rcases key _ _ _ _ h2 h4 with ⟨h0', i', p', zs0', rfl, g0', g3, g4⟩ | ⟨h0', p', rfl, g0', g3, g4⟩
    · have := hs1.apart _ _ _ _ _ _ _ g1 g3 g2 g4
      simp only [List.cons.injEq] at this
      obtain ⟨rfl, rfl⟩ := this
      rw [gi_inj hnd hlt g0 g0']
    · exact (cross _ _ _ _ _ _ _ _ _ g1 g2 g0' g3 g4).elim
    · exact (cross _ _ _ _ _ _ _ _ _ g3 g4 g0 g1 g2).elim
    · exact hs.apart _ _ _ _ _ _ _ g1 g3 g2 g4
  · cases L with
    | nil =>
      simp only [upG]
      refine hs.lab [] ?_
      simp only [List.headD_nil, Sep.upS, List.length_append, setAll_len] at hL ⊢; omega
    | cons h0 p =>
      simp only [List.headD_cons, Sep.upS, List.length_append, setAll_len, List.length_drop, List.length_map] at hL
      have hc : ¬ ls.contains h0 = true := fun hc => by have := hlt h0 (by simpa using hc); omega
      simp only [upG, gi]
      rw [if_neg hc, if_neg (by omega)]
      exact hs1.lab _ (by simp only [List.headD_cons]; omega)
  · exact { os := h.os, tape := h.tape, output := h.output, size := h.size, sizes := h.sizes
            keep := fun b hb hn => h.keep b hb fun ho => by
              obtain ⟨l, p, zs, o, _, h1, h2⟩ := Own.sub ho
              exact hn ⟨_, _, _, h1, h2⟩
            mono := h.mono
            new := fun b hb => (h.new b hb).imp id fun k => k.imp (fun ho => by
              obtain ⟨l, p, zs, o, _, h1, h2⟩ := Own.sub ho
              exact ⟨_, _, _, h1, h2⟩) id
            own := fun b ⟨L, zs, o, h1, h2⟩ => by
              cases L with
              | nil => simp [rowAt] at h1
              | cons h0 p =>
                simp only [upG] at h2
                cases hg : gi ls σ.length h0 with
                | some i =>
                  rw [hg] at h2
                  rw [(eR h0 p i hg).1] at h1
                  obtain ⟨zs0, k1, _⟩ := rowAt_ren h1
                  exact (hown1 b ⟨_, _, _, k1, h2⟩).imp (fun ⟨l, p, zs, o, _, k1, k2⟩ => ⟨_, _, _, k1, k2⟩) id
                | none =>
                  rw [hg] at h2
                  rw [(eO h0 p hg).1] at h1
                  exact .inl ⟨_, _, _, h1, h2⟩
            len := by simp only [Sep.upS, List.length_append, setAll_len]; omega
            boxes := fun a us _ ha => by
              have hal : a < σ.length := (List.getElem?_eq_some_iff.1 ha).1
              have hg := hget a
              simp only [gi] at hg
              by_cases hc : ls.contains a = true
              · rw [if_pos hc] at hg
                have h1 := ixOf_get hnd hc
                have hsub : (subS σ ls)[ixOf ls a]? = some (.box (renL (ixOf ls) us)) := by
                  simp only [subS, pickR, List.getElem?_map, h1, Option.map_some, ha, Option.getD_some, renR]
                obtain ⟨k1, xs', k2⟩ := h.boxes (ixOf ls a) _ (by have := ixOf_lt hc; simpa [subS, pickR] using this) hsub
                refine ⟨?_, renL (gr ls σ.length) xs', ?_⟩
                · simp only [upG, gi]; rw [if_pos hc]; simp only; rw [k1]; simp only [pickL, h1]
                · rw [hg]; simp only [List.getElem?_map, k2, Option.map_some, renR]
              · rw [if_neg hc, if_pos hal] at hg
                refine ⟨?_, us, by rw [hg]; exact ha⟩
                simp only [upG, gi]; rw [if_neg hc, if_pos hal]
            kept := fun L b o _ hL => hext L b o hL }
end
def subNames (σ : Store) (ls : List Nat) : Bool := ls.any fun l => match σ[l]? with
 | some (.box xs) => namesL (fun L => !inL ls L) xs
 | _ => false
theorem subNames_all {σ : Store} {ls : List Nat} (h : subNames σ ls = false) : ∀ l ∈ ls, ∀ xs, σ[l]? = some (.box xs) → namesL (fun L => !inL ls L) xs = false := fun l hl xs hx => by
 simp only [subNames, List.any_eq_false] at h
 have := h l hl
 rw [hx] at this; simpa using this
def FnS (P : Program) (f : Nat) (as : List A) (σ0 : Store) (r : A) (σ1 : Store) : Prop := Fn P f as σ0 fun r' σ' => r' = r ∧ σ' = σ1
section
variable {P : Program} {n m : Nat} {N : Env → Store → Prop} {E : Env} {σ : Store} {o : Oper}
theorem TOp_callS (ls : List Nat) {g : Nat} {as as' : List A} {r0 : A} {σc σ1 : Store} (hc : CallOp P o E g as) (hnd : ls.Nodup) (hlt : ls.all (fun l => decide (l < σ.length)) = true) (hb : subNames σ ls = false) (hn1 : boxNil σ1 = false) (hnm : namesL (fun L => !inL ls L) as = false) (has : renL (ixOf ls) as = as') (hσ : subS σ ls = σc)
  (hF : FnS P g as' σc r0 σ1) (hnn : r0.names (fun L => decide (L = [])) = false) (hd : dstOK n o.dst = true)
  (hN : N (put E o.dst (r0.ren (gr ls σ.length))) (upS σ ls σ1)) : TOp P n m o N E σ := fun F Λ w tmps K Qx hn hs hf hk => by
 obtain ⟨vs, ⟨hvl, hvs⟩, hrun⟩ := hc F Λ w tmps hf
 have hlt' : ∀ l ∈ ls, l < σ.length := fun l hl => by simpa using List.all_eq_true.1 hlt l hl
 have hb' := subNames_all hb
 unfold Oper.wp
 rw [hrun w, Oper.upon_enter]
 subst has hσ
 refine hF F (pickL Λ ls) w vs _ (hs.sub hnd hb') ⟨by rw [renL_len]; exact hvl, fun j a y hx hy => ?_⟩ fun F1 Λ1 σ2 w1 v r hs1 hst hv hq => ?_
 ·rw [renL_get] at hx
  cases hj : as[j]? with
  | none => simp [hj] at hx
  | some u =>
   simp [hj] at hx; subst hx
   exact (hvs j u y hj hy).ren (fun L => !inL ls L) _ (fun L b o hp hL => pickL_ix hnd hp hL) (namesL_false hnm u (List.mem_of_getElem? hj))
 ·obtain ⟨rfl, rfl⟩ := hq
  obtain ⟨hs2, hst2⟩ := hs.upS hnd hlt' hb' hn1 hst hs1
  have hf1 := (hf.mono ((hst2 m).frozen hs) hst.sizes).ext (upG_ext hs hnd hst)
  have hv' : OK F1 (upG Λ Λ1 ls σ.length) w1 v (r.ren (gr ls σ.length)) := hv.ren (fun L => decide (L = [])) _ (fun L b o hp hL => upG_gr hnd hlt' hp hL) hnn
  obtain ⟨tmps', e, hn2, hf2⟩ := hf1.putO (ds := []) hn hd hv'
  show K (Act.put ⟨tmps, []⟩ o.dst v) w1
  rw [e]
  exact hk F1 _ _ w1 tmps' _ hn2 hs2 hf2 (hst2 m) hN
end
def PickX (m : Nat) (r0 : A) (σ0 : Store) (r : A) (σ : Store) : Prop := ∃ ls : List Nat, ls.Nodup ∧ m ≤ ls.length ∧ (∀ i, i < m → ls[i]? = some i) ∧ subS σ ls = σ0 ∧ subNames σ ls = false ∧ r.names (fun L => !inL ls L) = false ∧ r.ren (ixOf ls) = r0
def pickL0 (Λ : Lbl) (ls : List Nat) : Lbl := fun L => match L with
 | [] => if ls = [] then none else Λ []
 | h :: p => pickL Λ ls (h :: p)
theorem St.sub0 {F : Nat → Prop} {Λ : Lbl} {w : World} {σ0 : Store} {ls : List Nat} (hs : St F (pickL Λ ls) σ0 w) (hl : σ0.length = ls.length) : St F (pickL0 Λ ls) σ0 w := by
 have e : ∀ L, L ≠ [] → pickL0 Λ ls L = pickL Λ ls L := fun L h => by
  cases L with
  | nil => exact absurd rfl h
  | cons h p => rfl
 have hx : ∀ L b o, pickL Λ ls L = some (b, o) → pickL0 Λ ls L = some (b, o) := fun L b o h => by
  cases L with
  | nil => simp [pickL] at h
  | cons h' p => exact h
 refine ⟨fun L xs h => ?_, fun L xs L' xs' b o o' h1 h2 h3 h4 => ?_, hs.old, hs.tab, fun L h => ?_⟩
 ·rw [e L (ne_nil_of_row h)]
  exact (hs.row L xs h).imp id fun ⟨b, o, cs, t, g1, g2, g3, g4⟩ => ⟨b, o, cs, t, g1, g2, g3, fun j x hj => (g4 j x hj).imp fun c hc => ⟨hc.1, hc.2.ext hx⟩⟩
 ·rw [e L (ne_nil_of_row h1)] at h3
  rw [e L' (ne_nil_of_row h2)] at h4
  exact hs.apart _ _ _ _ _ _ _ h1 h2 h3 h4
 ·cases L with
  | nil =>
   simp only [List.headD_nil, hl] at h
   have : ls = [] := List.eq_nil_of_length_eq_zero (by omega)
   simp [pickL0, this]
  | cons h0 p => exact hs.lab _ h
theorem Fn.pickX {P : Program} {f : Nat} {as : List A} {r0 : A} {σ σ0 : Store} (h : Fn P f as σ (PickX σ.length r0 σ0)) : FnS P f as σ r0 σ0 := fun F Λ w vs R hs ha hR => by
  refine h F Λ w vs R hs ha fun F1 Λ1 σ1 w1 v r hs1 hst hv hqr => ?_
  obtain ⟨ls, hnd, hml, hid, rfl, h2, h3, rfl⟩ := hqr
  have hb' := subNames_all h2
  have hsl : (subS σ1 ls).length = ls.length := by simp [subS, pickR]
  refine hR F1 (pickL0 Λ1 ls) (subS σ1 ls) w1 v _ ((hs1.sub hnd hb').sub0 hsl) ?_ ?_ ⟨rfl, rfl⟩
  · exact { os := hst.os, tape := hst.tape, output := hst.output, size := hst.size, sizes := hst.sizes, keep := hst.keep, mono := hst.mono, new := hst.new
            own := fun b hb => by
              obtain ⟨L, zs, o, g1, g2⟩ := hb
              have hne := ne_nil_of_row g1
              obtain ⟨l, p, zs, o, _, g1, g2⟩ := Own.sub (Λ := Λ1) ⟨L, zs, o, g1, by cases L with | nil => exact absurd rfl hne | cons h p => exact g2⟩
              exact hst.own b ⟨_, _, _, g1, g2⟩
            len := by simp only [subS, pickR, List.length_map]; omega
            boxes := fun l xs hl hx => by
              obtain ⟨k1, xs', k2⟩ := hst.boxes l xs hl hx
              refine ⟨by simp only [pickL0, Sep.pickL, hid l hl]; exact k1, renL (ixOf ls) xs', ?_⟩
              simp only [subS, pickR, List.getElem?_map, hid l hl, Option.map_some, k2, Option.getD_some, renR]
            kept := fun L b o hl hL => by
              cases L with
              | nil =>
                simp only [List.headD_nil] at hl
                have hne : ls ≠ [] := fun e => by rw [e] at hml; simp only [List.length_nil] at hml; omega
                simp only [pickL0, if_neg hne]
                exact hst.kept [] b o hl hL
              | cons h p => simp only [List.headD_cons] at hl; simp only [pickL0, Sep.pickL, hid h hl]; exact hst.kept (h :: p) b o hl hL }
  · exact (hv.ren (fun L => !inL ls L) (ixOf ls) (Λ' := Sep.pickL Λ1 ls) (fun L b o hp hL => pickL_ix hnd hp hL) h3).ext fun L b o h => by
      cases L with
      | nil => simp [Sep.pickL] at h
      | cons h' p => exact h
end Go.Sep

/- append, and literals of slices. -/
import Derived.Test.YtlcpdlngbofgcaaCK
import Derived.Laws.AppendOwn
set_option linter.unusedVariables false
set_option linter.unusedSimpArgs false
namespace Go.Sep
open Go

section
variable {P : Program} (w : World)
theorem firstCells_zero (size : Nat) (ad : Option Addr) (c : Nat) : (Builtin.firstCells size 0 (.slice ad 0 c)).run P w = .ok #[] w := by
  cases ad with
  | none => exact run_firstCells_none w size 0 0 c
  | some a => exact run_firstCells_some w size 0 a 0 c [] (by simp) (by simp)
theorem run_append_empty (t ty e : TypeId) (i : TypeInfo) (ht : P.underlying t = some (.slice e)) (hi : P.info? e = some i) (ad ax : Option Addr) (c : Nat) :
    (Builtin.append_ #[t, t] ty #[.slice ad 0 0, .slice ax 0 c]).run P w = .ok (.slice ad 0 0) w := by
  have hf := firstCells_zero (P := P) w i.size ax c
  cases ad <;> simp [Builtin.append_, run_underlying ht, sizeOf, typeInfo, hi, Builtin.lenOf, hf, storeCells]
theorem run_append_in (t ty e : TypeId) (i : TypeInfo) (ht : P.underlying t = some (.slice e)) (hi : P.info? e = some i)
    (g o' sLen sCap : Nat) (cur : Array Value) (te : TypeId) (hg : w.heap[g]? = some (.cells cur te (0, 0)))
    (ax : Option Addr) (m c : Nat) (news : List Value) (hnews : (Builtin.firstCells i.size m (.slice ax m c)).run P w = .ok news.toArray w) (h1 : ∀ u ∈ news, u.oneCell' = true)
    (hroom : sLen + m ≤ sCap) (hfit : o' + sLen * i.size + news.length ≤ cur.size) :
    (Builtin.append_ #[t, t] ty #[.slice (some ⟨g, o', none⟩) sLen sCap, .slice ax m c]).run P w =
      .ok (.slice (some ⟨g, o', none⟩) (sLen + m) sCap) (w.setRow g (cur.toList.take (o' + sLen * i.size) ++ news ++ cur.toList.drop (o' + sLen * i.size + news.length)).toArray) := by
  have hst := run_storeCells_at P g (o' + sLen * i.size) te news 0 cur w hg (by simpa using hfit) h1
  simp only [Nat.add_zero] at hst
  simp [Builtin.append_, run_underlying ht, sizeOf, typeInfo, hi, Builtin.lenOf, hroom, hnews, addr_add, hst]
theorem run_append_new (t ty e : TypeId) (i : TypeInfo) (z : Value) (ht : P.underlying t = some (.slice e)) (hi : P.info? e = some i) (hz : i.zero = some z)
    (b : Option Addr) (sLen sCap : Nat) (olds : List Value) (holds : (Builtin.firstCells i.size sLen (.slice b sLen sCap)).run P w.drew = .ok olds.toArray w.drew)
    (a : Option Addr) (n c : Nat) (news : List Value) (hnews : (Builtin.firstCells i.size n (.slice a n c)).run P w.drew = .ok news.toArray w.drew)
    (hg : sCap < sLen + n) (h63 : ((sLen + n : Nat) : Int) ≤ 9223372036854775807) (hfit : Builtin.nextslicecap (sLen + n) sCap * i.bytes ≤ 281474976710656) :
    (Builtin.append_ #[t, t] ty #[.slice b sLen sCap, .slice a n c]).run P w =
      .ok (.slice (some ⟨w.heap.size, 0, none⟩) (sLen + n) (grownCap w (sLen + n) sCap e))
        (w.drew.alloc (.cells (olds.toArray ++ news.toArray ++ Builtin.zeroCells z.cells (grownCap w (sLen + n) sCap e - (sLen + n))) e)) := by
  have hn : ¬ (sLen + n ≤ sCap) := by omega
  have h63' : ¬ (9223372036854775807 < ((sLen : Int) + (n : Int))) := by omega
  have h48' : ¬ (281474976710656 < Builtin.nextslicecap (sLen + n) sCap * i.bytes) := by omega
  simp [Builtin.append_, run_underlying ht, sizeOf, typeInfo, zeroValue, hi, hz, Builtin.lenOf, hn, h63', h48', Question.forced, hnews, holds, newRow, grownCap]
  try (congr 2; apply Array.ext'; simp [List.append_assoc])
end

/-! ### the row grows -/
def apL (Λ : Lbl) (l s : Nat) (lab : Option (Nat × Nat)) : Lbl := fun L => match L with
  | [] => Λ []
  | h :: p => if h = s then (match p with | [] => lab | j :: q => Λ (l :: j :: q)) else Λ (h :: p)
theorem sub_app {xs ys : List A} (hp : ∀ x ∈ ys, x.plain = true) {j q zs} (h : sub (xs ++ ys) (j :: q) = some zs) : sub xs (j :: q) = some zs := by
  simp only [sub] at h ⊢
  by_cases hj : j < xs.length
  · rw [List.getElem?_append_left hj] at h; exact h
  · rw [List.getElem?_append_right (by omega)] at h
    split at h
    · rename_i k u hu
      have := hp _ (List.mem_of_getElem? hu)
      simp [A.plain] at this
    · cases h
theorem grow_get {σ : Store} {l : Nat} {r : Root} (hl : l < σ.length) (h : Nat) : (σ.set l .dead ++ [r])[h]? = if h = l then some .dead else if h = σ.length then some r else σ[h]? := by
  by_cases e : h = l
  · subst e; rw [if_pos rfl, List.getElem?_append_left (by simpa using hl)]; simp [hl]
  · rw [if_neg e]
    by_cases e2 : h = σ.length
    · subst e2; rw [if_pos rfl, List.getElem?_append_right (by simp)]; simp
    · rw [if_neg e2]
      rcases Nat.lt_or_ge h σ.length with h3 | h3
      · rw [List.getElem?_append_left (by simpa using h3), List.getElem?_set_ne (Ne.symm e)]
      · rw [List.getElem?_eq_none (by simp; omega), List.getElem?_eq_none h3]
theorem rowAt_grow {σ : Store} {l : Nat} {xs ys : List A} (hr : σ[l]? = some (.row xs)) (hp : ∀ x ∈ ys, x.plain = true) {L zs} (h : rowAt (σ.set l .dead ++ [.row (xs ++ ys)]) L = some zs) :
    (L = [σ.length] ∧ zs = xs ++ ys) ∨ (∃ j q, L = σ.length :: j :: q ∧ rowAt σ (l :: j :: q) = some zs) ∨ (∃ h0 p, L = h0 :: p ∧ h0 ≠ l ∧ h0 ≠ σ.length ∧ rowAt σ L = some zs) := by
  have hl : l < σ.length := (List.getElem?_eq_some_iff.1 hr).1
  cases L with
  | nil => simp [rowAt] at h
  | cons h0 p =>
    simp only [rowAt, grow_get hl] at h
    by_cases e : h0 = l
    · rw [if_pos e] at h; simp [Root.cells] at h
    · rw [if_neg e] at h
      by_cases e2 : h0 = σ.length
      · subst e2
        simp only [if_true, Root.cells] at h
        cases p with
        | nil => simp only [sub, Option.some.injEq] at h; exact .inl ⟨rfl, h.symm⟩
        | cons j q => exact .inr (.inl ⟨j, q, rfl, by simp only [rowAt, hr, Root.cells]; exact sub_app hp h⟩)
      · rw [if_neg e2] at h
        exact .inr (.inr ⟨h0, p, rfl, e, e2, by simpa only [rowAt] using h⟩)
theorem isBox_grow {σ : Store} {l : Nat} {zs : List A} (hl : l < σ.length) {h0 : Nat} (h1 : h0 ≠ l) (p : List Nat) : isBox (σ.set l .dead ++ [.row zs]) (h0 :: p) = if h0 = σ.length then false else isBox σ (h0 :: p) := by
  cases p with
  | cons j p => simp [isBox]
  | nil =>
    simp only [isBox, grow_get hl, if_neg h1]
    by_cases e : h0 = σ.length
    · rw [if_pos e, if_pos e]
    · rw [if_neg e, if_neg e]

structure Grows (F : Nat → Prop) (Λ : Lbl) (σ : Store) (w w' : World) (l : Nat) (xs ys : List A) (lab : Option (Nat × Nat)) : Prop where
  row : σ[l]? = some (.row xs)
  plain : ∀ x ∈ ys, x.plain = true
  os : w'.os = w.os
  tape : w'.tape = w.tape
  output : w'.output = w.output
  size : w.heap.size ≤ w'.heap.size
  sizes : Sizes w w'
  keep : ∀ b, b < w.heap.size → (∀ o, Λ [l] ≠ some (b, o)) → w'.heap[b]? = w.heap[b]?
  new : (lab = none ∧ xs ++ ys = []) ∨ ∃ b o cs t, lab = some (b, o) ∧ ¬ F b ∧ (w.heap.size ≤ b ∨ Λ [l] = some (b, o)) ∧ w'.heap[b]? = some (.cells cs t (0, 0)) ∧
    ∀ j x, (xs ++ ys)[j]? = some x → ∃ c, cs[o + j]? = some c ∧ Cell F Λ w false [l, j] c x
theorem Grows.ext {F Λ σ w w' l xs ys lab} (hs : St F Λ σ w) (h : Grows F Λ σ w w' l xs ys lab) : ∀ L b o, Λ L = some (b, o) → apL Λ l σ.length lab L = some (b, o) := fun L b o hL => by
  cases L with
  | nil => exact hL
  | cons h0 p =>
    simp only [apL]
    rw [if_neg ?_]
    · exact hL
    · rintro rfl
      rw [hs.lab (σ.length :: p) (by simp)] at hL; cases hL
theorem Grows.frozen {F Λ σ w w' l xs ys lab} (hs : St F Λ σ w) (h : Grows F Λ σ w w' l xs ys lab) : ∀ b, F b → F b ∧ w'.heap[b]? = w.heap[b]? := fun b hb => ⟨hb, h.keep b (hs.old b hb) fun o hL => hs.notOwn hb ⟨[l], xs, o, by simp only [rowAt, h.row, Root.cells, sub], hL⟩⟩
theorem Grows.st {F Λ σ w w' l xs ys lab} (hs : St F Λ σ w) (h : Grows F Λ σ w w' l xs ys lab) : St F (apL Λ l σ.length lab) (σ.set l .dead ++ [.row (xs ++ ys)]) w' := by
  have hl : l < σ.length := (List.getElem?_eq_some_iff.1 h.row).1
  have hrow : rowAt σ [l] = some xs := by simp only [rowAt, h.row, Root.cells, sub]
  have hF := h.frozen hs
  have hext := h.ext hs
  have other : ∀ L zs, rowAt σ L = some zs → L ≠ [l] → ∀ b o, Λ L = some (b, o) → w'.heap[b]? = w.heap[b]? := fun L zs hL hne b o hb =>
    h.keep b (hs.owns ⟨L, zs, o, hL, hb⟩) fun o' h' => hne (hs.apart _ _ _ _ _ _ _ hL hrow hb h')
  refine ⟨fun L zs hz => ?_, fun L zs L' zs' b o o' h1 h2 h3 h4 => ?_, fun b hb => Nat.lt_of_lt_of_le (hs.old b hb) h.size, fun L hL => ?_⟩
  · rcases rowAt_grow h.row h.plain hz with ⟨rfl, rfl⟩ | ⟨j, q, rfl, h1⟩ | ⟨h0, p, rfl, h1, h2, h3⟩
    · have e : apL Λ l σ.length lab [σ.length] = lab := by simp [apL]
      rw [e]
      rcases h.new with h4 | ⟨b, o, cs, t, h4, h5, _, h6, h7⟩
      · exact .inl h4
      · refine .inr ⟨b, o, cs, t, h4, h5, h6, fun j x hx => ?_⟩
        obtain ⟨c, h8, h9⟩ := h7 j x hx
        refine ⟨c, h8, ?_⟩
        rw [isBox_grow hl (by omega), if_pos rfl]
        have h9 := h9.mono hF h.sizes
        exact h9.unbox fun a n k v hv => hv.imp id fun ⟨b, o, cap, g1, g2⟩ => ⟨b, o, cap, by simpa [apL] using g1, g2⟩
    · have e : apL Λ l σ.length lab (σ.length :: j :: q) = Λ (l :: j :: q) := by simp [apL]
      rw [e]
      rcases hs.row _ _ h1 with h4 | ⟨b, o, cs, t, h4, h5, h6, h7⟩
      · exact .inl h4
      · refine .inr ⟨b, o, cs, t, h4, h5, by rw [other _ _ h1 (by simp) b o h4]; exact h6, fun i x hx => ?_⟩
        obtain ⟨c, h8, h9⟩ := h7 i x hx
        refine ⟨c, h8, ?_⟩
        have h9 := h9.mono hF h.sizes
        exact h9.unbox fun a n k v hv => hv.imp id fun ⟨b, o, cap, g1, g2⟩ => ⟨b, o, cap, by simpa [apL] using g1, g2⟩
    · have e : apL Λ l σ.length lab (h0 :: p) = Λ (h0 :: p) := by simp [apL, h2]
      rw [e]
      rcases hs.row _ _ h3 with h4 | ⟨b, o, cs, t, h4, h5, h6, h7⟩
      · exact .inl h4
      · refine .inr ⟨b, o, cs, t, h4, h5, by rw [other _ _ h3 (by simp [h1]) b o h4]; exact h6, fun i x hx => ?_⟩
        obtain ⟨c, h8, h9⟩ := h7 i x hx
        refine ⟨c, h8, ?_⟩
        rw [isBox_grow hl h1, if_neg h2]
        exact (h9.mono hF h.sizes).ext hext
  · have key : ∀ L zs b o, rowAt (σ.set l .dead ++ [.row (xs ++ ys)]) L = some zs → apL Λ l σ.length lab L = some (b, o) →
        (L = [σ.length] ∧ w.heap.size ≤ b) ∨ ∃ h0 p us, L = (if h0 = l then σ.length else h0) :: p ∧ h0 ≠ σ.length ∧ rowAt σ (h0 :: p) = some us ∧ Λ (h0 :: p) = some (b, o) := fun L zs b o hz hb => by
      rcases rowAt_grow h.row h.plain hz with ⟨rfl, rfl⟩ | ⟨j, q, rfl, h1⟩ | ⟨h0, p, rfl, h1, h2, h3⟩
      · have e : apL Λ l σ.length lab [σ.length] = lab := by simp [apL]
        rw [e] at hb
        rcases h.new with ⟨h4, _⟩ | ⟨b', o', cs, t, h4, h5, h6, _⟩
        · rw [h4] at hb; cases hb
        · rw [h4] at hb; cases hb
          rcases h6 with h6 | h6
          · exact .inl ⟨rfl, h6⟩
          · exact .inr ⟨l, [], xs, by rw [if_pos rfl], by omega, hrow, h6⟩
      · exact .inr ⟨l, j :: q, zs, by rw [if_pos rfl], by omega, h1, by simpa [apL] using hb⟩
      · exact .inr ⟨h0, p, zs, by rw [if_neg h1], h2, h3, by simpa [apL, h2] using hb⟩
    rcases key _ _ _ _ h1 h3 with ⟨g1, g2⟩ | ⟨a, p, us, rfl, ga, g1, g2⟩ <;> rcases key _ _ _ _ h2 h4 with ⟨g3, g4⟩ | ⟨a', p', us', rfl, ga', g3, g4⟩
    · rw [g1, g3]
    · have := hs.owns ⟨_, _, _, g3, g4⟩; omega
    · have := hs.owns ⟨_, _, _, g1, g2⟩; omega
    · have := hs.apart _ _ _ _ _ _ _ g1 g3 g2 g4
      simp only [List.cons.injEq] at this
      obtain ⟨rfl, rfl⟩ := this
      rfl
  · cases L with
    | nil => simp at hL
    | cons h0 p =>
      simp only [List.headD_cons, List.length_append, List.length_set, List.length_cons, List.length_nil] at hL
      simp only [apL]
      rw [if_neg (by omega)]
      exact hs.lab (h0 :: p) (by simp; omega)
theorem Grows.step {m F Λ σ w w' l xs ys lab} (hs : St F Λ σ w) (h : Grows F Λ σ w w' l xs ys lab) : Step m F Λ σ w F (apL Λ l σ.length lab) (σ.set l .dead ++ [.row (xs ++ ys)]) w' := by
  have hl : l < σ.length := (List.getElem?_eq_some_iff.1 h.row).1
  have hrow : rowAt σ [l] = some xs := by simp only [rowAt, h.row, Root.cells, sub]
  exact { os := h.os, tape := h.tape, output := h.output, size := h.size, sizes := h.sizes
          keep := fun b hb hno => h.keep b hb fun o ho => hno ⟨[l], xs, o, hrow, ho⟩
          mono := fun _ h => h, new := fun _ h => .inl h
          own := fun b ⟨L, zs, o, h1, h2⟩ => by
            rcases rowAt_grow h.row h.plain h1 with ⟨rfl, rfl⟩ | ⟨j, q, rfl, h3⟩ | ⟨h0, p, rfl, h3, h4, h5⟩
            · have e : apL Λ l σ.length lab [σ.length] = lab := by simp [apL]
              rw [e] at h2
              rcases h.new with ⟨h4, _⟩ | ⟨b', o', cs, t, h4, h5, h6, _⟩
              · rw [h4] at h2; cases h2
              · rw [h4] at h2; cases h2
                rcases h6 with h6 | h6
                · exact .inr h6
                · exact .inl ⟨[l], xs, _, hrow, h6⟩
            · exact .inl ⟨_, zs, o, h3, by simpa [apL] using h2⟩
            · exact .inl ⟨_, zs, o, h5, by simpa [apL, h4] using h2⟩
          len := by simp; omega
          kept := fun L b o _ hL => h.ext hs L b o hL
          boxes := fun a us _ ha => by
            have e1 : a ≠ l := by rintro rfl; rw [h.row] at ha; cases ha
            have e2 : a ≠ σ.length := by rintro rfl; simp at ha
            exact ⟨by simp [apL, e2], us, by rw [grow_get hl, if_neg e1, if_neg e2]; exact ha⟩ }
theorem Grows.fr {F Λ σ w w' l xs ys lab tmps E} (hs : St F Λ σ w) (h : Grows F Λ σ w w' l xs ys lab) (hf : FrOK F Λ w tmps E) : FrOK F (apL Λ l σ.length lab) w' tmps E :=
  (hf.mono (h.frozen hs) h.sizes).ext (h.ext hs)

/-- m elements of k cells, ys, to be copied. -/
def SrcA (P : Program) (E : Env) (σ : Store) (y : Operand) (m k : Nat) (ys : List A) : Prop :=
  ys.length = m * k ∧ ∀ F Λ w tmps, St F Λ σ w → FrOK F Λ w tmps E → ∃ (ax : Option Addr) (c : Nat) (news : List Value), Act.eval ⟨tmps, []⟩ y = .slice ax m c ∧ news.length = m * k ∧
    (∀ w' : World, w'.heap = w.heap → (Builtin.firstCells k m (.slice ax m c)).run P w' = .ok news.toArray w') ∧ ∀ (j : Nat) x, ys[j]? = some x → ∃ u, news[j]? = some u ∧ OK F Λ w u x
theorem cell?_heap {w w' : World} (h : w'.heap = w.heap) (a : Addr) : w'.cell? a = w.cell? a := World.cell?_of_block (w := w) (by rw [h])
theorem cellAt_news {w : World} {b o' q : Nat} {ys : List A} (hc : ∀ (j : Nat) x, ys[j]? = some x → ∃ c, w.cell? ⟨b, o' + j, none⟩ = some c) (hl : ys.length = q) :
    ∃ news : List Value, news.length = q ∧ ∀ (j : Nat), j < q → ∃ c, news[j]? = some c ∧ w.cell? ⟨b, o' + j, none⟩ = some c :=
  ⟨(List.range q).map fun j => (w.cell? ⟨b, o' + j, none⟩).getD undef, by simp, fun j hj => by
    obtain ⟨c, h1⟩ := hc j (ys[j]'(by omega)) (List.getElem?_eq_getElem _)
    exact ⟨c, by simp [hj, h1], h1⟩⟩
theorem run_news {P : Program} {w : World} {b o' m k c : Nat} {news : List Value} (hl : news.length = m * k) (h : ∀ (j : Nat), j < m * k → ∃ c, news[j]? = some c ∧ w.cell? ⟨b, o' + j, none⟩ = some c) (w' : World) (hw : w'.heap = w.heap) :
    (Builtin.firstCells k m (.slice (some ⟨b, o', none⟩) m c)).run P w' = .ok news.toArray w' :=
  run_firstCells_some w' k m ⟨b, o', none⟩ m c news hl fun j v hv => by
    have hj : j < m * k := by have := (List.getElem?_eq_some_iff.1 hv).1; omega
    obtain ⟨c, h1, h2⟩ := h j hj
    rw [addr_add, cell?_heap hw, h2, ← h1, hv]
theorem src_i {P : Program} {E : Env} {σ : Store} {y : Operand} {k : Nat} {ys : List A} (m : Nat) (hk : 0 < k) (hy : val E y = .i k ys) (hl : ys.length = m * k) : SrcA P E σ y m k ys := ⟨hl, fun F Λ w tmps hs hf => by
  have e1 := val_ok (ds := []) hf y
  rw [hy] at e1
  rcases e1.i_inv hk hl with ⟨rfl, rfl, ad, cap, h1⟩ | ⟨b, o', cap, cs, _, _, h2, _, h4, h5⟩
  · exact ⟨ad, cap, [], h1, by simp, fun w' _ => firstCells_zero w' k ad cap, by simp⟩
  · obtain ⟨news, h6, h7⟩ := cellAt_news (w := w) (fun j x hx => ⟨_, h4 j x hx⟩) hl
    refine ⟨_, cap, news, h2, h6, run_news h6 h7, fun j x hx => ?_⟩
    obtain ⟨c, h8, h9⟩ := h7 j (by have := (List.getElem?_eq_some_iff.1 hx).1; omega)
    rw [h4 j x hx] at h9
    cases h9
    exact ⟨_, h8, .imm (h5 j x hx)⟩⟩
theorem src_n {P : Program} {E : Env} {σ : Store} {y : Operand} (k : Nat) (hy : val E y = .n) : SrcA P E σ y 0 k [] := ⟨by simp, fun F Λ w tmps hs hf => by
  have e1 := val_ok (ds := []) hf y
  rw [hy] at e1
  obtain ⟨ad, h1⟩ := e1.n_inv
  exact ⟨ad, 0, [], h1, by simp, fun w' _ => firstCells_zero w' k ad 0, by simp⟩⟩
theorem src_m {P : Program} {E : Env} {σ : Store} {y : Operand} {L : List Nat} {a m k : Nat} {zs ys : List A} (hy : val E y = .m L a m k) (hr : rowAt σ L = some zs) (hl : a + m * k ≤ zs.length) (he : (zs.drop a).take (m * k) = ys) (hb : isBox σ L = false) (hc : cellAllB ys = true) : SrcA P E σ y m k ys := by
  subst he
  have hlen : ((zs.drop a).take (m * k)).length = m * k := by simp; omega
  refine ⟨hlen, fun F Λ w tmps hs hf => ?_⟩
  have e1 := val_ok (ds := []) hf y
  rw [hy] at e1
  rcases e1.m_inv with ⟨rfl, ad, h1⟩ | ⟨b, o', cap, h1, h2, _, _, _⟩
  · exact ⟨ad, 0, [], h1, by simp, fun w' _ => firstCells_zero w' k ad 0, by simp⟩
  · have key : ∀ (j : Nat) x, ((zs.drop a).take (m * k))[j]? = some x → ∃ c, w.cell? ⟨b, o' + a + j, none⟩ = some c ∧ OK F Λ w c x := fun j x hx => by
      have hj : j < m * k := by have := (List.getElem?_eq_some_iff.1 hx).1; omega
      have hx' := hx
      rw [List.getElem?_take_of_lt hj, List.getElem?_drop] at hx'
      obtain ⟨c, h3, h4⟩ := hs.cellAt hr h1 hx'
      refine ⟨c, by rw [Nat.add_assoc]; exact h3, ?_⟩
      have hin := cellAll hc x (List.mem_of_getElem? hx)
      rw [hb] at h4
      cases x <;> first | exact h4.2 | (simp [A.inCell] at hin)
    obtain ⟨news, h6, h7⟩ := cellAt_news (w := w) (fun j x hx => (key j x hx).imp fun c h => h.1) hlen
    refine ⟨_, cap, news, h2, h6, run_news h6 h7, fun j x hx => ?_⟩
    obtain ⟨c, h8, h9⟩ := h7 j (by have := (List.getElem?_eq_some_iff.1 hx).1; omega)
    obtain ⟨c', g1, g2⟩ := key j x hx
    rw [g1] at h9; cases h9
    exact ⟨_, h8, g2⟩

theorem inCell_plain {x : A} (h : x.inCell = true) : x.plain = true := inBox_plain (inCell_inBox h)
section
variable {P : Program} {n m : Nat} {N : Env → Store → Prop} {E : Env} {σ : Store} {o : Oper} {ops : Array Oper} {os : List Oper}
theorem TOp_append {t e k l nn mm by_ : Nat} {x y : Operand} {zs : List Value} {xs ys : List A} (hT : SlT P t e k) (hz : ZeroT P e zs) (hzk : zs.length = k) (hby : (P.info? e).map (·.bytes) = some by_)
    (h : o.op = .call { callee := .builtin .append, args := #[x, y], argTypes := #[t, t] }) (hd : dstOK n o.dst = true) (hx : val E x = .m [l] 0 nn k) (hr : σ[l]? = some (.row xs)) (hl : xs.length = nn * k)
    (hsrc : SrcA P E σ y mm k ys) (hc : cellAllB ys = true) (hm : nn + mm ≤ 9223372036854775807) (hb : (nn + mm) * by_ ≤ 140737488355328)
    (hN : N (put E o.dst (.m [σ.length] 0 (nn + mm) k)) (σ.set l .dead ++ [.row (xs ++ ys)])) : TOp P n m o N E σ := fun F Λ w tmps K Q hn hs hf hk => by
  obtain ⟨⟨inf, z, h1, h2, h3⟩, h4⟩ := hz
  have hbytes : inf.bytes = by_ := by simpa [h1] using hby
  have hsize : inf.size = k := by obtain ⟨i2, g1, g2⟩ := hT.i; rw [h1] at g1; cases g1; exact g2
  have hzc : z.cells.size = k := by rw [← hzk, ← h3]; simp
  have hk0 := hT.pos
  obtain ⟨hyl, hsrc⟩ := hsrc
  obtain ⟨ax, c, news, hy, hnl, hrun, hcells⟩ := hsrc F Λ w tmps hs hf
  have hrow : rowAt σ [l] = some xs := by simp only [rowAt, hr, Root.cells, sub]
  have hlt : l < σ.length := (List.getElem?_eq_some_iff.1 hr).1
  have hpl : ∀ x ∈ ys, x.plain = true := fun x hx => inCell_plain (cellAll hc x hx)
  have hcell : ∀ (j : Nat) x, ys[j]? = some x → ∃ u, news[j]? = some u ∧ ∀ L, Cell F Λ w false L u x := fun j x hx => by
    obtain ⟨u, g1, g2⟩ := hcells j x hx
    exact ⟨u, g1, fun L => .ofCell (cellAll hc x (List.mem_of_getElem? hx)) g2⟩
  have h1c : ∀ u ∈ news, u.oneCell' = true := fun u hu => by
    obtain ⟨j, hj⟩ := List.getElem?_of_mem hu
    have hjl : j < ys.length := by have := (List.getElem?_eq_some_iff.1 hj).1; omega
    obtain ⟨u', g1, g2⟩ := hcells j _ (List.getElem?_eq_getElem hjl)
    rw [hj] at g1; cases g1
    exact oneCell_sc (g2.cells1 (inCell_inBox (cellAll hc _ (List.getElem_mem hjl)))).2
  have fin : ∀ (lab : Option (Nat × Nat)) (w' : World) (v : Value), (Builtin.append_ #[t, t] o.type #[Act.eval ⟨tmps, []⟩ x, .slice ax mm c]).run P w = .ok v w' → Grows F Λ σ w w' l xs ys lab → OK F (apL Λ l σ.length lab) w' v (.m [σ.length] 0 (nn + mm) k) → o.wp P ⟨tmps, []⟩ w K Q := fun lab w' v hr' hg hv => by
    obtain ⟨tmps', e', hn', hf'⟩ := (hg.fr hs hf).putO (ds := []) hn hd hv
    unfold Oper.wp execOp
    simp only [h, resolve, invoke, builtin, Sem.run_bind, Sem.run_pure, Result.andThen_ok, List.map_toArray, List.map_cons, List.map_nil, hy, hr']
    show K (Act.put ⟨tmps, []⟩ o.dst v) w'
    rw [e']
    exact hk F _ _ w' tmps' _ hn' (hg.st hs) hf' (hg.step hs) hN
  have grow : ∀ (ad : Option Addr) (cap : Nat) (olds : List Value), Act.eval ⟨tmps, []⟩ x = .slice ad nn cap → olds.length = nn * k → (∀ w' : World, w'.heap = w.heap → (Builtin.firstCells k nn (.slice ad nn cap)).run P w' = .ok olds.toArray w') →
      (∀ (j : Nat) x, xs[j]? = some x → ∃ u, olds[j]? = some u ∧ Cell F Λ w false [l, j] u x) → cap < nn + mm → o.wp P ⟨tmps, []⟩ w K Q := fun ad cap olds hv hol hold hoc hcap => by
    subst hsize hbytes
    have hge := grownCap_ge w (nn + mm) cap e
    have hcm : grownCap w (nn + mm) cap e ≤ maxLen := grownCap_le_maxLen w (nn + mm) cap e (by simp only [maxLen]; omega)
    have hsz : (olds.toArray ++ news.toArray ++ Builtin.zeroCells z.cells (grownCap w (nn + mm) cap e - (nn + mm))).size = grownCap w (nn + mm) cap e * inf.size := by
      simp only [Array.size_append, List.size_toArray, size_zeroCells, hzc, hol, hnl, ← Nat.add_mul]
      congr 1; omega
    refine fin (some (w.heap.size, 0)) _ _ (by rw [hv]; exact run_append_new w t o.type e inf z hT.u h1 h2 ad nn cap olds (hold _ rfl) ax mm c news (hrun _ rfl) hcap (by omega) (growslice_fits hcap hb)) ?_ ?_
    · refine ⟨hr, hpl, rfl, rfl, rfl, by simp, Sizes.alloc w.drew _, fun b hb _ => (by first | exact Go.heap_alloc_old w.drew _ b hb | exact Go.heap_alloc_old w.drew _ hb), .inr ⟨w.heap.size, 0, _, e, rfl, fun hb => absurd (hs.old _ hb) (by omega), .inl (Nat.le_refl _), Go.heap_alloc_new w.drew _, fun j x hx => ?_⟩⟩
      rw [Nat.zero_add]
      by_cases hj : j < xs.length
      · rw [List.getElem?_append_left hj] at hx
        obtain ⟨u, g1, g2⟩ := hoc j x hx
        refine ⟨u, ?_, g2⟩
        rw [Array.getElem?_append_left (by simp; omega), Array.getElem?_append_left (by simp; omega)]
        simpa using g1
      · rw [List.getElem?_append_right (by omega)] at hx
        obtain ⟨u, g1, g2⟩ := hcell _ x hx
        refine ⟨u, ?_, g2 _⟩
        have := (List.getElem?_eq_some_iff.1 g1).1
        rw [Array.getElem?_append_left (by simp; omega), Array.getElem?_append_right (by simp; omega)]
        simpa [hol, hl] using g1
    · exact .m (.inr ⟨w.heap.size, 0, _, by simp [apL], by simp, hge, hcm, _, e, heap_alloc_new w.drew _, by rw [hsz]; simp⟩)
  have e1 := val_ok (ds := []) hf x
  rw [hx] at e1
  rcases e1.m_inv with ⟨rfl, ad, g1⟩ | ⟨b, o', cap, g1, g2, g3, g4, cs, te, g5, g6⟩
  · have hxs : xs = [] := List.eq_nil_of_length_eq_zero (by omega)
    subst hxs
    by_cases hm0 : mm = 0
    · subst hm0
      have hys : ys = [] := List.eq_nil_of_length_eq_zero (by omega)
      subst hys
      refine fin none w (.slice ad 0 0) (by rw [g1]; exact run_append_empty w t o.type e inf hT.u h1 ad ax c) ⟨hr, hpl, rfl, rfl, rfl, Nat.le_refl _, Sizes.refl _, fun _ _ _ => rfl, .inl ⟨rfl, rfl⟩⟩ (.m (.inl ⟨rfl, ad, rfl⟩))
    · exact grow ad 0 [] g1 (by simp) (fun w' _ => firstCells_zero w' k ad 0) (by simp) (by omega)
  · have hold : ∀ (j : Nat) x, xs[j]? = some x → ∃ u, w.cell? ⟨b, o' + 0 + j, none⟩ = some u ∧ Cell F Λ w false [l, j] u x := fun j x hx => by
      obtain ⟨u, k1, k2⟩ := hs.cellAt hrow g1 hx
      rw [isBox_row hr []] at k2
      exact ⟨u, k1, k2⟩
    by_cases hroom : nn + mm ≤ cap
    · subst hsize hbytes
      have hfit : o' + 0 + nn * inf.size + news.length ≤ cs.size := by
        have : (nn + mm) * inf.size ≤ cap * inf.size := Nat.mul_le_mul_right _ hroom
        rw [Nat.add_mul] at this; omega
      have hbr := setRow_heap w b cs (cs.toList.take (o' + 0 + nn * inf.size) ++ news ++ cs.toList.drop (o' + 0 + nn * inf.size + news.length)).toArray te (0, 0) g5
      have hsz : (cs.toList.take (o' + 0 + nn * inf.size) ++ news ++ cs.toList.drop (o' + 0 + nn * inf.size + news.length)).length = cs.size := by
        simp only [List.length_append, List.length_take, List.length_drop, Array.length_toList]; omega
      refine fin (some (b, o')) _ _ (by rw [g2]; exact run_append_in w t o.type e inf hT.u h1 b (o' + 0) nn cap cs te g5 ax mm c news (hrun w rfl) h1c hroom hfit) ?_ ?_
      · refine ⟨hr, hpl, rfl, rfl, rfl, by simp [World.setRow], fun b2 cs2 t2 hb2 => ?_, fun b2 hb2 hne => setRow_other w b b2 _ (by rintro rfl; exact hne o' g1), .inr ⟨b, o', _, te, rfl, fun hb2 => hs.notOwn hb2 ⟨[l], xs, o', hrow, g1⟩, .inr g1, hbr, fun j x hx => ?_⟩⟩
        · by_cases e2 : b2 = b
          · subst e2
            rw [g5] at hb2; cases hb2
            exact ⟨_, hbr, by simpa using hsz⟩
          · exact ⟨cs2, by rw [setRow_other w b b2 _ e2]; exact hb2, rfl⟩
        · by_cases hj : j < xs.length
          · rw [List.getElem?_append_left hj] at hx
            obtain ⟨u, k1, k2⟩ := hold j x hx
            refine ⟨u, ?_, k2⟩
            rw [cell_of_row w b _ cs te (0, 0) g5] at k1
            simp only [List.getElem?_toArray]
            rw [List.append_assoc, List.getElem?_append_left (by simp; omega), List.getElem?_take_of_lt (by omega)]
            simpa using k1
          · rw [List.getElem?_append_right (by omega)] at hx
            obtain ⟨u, k1, k2⟩ := hcell _ x hx
            refine ⟨u, ?_, k2 _⟩
            have hjj := (List.getElem?_eq_some_iff.1 k1).1
            simp only [List.getElem?_toArray]
            rw [List.append_assoc, List.getElem?_append_right (by simp; omega), List.getElem?_append_left (by simp; omega), ← k1]
            congr 1
            simp only [List.length_take, Array.length_toList]
            omega
      · exact .m (.inr ⟨b, o', cap, by simp [apL], rfl, hroom, g4, _, te, hbr, by simp only [List.size_toArray, hsz]; exact g6⟩)
    · obtain ⟨olds, k1, k2⟩ := cellAt_news (w := w) (fun j x hx => (hold j x hx).imp fun c h => h.1) hl
      refine grow _ cap olds g2 k1 (run_news k1 k2) (fun j x hx => ?_) (by omega)
      obtain ⟨u, k3, k4⟩ := hold j x hx
      obtain ⟨u', k5, k6⟩ := k2 j (by have := (List.getElem?_eq_some_iff.1 hx).1; omega)
      rw [k3] at k6; cases k6
      exact ⟨_, k5, k4⟩
end
end Go.Sep

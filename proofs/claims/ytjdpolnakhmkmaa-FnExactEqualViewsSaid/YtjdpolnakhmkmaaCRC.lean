/- The calculus, part 3. -/
import Derived.Test.YtjdpolnakhmkmaaCRB
/- Owned elements: a row as a box and back, references absorbed, append of what owns. -/
set_option linter.unusedVariables false
set_option linter.unusedSimpArgs false
namespace Go.Sep
open Go

structure GrowsX (F : Nat → Prop) (Λ : Lbl) (σ : Store) (w w' : World) (l : Nat) (xs ys : List A) (lab : Option (Nat × Nat)) : Prop where
  row : σ[l]? = some (.box xs)
  plain : ∀ x ∈ ys, x.plain = true
  os : w'.os = w.os
  tape : w'.tape = w.tape
  output : w'.output = w.output
  size : w.heap.size ≤ w'.heap.size
  sizes : Sizes w w'
  keep : ∀ b, b < w.heap.size → (∀ o, Λ [l] ≠ some (b, o)) → w'.heap[b]? = w.heap[b]?
  new : (lab = none ∧ xs ++ ys = []) ∨ ∃ b o cs t, lab = some (b, o) ∧ ¬ F b ∧ (w.heap.size ≤ b ∨ Λ [l] = some (b, o)) ∧ w'.heap[b]? = some (.cells cs t (0, 0)) ∧
    ∀ j x, (xs ++ ys)[j]? = some x → ∃ c, cs[o + j]? = some c ∧ Cell F Λ w true [l, j] c x
theorem GrowsX.ext {F Λ σ w w' l xs ys lab} (hs : St F Λ σ w) (h : GrowsX F Λ σ w w' l xs ys lab) : ∀ L b o, Λ L = some (b, o) → apL Λ l σ.length lab L = some (b, o) := fun L b o hL => by
  cases L with
  | nil => exact hL
  | cons h0 p =>
    simp only [apL]
    rw [if_neg ?_]
    · exact hL
    · rintro rfl
      rw [hs.lab (σ.length :: p) (by simp)] at hL; cases hL
theorem GrowsX.frozen {F Λ σ w w' l xs ys lab} (hs : St F Λ σ w) (h : GrowsX F Λ σ w w' l xs ys lab) : ∀ b, F b → F b ∧ w'.heap[b]? = w.heap[b]? := fun b hb => ⟨hb, h.keep b (hs.old b hb) fun o hL => hs.notOwn hb ⟨[l], xs, o, by simp only [rowAt, h.row, Root.cells, sub], hL⟩⟩
theorem GrowsX.fr {F Λ σ w w' l xs ys lab tmps E} (hs : St F Λ σ w) (h : GrowsX F Λ σ w w' l xs ys lab) (hf : FrOK F Λ w tmps E) : FrOK F (apL Λ l σ.length lab) w' tmps E :=
  (hf.mono (h.frozen hs) h.sizes).ext (h.ext hs)
section
variable {P : Program} {n m : Nat} {N : Env → Store → Prop} {E : Env} {σ : Store} {o : Oper} {ops : Array Oper} {os : List Oper}
end

/-! ### kinds -/
def rowB (xs : List A) : Bool := xs.all fun x => match x with
  | .o _ _ => true
  | .j => true
  | x => x.inCell
theorem St.rekind {F Λ σ w} (hs : St F Λ σ w) {l : Nat} {r r' : Root} {xs : List A} (hr : σ[l]? = some r) (h1 : r.cells = some xs) (h2 : r'.cells = some xs) (hc : ∀ c x, x ∈ xs → ∀ L, Cell F Λ w (isB r) L c x → Cell F Λ w (isB r') L c x) : St F Λ (σ.set l r') w := by
  have hl : l < σ.length := (List.getElem?_eq_some_iff.1 hr).1
  have e : ∀ L ys, rowAt (σ.set l r') L = some ys → rowAt σ L = some ys := fun L ys h => by
    cases L with
    | nil => simp [rowAt] at h
    | cons h0 p =>
      simp only [rowAt, List.getElem?_set] at h ⊢
      by_cases e : l = h0
      · subst e; rw [if_pos rfl, if_pos hl] at h; rw [hr]; simpa only [h1, h2] using h
      · rw [if_neg e] at h; exact h
  refine ⟨fun L ys h => ?_, fun L ys L' ys' b o o' g1 g2 => hs.apart L ys L' ys' b o o' (e _ _ g1) (e _ _ g2), hs.old, fun L h => hs.lab L (by simpa using h)⟩
  refine (hs.row L ys (e _ _ h)).imp id fun ⟨b, o, cs, t, g1, g2, g3, g4⟩ => ⟨b, o, cs, t, g1, g2, g3, fun j x hj => (g4 j x hj).imp fun c hcc => ⟨hcc.1, ?_⟩⟩
  have h5 := hcc.2
  by_cases e2 : L = [l]
  · subst e2
    have hy := e _ _ h
    simp only [rowAt, hr, h1, sub, Option.some.injEq] at hy
    subst hy
    have b1 : isBox σ [l] = isB r := by simp [isBox_one, hr]
    have b2 : isBox (σ.set l r') [l] = isB r' := by simp [isBox_one, hl]
    rw [b1] at h5; rw [b2]
    exact hc c x (List.mem_of_getElem? hj) _ h5
  · have : isBox (σ.set l r') L = isBox σ L := by
      match L, e2 with
      | [], _ => rfl
      | [h0], e2 =>
        have : l ≠ h0 := fun e => e2 (by rw [e])
        simp only [isBox, List.getElem?_set_ne this]
      | _ :: _ :: _, _ => rfl
    rw [this]; exact h5
theorem Step.rekind {m F Λ σ w} {l : Nat} {r r' : Root} {xs : List A} (hr : σ[l]? = some r) (h1 : r.cells = some xs) (h2 : r'.cells = some xs) (hm : m ≤ l) : Step m F Λ σ w F Λ (σ.set l r') w := by
  have hl : l < σ.length := (List.getElem?_eq_some_iff.1 hr).1
  have e : ∀ L ys, rowAt (σ.set l r') L = some ys → rowAt σ L = some ys := fun L ys h => by
    cases L with
    | nil => simp [rowAt] at h
    | cons h0 p =>
      simp only [rowAt, List.getElem?_set] at h ⊢
      by_cases e : l = h0
      · subst e; rw [if_pos rfl, if_pos hl] at h; rw [hr]; simpa only [h1, h2] using h
      · rw [if_neg e] at h; exact h
  exact { os := rfl, tape := rfl, output := rfl, size := Nat.le_refl _, sizes := Sizes.refl _, keep := fun _ _ _ => rfl, mono := fun _ h => h, new := fun _ h => .inl h
          own := fun b ⟨L, ys, o, g1, g2⟩ => .inl ⟨L, ys, o, e _ _ g1, g2⟩
          len := by rw [List.length_set]; exact Nat.min_le_right _ _
          boxes := fun a us ha hu => ⟨rfl, us, by rw [List.getElem?_set_ne (by omega)]; exact hu⟩
          kept := fun _ _ _ _ h => h }
theorem Cell.boxed {F Λ w L c x} (h : Cell F Λ w false L c x) : Cell F Λ w true L c x := by
  cases x with
  | j => trivial
  | o k ys => exact h
  | _ => exact ⟨by rw [if_pos rfl]; exact inCell_inBox (by have h1 := h.1; rwa [if_neg (by simp)] at h1), h.2⟩
theorem Cell.rowed {F Λ w L c x} (hx : (match x with | .o _ _ => true | .j => true | x => x.inCell) = true) (h : Cell F Λ w true L c x) : Cell F Λ w false L c x := by
  cases x with
  | j => trivial
  | o k ys => exact h
  | _ => exact ⟨by rw [if_neg (by simp)]; exact hx, h.2⟩
/-! ### a reference absorbed -/
def pre (s j : Nat) (L : List Nat) : Bool := match L with
  | h :: i :: _ => h == s && i == j
  | _ => false
def nmE (p : List Nat → Bool) : Env → Bool
  | [] => false
  | (_, a) :: E => a.names p || nmE p E
theorem nmE_lk {p : List Nat → Bool} : ∀ {E : Env}, nmE p E = false → ∀ t, (lk E t).names p = false
  | [], _, t => rfl
  | (u, a) :: E, h, t => by
    simp only [nmE, Bool.or_eq_false_iff] at h
    simp only [lk]; split
    · exact h.1
    · exact nmE_lk h.2 t
def nmS (p : List Nat → Bool) : Store → Bool
  | [] => false
  | .box xs :: σ => namesL p xs || nmS p σ
  | .row _ :: σ => nmS p σ
  | .dead :: σ => nmS p σ
theorem nmS_box {p : List Nat → Bool} : ∀ {σ : Store}, nmS p σ = false → ∀ xs, Root.box xs ∈ σ → namesL p xs = false
  | [], _, xs, h => by cases h
  | .box ys :: σ, hb, xs, h => by
    simp only [nmS, Bool.or_eq_false_iff] at hb
    rcases List.mem_cons.1 h with h | h
    · cases h; exact hb.1
    · exact nmS_box hb.2 xs h
  | .row _ :: σ, hb, xs, h => by
    rcases List.mem_cons.1 h with h | h
    · cases h
    · exact nmS_box (σ := σ) hb xs h
  | .dead :: σ, hb, xs, h => by
    rcases List.mem_cons.1 h with h | h
    · cases h
    · exact nmS_box (σ := σ) hb xs h
def abL (Λ : Lbl) (s j l : Nat) : Lbl := fun L => match L with
  | [] => Λ []
  | [h] => Λ [h]
  | h :: i :: q => if h = s ∧ i = j then Λ (l :: q) else Λ (h :: i :: q)
def abS (σ : Store) (s j l k : Nat) (xs ys : List A) : Store := (σ.set l .dead).set s (.box (xs.set j (.o k ys)))
section
variable {F : Nat → Prop} {Λ : Lbl} {σ : Store} {w : World} {s j l nn k : Nat} {xs ys : List A}
theorem abL_ok : ∀ L b o, pre s j L = false → Λ L = some (b, o) → abL Λ s j l L = some (b, o) := fun L b o hp hL => by
  match L with
  | [] => exact hL
  | [h] => exact hL
  | h :: i :: q =>
    simp only [pre, Bool.and_eq_false_iff, beq_eq_false_iff_ne] at hp
    simp only [abL]
    rw [if_neg (by rintro ⟨rfl, rfl⟩; simp at hp)]; exact hL
theorem rowAt_ab (hs : σ[s]? = some (.box xs)) (hl : σ[l]? = some (.row ys)) (hj : j < xs.length) (hne : s ≠ l) {L zs} (h : rowAt (abS σ s j l k xs ys) L = some zs) :
    (L = [s] ∧ zs = xs.set j (.o k ys)) ∨ (∃ q, L = s :: j :: q ∧ rowAt σ (l :: q) = some zs) ∨ (L ≠ [s] ∧ pre s j L = false ∧ hd l L = false ∧ rowAt σ L = some zs) := by
  have h1 : s < σ.length := (List.getElem?_eq_some_iff.1 hs).1
  cases L with
  | nil => simp [rowAt] at h
  | cons h0 p =>
    simp only [abS, rowAt, List.getElem?_set, List.length_set] at h
    by_cases e : s = h0
    · subst e
      rw [if_pos rfl, if_pos h1] at h
      simp only [Root.cells] at h
      cases p with
      | nil => simp only [sub, Option.some.injEq] at h; exact .inl ⟨rfl, h.symm⟩
      | cons i q =>
        by_cases ei : j = i
        · subst ei
          refine .inr (.inl ⟨q, rfl, ?_⟩)
          simp only [sub, List.getElem?_set_self hj] at h
          simpa only [rowAt, hl, Root.cells] using h
        · refine .inr (.inr ⟨by simp, by simp [pre]; omega, by simp [hd]; omega, ?_⟩)
          simp only [sub, List.getElem?_set_ne ei] at h
          simpa only [rowAt, hs, Root.cells, sub] using h
    · rw [if_neg e] at h
      by_cases e2 : l = h0
      · subst e2
        rw [if_pos rfl] at h
        split at h
        · rename_i r hr
          split at hr
          · cases hr; simp [Root.cells] at h
          · cases hr
        · cases h
      · rw [if_neg e2] at h
        refine .inr (.inr ⟨by simp; omega, ?_, by simp [hd]; omega, by simpa only [rowAt] using h⟩)
        cases p with
        | nil => rfl
        | cons i q => simp [pre]; omega
theorem St.absorb (h : St F Λ σ w) (hs : σ[s]? = some (.box xs)) (hl : σ[l]? = some (.row ys)) (hx : xs[j]? = some (.m [l] 0 nn k)) (hne : s ≠ l) (hk : 0 < k) (hn : ys.length = nn * k) (hb : nmS (pre s j) σ = false) : St F (abL Λ s j l) (abS σ s j l k xs ys) w := by
  have hj : j < xs.length := (List.getElem?_eq_some_iff.1 hx).1
  have hrs : rowAt σ [s] = some xs := by simp only [rowAt, hs, Root.cells, sub]
  have hls : s < σ.length := (List.getElem?_eq_some_iff.1 hs).1
  have hbx : isBox (abS σ s j l k xs ys) [s] = true := by simp [isBox, abS, hls]
  have hsb : isBox σ [s] = true := by simp [isBox, hs]
  have key : ∀ L zs, rowAt (abS σ s j l k xs ys) L = some zs → ∃ L0 us, rowAt σ L0 = some us ∧ abL Λ s j l L = Λ L0 ∧ (L = L0 ∨ ∃ q, L = s :: j :: q ∧ L0 = l :: q) ∧ (hd l L0 = true → ∃ q, L = s :: j :: q) := fun L zs h => by
    rcases rowAt_ab hs hl hj hne h with ⟨rfl, rfl⟩ | ⟨q, rfl, h1⟩ | ⟨h1, h2, h3, h4⟩
    · exact ⟨[s], xs, hrs, rfl, .inl rfl, fun h => by simp [hd] at h; omega⟩
    · exact ⟨l :: q, zs, h1, by simp [abL], .inr ⟨q, rfl, rfl⟩, fun _ => ⟨q, rfl⟩⟩
    · refine ⟨L, zs, h4, ?_, .inl rfl, fun h => by rw [h3] at h; cases h⟩
      match L, h2 with
      | [], _ => rfl
      | [h], _ => rfl
      | h :: i :: q, h2 =>
        simp only [pre, Bool.and_eq_false_iff, beq_eq_false_iff_ne] at h2
        simp only [abL]; rw [if_neg (by rintro ⟨rfl, rfl⟩; simp at h2)]
  refine ⟨fun L zs hz => ?_, fun L zs L' zs' b o o' g1 g2 g3 g4 => ?_, h.old, fun L hL => ?_⟩
  · rcases rowAt_ab hs hl hj hne hz with ⟨rfl, rfl⟩ | ⟨q, rfl, h1⟩ | ⟨h1, h2, h3, h4⟩
    · have e : abL Λ s j l [s] = Λ [s] := rfl
      rw [e, hbx]
      rcases h.row _ _ hrs with ⟨_, h5⟩ | ⟨b, o, cs, t, h5, h6, h7, h8⟩
      · subst h5; simp at hj
      · refine .inr ⟨b, o, cs, t, h5, h6, h7, fun i x hi => ?_⟩
        by_cases ei : j = i
        · subst ei
          rw [List.getElem?_set_self hj] at hi; cases hi
          obtain ⟨c, g1, g2⟩ := h8 j _ hx
          rw [hsb] at g2
          refine ⟨c, g1, trivial, hk, nn, hn, ?_⟩
          have := OK.m_inv g2.2
          exact this.imp id fun ⟨b, o, cap, k1, k2⟩ => ⟨b, o, cap, by simpa [abL] using k1, k2⟩
        · rw [List.getElem?_set_ne ei] at hi
          obtain ⟨c, g1, g2⟩ := h8 i x hi
          rw [hsb] at g2
          refine ⟨c, g1, g2.relabel (pre s j) abL_ok (by simp [pre]; omega) fun _ => ?_⟩
          exact namesL_false (nmS_box hb xs (List.mem_of_getElem? hs)) x (List.mem_of_getElem? hi)
    · have e : abL Λ s j l (s :: j :: q) = Λ (l :: q) := by simp [abL]
      rw [e, isBox_deep]
      refine (h.row _ _ h1).imp id fun ⟨b, o, cs, t, g1, g2, g3, g4⟩ => ⟨b, o, cs, t, g1, g2, g3, fun i x hi => (g4 i x hi).imp fun c hc => ⟨hc.1, ?_⟩⟩
      have h5 := hc.2
      rw [isBox_row hl q] at h5
      exact h5.unbox fun a n k v hv => hv.imp id fun ⟨b, o, cap, k1, k2⟩ => ⟨b, o, cap, by simpa [abL] using k1, k2⟩
    · obtain ⟨L0, us, k1, k2, k3, k4⟩ := key L zs hz
      have hL0 : L = L0 := by
        rcases k3 with k3 | ⟨q, rfl, _⟩
        · exact k3
        · simp [pre] at h2
      subst hL0
      rw [k2]
      have hib : isBox (abS σ s j l k xs ys) L = isBox σ L := by
        match L, h1, h3 with
        | [], _, _ => rfl
        | [h0], h1, h3 =>
          have e1 : s ≠ h0 := fun e => h1 (by rw [e])
          have e2 : l ≠ h0 := fun e => by simp [hd, e] at h3
          simp only [isBox, abS, List.getElem?_set_ne e1, List.getElem?_set_ne e2]
        | _ :: _ :: _, _, _ => rfl
      rw [hib]
      refine (h.row _ _ h4).imp id fun ⟨b, o, cs, t, g1, g2, g3, g4⟩ => ⟨b, o, cs, t, g1, g2, g3, fun i x hi => (g4 i x hi).imp fun c hc => ⟨hc.1, ?_⟩⟩
      by_cases hbL : isBox σ L = true
      · match L, hbL, h4, hc.2 with
        | [h0], hbL, h4, h5 =>
          refine h5.relabel (pre s j) abL_ok ?_ fun _ => ?_
          · have : h0 ≠ s := fun e => h1 (by rw [e])
            simp [pre, this]
          · simp only [isBox] at hbL
            split at hbL
            · rename_i us2 hu
              simp only [rowAt, hu, Root.cells, sub, Option.some.injEq] at h4
              subst h4
              exact namesL_false (nmS_box hb us2 (List.mem_of_getElem? hu)) x (List.mem_of_getElem? hi)
            · cases hbL
        | [], hbL, _, _ => cases hbL
        | _ :: _ :: _, hbL, _, _ => cases hbL
      · have hbf : isBox σ L = false := by simpa using hbL
        have h5 := hc.2
        rw [hbf] at h5 ⊢
        refine h5.unbox fun a n k v hv => hv.imp id fun ⟨b, o, cap, k1, k2⟩ => ⟨b, o, cap, abL_ok _ _ _ ?_ k1, k2⟩
        match L, h1, h2 with
        | [], _, _ => rfl
        | [h0], h1, _ =>
          have : h0 ≠ s := fun e => h1 (by rw [e])
          simp [pre, this]
        | h0 :: i0 :: q, _, h2 => simpa [pre] using h2
  · obtain ⟨A0, us, a1, a2, a3, a4⟩ := key _ _ g1
    obtain ⟨B0, us', b1, b2, b3, b4⟩ := key _ _ g2
    rw [a2] at g3; rw [b2] at g4
    have := h.apart _ _ _ _ _ _ _ a1 b1 g3 g4
    subst this
    rcases a3 with rfl | ⟨q, rfl, rfl⟩
    · rcases b3 with rfl | ⟨q, rfl, rfl⟩
      · rfl
      · obtain ⟨q', e⟩ := a4 (by simp [hd])
        simp only [List.cons.injEq] at e
        exact absurd e.1.symm hne
    · rcases b3 with rfl | ⟨q', rfl, e⟩
      · obtain ⟨q', e⟩ := b4 (by simp [hd])
        simp only [List.cons.injEq] at e
        exact absurd e.1.symm hne
      · simp only [List.cons.injEq, true_and] at e; rw [e]
  · have hlen : (abS σ s j l k xs ys).length = σ.length := by simp [abS]
    rw [hlen] at hL
    match L, hL with
    | [], hL => exact h.lab [] hL
    | [h0], hL => exact h.lab [h0] hL
    | h0 :: i0 :: q, hL =>
      simp only [List.headD_cons] at hL
      simp only [abL]; rw [if_neg (by rintro ⟨rfl, _⟩; omega)]
      exact h.lab _ (by simpa using hL)
theorem Step.absorb {m : Nat} (h : St F Λ σ w) (hs : σ[s]? = some (.box xs)) (hl : σ[l]? = some (.row ys)) (hx : xs[j]? = some (.m [l] 0 nn k)) (hne : s ≠ l) (hms : m ≤ s) (hml : m ≤ l) : Step m F Λ σ w F (abL Λ s j l) (abS σ s j l k xs ys) w := by
  have hj : j < xs.length := (List.getElem?_eq_some_iff.1 hx).1
  have hrs : rowAt σ [s] = some xs := by simp only [rowAt, hs, Root.cells, sub]
  exact { os := rfl, tape := rfl, output := rfl, size := Nat.le_refl _, sizes := Sizes.refl _, keep := fun _ _ _ => rfl, mono := fun _ h => h, new := fun _ h => .inl h
          own := fun b ⟨L, zs, o, g1, g2⟩ => by
            rcases rowAt_ab hs hl hj hne g1 with ⟨rfl, rfl⟩ | ⟨q, rfl, h1⟩ | ⟨h1, h2, h3, h4⟩
            · exact .inl ⟨[s], xs, o, hrs, g2⟩
            · exact .inl ⟨l :: q, zs, o, h1, by simpa [abL] using g2⟩
            · refine .inl ⟨L, zs, o, h4, ?_⟩
              match L, h2, g2 with
              | [], _, g2 => exact g2
              | [_], _, g2 => exact g2
              | h0 :: i0 :: q, h2, g2 =>
                simp only [pre, Bool.and_eq_false_iff, beq_eq_false_iff_ne] at h2
                simp only [abL] at g2; rw [if_neg (by rintro ⟨rfl, rfl⟩; simp at h2)] at g2; exact g2
          len := by simp [abS]; omega
          boxes := fun a us ha hu => ⟨rfl, us, by simp only [abS]; rw [List.getElem?_set_ne (by omega), List.getElem?_set_ne (by omega)]; exact hu⟩
          kept := fun L b o ha hL => by
            match L, ha, hL with
            | [], _, hL => exact hL
            | [_], _, hL => exact hL
            | h0 :: i0 :: q, ha, hL =>
              simp only [List.headD_cons] at ha
              simp only [abL]; rw [if_neg (by rintro ⟨rfl, _⟩; omega)]; exact hL }
end
section
variable {P : Program} {n m : Nat} {K : Exit → Env → Store → Prop} {N : Env → Store → Prop} {E : Env} {σ : Store} {ops : Array Oper} {os : List Oper} {o : Oper}
theorem TO_boxify (l : Nat) {xs : List A} (hr : σ[l]? = some (.row xs)) (hm : m ≤ l) (h : TO P n m ops os N E (σ.set l (.box xs))) : TO P n m ops os N E σ := fun F Λ w tmps Q hn hs hf hq =>
  h F Λ w tmps Q hn (hs.rekind hr rfl rfl fun c x _ L hc => hc.boxed) hf fun F' Λ' σ' w' tmps' E' hn' hs' hf' hst hN => hq F' Λ' σ' w' tmps' E' hn' hs' hf' ((Step.rekind hr rfl rfl hm).trans hst) hN
theorem TO_rowify (l : Nat) {xs : List A} (hr : σ[l]? = some (.box xs)) (hb : rowB xs = true) (hm : m ≤ l) (h : TO P n m ops os N E (σ.set l (.row xs))) : TO P n m ops os N E σ := fun F Λ w tmps Q hn hs hf hq =>
  h F Λ w tmps Q hn (hs.rekind hr rfl rfl fun c x hx L hc => hc.rowed (by simp only [rowB, List.all_eq_true] at hb; exact hb x hx)) hf fun F' Λ' σ' w' tmps' E' hn' hs' hf' hst hN => hq F' Λ' σ' w' tmps' E' hn' hs' hf' ((Step.rekind hr rfl rfl hm).trans hst) hN
theorem TO_absorb (s j l : Nat) {nn k : Nat} {xs ys : List A} (hs : σ[s]? = some (.box xs)) (hl : σ[l]? = some (.row ys)) (hx : xs[j]? = some (.m [l] 0 nn k)) (hne : s ≠ l) (hk : 0 < k) (hn : ys.length = nn * k) (hms : m ≤ s) (hml : m ≤ l)
    (hE : nmE (pre s j) E = false) (hb : nmS (pre s j) σ = false) (h : TO P n m ops os N E (abS σ s j l k xs ys)) : TO P n m ops os N E σ := fun F Λ w tmps Q hn' hs' hf hq =>
  h F _ w tmps Q hn' (hs'.absorb hs hl hx hne hk hn hb) (fun t => (hf t).relabel (pre s j) abL_ok (nmE_lk hE t)) fun F2 Λ2 σ2 w2 tmps2 E2 hn2 hs2 hf2 hst hN => hq F2 Λ2 σ2 w2 tmps2 E2 hn2 hs2 hf2 ((Step.absorb hs' hs hl hx hne hms hml).trans hst) hN
end
end Go.Sep
/- append of one element that owns; calls that look at rows and hand back rows. -/
set_option linter.unusedVariables false
set_option linter.unusedSimpArgs false
namespace Go.Sep
open Go

section
variable {P : Program} {n m : Nat} {N : Env → Store → Prop} {E : Env} {σ : Store} {ops : Array Oper} {os : List Oper} {o : Oper}
theorem rowB_own {xs : List A} (h : ownRL xs = true) : rowB xs = true := by
  simp only [rowB, List.all_eq_true]
  intro x hx
  have := ownRL_mem h x hx
  cases x <;> simp_all [ownR, A.inCell]
end

/-! ### a root that nobody needs -/
/-! ### calls -/
section
variable {P : Program} {n m : Nat} {N : Env → Store → Prop} {E : Env} {σ : Store} {o : Oper}
end
end Go.Sep
/- Regions that draw their order and write: whatever the order, the state is that of the operations which have come up. -/
set_option linter.unusedVariables false
set_option linter.unusedSimpArgs false
namespace Go.Sep
open Go

/-- The same world, seen otherwise. -/
def Ghost (m : Nat) (E : Env) (σ : Store) (E' : Env) (σ' : Store) : Prop := ∀ F Λ w tmps, St F Λ σ w → FrOK F Λ w tmps E → ∃ F' Λ', St F' Λ' σ' w ∧ FrOK F' Λ' w tmps E' ∧ Step m F Λ σ w F' Λ' σ' w
theorem Ghost.weak {m E σ E' σ'} (h : WeakL m E σ E' σ') : Ghost m E σ E' σ' := fun F Λ w tmps hs hf => ⟨F, h.go hs hf⟩
theorem Ghost.trans {m E σ E1 σ1 E2 σ2} (h : Ghost m E σ E1 σ1) (h' : Ghost m E1 σ1 E2 σ2) : Ghost m E σ E2 σ2 := fun F Λ w tmps hs hf => by
  obtain ⟨F1, Λ1, h1, h2, h3⟩ := h F Λ w tmps hs hf
  obtain ⟨F2, Λ2, g1, g2, g3⟩ := h' F1 Λ1 w tmps h1 h2
  exact ⟨F2, Λ2, g1, g2, h3.trans g3⟩
theorem Ghost.move {m E σ E' σ'} (l l' : Nat) {zs} (hne : l ≠ l') (hl : l < σ.length) (hr : σ[l']? = some (.row zs)) (hb : noBox σ l = true) (hm : m ≤ l) (h : Ghost m (mvE l l' E) (mvS l l' σ) E' σ') : Ghost m E σ E' σ' :=
  Ghost.trans (fun F Λ w tmps hs hf => ⟨F, _, hs.move hne hl hr, fun t => by rw [lk_mvE]; exact mvA_ok hne (hf t), Step.move hs hne hl hr hb hm⟩) h
def upd (I : Nat → Bool) (i : Nat) : Nat → Bool := fun k => if k = i then true else I k
def depOf (deps : List (List Nat)) (i : Nat) : List Nat := deps.getD i []
section
variable {P : Program} {n m : Nat} {K : Exit → Env → Store → Prop} {N : Env → Store → Prop} {E : Env} {σ : Store} {ops : Array Oper} {os : List Oper} {o : Oper}
/-- What is asked of each operation: from whatever has come up, what it waits for among it. -/
def Steps (P : Program) (n m : Nat) (deps : List (List Nat)) (Est : (Nat → Bool) → Env) (Sst : (Nat → Bool) → Store) : List Oper → Nat → Prop
  | [], _ => True
  | o :: os, i => (∀ I : Nat → Bool, I i = false → (∀ j ∈ depOf deps i, I j = true) → (∀ k, I k = true → ∀ j ∈ depOf deps k, I j = true) →
      TOp P n m o (fun E' σ' => Ghost m E' σ' (Est (upd I i)) (Sst (upd I i))) (Est I) (Sst I)) ∧ Steps P n m deps Est Sst os (i + 1)
theorem Steps.get {deps Est Sst} : ∀ {l : List Oper} {k : Nat}, Steps P n m deps Est Sst l k → ∀ i o, l[i]? = some o → ∀ I : Nat → Bool, I (k + i) = false → (∀ j ∈ depOf deps (k + i), I j = true) → (∀ k, I k = true → ∀ j ∈ depOf deps k, I j = true) →
      TOp P n m o (fun E' σ' => Ghost m E' σ' (Est (upd I (k + i))) (Sst (upd I (k + i)))) (Est I) (Sst I)
  | [], _, _, i, o, h => by simp at h
  | o' :: os, k, hs, 0, o, h => by
    simp only [List.getElem?_cons_zero, Option.some.injEq] at h; subst h; exact hs.1
  | o' :: os, k, hs, i + 1, o, h => by
    have := Steps.get hs.2 i o (by simpa using h)
    rw [show k + 1 + i = k + (i + 1) by omega] at this; exact this
/-! ### part of a slice -/
/-- xs[a:b], in Go; b no more than the length. -/
def cutI {α : Type} (xs : List α) (a b : Int) : Option (List α) := if 0 ≤ a ∧ a ≤ b ∧ b ≤ xs.length then some ((xs.take b.toNat).drop a.toNat) else none
end
end Go.Sep
/- Regions that draw their order and write, path by path: what looks at no world is taken first, the others in every order. -/
set_option linter.unusedVariables false
set_option linter.unusedSimpArgs false
namespace Go.Sep
open Go

/-- As Pur, in whatever world. -/
def PurI (P : Program) (o : Oper) (E : Env) (r : A) : Prop := ∀ F Λ w tmps, FrOK F Λ w tmps E → ∃ v, OK F Λ w v r ∧ ∀ w', (execOp (Act.eval ⟨tmps, []⟩) o).run P w' = .ok (.value v) w'
section
variable {P : Program} {o : Oper} {E : Env} {σ : Store}
theorem purI_assign {x : Operand} (h : o.op = .assign x) : PurI P o E (val E x) := fun F Λ w tmps hf => ⟨_, val_ok hf x, fun w' => by simp only [execOp, h]; rfl⟩
theorem purI_not {t x} {b : Bool} (h : o.op = .unOp .not t x) (hx : val E x = .v (.bool b)) : PurI P o E (.v (.bool (!b))) := fun F Λ w tmps hf => by
  have h1 := val_ok (ds := []) hf x
  rw [hx] at h1
  exact ⟨_, .imm (.v _), fun w' => by simp [execOp, h, h1.v_inv, Op.unary]⟩
end

/-! ### paths -/
def onlyN (Q : Act → World → Prop) : Exit → Act → World → Prop := fun e a w => match e with
  | .normal => Q a w
  | _ => False
def TA (P : Program) (n m : Nat) (ops : Array Oper) (fuel : Nat) (listed : Array Bool) (N : Env → Store → Prop) (E : Env) (σ : Store) : Prop :=
  ∀ F Λ w tmps (Q : Act → World → Prop), tmps.size = n → St F Λ σ w → FrOK F Λ w tmps E →
    (∀ F' Λ' σ' w' tmps' E', tmps'.size = n → St F' Λ' σ' w' → FrOK F' Λ' w' tmps' E' → Step m F Λ σ w F' Λ' σ' w' → N E' σ' → Q ⟨tmps', []⟩ w') →
    wpAny P .any ops (onlyN Q) fuel listed ⟨tmps, []⟩ w
section
variable {P : Program} {n m : Nat} {K : Exit → Env → Store → Prop} {N : Env → Store → Prop} {E : Env} {σ : Store} {ops : Array Oper} {fuel : Nat} {listed : Array Bool}
theorem TA_nil (hr : Region.ready .any ops listed = []) (h : N E σ) : TA P n m ops fuel listed N E σ := fun F Λ w tmps Q hn hs hf hq => by
  have := hq F Λ σ w tmps E hn hs hf (.refl ..) h
  cases fuel with
  | zero => exact ⟨hr, this⟩
  | succ fuel => exact ⟨fun _ => this, fun i hi => by rw [hr] at hi; cases hi⟩
theorem TA_first (i : Nat) (listed' : Array Bool) {o : Oper} {r : A} (hi : ops[i]? = some o) (hp : PurI P o E r) (hg : o.guard = none) (hd : dstOK n o.dst = true) (hl : listed.setIfInBounds i true = listed') (hsel : Region.noSelect ops = true)
    (hr : (Region.ready .any ops listed).contains i = true) (hfr : Region.free .any ops listed i = true) (h : TA P n m ops fuel listed' N (put E o.dst r) σ) : TA P n m ops (fuel + 1) listed N E σ := fun F Λ w tmps Q hn hs hf hq => by
  obtain ⟨v, hv, hrun⟩ := hp F Λ w tmps hf
  obtain ⟨tmps', e, hn', hf'⟩ := hf.putO (ds := []) hn hd hv
  subst hl
  refine wpAny_first hi (Region.noSelect_spec hsel) (fun c a w h => h) fuel listed _ w (Region.free_spec hi hfr) (by simpa using hr) (.inl ⟨by simp [Region.wanted, hg], hrun⟩) ?_
  rw [e]
  exact h F Λ w tmps' Q hn' hs hf' hq
def AllR (P : Program) (n m : Nat) (ops : Array Oper) (fuel : Nat) (listed : Array Bool) (N : Env → Store → Prop) (E : Env) (σ : Store) : List Nat → Prop
  | [] => True
  | i :: rs => (∃ o, ops[i]? = some o ∧ o.guard = none ∧ TOp P n m o (TA P n m ops fuel (listed.setIfInBounds i true) N) E σ) ∧ AllR P n m ops fuel listed N E σ rs
theorem AllR.get : ∀ {rs : List Nat}, AllR P n m ops fuel listed N E σ rs → ∀ i ∈ rs, ∃ o, ops[i]? = some o ∧ o.guard = none ∧ TOp P n m o (TA P n m ops fuel (listed.setIfInBounds i true) N) E σ
  | [], _, i, h => by cases h
  | j :: rs, h, i, hi => by
    rcases List.mem_cons.1 hi with rfl | hi
    · exact h.1
    · exact AllR.get h.2 i hi
theorem TA_all (rs : List Nat) (hr : Region.ready .any ops listed = rs) (hne : rs ≠ []) (h : AllR P n m ops fuel listed N E σ rs) : TA P n m ops (fuel + 1) listed N E σ := fun F Λ w tmps Q hn hs hf hq => by
  refine ⟨fun h0 => absurd (hr.symm.trans h0) hne, fun i hi => ?_⟩
  rw [hr] at hi
  obtain ⟨o, h1, h2, h3⟩ := h.get i hi
  unfold wpOp
  rw [h1]
  simp only
  rw [if_pos (by simp [Region.wanted, h2])]
  exact .inl (h3 F Λ w tmps _ (onlyN Q) hn hs hf fun F' Λ' σ' w' tmps' E' hn' hs' hf' hst hN =>
    hN F' Λ' w' tmps' Q hn' hs' hf' fun F2 Λ2 σ2 w2 tmps2 E2 hn2 hs2 hf2 hst2 hN2 => hq F2 Λ2 σ2 w2 tmps2 E2 hn2 hs2 hf2 (hst.trans hst2) hN2)
theorem TA_listed (listed' : Array Bool) (hl : listed = listed') (h : TA P n m ops fuel listed' N E σ) : TA P n m ops fuel listed N E σ := hl ▸ h
theorem TA_ghost {E' σ'} (hg : Ghost m E σ E' σ') (h : TA P n m ops fuel listed N E' σ') : TA P n m ops fuel listed N E σ := fun F Λ w tmps Q hn hs hf hq => by
  obtain ⟨F1, Λ1, h1, h2, h3⟩ := hg F Λ w tmps hs hf
  exact h F1 Λ1 w tmps Q hn h1 h2 fun F2 Λ2 σ2 w2 tmps2 E2 hn2 hs2 hf2 hst2 hN2 => hq F2 Λ2 σ2 w2 tmps2 E2 hn2 hs2 hf2 (h3.trans hst2) hN2
theorem T_regionP {rid} {l : List Oper} (hm : P.follows .mixedOrders = true) (h : TA P n m l.toArray l.length (Array.replicate l.length false) (K .normal) E σ) : T P n m (.region rid l.toArray true) K E σ := fun F Λ w tmps Q hn hs hf hq => by
  have h1 := h F Λ { w with drawn := w.drawn + 1 } tmps (fun a w => Q .normal a w) hn
    ⟨fun L xs hx => (hs.row L xs hx).imp (fun h => h) fun ⟨b, o, cs, t, h1, h2, h3, h4⟩ => ⟨b, o, cs, t, h1, h2, h3, fun j x hj => (h4 j x hj).imp fun c hc => ⟨hc.1, Cell.mono (w := w) (w' := { w with drawn := w.drawn + 1 }) (fun b hb => ⟨hb, rfl⟩) (fun b cs t h => ⟨cs, h, rfl⟩) hc.2⟩⟩, hs.apart, hs.old, hs.lab⟩
    (FrOK.mono (w := w) (w' := { w with drawn := w.drawn + 1 }) (fun b hb => ⟨hb, rfl⟩) (fun b cs t h => ⟨cs, h, rfl⟩) hf)
    fun F' Λ' σ' w' tmps' E' hn' hs' hf' hst hN => hq .normal F' Λ' σ' w' tmps' E' hn' hs' hf'
      { os := hst.os, tape := hst.tape, output := hst.output, size := hst.size, sizes := hst.sizes, keep := hst.keep, mono := hst.mono, new := hst.new, own := hst.own, len := hst.len, boxes := hst.boxes, kept := hst.kept } hN
  exact wp_mono (wp_region_any hm (by simpa using h1)) fun e a w h => by cases e <;> first | exact h | exact h.elim
end
end Go.Sep
/- Calls that write into rows of the caller's, wherever these lie. -/
set_option linter.unusedVariables false
set_option linter.unusedSimpArgs false
namespace Go.Sep
open Go

/-! ### a row under whatever cells -/
def compat (zs zs' : List A) : Prop := ∀ (j : Nat) (x' : A), zs'[j]? = some x' → ∃ x, zs[j]? = some x ∧ (x' = x ∨ ∃ (k : Nat) (u u' : List A), x = .o k u ∧ x' = .o k u' ∧ u'.length = u.length)
theorem compat.refl (zs : List A) : compat zs zs := fun j x h => ⟨x, h, .inl rfl⟩
theorem compat.trans {a b c : List A} (h : compat a b) (h' : compat b c) : compat a c := fun j x hx => by
  obtain ⟨y, hy, h1⟩ := h' j x hx
  obtain ⟨z, hz, h2⟩ := h j y hy
  refine ⟨z, hz, ?_⟩
  rcases h1 with rfl | ⟨k, u, u', rfl, rfl, h3⟩
  · exact h2
  · rcases h2 with rfl | ⟨k2, v, v', rfl, e, h4⟩
    · exact .inr ⟨k, u, u', rfl, rfl, h3⟩
    · cases e; exact .inr ⟨k, v, u', rfl, rfl, h3.trans h4⟩
/-! ### several rows -/
/-- Rows of the store: where, and their cells; none lies under another. -/
inductive Sel (σ : Store) : List (List Nat) → List (List A) → Prop
  | nil : Sel σ [] []
  | cons {L Ls xs rows} : rowAt σ L = some xs → isBox σ L = false → (∀ L' ∈ Ls, ¬ L <+: L' ∧ ¬ L' <+: L) → Sel σ Ls rows → Sel σ (L :: Ls) (xs :: rows)
theorem Sel.get {σ : Store} {Ls : List (List Nat)} {rows : List (List A)} (h : Sel σ Ls rows) : ∀ (i : Nat) (L : List Nat), Ls[i]? = some L → ∃ xs, rows[i]? = some xs ∧ rowAt σ L = some xs ∧ isBox σ L = false := by
  induction h with
  | nil => intro i L h; simp at h
  | cons h1 h2 _ _ ih =>
    intro i L hi
    cases i with
    | zero => simp at hi; subst hi; exact ⟨_, rfl, h1, h2⟩
    | succ i => simpa using ih i L (by simpa using hi)
theorem Sel.len {σ : Store} {Ls : List (List Nat)} {rows : List (List A)} (h : Sel σ Ls rows) : rows.length = Ls.length := by
  induction h with
  | nil => rfl
  | cons _ _ _ _ ih => simp [ih]
/-! ### where a label lies -/
section
variable {F F1 : Nat → Prop} {Λ Λ1 : Lbl} {σ : Store} {w w1 : World} {Ls : List (List Nat)} {rows rows' : List (List A)}
end

/-! ### the arguments, seen by the callee -/
section
variable {P : Program} {n m : Nat} {N : Env → Store → Prop} {E : Env} {σ : Store} {o : Oper}
end
/-! ### an element that owns, stored into a row -/
theorem spl_in (cs zs ys : List A) (d off : Nat) (hz : (cs.drop d).take zs.length = zs) (hl : d + zs.length ≤ cs.length) (ho : off + ys.length ≤ zs.length) : spl cs (d + off) ys = spl cs d (spl zs off ys) := by
  apply List.ext_getElem?
  intro j
  rw [spl_get _ _ _ _ (by omega), spl_get _ _ _ _ (by rw [spl_len]; exact hl), spl_len]
  by_cases h1 : d ≤ j ∧ j < d + zs.length
  · rw [if_pos h1, spl_get _ _ _ _ ho]
    by_cases h2 : off ≤ j - d ∧ j - d < off + ys.length
    · rw [if_pos h2, if_pos (by omega)]; congr 1; omega
    · rw [if_neg h2, if_neg (by omega)]
      rw [← hz, List.getElem?_take_of_lt (by omega), List.getElem?_drop]; congr 1; omega
  · rw [if_neg h1, if_neg (by omega)]
theorem spl_set_at (cs zs : List A) (d off : Nat) (y : A) (hl : d + zs.length ≤ cs.length) : (spl cs d zs).set (d + off) y = if off < zs.length then spl cs d (zs.set off y) else (spl cs d zs).set (d + off) y := by
  split
  case isFalse => rfl
  rename_i ho
  apply List.ext_getElem?
  intro j
  rw [spl_get _ _ _ _ (by rw [List.length_set]; exact hl), List.getElem?_set, List.length_set, List.getElem?_set, spl_get _ _ _ _ hl, spl_len]
  by_cases e : d + off = j
  · subst e
    rw [if_pos rfl, if_pos (by omega), if_pos (by omega), if_pos (by omega), if_pos ho]
  · rw [if_neg e]
    by_cases h1 : d ≤ j ∧ j < d + zs.length
    · rw [if_pos h1, if_pos h1, if_neg (by omega)]
    · rw [if_neg h1, if_neg h1]
section
variable {P : Program} {n m : Nat} {N : Env → Store → Prop} {E : Env} {σ : Store} {ops : Array Oper} {os : List Oper} {o : Oper}
theorem TOp_setN {α : Type} {T : Ty α} {t k' : Nat} {addr x : Operand} {l d i off : Nat} {z : Int} {xs : List α} {v : α} {ys : List A} (hz : z = (i : Int)) (hT : SzT P t k') (hk0 : 0 < k') (h : o.op = .store t addr x) (hdst : o.dst = none) (ha : val E addr = .e [l] d) (hd : d = i * T.k + off) (hr : σ[l]? = some (.box (flat T.own xs)))
    (hv : xs[i]? = some v) (hys : cellsOf (val E x) = ys) (hyl : ys.length = k') (ho : off + k' ≤ T.k) (hc : boxAllB ys = true) (hN : N E (σ.set l (.box (spl (flat T.own xs) (i * T.k) (spl (T.own v) off ys))))) : TOp P n m o N E σ := by
  subst hd
  have hi := (List.getElem?_eq_some_iff.1 hv).1
  have hk : i * T.k + T.k ≤ (flat T.own xs).length := by rw [flat_len T.lenO, ← Nat.succ_mul]; exact Nat.mul_le_mul_right _ hi
  have hcut := flat_cut T.lenO (off := 0) (k' := T.k) hv (by omega)
  rw [Nat.add_zero, List.drop_zero, List.take_of_length_le (Nat.le_of_eq (T.lenO v))] at hcut
  have hrow : rowAt σ [l] = some (flat T.own xs) := by simp only [rowAt, hr, Root.cells, sub]
  have hbx : isBox σ [l] = true := by simp [isBox, hr]
  refine store_row hT h hdst hrow hys hyl hk0 (show i * T.k + off + k' ≤ (flat T.own xs).length by omega) (fun y hy => by rw [hbx, if_pos rfl]; exact boxAll hc y hy) (boxAll hc) (fun F Λ w tmps hs hf => ?_) ?_
  · have e1 := val_ok (ds := []) hf addr
    rw [ha] at e1
    exact e1.e_inv
  · rw [spl_in (flat T.own xs) (T.own v) ys (i * T.k) off (by rw [T.lenO]; exact hcut) (by rw [T.lenO]; exact hk) (by rw [T.lenO, hyl]; exact ho)]
    simpa [setRow, hr, Root.under, setSub] using hN
theorem TO_absorbS {α : Type} {T : Ty α} (s off l : Nat) {nn k i : Nat} {xs : List α} {v : α} {cs ys : List A} (hs : σ[s]? = some (.box (spl (flat T.own xs) (i * T.k) cs))) (hv : xs[i]? = some v) (hcl : cs.length = T.k) (hl : σ[l]? = some (.row ys)) (hx : cs[off]? = some (.m [l] 0 nn k)) (hne : s ≠ l) (hk : 0 < k) (hn : ys.length = nn * k) (hms : m ≤ s) (hml : m ≤ l)
    (hE : nmE (pre s (i * T.k + off)) E = false) (hb : nmS (pre s (i * T.k + off)) σ = false) (h : TO P n m ops os N E ((σ.set l .dead).set s (.box (spl (flat T.own xs) (i * T.k) (cs.set off (.o k ys)))))) : TO P n m ops os N E σ := by
  have hi := (List.getElem?_eq_some_iff.1 hv).1
  have hkk : i * T.k + cs.length ≤ (flat T.own xs).length := by rw [hcl, flat_len T.lenO, ← Nat.succ_mul]; exact Nat.mul_le_mul_right _ hi
  have ho : off < cs.length := (List.getElem?_eq_some_iff.1 hx).1
  refine TO_absorb s (i * T.k + off) l hs hl ?_ hne hk hn hms hml hE hb ?_
  · rw [spl_get _ _ _ _ hkk, if_pos (by omega), ← hx, Nat.add_sub_cancel_left]
  · unfold abS; rw [spl_set_at _ _ _ _ _ hkk, if_pos ho]; exact h
theorem TO_rowifyS {α : Type} {T : Ty α} (s : Nat) {i : Nat} {z : Int} {xs : List α} {v : α} {cs : List A} (y : α) (hz : z = (i : Int)) (hs : σ[s]? = some (.box (spl (flat T.own xs) (i * T.k) cs))) (hv : xs[i]? = some v) (hc : cs = T.own y) (hm : m ≤ s) (h : TO P n m ops os N E (σ.set s (.row (flat T.own (xs.set z.toNat y))))) : TO P n m ops os N E σ := by
  subst hz; rw [Int.toNat_natCast] at h
  have hi := (List.getElem?_eq_some_iff.1 hv).1
  have := spl_flat T.lenO xs i y hi
  rw [Nat.zero_add] at this
  rw [hc, this] at hs
  exact TO_rowify s hs (rowB_own (flat_ownR T _)) hm h
end
/-! ### make, of elements that own -/
def plainN : A → Bool
  | .o _ [] => true
  | .o _ _ => false
  | _ => true
theorem sub_plainN {ys xs : List A} {p} (h : ∀ x ∈ ys, plainN x = true) (hs : sub ys p = some xs) : (p = [] ∧ xs = ys) ∨ (∃ j, p = [j] ∧ xs = []) := by
  cases p with
  | nil => simp only [sub, Option.some.injEq] at hs; exact .inl ⟨rfl, hs.symm⟩
  | cons j p =>
    simp only [sub] at hs
    split at hs
    · rename_i k zs hj
      have := h _ (List.mem_of_getElem? hj)
      cases zs with
      | nil =>
        cases p with
        | nil => simp only [sub, Option.some.injEq] at hs; exact .inr ⟨j, rfl, hs.symm⟩
        | cons i p => simp [sub] at hs
      | cons z zs => simp [plainN] at this
    · cases hs
theorem St.pushN {m F Λ σ w} (hs : St F Λ σ w) (r : Root) (ys : List A) (hr : r.cells = some ys) (ccs : List Value) (t : TypeId) (hpl : ∀ x ∈ ys, plainN x = true)
    (hc : ∀ (j : Nat) x, ys[j]? = some x → ∃ c, ccs[j]? = some c ∧ ∀ L, Cell F Λ w (isB r) L c x) :
    St F (pushL Λ σ.length w.heap.size) (σ ++ [r]) (w.alloc (.cells ccs.toArray t)) ∧ Step m F Λ σ w F (pushL Λ σ.length w.heap.size) (σ ++ [r]) (w.alloc (.cells ccs.toArray t)) := by
  have hext := pushL_ext hs
  have hF : ∀ b, F b → F b ∧ (w.alloc (.cells ccs.toArray t)).heap[b]? = w.heap[b]? := fun b hb => ⟨hb, heap_alloc_old w _ (hs.old b hb)⟩
  have hsz := Sizes.alloc w (.cells ccs.toArray t)
  have hold : ∀ L : List Nat, L.headD 0 < σ.length → pushL Λ σ.length w.heap.size L = Λ L := fun L hL => by
    simp only [pushL]; rw [if_neg]; rintro rfl; simp at hL
  have hnone : ∀ j, pushL Λ σ.length w.heap.size [σ.length, j] = none := fun j => by
    simp only [pushL]; rw [if_neg (by simp)]; exact hs.lab _ (by simp)
  have hown : ∀ b, Own (pushL Λ σ.length w.heap.size) (σ ++ [r]) b → Own Λ σ b ∨ w.heap.size ≤ b := by
    rintro b ⟨L, xs, o, h1, h2⟩
    rcases rowAt_push h1 with ⟨h3, h4⟩ | ⟨p, zs, rfl, h3, h4⟩
    · rw [hold L h3] at h2
      exact .inl ⟨L, xs, o, h4, h2⟩
    · rw [hr] at h3; cases h3
      rcases sub_plainN hpl h4 with ⟨rfl, rfl⟩ | ⟨j, rfl, rfl⟩
      · simp [pushL] at h2
        exact .inr (by omega)
      · rw [hnone j] at h2; cases h2
  refine ⟨⟨?_, ?_, ?_, ?_⟩, ⟨rfl, rfl, rfl, by simp, hsz, fun b hb _ => heap_alloc_old w _ hb, fun _ h => h, fun _ h => .inl h, hown, by simp; omega, fun l xs hl hx => ?_, fun L b o _ h => hext L b o h⟩⟩
  · intro L xs h
    rcases rowAt_push h with ⟨h3, h4⟩ | ⟨p, zs, rfl, h3, h4⟩
    · rw [hold L h3]
      rcases hs.row L xs h4 with h5 | ⟨b, o, cs, t', h5, h6, h7, h8⟩
      · exact .inl h5
      · refine .inr ⟨b, o, cs, t', h5, h6, ?_, fun j x hx => ?_⟩
        · rw [heap_alloc_old w _ (Array.getElem?_eq_some_iff.1 h7).1]; exact h7
        · obtain ⟨c, h9, h10⟩ := h8 j x hx
          exact ⟨c, h9, by rw [isBox_push h3]; exact (h10.mono hF hsz).ext hext⟩
    · rw [hr] at h3; cases h3
      rcases sub_plainN hpl h4 with ⟨rfl, rfl⟩ | ⟨j, rfl, rfl⟩
      · refine .inr ⟨w.heap.size, 0, ccs.toArray, t, by simp [pushL], fun hb => absurd (hs.old _ hb) (by omega), heap_alloc_new w _, fun j x hx => ?_⟩
        obtain ⟨c, h5, h6⟩ := hc j x hx
        refine ⟨c, by simpa using h5, ?_⟩
        rw [isBox_new]
        exact ((h6 _).mono hF hsz).ext hext
      · exact .inl ⟨hnone j, rfl⟩
  · intro L xs L' xs' b o o' h1 h2 h3 h4
    have key : ∀ p zs us, r.cells = some zs → sub zs p = some us → ∀ b o, pushL Λ σ.length w.heap.size (σ.length :: p) = some (b, o) → p = [] ∧ w.heap.size ≤ b := fun p zs us g1 g2 b o g3 => by
      rw [hr] at g1; cases g1
      rcases sub_plainN hpl g2 with ⟨rfl, rfl⟩ | ⟨j, rfl, rfl⟩
      · simp [pushL] at g3; exact ⟨rfl, by omega⟩
      · rw [hnone j] at g3; cases g3
    rcases rowAt_push h1 with ⟨g1, g2⟩ | ⟨p, zs, rfl, g1, g2⟩ <;> rcases rowAt_push h2 with ⟨g3, g4⟩ | ⟨p', zs', rfl, g3, g4⟩
    · rw [hold L g1] at h3
      rw [hold L' g3] at h4
      exact hs.apart L xs L' xs' b o o' g2 g4 h3 h4
    · rw [hold L g1] at h3
      have h5 := key _ _ _ g3 g4 _ _ h4
      have := hs.owns ⟨L, xs, o, g2, h3⟩
      omega
    · rw [hold L' g3] at h4
      have h5 := key _ _ _ g1 g2 _ _ h3
      have := hs.owns ⟨L', xs', o', g4, h4⟩
      omega
    · rw [(key _ _ _ g1 g2 _ _ h3).1, (key _ _ _ g3 g4 _ _ h4).1]
  · intro b hb; have := hs.old b hb; simp; omega
  · intro L hL
    simp only [pushL]
    rw [if_neg (by rintro rfl; simp at hL; omega)]
    exact hs.lab L (by simp at hL; simp; omega)
  · have hl' : l < σ.length := (List.getElem?_eq_some_iff.1 hx).1
    exact ⟨by simp only [pushL]; rw [if_neg]; simp; omega, xs, by rw [List.getElem?_append_left hl']; exact hx⟩
/-- Cells that nobody has written, as an element that owns takes them. -/
def nilToL : List A → List A → Prop
  | [], [] => True
  | x :: xs, y :: ys => nilR x y ∧ nilToL xs ys
  | _, _ => False
where nilR (x y : A) : Prop := y = x ∨ (x = .n ∧ ∃ k, 0 < k ∧ (y = .o k [] ∨ y = .i k []))
theorem nilToL_get : ∀ {xs ys : List A}, nilToL xs ys → ∀ (j : Nat) y, ys[j]? = some y → ∃ x, xs[j]? = some x ∧ nilToL.nilR x y
  | [], [], _, j, y, h => by simp at h
  | x :: xs, y0 :: ys, hh, 0, y, h => by simp at h; subst h; exact ⟨x, rfl, hh.1⟩
  | x :: xs, y0 :: ys, hh, j + 1, y, h => by simpa using nilToL_get hh.2 j y (by simpa using h)
theorem nilS {x : A} : nilToL.nilR x x := .inl rfl
theorem nilO {α : Type} {T : Ty α} : nilToL.nilR .n (.o T.k (flat T.own [])) := .inr ⟨rfl, T.k, T.pos, .inl rfl⟩
theorem cell_nil {F Λ w bx c x y} (h : nilToL.nilR x y) (hx : ∀ L, Cell F Λ w bx L c x) (hp : x.plain = true) : ∀ L, Cell F Λ w bx L c y := by
  rcases h with rfl | ⟨rfl, k, hk, rfl | rfl⟩
  · exact hx
  · intro L
    have h1 : OK F Λ w c .n := (hx []).2
    obtain ⟨ad, rfl⟩ := h1.n_inv
    exact ⟨trivial, hk, 0, by simp, .inl ⟨rfl, ad, rfl⟩⟩
  · intro L
    have h1 : OK F Λ w c .n := (hx []).2
    exact ⟨by cases bx <;> rfl, h1.le leN⟩
section
variable {P : Program} {n m : Nat} {N : Env → Store → Prop} {E : Env} {σ : Store} {o : Oper}
theorem TOp_newN (r : Root) (ys : List A) (hr : r.cells = some ys) (t : TypeId) (hpl : ∀ x ∈ ys, plainN x = true) (rv : A) (hd : dstOK n o.dst = true)
    (h : ∀ F Λ w tmps, St F Λ σ w → FrOK F Λ w tmps E → ∃ (ccs : List Value) (v : Value), (∀ (j : Nat) x, ys[j]? = some x → ∃ c, ccs[j]? = some c ∧ ∀ L, Cell F Λ w (isB r) L c x) ∧
      (execOp (Act.eval ⟨tmps, []⟩) o).run P w = .ok (.value v) (w.alloc (.cells ccs.toArray t)) ∧ OK F (pushL Λ σ.length w.heap.size) (w.alloc (.cells ccs.toArray t)) v rv)
    (hN : N (put E o.dst rv) (σ ++ [r])) : TOp P n m o N E σ := fun F Λ w tmps K Q hn hs hf hk => by
  obtain ⟨ccs, v, hc, hrun, hv⟩ := h F Λ w tmps hs hf
  unfold Oper.wp
  rw [hrun, Oper.upon_value]
  obtain ⟨hs', hst⟩ := hs.pushN (m := m) r ys hr ccs t hpl hc
  obtain ⟨tmps', e, hn', hf'⟩ := (hf.push hs (.cells ccs.toArray t)).putO (ds := []) hn hd hv
  rw [e]
  exact hk F _ _ _ tmps' _ hn' hs' hf' hst hN
theorem TOp_makeN {α : Type} {T : Ty α} {f : α → List A} (hf : ∀ x, (f x).length = T.k) {t e by_ : Nat} {kl kc : IntKind} {x y : Operand} {zs : List Value} {z : α} {nz : Int} {us : List α} (hzT : nilToL (zs.map constA) (f z)) (hpf : (f z).all plainN = true) (hT : SlT P t e T.k) (hz : ZeroT P e zs) (hb : (P.info? e).map (·.bytes) = some by_) (h : o.op = .makeSlice t x y) (hd : dstOK n o.dst = true)
    (hx : val E x = .v (.int kl nz)) (hy : val E y = .v (.int kc nz)) (hm : mk by_ nz z = some us)
    (hN : N (put E o.dst (.m [σ.length] 0 us.length T.k)) (σ ++ [.row (flat f us)])) : TOp P n m o N E σ := by
  obtain ⟨nn, rfl, rfl, hsz, hmx⟩ := mk_inv hm
  have hzk : zs.length = T.k := by
    have : ∀ {xs ys : List A}, nilToL xs ys → xs.length = ys.length := fun {xs} => by
      induction xs with
      | nil => intro ys h; cases ys with | nil => rfl | cons => exact h.elim
      | cons x xs ih => intro ys h; cases ys with | nil => exact h.elim | cons y ys => simp [ih h.2]
    have := this hzT
    rw [hf] at this; simpa using this
  obtain ⟨⟨inf, zz, h1, h2, h3⟩, h4⟩ := hz
  have hb' : inf.bytes = by_ := by simpa [h1] using hb
  have hsize : inf.size = T.k := by obtain ⟨i2, g1, g2⟩ := hT.i; rw [h1] at g1; cases g1; exact g2
  have hmm : nn ≤ maxLen := by simp only [maxLen]; omega
  have hzc : zz.cells.size = T.k := by rw [← hzk, ← h3]; simp
  have hget : ∀ (j : Nat) x, (flat f (List.replicate nn z))[j]? = some x → j < nn * T.k ∧ (f z)[j % T.k]? = some x := fun j x hj => by
    have hlt : j < nn * T.k := by have := (List.getElem?_eq_some_iff.1 hj).1; rw [flat_len hf] at this; simpa using this
    have hm' : j % T.k < T.k := Nat.mod_lt _ T.pos
    have hq : j / T.k < nn := Nat.div_lt_of_lt_mul (by rw [Nat.mul_comm]; exact hlt)
    have e : j = j / T.k * T.k + j % T.k := by rw [Nat.mul_comm]; exact (Nat.div_add_mod j T.k).symm
    have hv : (List.replicate nn z)[j / T.k]? = some z := by simp [hq]
    have hy : (f z)[j % T.k]? = some ((f z)[j % T.k]'(by rw [hf]; exact hm')) := List.getElem?_eq_getElem _
    have := flat_at' hf hv hy
    rw [← e, hj] at this
    exact ⟨hlt, by rw [hy]; exact this.symm⟩
  refine TOp_newN (.row _) _ rfl e (fun y hy => ?_) _ hd (fun F Λ w tmps hs hf' => ?_) (by simpa using hN)
  · obtain ⟨j, hj⟩ := List.getElem?_of_mem hy
    have := (hget j y hj).2
    simp only [List.all_eq_true] at hpf
    exact hpf y (List.mem_of_getElem? this)
  · have e1 := val_ok (ds := []) hf' x
    have e2 := val_ok (ds := []) hf' y
    rw [hx] at e1
    rw [hy] at e2
    have e1 := e1.v_inv
    have e2 := e2.v_inv
    have hbb : (inf.bytes : Int) * (nn : Int) ≤ 281474976710656 := by
      have h9 : ((inf.bytes * nn : Nat) : Int) ≤ 281474976710656 := by rw [hb']; omega
      rwa [Int.natCast_mul] at h9
    have hr := run_make (P := P) w t e inf zz hT.u h1 h2 kl kc nn nn (by omega) (Int.le_refl _) hbb (by omega)
    simp only [Int.toNat_natCast] at hr
    refine ⟨(madeCells zz.cells (nn * inf.size)).toList, .slice (some ⟨w.heap.size, 0, none⟩) nn nn, fun j x hjx => ?_, ?_, ?_⟩
    · obtain ⟨hjl, hz0⟩ := hget j x hjx
      have hk0 := T.pos
      have hlt : j % T.k < zs.length := by rw [hzk]; exact Nat.mod_lt _ hk0
      obtain ⟨x0, g1, g2⟩ := nilToL_get hzT _ _ hz0
      rw [List.getElem?_map, List.getElem?_eq_getElem hlt] at g1
      simp only [Option.map_some, Option.some.injEq] at g1
      subst g1
      refine ⟨zs[j % T.k]!, ?_, cell_nil g2 (fun L => ?_) (constA_plain _)⟩
      · subst h3
        have hlt2 : j % T.k < zz.cells.size := by simpa using hlt
        have h10 : zz.cells.toList[j % T.k]! = zz.cells[j % T.k]! := by rw [getElem!_pos zz.cells.toList _ hlt, getElem!_pos zz.cells _ hlt2]; simp
        rw [h10, madeCells, hsize, hzc, Array.toList_map, List.getElem?_map, Array.toList_range, List.getElem?_range hjl]
        rfl
      · rw [getElem!_pos zs _ hlt]
        exact constA_cell (h4 _ (List.getElem_mem hlt))
    · simp only [execOp, h, e1, e2, Sem.run_bind]
      rw [hr]; simp
    · refine new_slice ?_ hmm
      simp [size_madeCells, hsize]
end
theorem nilL_nil : nilToL [] [] := trivial
theorem nilL_cons {x y : A} {xs ys : List A} (h : nilToL.nilR x y) (h' : nilToL xs ys) : nilToL (x :: xs) (y :: ys) := ⟨h, h'⟩
theorem ownR_names {p : List Nat → Bool} {x : A} (h : ownR x = true) : x.names p = false := by
  cases x <;> first | rfl | simp [ownR] at h
theorem ownRL_names {p : List Nat → Bool} : ∀ {xs : List A}, ownRL xs = true → namesL p xs = false
  | [], _ => rfl
  | x :: xs, h => by
    simp only [ownRL, Bool.and_eq_true] at h
    simp only [namesL, ownR_names h.1, ownRL_names h.2, Bool.or_self]
theorem namesL_own {α : Type} {T : Ty α} {xs : List α} {p : List Nat → Bool} : namesL p (flat T.own xs) = false := ownRL_names (flat_ownR T xs)
theorem namesL_set {p : List Nat → Bool} : ∀ {xs : List A} (d : Nat) {y : A}, namesL p xs = false → y.names p = false → namesL p (xs.set d y) = false
  | [], d, y, _, _ => rfl
  | x :: xs, 0, y, h, hy => by
    simp only [namesL, Bool.or_eq_false_iff] at h
    simp only [List.set, namesL, hy, h.2, Bool.or_self]
  | x :: xs, d + 1, y, h, hy => by
    simp only [namesL, Bool.or_eq_false_iff] at h
    simp only [List.set, namesL, h.1, namesL_set d h.2 hy, Bool.or_self]
theorem namesL_spl {p : List Nat → Bool} : ∀ {ys xs : List A} {d : Nat}, namesL p xs = false → namesL p ys = false → namesL p (spl xs d ys) = false
  | [], xs, d, h, _ => h
  | y :: ys, xs, d, h, hy => by
    simp only [namesL, Bool.or_eq_false_iff] at hy
    show namesL p (spl (xs.set d y) (d + 1) ys) = false
    exact namesL_spl (namesL_set d h hy.1) hy.2
theorem nms_nil {p : List Nat → Bool} : nmS p [] = false := rfl
theorem nms_row {p : List Nat → Bool} {xs σ} (h : nmS p σ = false) : nmS p (.row xs :: σ) = false := h
theorem nms_box {p : List Nat → Bool} {xs σ} (h0 : namesL p xs = false) (h : nmS p σ = false) : nmS p (.box xs :: σ) = false := by simp only [nmS, h0, h, Bool.or_self]
theorem EnT.of {P : Program} {g : Nat} {fn : Func} {c : Code} (h : P.funcs[g]? = some fn) (hb : fn.body = some c) (hn : (fn.name == "runtime.NumGoroutine") = false) : EnT P g := fun args w => by
  have hn' : ¬ fn.name = "runtime.NumGoroutine" := by simpa using hn
  simp [callFunc, h, hb, hn']
end Go.Sep
/- Loops of the models, by what holds round after round. -/
set_option linter.unusedVariables false
set_option linter.unusedSimpArgs false
namespace Go.Sep
open Go
def CtlP {S R : Type} (I B : S → Prop) (Q : R → Prop) : Ctl S R → Prop
  | .next s => I s
  | .brk s => B s
  | .ret r => Q r
def SumP {S R : Type} (I : S → Prop) (Q : R → Prop) : S ⊕ R → Prop
  | .inl s => I s
  | .inr r => Q r
theorem forS_from {α S : Type} {f : Int → α → S → Option S} (I : Nat → S → Prop) {xs : List α} (h : ∀ (n : Nat) x s, xs[n]? = some x → I n s → ∃ s', f (n : Int) x s = some s' ∧ I (n + 1) s') : ∀ (k i : Nat) (s : S), i + k = xs.length → I i s → ∃ s', forS f (xs.drop i) (i : Int) s = some s' ∧ I xs.length s'
  | 0, i, s, hk, h0 => by
    rw [List.drop_eq_nil_of_le (by omega)]
    exact ⟨s, rfl, by rwa [← hk]⟩
  | k + 1, i, s, hk, h0 => by
    have hi : i < xs.length := by omega
    rw [List.drop_eq_getElem_cons hi]
    obtain ⟨s1, h1, h2⟩ := h i xs[i] s (List.getElem?_eq_getElem hi) h0
    obtain ⟨s2, h3, h4⟩ := forS_from I h k (i + 1) s1 (by omega) h2
    refine ⟨s2, ?_, h4⟩
    simp only [forS, h1, Option.bind_some]
    exact h3
theorem forS_ok {α S : Type} {f : Int → α → S → Option S} (I : Nat → S → Prop) {xs : List α} {s : S} (h0 : I 0 s) (h : ∀ (n : Nat) x s, xs[n]? = some x → I n s → ∃ s', f (n : Int) x s = some s' ∧ I (n + 1) s') : ∃ s', forS f xs 0 s = some s' ∧ I xs.length s' := by
  have := forS_from I h xs.length 0 s (by omega) h0
  simpa using this
theorem forL_from {α S R : Type} {f : Int → α → S → Option (Ctl S R)} (I : Nat → S → Prop) (B : S → Prop) (Q : R → Prop) {xs : List α} (h : ∀ (n : Nat) x s, xs[n]? = some x → I n s → ∃ c, f (n : Int) x s = some c ∧ CtlP (I (n + 1)) B Q c) : ∀ (k i : Nat) (s : S), i + k = xs.length → I i s → ∃ o, forL f (xs.drop i) (i : Int) s = some o ∧ SumP (fun s => I xs.length s ∨ B s) Q o
  | 0, i, s, hk, h0 => by
    rw [List.drop_eq_nil_of_le (by omega)]
    exact ⟨.inl s, rfl, .inl (by rwa [← hk])⟩
  | k + 1, i, s, hk, h0 => by
    have hi : i < xs.length := by omega
    rw [List.drop_eq_getElem_cons hi]
    obtain ⟨c, h1, h2⟩ := h i xs[i] s (List.getElem?_eq_getElem hi) h0
    simp only [forL, h1, Option.bind_some]
    cases c with
    | next s1 => exact forL_from I B Q h k (i + 1) s1 (by omega) h2
    | brk s1 => exact ⟨_, rfl, .inr h2⟩
    | ret r => exact ⟨_, rfl, h2⟩
theorem forL_ok {α S R : Type} {f : Int → α → S → Option (Ctl S R)} (I : Nat → S → Prop) (B : S → Prop) (Q : R → Prop) {xs : List α} {s : S} (h0 : I 0 s) (h : ∀ (n : Nat) x s, xs[n]? = some x → I n s → ∃ c, f (n : Int) x s = some c ∧ CtlP (I (n + 1)) B Q c) : ∃ o, forL f xs 0 s = some o ∧ SumP (fun s => I xs.length s ∨ B s) Q o := by
  have := forL_from I B Q h xs.length 0 s (by omega) h0
  simpa using this
/-- A loop of which no more than so many rounds are left (μ), with fuel enough. -/
theorem while_ok {S R : Type} {f : S → Option (Ctl S R)} (I : S → Prop) (μ : S → Nat) (B : S → Prop) (Q : R → Prop) (h : ∀ s, I s → ∃ c, f s = some c ∧ CtlP (fun s' => I s' ∧ μ s' < μ s) B Q c) : ∀ (u : Nat) (s : S), μ s < u → I s → ∃ o, whileF f u s = some o ∧ SumP B Q o
  | 0, s, hu, _ => by omega
  | u + 1, s, hu, hI => by
    obtain ⟨c, h1, h2⟩ := h s hI
    simp only [whileF, h1, Option.bind_some]
    cases c with
    | next s1 => exact while_ok I μ B Q h u s1 (by have := h2.2; omega) h2.1
    | brk s1 => exact ⟨_, rfl, h2⟩
    | ret r => exact ⟨_, rfl, h2⟩
/-! ### loops that look -/
/-- A loop that hands back r at the first element where p does not hold. -/
theorem forL_all {α R : Type} {f : Int → α → Unit → Option (Ctl Unit R)} {xs : List α} {r : R} (p : Nat → α → Bool) (h : ∀ (n : Nat) x, xs[n]? = some x → f (n : Int) x () = some (if p n x then .next () else .ret r)) :
    ∃ o, forL f xs 0 () = some o ∧ ((o = .inl () ∧ ∀ (n : Nat) x, xs[n]? = some x → p n x = true) ∨ (o = .inr r ∧ ∃ (n : Nat) (x : α), xs[n]? = some x ∧ p n x = false)) := by
  obtain ⟨o, h1, h2⟩ := forL_ok (f := f) (xs := xs) (s := ()) (fun n _ => ∀ (j : Nat) x, j < n → xs[j]? = some x → p j x = true) (fun _ => False) (fun r' => r' = r ∧ ∃ (n : Nat) (x : α), xs[n]? = some x ∧ p n x = false) (fun j x hj => by omega) fun n x s hx hI => by
    refine ⟨_, h n x hx, ?_⟩
    cases hp : p n x with
    | true =>
      simp only [if_true, CtlP]
      intro j y hj hy
      by_cases e : j = n
      · subst e; rw [hx] at hy; cases hy; exact hp
      · exact hI j y (by omega) hy
    | false => exact ⟨rfl, n, x, hx, hp⟩
  refine ⟨o, h1, ?_⟩
  cases o with
  | inl s => exact .inl ⟨rfl, fun n x hx => (h2.resolve_right id) n x (List.getElem?_eq_some_iff.1 hx).1 hx⟩
  | inr r' => exact .inr ⟨by rw [h2.1], h2.2⟩
theorem cond_T' {α : Type} {b : Bool} {x y : α} (h : b = true) : cond b x y = x := by subst h; rfl
theorem cond_F' {α : Type} {b : Bool} {x y : α} (h : b = false) : cond b x y = y := by subst h; rfl
/-- A loop that fills a list of as many cells. -/
theorem forS_fill {α β : Type} {f : Int → α → List β → Option (List β)} {xs : List α} {ys : List β} (g : α → β) (hl : ys.length = xs.length) (h : ∀ (n : Nat) x (zs : List β), xs[n]? = some x → zs.length = xs.length → f (n : Int) x zs = some (zs.set n (g x))) :
    forS f xs 0 ys = some (xs.map g) := by
  obtain ⟨s, h1, h2⟩ := forS_ok (f := f) (xs := xs) (s := ys) (fun n s => s = (xs.take n).map g ++ ys.drop n) (by simp) fun n x s hx hI => by
    have hn : n < xs.length := (List.getElem?_eq_some_iff.1 hx).1
    refine ⟨_, h n x s hx (by subst hI; simp; omega), ?_⟩
    subst hI
    rw [List.take_add_one, hx]
    simp only [Option.toList_some, List.map_append, List.map_cons, List.map_nil]
    rw [List.set_append_right _ _ (by simp; omega)]
    have : n - ((xs.take n).map g).length = 0 := by simp; omega
    have e : ys.drop n = ys[n] :: ys.drop (n + 1) := List.drop_eq_getElem_cons (by omega)
    rw [this, e, List.set_cons_zero, List.append_assoc]; rfl
  rw [h1, h2, List.take_length, List.drop_eq_nil_of_le (by omega)]; simp
/-- A loop of integers that counts down what is left. -/
theorem w64_id {x : Int} (h : -9223372036854775808 ≤ x ∧ x ≤ 9223372036854775807) : w64 x = x := w64_eq h.1 h.2
/-! ### the laws' helpers: sizes, copies, comparisons -/
theorem sz_loop {α : Type} {g : α → Int → Option Int} (Bd : α → Prop) {a : List α} (hg : ∀ x ∈ a, ∀ left : Int, 0 ≤ left → left ≤ 1048576 → ∃ r, g x left = some r ∧ (r = -1 ∨ (0 ≤ r ∧ r ≤ left ∧ Bd x))) {left : Int} (h0 : 0 ≤ left) (h1 : left ≤ 1048576) (hl : a.length ≤ 9223372036854775807) :
    ∃ r, cond (decide ((w64 (left - (a.length : Int))) < 0)) (some (-1)) ((forL (R := Int) (fun (i_2 : Int) (x : α) (left1 : Int) => (g x left1).bind fun r_4 => cond (decide (r_4 < 0)) (some (.ret (-1))) (some (.next r_4))) a 0 (w64 (left - (a.length : Int)))).bind fun O3_ => onS O3_ (fun (left1 : Int) => some left1) (fun r => some r)) = some r ∧ (r = -1 ∨ (0 ≤ r ∧ r + a.length ≤ left ∧ ∀ x ∈ a, Bd x)) := by
  rw [w64_id (by omega)]
  by_cases h : left < a.length
  · rw [cond_T' (by simp; omega)]; exact ⟨-1, rfl, .inl rfl⟩
  · rw [cond_F' (by simp; omega)]
    obtain ⟨o, h2, h3⟩ := forL_ok (xs := a) (s := left - a.length) (f := fun (i_2 : Int) (x : α) (left1 : Int) => (g x left1).bind fun r_4 => cond (decide (r_4 < 0)) (some (.ret (-1))) (some (.next r_4)))
      (fun n s => 0 ≤ s ∧ s + a.length ≤ left ∧ ∀ (j : Nat) x, j < n → a[j]? = some x → Bd x) (fun _ => False) (fun r => r = -1) ⟨by omega, by omega, fun j x hj => by omega⟩ fun n x s hx ⟨hI0, hI, hB⟩ => by
        obtain ⟨r, h4, h5⟩ := hg x (List.mem_of_getElem? hx) s hI0 (by omega)
        rw [h4, Option.bind_some]
        rcases h5 with rfl | ⟨h5, h6, h7⟩
        · rw [cond_T' (by simp)]; exact ⟨_, rfl, rfl⟩
        · rw [cond_F' (by simp; omega)]
          refine ⟨_, rfl, h5, by omega, fun j y hj hy => ?_⟩
          by_cases e : j = n
          · subst e; rw [hx] at hy; cases hy; exact h7
          · exact hB j y (by omega) hy
    rw [h2, Option.bind_some]
    cases o with
    | inl s =>
      obtain ⟨h4, h5, h6⟩ := h3.resolve_right id
      exact ⟨s, rfl, .inr ⟨h4, h5, fun x hx => by obtain ⟨j, hj⟩ := List.getElem?_of_mem hx; exact h6 j x (List.getElem?_eq_some_iff.1 hj).1 hj⟩⟩
    | inr r => exact ⟨r, rfl, .inl h3⟩
theorem to_loop {α β : Type} {b : Nat} {z : β} {g : α → Option β} (f : α → β) {a : List α} (hg : ∀ x ∈ a, g x = some (f x)) (hl : a.length ≤ 1048576) (hb : b ≤ 1048576) :
    ((mk b (a.length : Int) z).bind fun us_1 => (forS (fun (i_3 : Int) (x : α) (out3 : (List β)) => (g x).bind fun r_5 => (getI out3 (i_3 : Int)).bind fun v_7 => some (out3.set ((i_3 : Int)).toNat r_5)) a 0 us_1).bind fun (out3 : (List β)) => some out3) = some (a.map f) := by
  have : b * a.length ≤ 1048576 * 1048576 := Nat.mul_le_mul hb hl
  rw [mk_ok (by omega) (by omega), Option.bind_some, forS_fill f (by simp) fun n x zs hx hz => ?_]
  · rfl
  · have hn : n < zs.length := by have := (List.getElem?_eq_some_iff.1 hx).1; omega
    rw [hg x (List.mem_of_getElem? hx), Option.bind_some, getI_lt hn]; simp
theorem eq_loop {α : Type} {g : α → α → Option Bool} {a : List α} (hg : ∀ x ∈ a, g x x = some true) :
    cond (decide ((a.length : Int) ≠ (a.length : Int))) (some false) ((forL (R := Bool) (fun (i_2 : Int) (x : α) (_ : Unit) => (getI a (i_2 : Int)).bind fun v_4 => (g x v_4).bind fun r_9 => cond (!r_9) (some (.ret false)) (some (.next ()))) a 0 ()).bind fun O3_ => onS O3_ (fun (_ : Unit) => some true) (fun r => some r)) = some true := by
  rw [cond_F' (by simp)]
  obtain ⟨o, h1, h2⟩ := forL_ok (xs := a) (s := ()) (f := fun (i_2 : Int) (x : α) (_ : Unit) => (getI a (i_2 : Int)).bind fun v_4 => (g x v_4).bind fun r_9 => cond (!r_9) (some (.ret false)) (some (.next ())))
    (fun _ _ => True) (fun _ => False) (fun (_ : Bool) => False) trivial fun n x s hx _ => by
      rw [getI_nat, hx, Option.bind_some, hg x (List.mem_of_getElem? hx), Option.bind_some]
      exact ⟨_, rfl, trivial⟩
  rw [h1, Option.bind_some]
  cases o with
  | inl s => rfl
  | inr r => exact h2.elim
/-- Two lists of integers, compared. -/
def cmpL : List Int → List Int → Int
  | [], [] => 0
  | [], _ :: _ => -1
  | _ :: _, [] => 1
  | x :: xs, y :: ys => if x < y then -1 else if y < x then 1 else cmpL xs ys
end Go.Sep
/- Strings and conversions. -/
set_option linter.unusedVariables false
set_option linter.unusedSimpArgs false
namespace Go.Sep
open Go
/-- s[i], of a string. -/
def getB (s : ByteArray) (i : Int) : Option Int := if 0 ≤ i then (s[i.toNat]?).map (fun b => (b.toNat : Int)) else none
def ltS (x y : ByteArray) : Bool := Op.bytesLess x.toList y.toList
section
variable {P : Program} {E : Env} {σ : Store} {o : Oper}
end
end Go.Sep
/- A row under a cell, taken out of it: it is a row of its own then. -/
set_option linter.unusedVariables false
set_option linter.unusedSimpArgs false
namespace Go.Sep
open Go
section
variable {F : Nat → Prop} {Λ : Lbl} {σ : Store} {w : World} {s j k : Nat} {xs ys : List A}
end
section
variable {P : Program} {n m : Nat} {N : Env → Store → Prop} {E : Env} {σ : Store} {ops : Array Oper} {os : List Oper} {o : Oper}
end
end Go.Sep
/- Regions that draw their order, with operations that wait for a test. -/
set_option linter.unusedVariables false
set_option linter.unusedSimpArgs false
namespace Go.Sep
open Go
section
variable {P : Program} {n m : Nat} {K : Exit → Env → Store → Prop} {N : Env → Store → Prop} {E : Env} {σ : Store} {ops : Array Oper} {fuel : Nat} {listed : Array Bool}
/-- What an operation that is ready needs: it waits for nothing, or for a test that is as wanted. -/
def GoOK (n : Nat) (ops : Array Oper) (E : Env) (o : Oper) : Prop := o.guard = none ∨ ∃ j d want, o.guard = some (j, want) ∧ (ops[j]?).bind (·.dst) = some d ∧ d < n ∧ lk E d = .v (.bool want)
def AllG (P : Program) (n m : Nat) (ops : Array Oper) (fuel : Nat) (listed : Array Bool) (N : Env → Store → Prop) (E : Env) (σ : Store) : List Nat → Prop
  | [] => True
  | i :: rs => (∃ o, ops[i]? = some o ∧ GoOK n ops E o ∧ TOp P n m o (TA P n m ops fuel (listed.setIfInBounds i true) N) E σ) ∧ AllG P n m ops fuel listed N E σ rs
theorem AllG.get : ∀ {rs : List Nat}, AllG P n m ops fuel listed N E σ rs → ∀ i ∈ rs, ∃ o, ops[i]? = some o ∧ GoOK n ops E o ∧ TOp P n m o (TA P n m ops fuel (listed.setIfInBounds i true) N) E σ
  | [], _, i, h => by cases h
  | j :: rs, h, i, hi => by
    rcases List.mem_cons.1 hi with rfl | hi
    · exact h.1
    · exact AllG.get h.2 i hi
end
end Go.Sep
/- Models that end well: rules, step by step. -/
set_option linter.unusedVariables false
set_option linter.unusedSimpArgs false
namespace Go.Sep
open Go
/-- The model ends, with what P says of its result. -/
def Ok {α : Type} (e : Option α) (P : α → Prop) : Prop := ∃ r, e = some r ∧ P r
theorem Ok.ret {α : Type} {a : α} {P : α → Prop} (h : P a) : Ok (some a) P := ⟨a, rfl, h⟩
theorem Ok.mono {α : Type} {e : Option α} {P Q : α → Prop} (h : Ok e P) (k : ∀ a, P a → Q a) : Ok e Q := by
  obtain ⟨r, h1, h2⟩ := h; exact ⟨r, h1, k r h2⟩
theorem Ok.bind {α β : Type} {e : Option α} {f : α → Option β} {P : α → Prop} {Q : β → Prop} (h : Ok e P) (k : ∀ a, P a → Ok (f a) Q) : Ok (e.bind f) Q := by
  obtain ⟨r, h1, h2⟩ := h; rw [h1]; exact k r h2
theorem Ok.eq {α β : Type} {e : Option α} {f : α → Option β} {a : α} {Q : β → Prop} (h : e = some a) (k : Ok (f a) Q) : Ok (e.bind f) Q := by
  rw [h]; exact k
theorem Ok.of {α : Type} {e : Option α} {a : α} (h : e = some a) : Ok e fun r => r = a := ⟨a, h, rfl⟩
theorem Ok.to {α : Type} {e : Option α} {a : α} (h : Ok e fun r => r = a) : e = some a := by obtain ⟨r, h1, rfl⟩ := h; exact h1
theorem Ok.cond {α : Type} {b : Bool} {x y : Option α} {P : α → Prop} (ht : b = true → Ok x P) (hf : b = false → Ok y P) : Ok (_root_.cond b x y) P := by
  cases b with
  | true => exact ht rfl
  | false => exact hf rfl
theorem Ok.get {α β : Type} {xs : List α} {i : Int} {f : α → Option β} {Q : β → Prop} {n : Nat} (hi : i = (n : Int)) (hn : n < xs.length) (k : Ok (f xs[n]) Q) : Ok ((Go.Sep.getI xs i).bind f) Q := by
  subst hi; exact .eq (getI_lt hn) k
theorem Ok.mk {α β : Type} {b n : Nat} {z : α} {f : List α → Option β} {Q : β → Prop} (h1 : b * n ≤ 281474976710656) (h2 : n ≤ 1099511627776) (k : Ok (f (List.replicate n z)) Q) : Ok ((Go.Sep.mk b (n : Int) z).bind f) Q := .eq (mk_ok h1 h2) k
/-! ### loops -/
theorem Ok.forL {α S R β : Type} {f : Int → α → S → Option (Ctl S R)} {xs : List α} {s : S} {K : S → Option β} {L : R → Option β} {Q : β → Prop} (I : Nat → S → Prop) (B : S → Prop) (T : R → Prop) (h0 : I 0 s) (h : ∀ (n : Nat) x s, xs[n]? = some x → I n s → Ok (f (n : Int) x s) (CtlP (I (n + 1)) B T)) (k1 : ∀ s, I xs.length s ∨ B s → Ok (K s) Q) (k2 : ∀ r, T r → Ok (L r) Q) : Ok ((Go.Sep.forL f xs 0 s).bind fun o => onS o K L) Q := by
  obtain ⟨o, h1, h2⟩ := forL_ok (f := f) I B T h0 h
  rw [h1]
  cases o with
  | inl s => exact k1 s h2
  | inr r => exact k2 r h2
theorem Ok.while {S R β : Type} {f : S → Option (Ctl S R)} {u : Nat} {s : S} {K : S → Option β} {L : R → Option β} {Q : β → Prop} (I : S → Prop) (μ : S → Nat) (B : S → Prop) (T : R → Prop) (hu : μ s < u) (h0 : I s) (h : ∀ s, I s → Ok (f s) (CtlP (fun s' => I s' ∧ μ s' < μ s) B T)) (k1 : ∀ s, B s → Ok (K s) Q) (k2 : ∀ r, T r → Ok (L r) Q) : Ok ((whileF f u s).bind fun o => onS o K L) Q := by
  obtain ⟨o, h1, h2⟩ := while_ok (f := f) I μ B T h u s hu h0
  rw [h1]
  cases o with
  | inl s => exact k1 s h2
  | inr r => exact k2 r h2
theorem Ok.next {S R : Type} {s : S} {I B : S → Prop} {T : R → Prop} (h : I s) : Ok (some (Ctl.next s)) (CtlP I B T) := ⟨_, rfl, h⟩
theorem Ok.brk {S R : Type} {s : S} {I B : S → Prop} {T : R → Prop} (h : B s) : Ok (some (Ctl.brk s)) (CtlP I B T) := ⟨_, rfl, h⟩
theorem Ok.out {S R : Type} {r : R} {I B : S → Prop} {T : R → Prop} (h : T r) : Ok (some (Ctl.ret r : Ctl S R)) (CtlP I B T) := ⟨_, rfl, h⟩
/-- Parts of a list, cut out of it. -/
theorem cutI_okN {α : Type} {xs : List α} {i j : Nat} (h1 : i ≤ j) (h2 : j ≤ xs.length) : cutI xs (i : Int) (j : Int) = some ((xs.take j).drop i) := by
  unfold cutI; rw [if_pos (by omega)]; simp
theorem Ok.cut {α β : Type} {xs : List α} {a b : Int} {f : List α → Option β} {Q : β → Prop} {i j : Nat} (ha : a = (i : Int)) (hb : b = (j : Int)) (h1 : i ≤ j) (h2 : j ≤ xs.length) (k : Ok (f ((xs.take j).drop i)) Q) : Ok ((cutI xs a b).bind f) Q := by
  subst ha hb; exact .eq (cutI_okN h1 h2) k
end Go.Sep
/- Calls that are handed some of the caller's roots (boxes and rows), to write into and to replace; what they hand back. -/
set_option linter.unusedVariables false
set_option linter.unusedSimpArgs false
namespace Go.Sep
open Go
def renR (f : Nat → Nat) : Root → Root
  | .box xs => .box (renL f xs)
  | .row xs => .row xs
  | .dead => .dead
theorem sub_renL (f : Nat → Nat) (xs : List A) (j : Nat) (p : List Nat) : sub (renL f xs) (j :: p) = sub xs (j :: p) := by
  simp only [sub, renL_get]
  cases hj : xs[j]? with
  | none => rfl
  | some x => cases x <;> simp [A.ren]
theorem rowAt_ren {σ : Store} {f : Nat → Nat} {h : Nat} {p : List Nat} {zs : List A} (hz : rowAt (σ.map (renR f)) (h :: p) = some zs) : ∃ zs0, rowAt σ (h :: p) = some zs0 ∧ zs = (if isBox σ (h :: p) = true then renL f zs0 else zs0) := by
  simp only [rowAt, List.getElem?_map] at hz ⊢
  cases hσ : σ[h]? with
  | none => rw [hσ] at hz; cases hz
  | some r =>
    rw [hσ] at hz
    cases r with
    | dead => cases hz
    | row xs =>
      refine ⟨zs, hz, ?_⟩
      cases p <;> simp [isBox, hσ]
    | box xs =>
      simp only [Option.map_some, renR, Root.cells] at hz
      cases p with
      | nil => simp only [sub, Option.some.injEq] at hz; subst hz; exact ⟨xs, rfl, by simp [isBox, hσ]⟩
      | cons j p => rw [sub_renL] at hz; exact ⟨zs, hz, by simp [isBox]⟩
theorem isBox_ren {σ : Store} {f : Nat → Nat} (L : List Nat) : isBox (σ.map (renR f)) L = isBox σ L := by
  cases L with
  | nil => rfl
  | cons h p =>
    cases p with
    | cons j p => rfl
    | nil =>
      simp only [isBox, List.getElem?_map]
      cases σ[h]? with
      | none => rfl
      | some r => cases r <;> rfl
theorem Cell.renB {F : Nat → Prop} {Λ Λ' : Lbl} {w : World} {L L' : List Nat} {c : Value} {x : A} (p : List Nat → Bool) (f : Nat → Nat) (h : ∀ L b o, p L = false → Λ L = some (b, o) → Λ' (rh f L) = some (b, o)) (hS : ∀ a n k v, Sl Λ w L a n k v → Sl Λ' w L' a n k v) (hn : x.names p = false) (hc : Cell F Λ w true L c x) : Cell F Λ' w true L' c (x.ren f) := by
  rcases hc.box with rfl | ⟨k, ys, rfl⟩ | ⟨h1, h2⟩
  · simp only [A.ren]; trivial
  · simp only [A.ren]; exact ⟨hc.1, hc.2.1, hc.2.2.elim fun n hn => ⟨n, hn.1, hS _ _ _ _ hn.2⟩⟩
  · have h3 := h2.ren p f h hn
    cases x with
    | j => simp [A.inBox] at h1
    | o k ys => simp [A.inBox] at h1
    | g xs => simp [A.inBox] at h1
    | t xs => simp [A.inBox] at h1
    | _ => simp only [A.ren] at h3 ⊢; exact ⟨by first | rfl | exact h1, h3⟩
/-! ### down -/
def pickR (σ : Store) (ls : List Nat) : Store := ls.map fun l => (σ[l]?).getD .dead
def subS (σ : Store) (ls : List Nat) : Store := (pickR σ ls).map (renR (ixOf ls))
theorem rowAt_pickR {σ : Store} {ls : List Nat} {h : Nat} {p zs} (hz : rowAt (pickR σ ls) (h :: p) = some zs) : ∃ l, ls[h]? = some l ∧ rowAt σ (l :: p) = some zs ∧ (pickR σ ls)[h]? = σ[l]? := by
  simp only [rowAt, pickR, List.getElem?_map] at hz ⊢
  cases hl : ls[h]? with
  | none => rw [hl] at hz; cases hz
  | some l =>
    rw [hl] at hz
    simp only [Option.map_some] at hz ⊢
    cases hs : σ[l]? with
    | none => rw [hs] at hz; cases hz
    | some r => rw [hs] at hz; exact ⟨l, rfl, by rw [hs]; exact hz, by rw [hs]; rfl⟩
theorem isBox_eq {σ σ' : Store} {h l : Nat} (e : σ'[h]? = σ[l]?) (p : List Nat) : isBox σ' (h :: p) = isBox σ (l :: p) := by
  cases p with
  | cons j p => rfl
  | nil => simp only [isBox, e]
theorem pickL_ix {Λ : Lbl} {ls : List Nat} (hnd : ls.Nodup) {L : List Nat} {b o : Nat} (hp : (!inL ls L) = false) (hL : Λ L = some (b, o)) : pickL Λ ls (rh (ixOf ls) L) = some (b, o) := by
  cases L with
  | nil => simp [inL] at hp
  | cons h p =>
    simp only [inL, Bool.not_eq_false'] at hp
    simp only [rh, pickL, ixOf_get hnd hp]; exact hL
theorem St.sub {F Λ σ w} (hs : St F Λ σ w) {ls : List Nat} (hnd : ls.Nodup) (hb : ∀ l ∈ ls, ∀ xs, σ[l]? = some (.box xs) → namesL (fun L => !inL ls L) xs = false) : St F (pickL Λ ls) (subS σ ls) w where
  row L zs hz := by
    cases L with
    | nil => simp [rowAt] at hz
    | cons h p =>
      obtain ⟨zs0, h1, rfl⟩ := rowAt_ren hz
      obtain ⟨l, h2, h3, h4⟩ := rowAt_pickR h1
      have e : pickL Λ ls (h :: p) = Λ (l :: p) := by simp [pickL, h2]
      have eb : isBox (subS σ ls) (h :: p) = isBox σ (l :: p) := by rw [subS, isBox_ren, isBox_eq h4]
      rw [e, eb, isBox_eq h4]
      rcases hs.row _ _ h3 with ⟨g1, rfl⟩ | ⟨b, o, cs, t, g1, g2, g3, g4⟩
      · refine .inl ⟨g1, ?_⟩
        split <;> rfl
      · refine .inr ⟨b, o, cs, t, g1, g2, g3, fun j x hj => ?_⟩
        have hSl : ∀ j, ∀ a n k v, Sl Λ w ((l :: p) ++ [j]) a n k v → Sl (pickL Λ ls) w ((h :: p) ++ [j]) a n k v := fun j a n k v hv => hv.imp id fun ⟨b, o, cap, k1, k2⟩ => ⟨b, o, cap, by simpa [pickL, h2] using k1, k2⟩
        by_cases hbx : isBox σ (l :: p) = true
        · rw [if_pos hbx, renL_get] at hj
          cases hx : zs0[j]? with
          | none => rw [hx] at hj; cases hj
          | some x0 =>
            rw [hx] at hj
            simp only [Option.map_some, Option.some.injEq] at hj
            subst hj
            obtain ⟨c, g5, g6⟩ := g4 j x0 hx
            refine ⟨c, g5, ?_⟩
            rw [hbx] at g6 ⊢
            have hpn : p = [] := by cases p with | nil => rfl | cons j p => simp [isBox] at hbx
            subst hpn
            have hbs : σ[l]? = some (.box zs0) := by
              simp only [isBox] at hbx
              split at hbx
              · rename_i us hu; simp only [rowAt, hu, Root.cells, Sep.sub, Option.some.injEq] at h3; rw [hu, h3]
              · cases hbx
            exact g6.renB (fun L => !inL ls L) _ (fun L b o hp hL => pickL_ix hnd hp hL) (hSl j) (namesL_false (hb l (List.mem_of_getElem? h2) _ hbs) _ (List.mem_of_getElem? hx))
        · rw [if_neg hbx] at hj
          have hbx' : isBox σ (l :: p) = false := by simpa using hbx
          obtain ⟨c, g5, g6⟩ := g4 j x hj
          refine ⟨c, g5, ?_⟩
          rw [hbx'] at g6 ⊢
          exact g6.unbox (hSl j)
  apart L zs L' zs' b o o' hr hr' h3 h4 := by
    cases L with
    | nil => simp [rowAt] at hr
    | cons h0 p =>
      cases L' with
      | nil => simp [rowAt] at hr'
      | cons h0' p' =>
        obtain ⟨z1, k1, _⟩ := rowAt_ren hr
        obtain ⟨z2, k2, _⟩ := rowAt_ren hr'
        obtain ⟨l, g1, g2, _⟩ := rowAt_pickR k1
        obtain ⟨l', g1', g2', _⟩ := rowAt_pickR k2
        have := hs.apart _ _ _ _ _ _ _ g2 g2' (by simpa [pickL, g1] using h3) (by simpa [pickL, g1'] using h4)
        simp only [List.cons.injEq] at this
        obtain ⟨rfl, rfl⟩ := this
        have e1 := List.getElem?_eq_some_iff.1 g1
        have e2 := List.getElem?_eq_some_iff.1 g1'
        have : h0 = h0' := by
          rcases Nat.lt_trichotomy h0 h0' with g | g | g
          · exact absurd (e1.2.trans e2.2.symm) (List.pairwise_iff_getElem.1 hnd h0 h0' e1.1 e2.1 g)
          · exact g
          · exact absurd (e2.2.trans e1.2.symm) (List.pairwise_iff_getElem.1 hnd h0' h0 e2.1 e1.1 g)
        rw [this]
  old := hs.old
  lab L hL := by
    cases L with
    | nil => rfl
    | cons h0 p =>
      simp only [List.headD_cons, subS, pickR, List.length_map] at hL
      simp [pickL, List.getElem?_eq_none hL]
theorem Own.sub {Λ : Lbl} {σ : Store} {ls : List Nat} {b : Nat} (h : Own (pickL Λ ls) (subS σ ls) b) : ∃ l p zs o, l ∈ ls ∧ rowAt σ (l :: p) = some zs ∧ Λ (l :: p) = some (b, o) := by
  obtain ⟨L, zs, o, h1, h2⟩ := h
  cases L with
  | nil => simp [rowAt] at h1
  | cons h0 p =>
    obtain ⟨z, k1, _⟩ := rowAt_ren h1
    obtain ⟨l, g1, g2, _⟩ := rowAt_pickR k1
    exact ⟨l, p, z, o, List.mem_of_getElem? g1, g2, by simpa [pickL, g1] using h2⟩
/-! ### up -/
section
variable {F F1 : Nat → Prop} {Λ Λ1 : Lbl} {σ σ1 : Store} {w w1 : World} {ls : List Nat}
end
section
variable {P : Program} {n m : Nat} {N : Env → Store → Prop} {E : Env} {σ : Store} {o : Oper}
end
/-! ### the callee's side -/
end Go.Sep
/- Functions that are handed boxes; bits; pointers that are looked at. -/
set_option linter.unusedVariables false
set_option linter.unusedSimpArgs false
namespace Go.Sep
open Go
/-! ### one root frozen, that boxes name -/
def FzRt (l : Nat) (xs : List A) : Root → Root → Prop
  | .box as, .box bs => FzLs l xs as bs
  | .row as, .row bs => as = bs
  | .dead, .dead => True
  | _, _ => False
def FzS (l : Nat) (xs : List A) : Store → Store → Prop
  | [], [] => True
  | r :: σ, r' :: σ' => FzRt l xs r r' ∧ FzS l xs σ σ'
  | _, _ => False
theorem FzS.get {l : Nat} {xs : List A} : ∀ {σ σ' : Store}, FzS l xs σ σ' → σ'.length = σ.length ∧ ∀ (j : Nat) r', σ'[j]? = some r' → ∃ r, σ[j]? = some r ∧ FzRt l xs r r'
  | [], [], _ => ⟨rfl, by simp⟩
  | [], _ :: _, h => h.elim
  | _ :: _, [], h => h.elim
  | r :: σ, r1 :: σ', ⟨h, hs⟩ => by
    obtain ⟨h1, h2⟩ := FzS.get hs
    refine ⟨by simp [h1], fun j r' hj => ?_⟩
    cases j with
    | zero => simp at hj; subst hj; exact ⟨r, rfl, h⟩
    | succ j => simpa using h2 j r' (by simpa using hj)
section
variable {F : Nat → Prop} {Λ : Lbl} {σ σ' : Store} {w : World} {l : Nat} {xs : List A}
end
section
variable {P : Program} {n m : Nat} {K : Exit → Env → Store → Prop} {N : Env → Store → Prop} {E : Env} {σ σ' : Store} {ops : Array Oper} {os : List Oper} {fuel : Nat} {listed : Array Bool}
end
/-! ### bits -/
section
variable {P : Program} {o : Oper} {E : Env} {σ : Store}
end
/-! ### less is known of a box: nil as an empty slice -/
theorem Cell.le {F : Nat → Prop} {Λ : Lbl} {w : World} {L : List Nat} {c : Value} {x y : A} (h : LeA x y) (hc : Cell F Λ w true L c x) : Cell F Λ w true L c y := by
  rcases hc.box with rfl | ⟨k, ys, rfl⟩ | ⟨h1, h2⟩
  · cases h; exact hc
  · cases h; exact hc
  · have h3 := h2.le h
    cases x with
    | n => rcases h with rfl | ⟨k, rfl⟩ | ⟨L, a, k, rfl⟩ <;> exact ⟨rfl, h3⟩
    | j => simp [A.inBox] at h1
    | o k ys => simp [A.inBox] at h1
    | g xs => simp [A.inBox] at h1
    | t xs => simp [A.inBox] at h1
    | _ => cases h; exact hc
section
variable {P : Program} {n m : Nat} {K : Exit → Env → Store → Prop} {N : Env → Store → Prop} {E : Env} {σ : Store} {ops : Array Oper} {os : List Oper}
end
/-! ### structs of plain fields, compared -/
/-- Pairs of plain values. -/
inductive Sc2 where
  | s (a b : ByteArray)
  | i (a b : Int)
def Sc2.x : Sc2 → A
  | .s a _ => strA a
  | .i a _ => intA a
def Sc2.y : Sc2 → A
  | .s _ b => strA b
  | .i _ b => intA b
def Sc2.vx : Sc2 → Value
  | .s a _ => .string a
  | .i a _ => .int .i64 a
def Sc2.vy : Sc2 → Value
  | .s _ b => .string b
  | .i _ b => .int .i64 b
def Sc2.eq : Sc2 → Bool
  | .s a b => decide (a = b)
  | .i a b => decide (a = b)
def Sc2.str : Sc2 → Bool
  | .s _ _ => true
  | .i _ _ => false
def cmpSc : List Sc2 → Bool
  | [] => true
  | p :: ps => p.eq && cmpSc ps
structure EqS (P : Program) (t : Nat) (ks : List Bool) : Prop where
  g : P.eqGuardType P.depth t = false
  e : ∀ (ps : List Sc2) w, ps.map Sc2.str = ks → Sem.run P (Op.equalIn 10000 t (.agg (ps.map Sc2.vx).toArray) (.agg (ps.map Sc2.vy).toArray)) w = .ok (cmpSc ps) w
theorem EqS.of {P : Program} {t : Nat} {ks : List Bool} {ts : List Nat} (g : P.eqGuardType P.depth t = false) (hS : P.underlying t = some (.struct (P.fieldsOf t))) (hp : P.stoodInHeld t = false)
    (hf : ((P.fieldsOf t).toList.map fun f => (decide (f.name = "_"), f.offset, f.type)) = (List.range ts.length).map fun i => (false, i, ts.getD i 0))
    (hk : ts.length = ks.length) (hu : ∀ i, i < ts.length → P.underlying (ts.getD i 0) = some (if ks.getD i false = true then .string else .int .i64)) : EqS P t ks := by
  refine ⟨g, fun ps w hps => ?_⟩
  have hlen : ps.length = ks.length := by have := congrArg List.length hps; simpa using this
  rw [show (10000 : Nat) = 9999 + 1 from rfl, run_equalIn_agg w 9999 t _ _ hS hp]
  have key : ∀ (fs : List Field) (k : Nat), k + fs.length = ps.length → (fs.map fun f => (decide (f.name = "_"), f.offset, f.type)) = ((List.range fs.length).map fun i => (false, k + i, ts.getD (k + i) 0)) → Sem.run P (Op.eqFields 9999 (ps.map Sc2.vx).toArray (ps.map Sc2.vy).toArray fs) w = .ok (cmpSc (ps.drop k)) w := by
    intro fs
    induction fs with
    | nil => intro k hk _; simp only [List.length_nil] at hk; rw [List.drop_eq_nil_of_le (by omega)]; simp [Op.eqFields, cmpSc]
    | cons f fs ih =>
      intro k hk hfs
      simp only [List.length_cons] at hk
      rw [List.length_cons, List.range_succ_eq_map, List.map_cons, List.map_cons, List.map_map] at hfs
      simp only [List.cons.injEq, Prod.mk.injEq, decide_eq_false_iff_not] at hfs
      obtain ⟨⟨h1, h2, h3⟩, h4⟩ := hfs
      have hkl : k < ps.length := by omega
      have ih' := ih (k + 1) (by omega) (by rw [h4]; refine List.map_congr_left fun i _ => ?_; simp only [Function.comp, Nat.succ_eq_add_one]; rw [Nat.add_assoc, Nat.add_comm 1 i])
      have hu' := hu k (by omega)
      have hks : ks.getD k false = ps[k].str := by
        rw [← hps, List.getD_eq_getElem?_getD, List.getElem?_map, List.getElem?_eq_getElem hkl]; rfl
      rw [hks] at hu'
      rw [Nat.add_zero] at h2 h3
      rw [← h3] at hu'
      have hx : (ps.map Sc2.vx).toArray[k]? = some ps[k].vx := by simp [hkl]
      have hy : (ps.map Sc2.vy).toArray[k]? = some ps[k].vy := by simp [hkl]
      have hag : ∀ w, (isAgg f.type).run P w = .ok false w := fun w => by
        cases hc : ps[k].str with
        | true => rw [hc, if_pos rfl] at hu'; simp [isAgg, run_underlying hu']
        | false => rw [hc, if_neg (by decide)] at hu'; simp [isAgg, run_underlying hu']
      have he : ∀ w, (Op.equalIn 9999 f.type ps[k].vx ps[k].vy).run P w = .ok ps[k].eq w := fun w => by
        cases hc : ps[k] with
        | s a b =>
          rw [hc] at hu'
          simp only [Sc2.str, if_true] at hu'
          simp only [Sc2.vx, Sc2.vy, Sc2.eq]
          rw [show (9999 : Nat) = 9998 + 1 from rfl, run_equalIn_string w 9998 _ a b hu', beq_bytes]
        | i a b =>
          rw [hc] at hu'
          simp only [Sc2.str, Bool.false_eq_true, if_false] at hu'
          simp only [Sc2.vx, Sc2.vy, Sc2.eq]
          rw [show (9999 : Nat) = 9998 + 1 from rfl, run_equalIn_int w 9998 _ .i64 .i64 a b hu']
          exact congrArg (fun z => Result.ok z w) (Bool.eq_iff_iff.2 (by simp))
      rw [List.drop_eq_getElem_cons hkl]
      simp only [Op.eqFields, h2, cmpSc]
      have hpx : ∀ w, (part f.type (ps.map Sc2.vx).toArray k).run P w = .ok ps[k].vx w := fun w => by simp [part, hag, hkl]
      have hpy : ∀ w, (part f.type (ps.map Sc2.vy).toArray k).run P w = .ok ps[k].vy w := fun w => by simp [part, hag, hkl]
      cases hq : ps[k].eq <;> simp [hpx, hpy, he, hq, h1, ih']
  have := key (P.fieldsOf t).toList 0 (by have := congrArg List.length hf; simp only [List.length_map, List.length_range] at this; omega) (by
    rw [hf]
    have hl := congrArg List.length hf
    simp only [List.length_map, List.length_range] at hl
    rw [hl]
    refine List.map_congr_left fun i _ => ?_
    rw [Nat.zero_add])
  rw [List.drop_zero] at this
  exact this
theorem plain_inv {F Λ w} : ∀ {ps : List Sc2} {vs : List Value} {f : Sc2 → A} {g : Sc2 → Value}, (∀ p, f p = .v (g p)) → vs.length = (ps.map f).length → (∀ (j : Nat) x y, (ps.map f)[j]? = some x → vs[j]? = some y → OK F Λ w y x) → vs = ps.map g
  | [], vs, f, g, _, hl, _ => by simpa using List.eq_nil_of_length_eq_zero (by simpa using hl)
  | p :: ps, [], f, g, _, hl, _ => by simp at hl
  | p :: ps, v :: vs, f, g, hfg, hl, h => by
    have h0 := h 0 _ v rfl rfl
    rw [hfg] at h0
    have e := h0.v_inv
    subst e
    have := plain_inv (ps := ps) (vs := vs) (f := f) (g := g) hfg (by simpa using hl) fun j x y hx hy => h (j + 1) x y (by simpa using hx) (by simpa using hy)
    rw [this]; rfl
theorem Sc2.hx (p : Sc2) : p.x = .v p.vx := by cases p <;> rfl
theorem Sc2.hy (p : Sc2) : p.y = .v p.vy := by cases p <;> rfl
theorem pur_neqT {P : Program} {E : Env} {σ : Store} {o : Oper} {t x y t'} {ks : List Bool} (ps : List Sc2) (hT : EqS P t ks) (hk : ps.map Sc2.str = ks) (h : o.op = .binOp .neq t x y t') (hx : val E x = .g (ps.map Sc2.x)) (hy : val E y = .g (ps.map Sc2.y)) : Pur P o E σ (.v (.bool (!cmpSc ps))) := fun F Λ w tmps hs hf => by
  have h1 := val_ok (ds := []) hf x
  have h2 := val_ok (ds := []) hf y
  rw [hx] at h1
  rw [hy] at h2
  obtain ⟨vs, e1, l1, i1⟩ := h1.g_inv
  obtain ⟨us, e2, l2, i2⟩ := h2.g_inv
  rw [plain_inv Sc2.hx l1 i1] at e1
  rw [plain_inv Sc2.hy l2 i2] at e2
  refine ⟨_, .imm (.v _), fun w' _ => ?_⟩
  simp only [execOp, h, e1, e2, Sem.run_bind, run_eqGuard_agg w' _ t x y _ _ hT.g, Result.andThen_ok, run_neq_struct, hT.e ps w' hk, Sem.run_pure]
section
variable {P : Program} {n m : Nat} {N : Env → Store → Prop} {E : Env} {σ : Store} {ops : Array Oper} {fuel : Nat} {listed : Array Bool}
/-- What is wanted where several orders meet, told ahead. -/
theorem TA_have (fuel2 : Nat) (listed2 : Array Bool) (E2 : Env) (σ2 : Store) (h : TA P n m ops fuel2 listed2 N E2 σ2) (k : TA P n m ops fuel2 listed2 N E2 σ2 → TA P n m ops fuel listed N E σ) : TA P n m ops fuel listed N E σ := k h
end
end Go.Sep
/- Short forms, for printed walks. -/
set_option linter.unusedVariables false
set_option linter.unusedSimpArgs false
namespace Go.Sep
open Go
theorem lb {n m : Nat} (h : Nat.ble n m = true) : n ≤ m := Nat.le_of_ble_eq_true h
section
variable {P : Program} {n m : Nat} {K : Exit → Env → Store → Prop} {N : Env → Store → Prop} {E : Env} {σ : Store} {ops : Array Oper} {os : List Oper} {o : Oper} {fuel : Nat} {listed : Array Bool}
theorem Tp {os' : List Oper} {o : Oper} {r : A} (ho : os = o :: os') (hg : o.guard = none) (hp : Pur P o E σ r) (hd : dstOK n o.dst = true) (h : TO P n m ops os' N (put E o.dst r) σ) : TO P n m ops os N E σ := by
  subst ho; exact TO_cons hg (TOp_pure hp hd h)
theorem sr {id : Nat} {l : List Oper} {b : Code} (h : TO P n m l.toArray l ((thenK (T P n m b K) K) .normal) E σ) : T P n m (.seq (.region id l.toArray false) b) K E σ := T_seq (T_region h)
/-- First of all an operation that looks at no world. -/
theorem tf (i : Nat) {o : Oper} {r : A} (hi : ops[i]? = some o) (hp : PurI P o E r) (hg : o.guard = none) (hd : dstOK n o.dst = true) (hc : (Region.noSelect ops && (Region.ready .any ops listed).contains i && Region.free .any ops listed i) = true) (h : TA P n m ops fuel (listed.setIfInBounds i true) N (put E o.dst r) σ) : TA P n m ops (fuel + 1) listed N E σ := by
  simp only [Bool.and_eq_true] at hc
  exact TA_first i _ hi hp hg hd rfl hc.1.1 hc.1.2 hc.2 h
/-- The one operation that is ready. -/
theorem t1 (i : Nat) {o : Oper} (hr : Region.ready .any ops listed = [i]) (hi : ops[i]? = some o) (hg : o.guard = none) (h : TOp P n m o (TA P n m ops fuel (listed.setIfInBounds i true) N) E σ) : TA P n m ops (fuel + 1) listed N E σ :=
  TA_all [i] hr (by simp) ⟨⟨o, hi, hg, h⟩, trivial⟩
theorem PkL.of : ∀ {E' : Env}, Pk E E' → PkL E E'
  | [], _ => trivial
  | (_, _) :: _, h => ⟨leR h.1, PkL.of h.2⟩
theorem wp {σ' : Store} {E' : Env} (k : Nat) (hm : m ≤ k) (ha : ascE E' = true) (hσ : σ' = σ.take k) (h1 : namesE k E' = false) (h2 : boxesE k σ' = false) (hE : Pk E E') : WeakL m E σ E' σ' := WeakL.to k hm ha hσ h1 h2 (PkL.of hE)
/-- Orders meet. -/
theorem tj {listed2 : Array Bool} {E2 : Env} {σ2 : Store} (h : TA P n m ops fuel listed2 N E2 σ2) (hl : listed = listed2) (hw : WeakL m E σ E2 σ2) : TA P n m ops fuel listed N E σ := TA_listed _ hl (TA_ghost (Ghost.weak hw) h)
end
end Go.Sep


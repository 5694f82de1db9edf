/- Roots that change their place; literals of slices; append. -/
import Derived.Test.YtlcpdlngbofgcaaCJ
set_option linter.unusedVariables false
set_option linter.unusedSimpArgs false
namespace Go.Sep
open Go

/-! ### other places -/
def rh (f : Nat → Nat) : List Nat → List Nat
  | [] => []
  | l :: p => f l :: p
mutual
def A.ren (f : Nat → Nat) : A → A
  | .m L a n k => .m (rh f L) a n k
  | .e L a => .e (rh f L) a
  | .b l a => .b (f l) a
  | .g xs => .g (renL f xs)
  | .t xs => .t (renL f xs)
  | .f g xs => .f g (renL f xs)
  | .o k xs => .o k xs
  | .v x => .v x
  | .n => .n
  | .i k xs => .i k xs
  | .q xs d => .q xs d
  | .j => .j
def renL (f : Nat → Nat) : List A → List A
  | [] => []
  | x :: xs => x.ren f :: renL f xs
end
theorem renL_get (f : Nat → Nat) : ∀ (xs : List A) (j : Nat), (renL f xs)[j]? = (xs[j]?).map (A.ren f)
  | [], j => by simp [renL]
  | x :: xs, 0 => by simp [renL]
  | x :: xs, j + 1 => by simp [renL, renL_get f xs j]
theorem renL_len (f : Nat → Nat) : ∀ xs : List A, (renL f xs).length = xs.length
  | [] => rfl
  | x :: xs => by simp [renL, renL_len f xs]
theorem renL_self {f : Nat → Nat} {vs : List Value} {xs : List A} (hl : vs.length = xs.length) (ih : ∀ (j : Nat) (x : A) (y : Value), xs[j]? = some x → vs[j]? = some y → x.ren f = x) : renL f xs = xs := by
  apply List.ext_getElem?
  intro j
  rw [renL_get]
  cases hj : xs[j]? with
  | none => rfl
  | some x =>
    have : j < vs.length := by have := (List.getElem?_eq_some_iff.1 hj).1; omega
    simp [ih j x _ hj (List.getElem?_eq_getElem this)]
theorem Imm.ren {F w v} {f : Nat → Nat} {x : A} (h : Imm F w v x) : x.ren f = x := by
  induction h with
  | g vs xs hl _ ih => simp only [A.ren]; rw [renL_self hl ih]
  | t vs xs hl _ ih => simp only [A.ren]; rw [renL_self hl ih]
  | f fn vs xs hl _ ih => simp only [A.ren]; rw [renL_self hl ih]
  | _ => rfl
/-- The same, its roots elsewhere. -/
theorem OK.ren {F Λ Λ' w v x} (p : List Nat → Bool) (f : Nat → Nat) (h : ∀ L b o, p L = false → Λ L = some (b, o) → Λ' (rh f L) = some (b, o)) (hi : OK F Λ w v x) (hn : x.names p = false) : OK F Λ' w v (x.ren f) := by
  induction hi with
  | imm hi => rw [hi.ren]; exact .imm hi
  | j v => exact .j v
  | m h1 =>
    simp only [A.names] at hn
    refine .m ?_
    rcases h1 with h1 | ⟨b, o, cap, h1, h2⟩
    · exact .inl h1
    · exact .inr ⟨b, o, cap, h _ _ _ hn h1, h2⟩
  | e h1 => simp only [A.names] at hn; exact .e (h _ _ _ hn h1)
  | b h1 => simp only [A.names] at hn; exact .b (h _ _ _ hn h1)
  | g vs xs hl _ ih =>
    simp only [A.names] at hn
    refine .g vs _ (by rw [renL_len]; exact hl) fun j x y hx hy => ?_
    rw [renL_get] at hx
    cases hj : xs[j]? with
    | none => simp [hj] at hx
    | some u => simp [hj] at hx; subst hx; exact ih j u y hj hy (namesL_false hn u (List.mem_of_getElem? hj))
  | t vs xs hl _ ih =>
    simp only [A.names] at hn
    refine .t vs _ (by rw [renL_len]; exact hl) fun j x y hx hy => ?_
    rw [renL_get] at hx
    cases hj : xs[j]? with
    | none => simp [hj] at hx
    | some u => simp [hj] at hx; subst hx; exact ih j u y hj hy (namesL_false hn u (List.mem_of_getElem? hj))
  | f fn vs xs hl _ ih =>
    simp only [A.names] at hn
    refine .f fn vs _ (by rw [renL_len]; exact hl) fun j x y hx hy => ?_
    rw [renL_get] at hx
    cases hj : xs[j]? with
    | none => simp [hj] at hx
    | some u => simp [hj] at hx; subst hx; exact ih j u y hj hy (namesL_false hn u (List.mem_of_getElem? hj))

/-! ### root l' moves to l -/
def mvH (l l' h : Nat) : Nat := if h = l' then l else h
def mvA (l l' : Nat) (x : A) : A := if x.names (fun L => L.headD 0 == l) then .j else x.ren (mvH l l')
def mvE (l l' : Nat) : Env → Env
  | [] => []
  | (t, a) :: E => (t, mvA l l' a) :: mvE l l' E
def mvR (l l' : Nat) : Root → Root
  | .box xs => .box (xs.map (mvA l l'))
  | r => r
def mvS (l l' : Nat) (σ : Store) : Store := ((σ.map (mvR l l')).set l ((σ[l']?).getD .dead)).set l' .dead
def mvL (l l' : Nat) (Λ : Lbl) : Lbl := fun L => match L with
  | [] => Λ []
  | h :: p => if h = l then Λ (l' :: p) else Λ (h :: p)
def isRow : Root → Bool
  | .row _ => true
  | _ => false
def noBox (σ : Store) (l : Nat) : Bool := match σ[l]? with
  | some (.box _) => false
  | _ => true
theorem mvL_ok {l l' : Nat} {Λ : Lbl} (hne : l ≠ l') : ∀ L b o, (L.headD 0 == l) = false → Λ L = some (b, o) → mvL l l' Λ (rh (mvH l l') L) = some (b, o) := fun L b o hp hL => by
  cases L with
  | nil => exact hL
  | cons h p =>
    simp only [List.headD_cons, beq_eq_false_iff_ne, ne_eq] at hp
    simp only [rh, mvL, mvH]
    by_cases e : h = l'
    · subst e; rw [if_pos rfl, if_pos rfl]; exact hL
    · rw [if_neg e, if_neg hp]; exact hL
theorem mvA_ok {F Λ w v x l l'} (hne : l ≠ l') (h : OK F Λ w v x) : OK F (mvL l l' Λ) w v (mvA l l' x) := by
  unfold mvA
  split
  · exact .j v
  · rename_i hn
    refine h.ren (fun L => L.headD 0 == l) _ (fun L b o hp hL => mvL_ok hne L b o hp hL) (by simpa using hn)
theorem lk_mvE (l l' : Nat) : ∀ (E : Env) (t : Nat), lk (mvE l l' E) t = mvA l l' (lk E t)
  | [], t => rfl
  | (u, a) :: E, t => by
    simp only [mvE, lk]
    split
    · rfl
    · exact lk_mvE l l' E t
theorem names_inBox {x : A} (h : x.inBox = true) (l l' : Nat) : (mvA l l' x).inBox = true ∨ mvA l l' x = .j := by
  unfold mvA
  split
  · exact .inr rfl
  · left; cases x <;> first | exact h | rfl
theorem mvR_cells {l l' : Nat} {r : Root} {ys : List A} (h : (mvR l l' r).cells = some ys) : (isB r = false ∧ r.cells = some ys) ∨ (isB r = true ∧ ∃ xs, r.cells = some xs ∧ ys = xs.map (mvA l l')) := by
  cases r with
  | box xs => simp only [mvR, Root.cells, Option.some.injEq] at h; exact .inr ⟨rfl, xs, rfl, h.symm⟩
  | dead => simp [mvR, Root.cells] at h
  | row xs => exact .inl ⟨rfl, h⟩
theorem mvS_get {l l' : Nat} {σ : Store} (hne : l ≠ l') (hl : l < σ.length) (h : Nat) : (mvS l l' σ)[h]? = if h = l' ∧ l' < σ.length then some .dead else if h = l then some ((σ[l']?).getD .dead) else (σ[h]?).map (mvR l l') := by
  unfold mvS
  rw [List.getElem?_set]
  by_cases e : l' = h
  · subst e
    simp only [List.length_set, List.length_map, if_true, true_and]
    by_cases e2 : l' < σ.length
    · simp [e2]
    · rw [if_neg e2, if_neg e2, if_neg (Ne.symm hne)]; simp [List.getElem?_eq_none (Nat.le_of_not_lt e2)]
  · rw [if_neg e, if_neg (by rintro ⟨rfl, _⟩; exact e rfl), List.getElem?_set]
    by_cases e2 : l = h
    · subst e2; simp [hl]
    · rw [if_neg e2, if_neg (Ne.symm e2), List.getElem?_map]
theorem rowAt_mvS {F Λ w} {l l' : Nat} {σ : Store} (hs0 : St F Λ σ w) (hne : l ≠ l') (hl : l < σ.length) (hr : ∃ xs, σ[l']? = some (.row xs)) {L xs} (h : rowAt (mvS l l' σ) L = some xs) :
    ∃ h0 p, L = h0 :: p ∧ h0 ≠ l' ∧ ((h0 = l ∧ rowAt σ (l' :: p) = some xs) ∨ (h0 ≠ l ∧ (((isBox σ [h0] = false ∨ p ≠ []) ∧ rowAt σ L = some xs) ∨ (isBox σ [h0] = true ∧ p = [] ∧ ∃ ys, rowAt σ L = some ys ∧ xs = ys.map (mvA l l'))))) := by
  cases L with
  | nil => simp [rowAt] at h
  | cons h0 p =>
    obtain ⟨zs, hz⟩ := hr
    have hl' : l' < σ.length := (List.getElem?_eq_some_iff.1 hz).1
    simp only [rowAt, mvS_get hne hl] at h
    by_cases e1 : h0 = l'
    · simp [e1, hl', Root.cells] at h
    · rw [if_neg (by rintro ⟨rfl, _⟩; exact e1 rfl)] at h
      refine ⟨h0, p, rfl, e1, ?_⟩
      by_cases e2 : h0 = l
      · subst e2
        simp only [if_true, hz, Option.getD_some] at h
        exact .inl ⟨rfl, by simpa only [rowAt, hz] using h⟩
      · rw [if_neg e2] at h
        refine .inr ⟨e2, ?_⟩
        cases hs : σ[h0]? with
        | none => simp [hs] at h
        | some r =>
          simp only [hs, Option.map_some] at h
          split at h
          · rename_i ys hy
            rcases mvR_cells hy with ⟨g1, g2⟩ | ⟨g1, us, g2, rfl⟩
            · exact .inl ⟨.inl (by simp only [isBox, hs]; cases r <;> simp_all [isB]), by simp only [rowAt, hs, g2]; exact h⟩
            · by_cases hno : p ≠ [] ∧ rowAt σ (h0 :: p) = some xs
              · exact .inl ⟨.inr hno.1, hno.2⟩
              right
              have hb : isBox σ [h0] = true := by simp only [isBox, hs]; cases r <;> simp_all [isB]
              cases p with
              | nil => simp only [sub, Option.some.injEq] at h; exact ⟨hb, rfl, us, by simp only [rowAt, hs, g2, sub], h.symm⟩
              | cons j p =>
                exfalso
                simp only [sub] at h
                split at h
                · rename_i k zs' hj
                  simp only [List.getElem?_map] at hj
                  cases hu : us[j]? with
                  | none => simp [hu] at hj
                  | some u =>
                    simp only [hu, Option.map_some, Option.some.injEq] at hj
                    unfold mvA at hj
                    split at hj
                    · cases hj
                    · cases u <;> simp [A.ren] at hj
                      obtain ⟨rfl, rfl⟩ := hj
                      exact absurd (show rowAt σ (h0 :: j :: p) = some xs by simp only [rowAt, hs, g2, sub, hu]; exact h) (fun hh => hno ⟨by simp, hh⟩)
                · cases h
          · cases h
theorem Cell.unbox {F Λ Λ' w L L' c x} (hS : ∀ a n k v, Sl Λ w L a n k v → Sl Λ' w L' a n k v) (h : Cell F Λ w false L c x) : Cell F Λ' w false L' c x := by
  cases x with
  | j => trivial
  | o k ys => exact ⟨h.1, h.2.1, h.2.2.elim fun n hn => ⟨n, hn.1, hS _ _ _ _ hn.2⟩⟩
  | _ => exact ⟨h.1, h.2.relabel (fun _ => true) (fun L b o hp => by simp at hp) (inCell_names (by have h1 := h.1; rwa [if_neg (by simp)] at h1) _)⟩
theorem Cell.box {F Λ w L c x} (h : Cell F Λ w true L c x) : x = .j ∨ (∃ k ys, x = .o k ys) ∨ (x.inBox = true ∧ OK F Λ w c x) := by
  cases x with
  | j => exact .inl rfl
  | o k ys => exact .inr (.inl ⟨k, ys, rfl⟩)
  | _ => exact .inr (.inr ⟨by have h1 := h.1; rwa [if_pos rfl] at h1, h.2⟩)
theorem isBox_row {σ : Store} {l : Nat} {zs} (hr : σ[l]? = some (.row zs)) (p : List Nat) : isBox σ (l :: p) = false := by
  cases p with
  | nil => simp only [isBox, hr]
  | cons j p => rfl
theorem isBox_deep (σ : Store) (l j : Nat) (p : List Nat) : isBox σ (l :: j :: p) = false := rfl
theorem isBox_mvS {l l' : Nat} {σ : Store} (hne : l ≠ l') (hl : l < σ.length) {zs} (hr : σ[l']? = some (.row zs)) {h0 : Nat} (h1 : h0 ≠ l') (p : List Nat) : isBox (mvS l l' σ) (h0 :: p) = if h0 = l then false else isBox σ (h0 :: p) := by
  cases p with
  | cons j p => simp [isBox]
  | nil =>
    simp only [isBox, mvS_get hne hl]
    rw [if_neg (by rintro ⟨rfl, _⟩; exact h1 rfl)]
    by_cases e : h0 = l
    · rw [if_pos e, if_pos e, hr]; rfl
    · rw [if_neg e, if_neg e]
      cases hs : σ[h0]? with
      | none => rfl
      | some r => cases r <;> rfl
theorem mvL_len {l l' : Nat} {σ : Store} : (mvS l l' σ).length = σ.length := by simp [mvS]
theorem St.move {F Λ σ w} (hs : St F Λ σ w) {l l' : Nat} (hne : l ≠ l') (hl : l < σ.length) {zs} (hr : σ[l']? = some (.row zs)) : St F (mvL l l' Λ) (mvS l l' σ) w where
  row L xs h := by
    obtain ⟨h0, p, rfl, hn, ⟨rfl, h1⟩ | ⟨h2, h1⟩⟩ := rowAt_mvS hs hne hl ⟨_, hr⟩ h
    · have e : mvL h0 l' Λ (h0 :: p) = Λ (l' :: p) := by simp [mvL]
      rw [e]
      rcases hs.row _ _ h1 with h4 | ⟨b, o, cs, t, h4, h5, h6, h7⟩
      · exact .inl h4
      · refine .inr ⟨b, o, cs, t, h4, h5, h6, fun j x hx => ?_⟩
        obtain ⟨c, h8, h9⟩ := h7 j x hx
        refine ⟨c, h8, ?_⟩
        rw [isBox_mvS hne hl hr hn, if_pos rfl]
        rw [isBox_row hr] at h9
        exact h9.unbox fun a n k v hv => hv.imp id fun ⟨b, o, cap, g1, g2⟩ => ⟨b, o, cap, by simpa [mvL] using g1, g2⟩
    · have e : mvL l l' Λ (h0 :: p) = Λ (h0 :: p) := by simp [mvL, h2, hn]
      rw [e]
      rcases h1 with ⟨hb, h1⟩ | ⟨hb, rfl, ys, h1, rfl⟩
      · rcases hs.row _ _ h1 with h4 | ⟨b, o, cs, t, h4, h5, h6, h7⟩
        · exact .inl h4
        · refine .inr ⟨b, o, cs, t, h4, h5, h6, fun j x hx => ?_⟩
          obtain ⟨c, h8, h9⟩ := h7 j x hx
          refine ⟨c, h8, ?_⟩
          have hb' : isBox σ (h0 :: p) = false := by
            cases p with
            | nil => exact hb.elim id fun h => absurd rfl h
            | cons _ _ => rfl
          rw [isBox_mvS hne hl hr hn, if_neg h2, hb']
          rw [hb'] at h9
          exact h9.unbox fun a n k v hv => hv.imp id fun ⟨b, o, cap, g1, g2⟩ => ⟨b, o, cap, by simpa [mvL, h2, hn] using g1, g2⟩
      · rcases hs.row _ _ h1 with ⟨h4, rfl⟩ | ⟨b, o, cs, t, h4, h5, h6, h7⟩
        · exact .inl ⟨h4, rfl⟩
        · refine .inr ⟨b, o, cs, t, h4, h5, h6, fun j x hx => ?_⟩
          rw [List.getElem?_map] at hx
          cases hy : ys[j]? with
          | none => simp [hy] at hx
          | some y =>
            simp only [hy, Option.map_some, Option.some.injEq] at hx
            subst hx
            obtain ⟨c, h8, h9⟩ := h7 j y hy
            refine ⟨c, h8, ?_⟩
            rw [isBox_mvS hne hl hr hn, if_neg h2, hb]
            rw [hb] at h9
            rcases h9.box with rfl | ⟨kk, us, rfl⟩ | ⟨g1, g2⟩
            · exact trivial
            · have e3 : mvA l l' (.o kk us) = .o kk us := rfl
              rw [e3]
              exact ⟨trivial, h9.2.1, h9.2.2.imp fun nn hh => ⟨hh.1, hh.2.imp id fun ⟨b, o, cap, g1, g2⟩ => ⟨b, o, cap, by simpa [mvL, h2, hn] using g1, g2⟩⟩⟩
            · rcases names_inBox g1 l l' with g3 | g3
              · exact .ofBox g3 (mvA_ok hne g2)
              · rw [g3]; exact trivial
  apart L xs L' xs' b o o' h1 h2 h3 h4 := by
    have key : ∀ L xs, rowAt (mvS l l' σ) L = some xs → ∃ h0 p, L = h0 :: p ∧ h0 ≠ l' ∧ ∃ ys, rowAt σ ((if h0 = l then l' else h0) :: p) = some ys ∧ mvL l l' Λ L = Λ ((if h0 = l then l' else h0) :: p) := fun L xs h => by
      obtain ⟨h0, p, rfl, hn, ⟨k2, k1⟩ | ⟨k2, k1⟩⟩ := rowAt_mvS hs hne hl ⟨_, hr⟩ h
      · exact ⟨h0, p, rfl, hn, xs, by rw [if_pos k2]; exact k1, by simp [mvL, k2]⟩
      · refine ⟨h0, p, rfl, hn, ?_⟩
        rw [if_neg k2]
        rcases k1 with ⟨_, k1⟩ | ⟨_, rfl, ys, k1, _⟩
        · exact ⟨xs, k1, by simp [mvL, k2, hn]⟩
        · exact ⟨ys, k1, by simp [mvL, k2, hn]⟩
    obtain ⟨a, p, rfl, hn, ys, g1, g2⟩ := key L xs h1
    obtain ⟨a', p', rfl, hn', ys', g1', g2'⟩ := key L' xs' h2
    rw [g2] at h3
    rw [g2'] at h4
    have := hs.apart _ _ _ _ _ _ _ g1 g1' h3 h4
    simp only [List.cons.injEq] at this
    obtain ⟨e1, rfl⟩ := this
    congr 1
    by_cases c1 : a = l <;> by_cases c2 : a' = l <;> simp_all
  old := hs.old
  lab L hL := by
    rw [mvL_len] at hL
    cases L with
    | nil => simp at hL; subst hL; simp at hl
    | cons h p =>
      simp only [List.headD_cons] at hL
      simp only [mvL]
      rw [if_neg (by omega)]
      exact hs.lab (h :: p) hL
theorem Own.move {F Λ σ w} (hs : St F Λ σ w) {l l' : Nat} (hne : l ≠ l') (hl : l < σ.length) {zs} (hr : σ[l']? = some (.row zs)) {b} (h : Own (mvL l l' Λ) (mvS l l' σ) b) : Own Λ σ b := by
  obtain ⟨L, xs, o, h1, h2⟩ := h
  obtain ⟨h0, p, rfl, hn, ⟨rfl, h3⟩ | ⟨h4, h3⟩⟩ := rowAt_mvS hs hne hl ⟨_, hr⟩ h1
  · exact ⟨_, _, o, h3, by simpa [mvL] using h2⟩
  · have e : mvL l l' Λ (h0 :: p) = Λ (h0 :: p) := by simp [mvL, h4, hn]
    rw [e] at h2
    rcases h3 with ⟨_, h3⟩ | ⟨_, rfl, ys, h3, _⟩
    · exact ⟨_, _, o, h3, h2⟩
    · exact ⟨_, _, o, h3, h2⟩
theorem Step.move {m F Λ σ w} (hs : St F Λ σ w) {l l' : Nat} (hne : l ≠ l') (hl : l < σ.length) {zs} (hr : σ[l']? = some (.row zs)) (hb : noBox σ l = true) (hm : m ≤ l) : Step m F Λ σ w F (mvL l l' Λ) (mvS l l' σ) w :=
  { os := rfl, tape := rfl, output := rfl, size := Nat.le_refl _, sizes := Sizes.refl _, keep := fun _ _ _ => rfl, mono := fun _ h => h, new := fun _ h => .inl h
    own := fun b h => .inl (Own.move hs hne hl hr h), len := by rw [mvL_len]; exact Nat.min_le_right _ _
    kept := fun L b o hL h => by
      cases L with
      | nil => exact h
      | cons h0 p =>
        simp only [List.headD_cons] at hL
        have e1 : h0 ≠ l := by omega
        simp only [mvL, if_neg e1]; exact h
    boxes := fun a xs _ hx => by
      have e1 : a ≠ l := by rintro rfl; simp only [noBox, hx] at hb; cases hb
      have e2 : a ≠ l' := by rintro rfl; rw [hr] at hx; cases hx
      refine ⟨by simp [mvL, e1, e2], xs.map (mvA l l'), ?_⟩
      rw [mvS_get hne hl, if_neg (by rintro ⟨rfl, _⟩; exact e2 rfl), if_neg e1, hx]; rfl }
section
variable {P : Program} {n m : Nat} {N : Env → Store → Prop} {K : Exit → Env → Store → Prop} {E : Env} {σ : Store} {o : Oper} {ops : Array Oper} {os : List Oper}
theorem TO_move (l l' : Nat) {zs} (hne : l ≠ l') (hl : l < σ.length) (hr : σ[l']? = some (.row zs)) (hb : noBox σ l = true) (hm : m ≤ l) (h : TO P n m ops os N (mvE l l' E) (mvS l l' σ)) : TO P n m ops os N E σ := fun F Λ w tmps Q hn hs hf hq =>
  h F _ w tmps Q hn (hs.move hne hl hr) (fun t => by rw [lk_mvE]; exact mvA_ok hne (hf t)) fun F' Λ' σ' w' tmps' E' hn' hs' hf' hst hN => hq F' Λ' σ' w' tmps' E' hn' hs' hf' ((Step.move hs hne hl hr hb hm).trans hst) hN
theorem T_move (l l' : Nat) {c : Code} {zs} (hne : l ≠ l') (hl : l < σ.length) (hr : σ[l']? = some (.row zs)) (hb : noBox σ l = true) (hm : m ≤ l) (h : T P n m c K (mvE l l' E) (mvS l l' σ)) : T P n m c K E σ := fun F Λ w tmps Q hn hs hf hq =>
  h F _ w tmps Q hn (hs.move hne hl hr) (fun t => by rw [lk_mvE]; exact mvA_ok hne (hf t)) fun e F' Λ' σ' w' tmps' E' hn' hs' hf' hst hN => hq e F' Λ' σ' w' tmps' E' hn' hs' hf' ((Step.move hs hne hl hr hb hm).trans hst) hN
end
end Go.Sep

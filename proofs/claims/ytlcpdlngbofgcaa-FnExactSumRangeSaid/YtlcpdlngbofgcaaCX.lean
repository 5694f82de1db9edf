/- Calls that write into rows of the caller's, wherever these lie. -/
import Derived.Test.YtlcpdlngbofgcaaCW
set_option linter.unusedVariables false
set_option linter.unusedSimpArgs false
namespace Go.Sep
open Go

/-! ### a row under whatever cells -/
def compat (zs zs' : List A) : Prop := ∀ (j : Nat) (x' : A), zs'[j]? = some x' → ∃ x, zs[j]? = some x ∧ (x' = x ∨ ∃ (k : Nat) (u u' : List A), x = .o k u ∧ x' = .o k u' ∧ u'.length = u.length)
theorem compat.refl (zs : List A) : compat zs zs := fun j x h => ⟨x, h, .inl rfl⟩
theorem compat.trans {a b c : List A} (h : compat a b) (h' : compat b c) : compat a c := fun j x hx => by
  obtain ⟨y, hy, h1⟩ := h' j x hx
  obtain ⟨z, hz, h2⟩ := h j y hy
  refine ⟨z, hz, ?_⟩
  rcases h1 with rfl | ⟨k, u, u', rfl, rfl, h3⟩
  · exact h2
  · rcases h2 with rfl | ⟨k2, v, v', rfl, e, h4⟩
    · exact .inr ⟨k, u, u', rfl, rfl, h3⟩
    · cases e; exact .inr ⟨k, v, u', rfl, rfl, h3.trans h4⟩
theorem sub_app' : ∀ (p q : List Nat) (xs ys : List A), sub xs p = some ys → sub xs (p ++ q) = sub ys q
  | [], q, xs, ys, h => by simp only [sub, Option.some.injEq] at h; subst h; rfl
  | j :: p, q, xs, ys, h => by
    simp only [sub] at h
    split at h
    · rename_i k zs hj
      simp only [List.cons_append, sub, hj]; exact sub_app' p q zs ys h
    · cases h
theorem rowAt_app {σ : Store} {L : List Nat} {xs} (h : rowAt σ L = some xs) (p : List Nat) : rowAt σ (L ++ p) = sub xs p := by
  cases L with
  | nil => simp [rowAt] at h
  | cons l q =>
    simp only [rowAt] at h
    split at h
    · rename_i r hr
      split at h
      · rename_i ys hy
        simp only [List.cons_append, rowAt, hr, hy]; exact sub_app' q p ys xs h
      · cases h
    · cases h
theorem sub_setX : ∀ (p : List Nat) (xs xs0 ys : List A), sub xs p = some xs0 → ys.length = xs0.length → ∀ q zs', sub (setSub xs p ys) q = some zs' →
    (∃ r, q = p ++ r ∧ sub ys r = some zs') ∨ (¬ p <+: q ∧ ∃ zs, sub xs q = some zs ∧ compat zs zs' ∧ (zs' = zs ∨ q <+: p))
  | [], xs, xs0, ys, h, hl, q, zs', hq => .inl ⟨q, rfl, by simpa [setSub] using hq⟩
  | i :: p, xs, xs0, ys, h, hl, q, zs', hq => by
    simp only [sub] at h
    split at h
    case h_2 => cases h
    rename_i k zs0 hi
    simp only [setSub, hi] at hq
    have hil : i < xs.length := (List.getElem?_eq_some_iff.1 hi).1
    cases q with
    | nil =>
      simp only [sub, Option.some.injEq] at hq
      subst hq
      refine .inr ⟨by simp, xs, rfl, fun j x' hx => ?_, .inr (List.nil_prefix ..)⟩
      rw [List.getElem?_set] at hx
      split at hx
      · rename_i e
        subst e
        simp [hil] at hx
        subst hx
        exact ⟨_, hi, .inr ⟨k, zs0, _, rfl, rfl, setSub_len p zs0 xs0 ys h hl⟩⟩
      · exact ⟨x', hx, .inl rfl⟩
    | cons j q =>
      simp only [sub] at hq
      by_cases e : i = j
      · subst e
        rw [List.getElem?_set] at hq
        simp only [if_true, hil] at hq
        rcases sub_setX p zs0 xs0 ys h hl q zs' hq with ⟨r, rfl, h1⟩ | ⟨h1, zs, h2, h3, h4⟩
        · exact .inl ⟨r, rfl, h1⟩
        · refine .inr ⟨fun hp => h1 (List.cons_prefix_cons.1 hp).2, zs, by simp only [sub, hi]; exact h2, h3, h4.imp id fun hp => List.cons_prefix_cons.2 ⟨rfl, hp⟩⟩
      · rw [List.getElem?_set, if_neg e] at hq
        exact .inr ⟨fun hp => e (List.cons_prefix_cons.1 hp).1, zs', by simp only [sub]; exact hq, compat.refl _, .inl rfl⟩
theorem rowAt_setX {σ : Store} {L : List Nat} {xs ys : List A} (hr : rowAt σ L = some xs) (hl : ys.length = xs.length) {L' zs'} (h : rowAt (setRow σ L ys) L' = some zs') :
    (∃ r, L' = L ++ r ∧ sub ys r = some zs') ∨ (¬ L <+: L' ∧ ∃ zs, rowAt σ L' = some zs ∧ compat zs zs' ∧ (zs' = zs ∨ L' <+: L)) := by
  cases L with
  | nil => simp [rowAt] at hr
  | cons l p =>
    simp only [rowAt] at hr
    split at hr
    case h_2 => cases hr
    rename_i r hlr
    split at hr
    case h_2 => cases hr
    rename_i ws hws
    simp only [setRow, hlr] at h
    have hll : l < σ.length := (List.getElem?_eq_some_iff.1 hlr).1
    cases L' with
    | nil => simp [rowAt] at h
    | cons l' q =>
      simp only [rowAt] at h
      by_cases e : l = l'
      · subst e
        rw [List.getElem?_set] at h
        simp only [if_true, hll, under_cells, hws, Option.map_some] at h
        rcases sub_setX p ws xs ys hr hl q zs' h with ⟨r2, rfl, h1⟩ | ⟨h1, zs, h2, h3, h4⟩
        · exact .inl ⟨r2, rfl, h1⟩
        · exact .inr ⟨fun hp => h1 (List.cons_prefix_cons.1 hp).2, zs, by simp only [rowAt, hlr, hws]; exact h2, h3, h4.imp id fun hp => List.cons_prefix_cons.2 ⟨rfl, hp⟩⟩
      · rw [List.getElem?_set, if_neg e] at h
        exact .inr ⟨fun hp => e (List.cons_prefix_cons.1 hp).1, zs', by simp only [rowAt]; exact h, compat.refl _, .inl rfl⟩

/-! ### several rows -/
def setRows : Store → List (List Nat) → List (List A) → Store
  | σ, L :: Ls, ys :: rows => setRows (setRow σ L ys) Ls rows
  | σ, _, _ => σ
/-- Rows of the store: where, and their cells; none lies under another. -/
inductive Sel (σ : Store) : List (List Nat) → List (List A) → Prop
  | nil : Sel σ [] []
  | cons {L Ls xs rows} : rowAt σ L = some xs → isBox σ L = false → (∀ L' ∈ Ls, ¬ L <+: L' ∧ ¬ L' <+: L) → Sel σ Ls rows → Sel σ (L :: Ls) (xs :: rows)
def sameLens : List (List A) → List (List A) → Prop
  | [], [] => True
  | x :: xs, y :: ys => y.length = x.length ∧ sameLens xs ys
  | _, _ => False
def rowsS (rows : List (List A)) : Store := rows.map .row
theorem Sel.get {σ : Store} {Ls : List (List Nat)} {rows : List (List A)} (h : Sel σ Ls rows) : ∀ (i : Nat) (L : List Nat), Ls[i]? = some L → ∃ xs, rows[i]? = some xs ∧ rowAt σ L = some xs ∧ isBox σ L = false := by
  induction h with
  | nil => intro i L h; simp at h
  | cons h1 h2 _ _ ih =>
    intro i L hi
    cases i with
    | zero => simp at hi; subst hi; exact ⟨_, rfl, h1, h2⟩
    | succ i => simpa using ih i L (by simpa using hi)
theorem Sel.len {σ : Store} {Ls : List (List Nat)} {rows : List (List A)} (h : Sel σ Ls rows) : rows.length = Ls.length := by
  induction h with
  | nil => rfl
  | cons _ _ _ _ ih => simp [ih]
theorem Sel.sep {σ : Store} {Ls : List (List Nat)} {rows : List (List A)} (h : Sel σ Ls rows) : ∀ (i j : Nat) (L L' p p' : List Nat), Ls[i]? = some L → Ls[j]? = some L' → L ++ p = L' ++ p' → i = j := by
  induction h with
  | nil => intro i j L L' p p' h; simp at h
  | @cons L0 Ls xs rows h1 h2 h3 _ ih =>
    have key : ∀ j L' p p', Ls[j]? = some L' → L0 ++ p = L' ++ p' → False := fun j L' p p' hj he => by
      have hm := h3 L' (List.mem_of_getElem? hj)
      rcases List.prefix_or_prefix_of_prefix (List.prefix_append L0 p) (he ▸ List.prefix_append L' p') with h | h
      · exact hm.1 h
      · exact hm.2 h
    intro i j L L' p p' hi hj he
    cases i with
    | zero =>
      simp at hi; subst hi
      cases j with
      | zero => rfl
      | succ j => exact (key j L' p p' (by simpa using hj) he).elim
    | succ i =>
      cases j with
      | zero => simp at hj; subst hj; exact (key i L p' p (by simpa using hi) he.symm).elim
      | succ j => rw [ih i j L L' p p' (by simpa using hi) (by simpa using hj) he]
theorem rowAt_rows {rows : List (List A)} {i : Nat} {p : List Nat} : rowAt (rowsS rows) (i :: p) = (rows[i]?).bind fun xs => sub xs p := by
  simp only [rowAt, rowsS, List.getElem?_map]
  cases rows[i]? <;> rfl
theorem isRows_rows (rows : List (List A)) : isRows (rowsS rows) = true := by simp [isRows, rowsS]
theorem Sel.pushes {σ : Store} {L : List Nat} {xs ys : List A} (hr : rowAt σ L = some xs) (hl : ys.length = xs.length) : ∀ {Ls rows}, (∀ L' ∈ Ls, ¬ L <+: L' ∧ ¬ L' <+: L) → Sel σ Ls rows → Sel (setRow σ L ys) Ls rows := fun {Ls rows} hs h => by
  induction h with
  | nil => exact .nil
  | @cons L' Ls us rows h1 h2 h3 h4 ih =>
    refine .cons ?_ ?_ h3 (ih fun L2 h => hs L2 (List.mem_cons_of_mem _ h))
    · have hn := hs L' (List.mem_cons_self ..)
      -- the row at L' is as it was
      have key : ∀ zs, rowAt (setRow σ L ys) L' = some zs → zs = us := fun zs hz => by
        rcases rowAt_setX hr hl hz with ⟨r, rfl, _⟩ | ⟨_, zs2, g1, _, g2⟩
        · exact (hn.1 (List.prefix_append ..)).elim
        · rw [h1] at g1; cases g1
          rcases g2 with rfl | g2
          · rfl
          · exact (hn.2 g2).elim
      have ex : ∀ (p q : List Nat) (ws ws0 vs : List A), sub ws p = some ws0 → sub ws q = some vs → ¬ p <+: q → ∃ zs, sub (setSub ws p ys) q = some zs := by
        intro p
        induction p with
        | nil => intro q ws ws0 vs _ _ hn; exact (hn (List.nil_prefix ..)).elim
        | cons i p ihp =>
          intro q ws ws0 vs g1 g2 hn
          simp only [sub] at g1
          split at g1
          case h_2 => cases g1
          rename_i k zs0 hi
          have hil : i < ws.length := (List.getElem?_eq_some_iff.1 hi).1
          simp only [setSub, hi]
          cases q with
          | nil => exact ⟨_, rfl⟩
          | cons j q =>
            simp only [sub]
            by_cases e : i = j
            · subst e
              rw [List.getElem?_set_self hil]
              simp only [sub, hi] at g2
              exact ihp q zs0 ws0 vs g1 g2 fun hp => hn (List.cons_prefix_cons.2 ⟨rfl, hp⟩)
            · rw [List.getElem?_set_ne e]
              simp only [sub] at g2
              exact ⟨vs, g2⟩
      have : ∃ zs, rowAt (setRow σ L ys) L' = some zs := by
        cases L with
        | nil => simp [rowAt] at hr
        | cons l p =>
          cases L' with
          | nil => simp [rowAt] at h1
          | cons l' q =>
            simp only [rowAt] at hr
            split at hr
            case h_2 => cases hr
            rename_i r hlr
            split at hr
            case h_2 => cases hr
            rename_i ws hws
            have hll : l < σ.length := (List.getElem?_eq_some_iff.1 hlr).1
            simp only [setRow, hlr, rowAt]
            by_cases e : l = l'
            · subst e
              rw [List.getElem?_set_self hll]
              simp only [under_cells, hws, Option.map_some]
              simp only [rowAt, hlr, hws] at h1
              exact ex p q ws xs us hr h1 fun hp => hn.1 (List.cons_prefix_cons.2 ⟨rfl, hp⟩)
            · rw [List.getElem?_set_ne e]
              simp only [rowAt] at h1
              exact ⟨us, h1⟩
      obtain ⟨zs, hz⟩ := this
      rw [hz, key zs hz]
    · rw [isBox_setRow]; exact h2
theorem Sel.after {rows' : List (List A)} : ∀ {σ : Store} {Ls : List (List Nat)} {rows : List (List A)}, Sel σ Ls rows → sameLens rows rows' → ∀ {L zs'}, rowAt (setRows σ Ls rows') L = some zs' →
    (∃ i L0 p, Ls[i]? = some L0 ∧ L = L0 ++ p ∧ rowAt (rowsS rows') (i :: p) = some zs') ∨ ((∀ L0 ∈ Ls, ¬ L0 <+: L) ∧ ∃ zs, rowAt σ L = some zs ∧ compat zs zs' ∧ (zs' = zs ∨ ∃ L0 ∈ Ls, L <+: L0)) := by
  induction rows' with
  | nil =>
    intro σ Ls rows h hl L zs' hz
    cases h with
    | nil => exact .inr ⟨by simp, zs', by simpa [setRows] using hz, compat.refl _, .inl rfl⟩
    | cons => exact hl.elim
  | cons ys rows' ih =>
    intro σ Ls rows h hl L zs' hz
    cases h with
    | nil => exact hl.elim
    | @cons L1 Ls xs rows h1 h2 h3 h4 =>
      simp only [setRows] at hz
      have h4' := Sel.pushes h1 hl.1 h3 h4
      rcases ih h4' hl.2 hz with ⟨i, L0, p, g1, g2, g3⟩ | ⟨g1, zs, g2, g3, g4⟩
      · exact .inl ⟨i + 1, L0, p, by simpa using g1, g2, by rw [rowAt_rows] at g3 ⊢; simpa using g3⟩
      · rcases rowAt_setX h1 hl.1 g2 with ⟨r, rfl, k1⟩ | ⟨k1, zs0, k2, k3, k4⟩
        · refine .inl ⟨0, L1, r, rfl, rfl, ?_⟩
          rw [rowAt_rows]
          have : zs' = zs := by
            rcases g4 with g4 | ⟨L0, hm, hp⟩
            · exact g4
            · exact ((h3 L0 hm).1 (List.IsPrefix.trans (List.prefix_append ..) hp)).elim
          rw [this]; simpa using k1
        · refine .inr ⟨fun L0 hm => ?_, zs0, k2, k3.trans g3, ?_⟩
          · rcases List.mem_cons.1 hm with rfl | hm
            · exact k1
            · exact g1 L0 hm
          · rcases g4 with rfl | ⟨L0, hm, hp⟩
            · rcases k4 with rfl | k4
              · exact .inl rfl
              · exact .inr ⟨L1, List.mem_cons_self .., k4⟩
            · exact .inr ⟨L0, List.mem_cons_of_mem _ hm, hp⟩
theorem setRows_len : ∀ (rows : List (List A)) (σ : Store) (Ls), (setRows σ Ls rows).length = σ.length
  | [], σ, Ls => by cases Ls <;> rfl
  | ys :: rows, σ, [] => rfl
  | ys :: rows, σ, L :: Ls => by simp only [setRows]; rw [setRows_len rows, setRow_len]
theorem isBox_setRows : ∀ (rows : List (List A)) (σ : Store) (Ls L), isBox (setRows σ Ls rows) L = isBox σ L
  | [], σ, Ls, L => by cases Ls <;> rfl
  | ys :: rows, σ, [], L => rfl
  | ys :: rows, σ, L0 :: Ls, L => by simp only [setRows]; rw [isBox_setRows rows, isBox_setRow]
theorem setRows_box {rows : List (List A)} {σ : Store} {Ls} {l : Nat} {xs} (h : σ[l]? = some (.box xs)) : ∃ xs', (setRows σ Ls rows)[l]? = some (.box xs') := by
  have h1 : isBox (setRows σ Ls rows) [l] = true := by rw [isBox_setRows]; simp [isBox, h]
  simp only [isBox] at h1
  split at h1
  · rename_i us hu; exact ⟨us, hu⟩
  · cases h1

/-! ### where a label lies -/
def locP : List (List Nat) → Nat → List Nat → Option (Nat × List Nat)
  | [], _, _ => none
  | L0 :: Ls, i, L => if L0.isPrefixOf L then some (i, L.drop L0.length) else locP Ls (i + 1) L
theorem locP_some : ∀ {Ls : List (List Nat)} {k : Nat} {L i p}, locP Ls k L = some (i, p) → ∃ j L0, i = k + j ∧ Ls[j]? = some L0 ∧ L = L0 ++ p
  | [], k, L, i, p, h => by simp [locP] at h
  | L0 :: Ls, k, L, i, p, h => by
    simp only [locP] at h
    split at h
    · rename_i hp
      simp only [Option.some.injEq, Prod.mk.injEq] at h
      obtain ⟨rfl, rfl⟩ := h
      refine ⟨0, L0, rfl, rfl, ?_⟩
      rw [List.isPrefixOf_iff_prefix] at hp
      obtain ⟨r, rfl⟩ := hp
      simp
    · obtain ⟨j, L1, rfl, h1, h2⟩ := locP_some h
      exact ⟨j + 1, L1, by omega, by simpa using h1, h2⟩
theorem locP_none : ∀ {Ls : List (List Nat)} {k : Nat} {L}, locP Ls k L = none → ∀ L0 ∈ Ls, ¬ L0 <+: L
  | [], k, L, h, L0, hm => by cases hm
  | L1 :: Ls, k, L, h, L0, hm => by
    simp only [locP] at h
    split at h
    · cases h
    · rename_i hp
      rcases List.mem_cons.1 hm with rfl | hm
      · rwa [List.isPrefixOf_iff_prefix] at hp
      · exact locP_none h L0 hm
theorem locP_at {σ Ls rows} (hs : Sel σ Ls rows) {i : Nat} {L0 : List Nat} (h : Ls[i]? = some L0) (p : List Nat) : locP Ls 0 (L0 ++ p) = some (i, p) := by
  cases hl : locP Ls 0 (L0 ++ p) with
  | none => exact (locP_none hl L0 (List.mem_of_getElem? h) (List.prefix_append ..)).elim
  | some x =>
    obtain ⟨i', p'⟩ := x
    obtain ⟨j, L1, rfl, h1, h2⟩ := locP_some hl
    have := hs.sep i j L0 L1 p p' h h1 h2
    subst this
    rw [h] at h1; cases h1
    have := List.append_cancel_left h2
    subst this
    simp
def downP (Λ : Lbl) (Ls : List (List Nat)) : Lbl := fun L => match L with
  | [] => none
  | i :: p => match Ls[i]? with
    | some L0 => Λ (L0 ++ p)
    | none => none
def upP (Λ Λ1 : Lbl) (Ls : List (List Nat)) : Lbl := fun L => match locP Ls 0 L with
  | some (i, p) => Λ1 (i :: p)
  | none => Λ L
section
variable {F F1 : Nat → Prop} {Λ Λ1 : Lbl} {σ : Store} {w w1 : World} {Ls : List (List Nat)} {rows rows' : List (List A)}
theorem rows_at (hS : Sel σ Ls rows) {i : Nat} {p : List Nat} {zs} (h : rowAt (rowsS rows) (i :: p) = some zs) : ∃ L0, Ls[i]? = some L0 ∧ rowAt σ (L0 ++ p) = some zs := by
  rw [rowAt_rows] at h
  cases hi : rows[i]? with
  | none => simp [hi] at h
  | some xs =>
    have hlt : i < Ls.length := by have := (List.getElem?_eq_some_iff.1 hi).1; rw [hS.len] at this; exact this
    obtain ⟨us, h1, h2, _⟩ := hS.get i _ (List.getElem?_eq_getElem hlt)
    rw [hi] at h1; cases h1
    refine ⟨_, List.getElem?_eq_getElem hlt, ?_⟩
    rw [rowAt_app h2]; simpa [hi] using h
theorem deepBox {σ : Store} {L p : List Nat} (h : isBox σ L = false) (hne : L ≠ []) : isBox σ (L ++ p) = false := by
  cases p with
  | nil => simpa using h
  | cons j p =>
    cases L with
    | nil => exact (hne rfl).elim
    | cons l q => cases q <;> rfl
theorem ne_nil_of_row {σ : Store} {L xs} (h : rowAt σ L = some xs) : L ≠ [] := by rintro rfl; simp [rowAt] at h
theorem St.downP (hs : St F Λ σ w) (hS : Sel σ Ls rows) : St F (Sep.downP Λ Ls) (rowsS rows) w where
  row L zs hz := by
    cases L with
    | nil => simp [rowAt] at hz
    | cons i p =>
      obtain ⟨L0, h1, h2⟩ := rows_at hS hz
      have e : Sep.downP Λ Ls (i :: p) = Λ (L0 ++ p) := by simp [Sep.downP, h1]
      rw [e, isBox_rows (isRows_rows rows)]
      obtain ⟨us, _, h3, h4⟩ := hS.get i L0 h1
      refine (hs.row _ _ h2).imp id fun ⟨b, o, cs, t, g1, g2, g3, g4⟩ => ⟨b, o, cs, t, g1, g2, g3, fun j x hj => (g4 j x hj).imp fun c hc => ⟨hc.1, ?_⟩⟩
      have h5 := hc.2
      rw [deepBox h4 (ne_nil_of_row h3)] at h5
      exact h5.unbox fun a n k v hv => hv.imp id fun ⟨b, o, cap, k1, k2⟩ => ⟨b, o, cap, by simpa [Sep.downP, h1] using k1, k2⟩
  apart L zs L' zs' b o o' h1 h2 h3 h4 := by
    cases L with
    | nil => simp [rowAt] at h1
    | cons i p =>
      cases L' with
      | nil => simp [rowAt] at h2
      | cons i' p' =>
        obtain ⟨L0, g1, g2⟩ := rows_at hS h1
        obtain ⟨L0', g1', g2'⟩ := rows_at hS h2
        have := hs.apart _ _ _ _ _ _ _ g2 g2' (by simpa [Sep.downP, g1] using h3) (by simpa [Sep.downP, g1'] using h4)
        have e := hS.sep i i' L0 L0' p p' g1 g1' this
        subst e
        rw [g1] at g1'; cases g1'
        rw [List.append_cancel_left this]
  old := hs.old
  lab L hL := by
    cases L with
    | nil => rfl
    | cons h p =>
      simp only [List.headD_cons, rowsS, List.length_map, hS.len] at hL
      simp [Sep.downP, List.getElem?_eq_none hL]
theorem Own.downP (hS : Sel σ Ls rows) {b : Nat} (h : Own (Sep.downP Λ Ls) (rowsS rows) b) : ∃ (i : Nat) (L0 p : List Nat) (zs : List A) (o : Nat), Ls[i]? = some L0 ∧ rowAt σ (L0 ++ p) = some zs ∧ Λ (L0 ++ p) = some (b, o) := by
  obtain ⟨L, zs, o, h1, h2⟩ := h
  cases L with
  | nil => simp [rowAt] at h1
  | cons i p =>
    obtain ⟨L0, g1, g2⟩ := rows_at hS h1
    exact ⟨i, L0, p, zs, o, g1, g2, by simpa [Sep.downP, g1] using h2⟩
theorem St.upP (hs : St F Λ σ w) (hS : Sel σ Ls rows) (hlen : sameLens rows rows') (h : Step rows.length F (Sep.downP Λ Ls) (rowsS rows) w F1 Λ1 (rowsS rows') w1) (hs1 : St F1 Λ1 (rowsS rows') w1) :
    St F1 (Sep.upP Λ Λ1 Ls) (setRows σ Ls rows') w1 ∧ (∀ m, Step m F Λ σ w F1 (Sep.upP Λ Λ1 Ls) (setRows σ Ls rows') w1) ∧ (∀ L b o, Λ L = some (b, o) → Sep.upP Λ Λ1 Ls L = some (b, o)) := by
  have hext : ∀ L b o, Λ L = some (b, o) → Sep.upP Λ Λ1 Ls L = some (b, o) := fun L b o hL => by
    simp only [Sep.upP]
    cases hl : locP Ls 0 L with
    | none => exact hL
    | some x =>
      obtain ⟨i, p⟩ := x
      obtain ⟨j, L0, rfl, h1, rfl⟩ := locP_some hl
      simp only [Nat.zero_add]
      refine h.kept (j :: p) b o ?_ (by simpa [Sep.downP, h1] using hL)
      have := (List.getElem?_eq_some_iff.1 h1).1
      simp only [List.headD_cons, hS.len]; exact this
  have hF : ∀ b, F b → F1 b ∧ w1.heap[b]? = w.heap[b]? := h.frozen (hs.downP hS)
  have hno : ∀ L zs b o, rowAt σ L = some zs → (∀ L0 ∈ Ls, ¬ L0 <+: L) → Λ L = some (b, o) → ¬ Own (Sep.downP Λ Ls) (rowsS rows) b := fun L zs b o h1 h2 h3 h4 => by
    obtain ⟨i, L0, p, zs', o', h5, h6, h7⟩ := Own.downP hS h4
    have := hs.apart _ _ _ _ _ _ _ h1 h6 h3 h7
    subst this; exact h2 L0 (List.mem_of_getElem? h5) (List.prefix_append ..)
  have hown1 : ∀ b, Own Λ1 (rowsS rows') b → (∃ (i : Nat) (L0 p : List Nat) (zs : List A) (o : Nat), Ls[i]? = some L0 ∧ rowAt σ (L0 ++ p) = some zs ∧ Λ (L0 ++ p) = some (b, o)) ∨ w.heap.size ≤ b := fun b hb => (h.own b hb).imp (Own.downP hS) id
  have eA : ∀ i L0 p, Ls[i]? = some L0 → Sep.upP Λ Λ1 Ls (L0 ++ p) = Λ1 (i :: p) := fun i L0 p h1 => by simp only [Sep.upP, locP_at hS h1]
  have eB : ∀ L, (∀ L0 ∈ Ls, ¬ L0 <+: L) → Sep.upP Λ Λ1 Ls L = Λ L := fun L h1 => by
    simp only [Sep.upP]
    cases hl : locP Ls 0 L with
    | none => rfl
    | some x =>
      obtain ⟨i, p⟩ := x
      obtain ⟨j, L0, rfl, h2, rfl⟩ := locP_some hl
      exact (h1 L0 (List.mem_of_getElem? h2) (List.prefix_append ..)).elim
  refine ⟨⟨fun L zs' hz => ?_, fun L zs L' zs' b o o' h1 h2 h3 h4 => ?_, hs1.old, fun L hL => ?_⟩, fun m => ?_, hext⟩
  · rcases hS.after hlen hz with ⟨i, L0, p, h1, rfl, h2⟩ | ⟨h1, zs, h2, h3, _⟩
    · rw [eA i L0 p h1, isBox_setRows]
      obtain ⟨us, _, h4, h5⟩ := hS.get i L0 h1
      rw [deepBox h5 (ne_nil_of_row h4)]
      refine (hs1.row _ _ h2).imp id fun ⟨b, o, cs, t, g1, g2, g3, g4⟩ => ⟨b, o, cs, t, g1, g2, g3, fun j x hj => (g4 j x hj).imp fun c hc => ⟨hc.1, ?_⟩⟩
      have h6 := hc.2
      rw [isBox_rows (isRows_rows rows')] at h6
      refine h6.unbox fun a n k v hv => hv.imp id fun ⟨b, o, cap, k1, k2⟩ => ⟨b, o, cap, ?_, k2⟩
      rw [List.append_assoc, eA i L0 _ h1]; simpa using k1
    · rw [eB L h1, isBox_setRows]
      rcases hs.row _ _ h2 with ⟨g1, g2⟩ | ⟨b, o, cs, t, g1, g2, g3, g4⟩
      · refine .inl ⟨g1, ?_⟩
        subst g2
        cases zs' with
        | nil => rfl
        | cons x xs => obtain ⟨y, hy, _⟩ := h3 0 x rfl; simp at hy
      · have hlt : b < w.heap.size := (Array.getElem?_eq_some_iff.1 g3).1
        have hn := hno _ _ b o h2 h1 g1
        refine .inr ⟨b, o, cs, t, g1, fun hb => ?_, by rw [h.keep b hlt hn]; exact g3, fun j x' hj => ?_⟩
        · rcases h.new b hb with k | k | k
          · exact g2 k
          · exact hn k
          · omega
        · obtain ⟨x, hx, hxx⟩ := h3 j x' hj
          obtain ⟨c, g5, g6⟩ := g4 j x hx
          refine ⟨c, g5, ?_⟩
          have g7 := (g6.mono hF h.sizes).ext hext
          rcases hxx with rfl | ⟨k, u, u', rfl, rfl, hu⟩
          · exact g7
          · exact ⟨g7.1, g7.2.1, g7.2.2.imp fun n hn => ⟨by rw [hu]; exact hn.1, hn.2⟩⟩
  · have key : ∀ L zs b o, rowAt (setRows σ Ls rows') L = some zs → Sep.upP Λ Λ1 Ls L = some (b, o) → (∃ i L0 p, Ls[i]? = some L0 ∧ L = L0 ++ p ∧ rowAt (rowsS rows') (i :: p) = some zs ∧ Λ1 (i :: p) = some (b, o)) ∨ ((∀ L0 ∈ Ls, ¬ L0 <+: L) ∧ ∃ us, rowAt σ L = some us ∧ Λ L = some (b, o)) := fun L zs b o hz hb => by
      rcases hS.after hlen hz with ⟨i, L0, p, h1, rfl, h2⟩ | ⟨h1, us, h2, _, _⟩
      · rw [eA i L0 p h1] at hb; exact .inl ⟨i, L0, p, h1, rfl, h2, hb⟩
      · rw [eB L h1] at hb; exact .inr ⟨h1, us, h2, hb⟩
    have cross : ∀ i p zs L' us b o o', rowAt (rowsS rows') (i :: p) = some zs → Λ1 (i :: p) = some (b, o) → (∀ L0 ∈ Ls, ¬ L0 <+: L') → rowAt σ L' = some us → Λ L' = some (b, o') → False := fun i p zs L' us b o o' g1 g2 g3 g4 g5 => by
      rcases hown1 b ⟨_, _, _, g1, g2⟩ with ⟨i2, L2, p2, zs2, o2, k0, k1, k2⟩ | k
      · have := hs.apart _ _ _ _ _ _ _ g4 k1 g5 k2
        subst this; exact g3 L2 (List.mem_of_getElem? k0) (List.prefix_append ..)
      · have := hs.owns ⟨_, _, _, g4, g5⟩; omega
    rcases key _ _ _ _ h1 h3 with ⟨i, L0, p, k0, rfl, g1, g2⟩ | ⟨g0, us, g1, g2⟩ <;> rcases key _ _ _ _ h2 h4 with ⟨i', L0', p', k0', rfl, g3, g4⟩ | ⟨g0', us', g3, g4⟩
    · have := hs1.apart _ _ _ _ _ _ _ g1 g3 g2 g4
      simp only [List.cons.injEq] at this
      obtain ⟨rfl, rfl⟩ := this
      rw [k0] at k0'; cases k0'; rfl
    · exact (cross _ _ _ _ _ _ _ _ g1 g2 g0' g3 g4).elim
    · exact (cross _ _ _ _ _ _ _ _ g3 g4 g0 g1 g2).elim
    · exact hs.apart _ _ _ _ _ _ _ g1 g3 g2 g4
  · rw [setRows_len] at hL
    rw [eB L fun L0 hm hp => ?_]
    · exact hs.lab L hL
    · obtain ⟨i, hi⟩ := List.getElem?_of_mem hm
      obtain ⟨us, _, h4, _⟩ := hS.get i L0 hi
      obtain ⟨r, rfl⟩ := hp
      cases L0 with
      | nil => simp [rowAt] at h4
      | cons l q =>
        simp only [List.cons_append, List.headD_cons] at hL
        simp [rowAt, List.getElem?_eq_none hL] at h4
  · exact { os := h.os, tape := h.tape, output := h.output, size := h.size, sizes := h.sizes
            keep := fun b hb hn => h.keep b hb fun ho => by
              obtain ⟨i, L0, p, zs, o, _, h1, h2⟩ := Own.downP hS ho
              exact hn ⟨_, _, _, h1, h2⟩
            mono := h.mono
            new := fun b hb => (h.new b hb).imp id fun k => k.imp (fun ho => by
              obtain ⟨i, L0, p, zs, o, _, h1, h2⟩ := Own.downP hS ho
              exact ⟨_, _, _, h1, h2⟩) id
            own := fun b ⟨L, zs, o, h1, h2⟩ => by
              rcases hS.after hlen h1 with ⟨i, L0, p, k1, rfl, k2⟩ | ⟨k1, us, k2, _, _⟩
              · rw [eA i L0 p k1] at h2
                exact (hown1 b ⟨_, _, _, k2, h2⟩).imp (fun ⟨i, L0, p, zs, o, _, k1, k2⟩ => ⟨_, _, _, k1, k2⟩) id
              · rw [eB L k1] at h2; exact .inl ⟨_, _, _, k2, h2⟩
            len := by rw [setRows_len]; omega
            boxes := fun a us _ ha => by
              refine ⟨?_, setRows_box ha⟩
              refine eB [a] fun L0 hm hp => ?_
              obtain ⟨i, hi⟩ := List.getElem?_of_mem hm
              obtain ⟨ws, _, h4, h5⟩ := hS.get i L0 hi
              obtain ⟨r, hr⟩ := hp
              cases L0 with
              | nil => simp [rowAt] at h4
              | cons l q =>
                simp only [List.cons_append, List.cons.injEq, List.append_eq_nil_iff] at hr
                obtain ⟨rfl, rfl, _⟩ := hr
                simp [isBox, ha] at h5
            kept := fun L b o _ hL => hext L b o hL }
end

/-! ### the arguments, seen by the callee -/
mutual
def A.renP (f : List Nat → List Nat) : A → A
  | .m L a n k => .m (f L) a n k
  | .e L a => .e (f L) a
  | .b _ _ => .j
  | .g xs => .g (renPL f xs)
  | .t xs => .t (renPL f xs)
  | .f g xs => .f g (renPL f xs)
  | .o k xs => .o k xs
  | .v x => .v x
  | .n => .n
  | .i k xs => .i k xs
  | .q xs d => .q xs d
  | .j => .j
def renPL (f : List Nat → List Nat) : List A → List A
  | [] => []
  | x :: xs => x.renP f :: renPL f xs
end
theorem renPL_get (f : List Nat → List Nat) : ∀ (xs : List A) (j : Nat), (renPL f xs)[j]? = (xs[j]?).map (A.renP f)
  | [], j => by simp [renPL]
  | x :: xs, 0 => by simp [renPL]
  | x :: xs, j + 1 => by simp [renPL, renPL_get f xs j]
theorem renPL_len (f : List Nat → List Nat) : ∀ xs : List A, (renPL f xs).length = xs.length
  | [] => rfl
  | x :: xs => by simp [renPL, renPL_len f xs]
theorem Imm.renP {F w v} {f : List Nat → List Nat} {x : A} (h : Imm F w v x) : x.renP f = x := by
  have aux : ∀ {vs : List Value} {xs : List A}, vs.length = xs.length → (∀ (j : Nat) (x : A) (y : Value), xs[j]? = some x → vs[j]? = some y → x.renP f = x) → renPL f xs = xs := fun {vs xs} hl ih => by
    apply List.ext_getElem?
    intro j
    rw [renPL_get]
    cases hj : xs[j]? with
    | none => rfl
    | some x =>
      have hlt : j < vs.length := by have := (List.getElem?_eq_some_iff.1 hj).1; omega
      simp [ih j x _ hj (List.getElem?_eq_getElem hlt)]
  induction h with
  | g vs xs hl _ ih => simp only [A.renP]; rw [aux hl ih]
  | t vs xs hl _ ih => simp only [A.renP]; rw [aux hl ih]
  | f fn vs xs hl _ ih => simp only [A.renP]; rw [aux hl ih]
  | _ => rfl
theorem OK.renP {F Λ Λ' w v x} (p : List Nat → Bool) (f : List Nat → List Nat) (h : ∀ L b o, p L = false → Λ L = some (b, o) → Λ' (f L) = some (b, o)) (hi : OK F Λ w v x) (hn : x.names p = false) : OK F Λ' w v (x.renP f) := by
  induction hi with
  | imm hi => rw [hi.renP]; exact .imm hi
  | j v => exact .j v
  | m h1 =>
    simp only [A.names] at hn
    refine .m ?_
    rcases h1 with h1 | ⟨b, o, cap, h1, h2⟩
    · exact .inl h1
    · exact .inr ⟨b, o, cap, h _ _ _ hn h1, h2⟩
  | e h1 => simp only [A.names] at hn; exact .e (h _ _ _ hn h1)
  | b h1 => exact .j _
  | g vs xs hl _ ih =>
    simp only [A.names] at hn
    refine .g vs _ (by rw [renPL_len]; exact hl) fun j x y hx hy => ?_
    rw [renPL_get] at hx
    cases hj : xs[j]? with
    | none => simp [hj] at hx
    | some u => simp [hj] at hx; subst hx; exact ih j u y hj hy (namesL_false hn u (List.mem_of_getElem? hj))
  | t vs xs hl _ ih =>
    simp only [A.names] at hn
    refine .t vs _ (by rw [renPL_len]; exact hl) fun j x y hx hy => ?_
    rw [renPL_get] at hx
    cases hj : xs[j]? with
    | none => simp [hj] at hx
    | some u => simp [hj] at hx; subst hx; exact ih j u y hj hy (namesL_false hn u (List.mem_of_getElem? hj))
  | f fn vs xs hl _ ih =>
    simp only [A.names] at hn
    refine .f fn vs _ (by rw [renPL_len]; exact hl) fun j x y hx hy => ?_
    rw [renPL_get] at hx
    cases hj : xs[j]? with
    | none => simp [hj] at hx
    | some u => simp [hj] at hx; subst hx; exact ih j u y hj hy (namesL_false hn u (List.mem_of_getElem? hj))
def locF (Ls : List (List Nat)) (L : List Nat) : List Nat := match locP Ls 0 L with
  | some (i, p) => i :: p
  | none => []
section
variable {P : Program} {n m : Nat} {N : Env → Store → Prop} {E : Env} {σ : Store} {o : Oper}
/-- A function that writes into what it was handed: the plain value that it hands back, and the rows as they are then. -/
def FnM (P : Program) (f : Nat) (as : List A) (rows : List (List A)) (x : Value) (rows' : List (List A)) : Prop := Fn P f as (rowsS rows) fun r σ => r = .v x ∧ σ = rowsS rows' ∧ sameLens rows rows'
/-- A call that may write into these rows, and hands back a plain value. -/
theorem TOp_callG (Ls : List (List Nat)) {rows rows' : List (List A)} {g : Nat} {aa0 aa as' : List A} {x : Value} (hc : CallOp P o E g aa0) (h0 : aa0 = aa) (hS : Sel σ Ls rows) (hnm : namesL (fun L => (locP Ls 0 L).isNone) aa = false) (has : renPL (locF Ls) aa = as')
    (hF : FnM P g as' rows x rows') (hd : dstOK n o.dst = true) (hN : sameLens rows rows' → N (put E o.dst (.v x)) (setRows σ Ls rows')) : TOp P n m o N E σ := fun F Λ w tmps K Qx hn hs hf hk => by
  subst h0
  obtain ⟨vs, ⟨hvl, hvs⟩, hrun⟩ := hc F Λ w tmps hf
  unfold Oper.wp
  rw [hrun w, Oper.upon_enter]
  subst has
  refine hF F (downP Λ Ls) w vs _ (hs.downP hS) ⟨by rw [renPL_len]; exact hvl, fun j a y hx hy => ?_⟩ fun F1 Λ1 σ1 w1 v r hs1 hst hv hq => ?_
  · rw [renPL_get] at hx
    cases hj : aa0[j]? with
    | none => simp [hj] at hx
    | some u =>
      simp [hj] at hx; subst hx
      refine (hvs j u y hj hy).renP (fun L => (locP Ls 0 L).isNone) (locF Ls) (fun L b o hp hL => ?_) (namesL_false hnm u (List.mem_of_getElem? hj))
      simp only [locF]
      cases hl : locP Ls 0 L with
      | none => simp [hl] at hp
      | some x =>
        obtain ⟨i, p⟩ := x
        obtain ⟨j, L0, rfl, h1, rfl⟩ := locP_some hl
        simpa [downP, h1] using hL
  · obtain ⟨rfl, rfl, hlen⟩ := hq
    have hst' : Step rows.length F (downP Λ Ls) (rowsS rows) w F1 Λ1 (rowsS rows') w1 := by
      have : (rowsS rows).length = rows.length := by simp [rowsS]
      rwa [this] at hst
    obtain ⟨h1, h2, h3⟩ := hs.upP hS hlen hst' hs1
    have hf1 := (hf.mono (hst'.frozen (hs.downP hS)) hst'.sizes).ext h3
    obtain ⟨tmps', e, hn2, hf2⟩ := hf1.putO (ds := []) hn hd (.imm (.v x))
    have := hv.v_inv
    subst this
    show K (Act.put ⟨tmps, []⟩ o.dst v) w1
    rw [e]
    exact hk F1 _ _ w1 tmps' _ hn2 h1 hf2 (h2 m) (hN hlen)
end
theorem fnM_of_T {P f} {fn : Func} {c : Code} {as : List A} {rows rows' : List (List A)} {x : Value} {rs : List ResultVar} (hf : P.funcs[f]? = some fn) (hb : fn.body = some c) (hr : fn.results = rs.toArray) (hn : as.length ≤ fn.ntmps)
    (h : T P fn.ntmps rows.length c (EndK P rs rows.length fun r σ => r = .v x ∧ σ = rowsS rows' ∧ sameLens rows rows') (entry 0 as) (rowsS rows)) : FnM P f as rows x rows' :=
  fn_of_T hf hb hr hn (by have e : (rowsS rows).length = rows.length := by simp [rowsS]
                          rw [e]; exact h)
theorem end_M {P : Program} {E : Env} {σ : Store} {rs as} {rows rows' : List (List A)} {x : Value} {m : Nat} (h : ResA P E σ rs as) (hr : resA as = .v x) (hσ : σ.take m = rowsS rows') (hm : m ≤ m) (hl : sameLens rows rows') (hb : boxesE m (rowsS rows') = false) (hb2 : boxesE (rowsS rows').length (rowsS rows') = false) :
    EndK P rs m (fun r σ => r = .v x ∧ σ = rowsS rows' ∧ sameLens rows rows') .ret E σ :=
  end_own h hr m hm hσ.symm hb rfl hb2 ⟨rfl, rfl, hl⟩
theorem sameLens_T {α : Type} {T : Ty α} {xs xs' : List α} {rows rows' : List (List A)} (h : sameLens (flat T.own xs :: rows) (flat T.own xs' :: rows')) : xs'.length = xs.length ∧ sameLens rows rows' := by
  refine ⟨?_, h.2⟩
  have := h.1
  rw [flat_len T.lenO, flat_len T.lenO] at this
  exact Nat.eq_of_mul_eq_mul_right T.pos this
theorem sameLens_c {α : Type} {T : Ty α} {xs xs' : List α} {rows rows' : List (List A)} (h : xs'.length = xs.length) (hr : sameLens rows rows') : sameLens (flat T.own xs :: rows) (flat T.own xs' :: rows') := ⟨by rw [flat_len T.lenO, flat_len T.lenO, h], hr⟩
theorem rowAt_el {α : Type} {f : α → List A} {k : Nat} (hf : ∀ x, (f x).length = k) {σ : Store} {l i off k' : Nat} {xs : List α} {v : α} {zs : List A} (hr : σ[l]? = some (.row (flat f xs))) (hv : xs[i]? = some v) (ho : (f v)[off]? = some (.o k' zs)) : rowAt σ [l, i * k + off] = some zs := by
  simp only [rowAt, hr, Root.cells, sub, flat_at' hf hv ho]
theorem spl_one (xs : List A) (d : Nat) (y : A) : spl xs d [y] = xs.set d y := rfl
/-- A nested row under other cells, typed. -/
theorem setRow_T {α : Type} {f : α → List A} {k : Nat} (hf : ∀ x, (f x).length = k) {σ : Store} {l i off k' : Nat} {xs : List α} {v v' : α} {zs ys : List A} (hr : σ[l]? = some (.row (flat f xs))) (hv : xs[i]? = some v) (ho : (f v)[off]? = some (.o k' zs)) (hv' : f v' = (f v).set off (.o k' ys)) :
    setRow σ [l, i * k + off] ys = σ.set l (.row (flat f (xs.set i v'))) := by
  have hj := flat_at' hf hv ho
  simp only [setRow, hr, Root.under, setSub, hj]
  congr 2
  have hok : off < k := by have := (List.getElem?_eq_some_iff.1 ho).1; rwa [hf] at this
  have e := flat_setF hf xs i off v v' [.o k' ys] hv (by simp; omega) (by
    rw [hv']
    simp [spl_one])
  rw [← e, spl_one]
theorem list_set_same {α : Type} {xs : List α} {i : Nat} {x : α} (h : xs[i]? = some x) : xs.set i x = xs := by
  apply List.ext_getElem?
  intro j
  rw [List.getElem?_set]
  split
  · rename_i e; subst e
    split
    · exact h.symm
    · rename_i hn; exact (List.getElem?_eq_none (by omega)).symm
  · rfl
theorem spl_self (cs : List A) (d n : Nat) (hl : d + ((cs.drop d).take n).length ≤ cs.length) : spl cs d ((cs.drop d).take n) = cs := by
  apply List.ext_getElem?
  intro j
  rw [spl_get _ _ _ _ hl]
  split
  · rename_i h
    have h2 : j - d < n := by have := h.2; rw [List.length_take] at this; omega
    rw [List.getElem?_take_of_lt h2, List.getElem?_drop]
    congr 1; omega
  · rfl
theorem spl_set_in (cs ys : List A) (d o : Nat) (x : A) (ho : o < ys.length) (hl : d + ys.length ≤ cs.length) : spl (cs.set (d + o) x) d ys = spl cs d ys := by
  apply List.ext_getElem?
  intro j
  rw [spl_get _ _ _ _ (by rw [List.length_set]; exact hl), spl_get _ _ _ _ hl]
  split
  · rfl
  · rw [List.getElem?_set_ne (by omega)]
/-- The cells of an element, with rows of it written. -/
def updO : List A → List Nat → List (List A) → List A
  | xs, o :: os, ys :: rows => updO (match xs[o]? with | some (.o k _) => xs.set o (.o k ys) | _ => xs) os rows
  | xs, _, _ => xs
theorem updO_len : ∀ (rows : List (List A)) (xs : List A) (os : List Nat), (updO xs os rows).length = xs.length
  | [], xs, os => by cases os <;> rfl
  | ys :: rows, xs, [] => rfl
  | ys :: rows, xs, o :: os => by
    simp only [updO]; rw [updO_len rows]
    split <;> simp
theorem setRows_cells {l d : Nat} : ∀ (rows : List (List A)) (os : List Nat) (σ : Store) (cs xs : List A), σ[l]? = some (.row cs) → (cs.drop d).take xs.length = xs → d + xs.length ≤ cs.length → (∀ o ∈ os, o < xs.length) →
    (∀ o ∈ os, ∃ k zs, xs[o]? = some (.o k zs)) → setRows σ (os.map fun o => [l, d + o]) rows = σ.set l (.row (spl cs d (updO xs os rows)))
  | [], os, σ, cs, xs, hr, hd, hl, ho, hx => by
    have e : spl cs d xs = cs := by
      have := spl_self cs d xs.length (by rw [hd]; exact hl)
      rwa [hd] at this
    have : setRows σ (os.map fun o => [l, d + o]) [] = σ := by cases os <;> rfl
    rw [this]
    have : updO xs os [] = xs := by cases os <;> rfl
    rw [this, e]
    exact (list_set_same hr).symm
  | ys :: rows, [], σ, cs, xs, hr, hd, hl, ho, hx => by
    have e : spl cs d xs = cs := by
      have := spl_self cs d xs.length (by rw [hd]; exact hl)
      rwa [hd] at this
    simp only [List.map_nil, setRows, updO, e]
    exact (list_set_same hr).symm
  | ys :: rows, o :: os, σ, cs, xs, hr, hd, hl, ho, hx => by
    obtain ⟨k, zs, hk⟩ := hx o (List.mem_cons_self ..)
    have hlt := ho o (List.mem_cons_self ..)
    have hj : cs[d + o]? = some (.o k zs) := by
      rw [← hd] at hk
      rwa [List.getElem?_take_of_lt hlt, List.getElem?_drop] at hk
    simp only [List.map_cons, setRows]
    have e1 : setRow σ [l, d + o] ys = σ.set l (.row (cs.set (d + o) (.o k ys))) := by
      simp only [setRow, hr, Root.under, setSub, hj]
    have hll : l < σ.length := (List.getElem?_eq_some_iff.1 hr).1
    rw [e1]
    have hl' : (xs.set o (.o k ys)).length = xs.length := List.length_set ..
    have hc' : (cs.set (d + o) (.o k ys)).length = cs.length := List.length_set ..
    rw [setRows_cells rows os (σ.set l (.row (cs.set (d + o) (.o k ys)))) (cs.set (d + o) (.o k ys)) (xs.set o (.o k ys)) (by rw [List.getElem?_set_self hll]) ?_ (by rw [hl', hc']; exact hl) (fun o' hm => by rw [hl']; exact ho o' (List.mem_cons_of_mem _ hm)) ?_]
    · rw [List.set_set]
      congr 2
      simp only [updO, hk]
      exact spl_set_in _ _ _ _ _ (by rw [updO_len, hl']; exact hlt) (by rw [updO_len, hl']; exact hl)
    · rw [hl']
      apply List.ext_getElem?
      intro q
      simp only [List.getElem?_take, List.getElem?_drop, List.getElem?_set]
      by_cases hq : q < xs.length
      · simp only [hq, if_true]
        by_cases e : o = q
        · subst e
          have : d + o < cs.length := by omega
          simp [hq, this]
        · have : ¬ d + o = d + q := by omega
          simp only [e, this, if_false]
          rw [← List.getElem?_drop, ← List.getElem?_take_of_lt hq, hd]
      · simp only [hq, if_false]
        have : o ≠ q := by omega
        rw [List.getElem?_eq_none (by omega), if_neg this]
    · intro o' hm
      obtain ⟨k', zs', h'⟩ := hx o' (List.mem_cons_of_mem _ hm)
      by_cases e : o = o'
      · subst e; exact ⟨k, ys, by rw [List.getElem?_set_self hlt]⟩
      · exact ⟨k', zs', by rw [List.getElem?_set_ne e]; exact h'⟩
theorem setRows_T {α : Type} {f : α → List A} {k : Nat} (hf : ∀ x, (f x).length = k) {σ : Store} {l i : Nat} {z : Int} {xs : List α} {v v' : α} (hz : z = (i : Int)) (os : List Nat) {rows : List (List A)} (hr : σ[l]? = some (.row (flat f xs))) (hv : xs[i]? = some v) (ho : ∀ o ∈ os, ∃ k zs, (f v)[o]? = some (.o k zs)) (hv' : f v' = updO (f v) os rows) :
    setRows σ (os.map fun o => [l, i * k + o]) rows = σ.set l (.row (flat f (xs.set z.toNat v'))) := by
  subst hz; rw [Int.toNat_natCast]
  have hi := (List.getElem?_eq_some_iff.1 hv).1
  have hk : i * k + k ≤ (flat f xs).length := by rw [flat_len hf, ← Nat.succ_mul]; exact Nat.mul_le_mul_right _ hi
  have hcut := flat_cut hf (off := 0) (k' := k) hv (by omega)
  rw [Nat.add_zero, List.drop_zero] at hcut
  rw [setRows_cells rows os σ (flat f xs) (f v) hr (by rw [hf]; simpa [List.take_of_length_le (Nat.le_of_eq (hf v))] using hcut) (by rw [hf]; exact hk) (fun o hm => by obtain ⟨k', zs, h⟩ := ho o hm; exact (List.getElem?_eq_some_iff.1 h).1) ho, ← hv']
  congr 2
  have := spl_flat hf xs i v' hi
  rwa [Nat.zero_add] at this
theorem cvNil {L : List Nat} {d : Nat} : cellVals L d [] = [] := rfl
theorem cvCons {L : List Nat} {d : Nat} {x y : A} {xs ys : List A} (h : cellVal (L ++ [d]) x = y) (h' : cellVals L (d + 1) xs = ys) : cellVals L d (x :: xs) = y :: ys := by simp only [cellVals, h, h']
theorem allO_nil {p : Nat → Prop} : ∀ o ∈ ([] : List Nat), p o := fun _ h => by cases h
theorem allO_cons {p : Nat → Prop} {x : Nat} {xs : List Nat} (h : p x) (h' : ∀ o ∈ xs, p o) : ∀ o ∈ x :: xs, p o := fun o hm => by
  rcases List.mem_cons.1 hm with rfl | hm
  · exact h
  · exact h' o hm
/-! ### an element that owns, stored into a row -/
theorem spl_in (cs zs ys : List A) (d off : Nat) (hz : (cs.drop d).take zs.length = zs) (hl : d + zs.length ≤ cs.length) (ho : off + ys.length ≤ zs.length) : spl cs (d + off) ys = spl cs d (spl zs off ys) := by
  apply List.ext_getElem?
  intro j
  rw [spl_get _ _ _ _ (by omega), spl_get _ _ _ _ (by rw [spl_len]; exact hl), spl_len]
  by_cases h1 : d ≤ j ∧ j < d + zs.length
  · rw [if_pos h1, spl_get _ _ _ _ ho]
    by_cases h2 : off ≤ j - d ∧ j - d < off + ys.length
    · rw [if_pos h2, if_pos (by omega)]; congr 1; omega
    · rw [if_neg h2, if_neg (by omega)]
      rw [← hz, List.getElem?_take_of_lt (by omega), List.getElem?_drop]; congr 1; omega
  · rw [if_neg h1, if_neg (by omega)]
theorem spl_set_at (cs zs : List A) (d off : Nat) (y : A) (hl : d + zs.length ≤ cs.length) : (spl cs d zs).set (d + off) y = if off < zs.length then spl cs d (zs.set off y) else (spl cs d zs).set (d + off) y := by
  split
  case isFalse => rfl
  rename_i ho
  apply List.ext_getElem?
  intro j
  rw [spl_get _ _ _ _ (by rw [List.length_set]; exact hl), List.getElem?_set, List.length_set, List.getElem?_set, spl_get _ _ _ _ hl, spl_len]
  by_cases e : d + off = j
  · subst e
    rw [if_pos rfl, if_pos (by omega), if_pos (by omega), if_pos (by omega), if_pos ho]
  · rw [if_neg e]
    by_cases h1 : d ≤ j ∧ j < d + zs.length
    · rw [if_pos h1, if_pos h1, if_neg (by omega)]
    · rw [if_neg h1, if_neg h1]
section
variable {P : Program} {n m : Nat} {N : Env → Store → Prop} {E : Env} {σ : Store} {ops : Array Oper} {os : List Oper} {o : Oper}
theorem TOp_setN {α : Type} {T : Ty α} {t k' : Nat} {addr x : Operand} {l d i off : Nat} {z : Int} {xs : List α} {v : α} {ys : List A} (hz : z = (i : Int)) (hT : SzT P t k') (hk0 : 0 < k') (h : o.op = .store t addr x) (hdst : o.dst = none) (ha : val E addr = .e [l] d) (hd : d = i * T.k + off) (hr : σ[l]? = some (.box (flat T.own xs)))
    (hv : xs[i]? = some v) (hys : cellsOf (val E x) = ys) (hyl : ys.length = k') (ho : off + k' ≤ T.k) (hc : boxAllB ys = true) (hN : N E (σ.set l (.box (spl (flat T.own xs) (i * T.k) (spl (T.own v) off ys))))) : TOp P n m o N E σ := by
  subst hd
  have hi := (List.getElem?_eq_some_iff.1 hv).1
  have hk : i * T.k + T.k ≤ (flat T.own xs).length := by rw [flat_len T.lenO, ← Nat.succ_mul]; exact Nat.mul_le_mul_right _ hi
  have hcut := flat_cut T.lenO (off := 0) (k' := T.k) hv (by omega)
  rw [Nat.add_zero, List.drop_zero, List.take_of_length_le (Nat.le_of_eq (T.lenO v))] at hcut
  have hrow : rowAt σ [l] = some (flat T.own xs) := by simp only [rowAt, hr, Root.cells, sub]
  have hbx : isBox σ [l] = true := by simp [isBox, hr]
  refine store_row hT h hdst hrow hys hyl hk0 (show i * T.k + off + k' ≤ (flat T.own xs).length by omega) (fun y hy => by rw [hbx, if_pos rfl]; exact boxAll hc y hy) (boxAll hc) (fun F Λ w tmps hs hf => ?_) ?_
  · have e1 := val_ok (ds := []) hf addr
    rw [ha] at e1
    exact e1.e_inv
  · rw [spl_in (flat T.own xs) (T.own v) ys (i * T.k) off (by rw [T.lenO]; exact hcut) (by rw [T.lenO]; exact hk) (by rw [T.lenO, hyl]; exact ho)]
    simpa [setRow, hr, Root.under, setSub] using hN
theorem TO_absorbS {α : Type} {T : Ty α} (s off l : Nat) {nn k i : Nat} {xs : List α} {v : α} {cs ys : List A} (hs : σ[s]? = some (.box (spl (flat T.own xs) (i * T.k) cs))) (hv : xs[i]? = some v) (hcl : cs.length = T.k) (hl : σ[l]? = some (.row ys)) (hx : cs[off]? = some (.m [l] 0 nn k)) (hne : s ≠ l) (hk : 0 < k) (hn : ys.length = nn * k) (hms : m ≤ s) (hml : m ≤ l)
    (hE : nmE (pre s (i * T.k + off)) E = false) (hb : nmS (pre s (i * T.k + off)) σ = false) (h : TO P n m ops os N E ((σ.set l .dead).set s (.box (spl (flat T.own xs) (i * T.k) (cs.set off (.o k ys)))))) : TO P n m ops os N E σ := by
  have hi := (List.getElem?_eq_some_iff.1 hv).1
  have hkk : i * T.k + cs.length ≤ (flat T.own xs).length := by rw [hcl, flat_len T.lenO, ← Nat.succ_mul]; exact Nat.mul_le_mul_right _ hi
  have ho : off < cs.length := (List.getElem?_eq_some_iff.1 hx).1
  refine TO_absorb s (i * T.k + off) l hs hl ?_ hne hk hn hms hml hE hb ?_
  · rw [spl_get _ _ _ _ hkk, if_pos (by omega), ← hx, Nat.add_sub_cancel_left]
  · unfold abS; rw [spl_set_at _ _ _ _ _ hkk, if_pos ho]; exact h
theorem TO_rowifyS {α : Type} {T : Ty α} (s : Nat) {i : Nat} {z : Int} {xs : List α} {v : α} {cs : List A} (y : α) (hz : z = (i : Int)) (hs : σ[s]? = some (.box (spl (flat T.own xs) (i * T.k) cs))) (hv : xs[i]? = some v) (hc : cs = T.own y) (hm : m ≤ s) (h : TO P n m ops os N E (σ.set s (.row (flat T.own (xs.set z.toNat y))))) : TO P n m ops os N E σ := by
  subst hz; rw [Int.toNat_natCast] at h
  have hi := (List.getElem?_eq_some_iff.1 hv).1
  have := spl_flat T.lenO xs i y hi
  rw [Nat.zero_add] at this
  rw [hc, this] at hs
  exact TO_rowify s hs (rowB_own (flat_ownR T _)) hm h
end
/-! ### make, of elements that own -/
def plainN : A → Bool
  | .o _ [] => true
  | .o _ _ => false
  | _ => true
theorem sub_plainN {ys xs : List A} {p} (h : ∀ x ∈ ys, plainN x = true) (hs : sub ys p = some xs) : (p = [] ∧ xs = ys) ∨ (∃ j, p = [j] ∧ xs = []) := by
  cases p with
  | nil => simp only [sub, Option.some.injEq] at hs; exact .inl ⟨rfl, hs.symm⟩
  | cons j p =>
    simp only [sub] at hs
    split at hs
    · rename_i k zs hj
      have := h _ (List.mem_of_getElem? hj)
      cases zs with
      | nil =>
        cases p with
        | nil => simp only [sub, Option.some.injEq] at hs; exact .inr ⟨j, rfl, hs.symm⟩
        | cons i p => simp [sub] at hs
      | cons z zs => simp [plainN] at this
    · cases hs
theorem St.pushN {m F Λ σ w} (hs : St F Λ σ w) (r : Root) (ys : List A) (hr : r.cells = some ys) (ccs : List Value) (t : TypeId) (hpl : ∀ x ∈ ys, plainN x = true)
    (hc : ∀ (j : Nat) x, ys[j]? = some x → ∃ c, ccs[j]? = some c ∧ ∀ L, Cell F Λ w (isB r) L c x) :
    St F (pushL Λ σ.length w.heap.size) (σ ++ [r]) (w.alloc (.cells ccs.toArray t)) ∧ Step m F Λ σ w F (pushL Λ σ.length w.heap.size) (σ ++ [r]) (w.alloc (.cells ccs.toArray t)) := by
  have hext := pushL_ext hs
  have hF : ∀ b, F b → F b ∧ (w.alloc (.cells ccs.toArray t)).heap[b]? = w.heap[b]? := fun b hb => ⟨hb, heap_alloc_old w _ (hs.old b hb)⟩
  have hsz := Sizes.alloc w (.cells ccs.toArray t)
  have hold : ∀ L : List Nat, L.headD 0 < σ.length → pushL Λ σ.length w.heap.size L = Λ L := fun L hL => by
    simp only [pushL]; rw [if_neg]; rintro rfl; simp at hL
  have hnone : ∀ j, pushL Λ σ.length w.heap.size [σ.length, j] = none := fun j => by
    simp only [pushL]; rw [if_neg (by simp)]; exact hs.lab _ (by simp)
  have hown : ∀ b, Own (pushL Λ σ.length w.heap.size) (σ ++ [r]) b → Own Λ σ b ∨ w.heap.size ≤ b := by
    rintro b ⟨L, xs, o, h1, h2⟩
    rcases rowAt_push h1 with ⟨h3, h4⟩ | ⟨p, zs, rfl, h3, h4⟩
    · rw [hold L h3] at h2
      exact .inl ⟨L, xs, o, h4, h2⟩
    · rw [hr] at h3; cases h3
      rcases sub_plainN hpl h4 with ⟨rfl, rfl⟩ | ⟨j, rfl, rfl⟩
      · simp [pushL] at h2
        exact .inr (by omega)
      · rw [hnone j] at h2; cases h2
  refine ⟨⟨?_, ?_, ?_, ?_⟩, ⟨rfl, rfl, rfl, by simp, hsz, fun b hb _ => heap_alloc_old w _ hb, fun _ h => h, fun _ h => .inl h, hown, by simp; omega, fun l xs hl hx => ?_, fun L b o _ h => hext L b o h⟩⟩
  · intro L xs h
    rcases rowAt_push h with ⟨h3, h4⟩ | ⟨p, zs, rfl, h3, h4⟩
    · rw [hold L h3]
      rcases hs.row L xs h4 with h5 | ⟨b, o, cs, t', h5, h6, h7, h8⟩
      · exact .inl h5
      · refine .inr ⟨b, o, cs, t', h5, h6, ?_, fun j x hx => ?_⟩
        · rw [heap_alloc_old w _ (Array.getElem?_eq_some_iff.1 h7).1]; exact h7
        · obtain ⟨c, h9, h10⟩ := h8 j x hx
          exact ⟨c, h9, by rw [isBox_push h3]; exact (h10.mono hF hsz).ext hext⟩
    · rw [hr] at h3; cases h3
      rcases sub_plainN hpl h4 with ⟨rfl, rfl⟩ | ⟨j, rfl, rfl⟩
      · refine .inr ⟨w.heap.size, 0, ccs.toArray, t, by simp [pushL], fun hb => absurd (hs.old _ hb) (by omega), heap_alloc_new w _, fun j x hx => ?_⟩
        obtain ⟨c, h5, h6⟩ := hc j x hx
        refine ⟨c, by simpa using h5, ?_⟩
        rw [isBox_new]
        exact ((h6 _).mono hF hsz).ext hext
      · exact .inl ⟨hnone j, rfl⟩
  · intro L xs L' xs' b o o' h1 h2 h3 h4
    have key : ∀ p zs us, r.cells = some zs → sub zs p = some us → ∀ b o, pushL Λ σ.length w.heap.size (σ.length :: p) = some (b, o) → p = [] ∧ w.heap.size ≤ b := fun p zs us g1 g2 b o g3 => by
      rw [hr] at g1; cases g1
      rcases sub_plainN hpl g2 with ⟨rfl, rfl⟩ | ⟨j, rfl, rfl⟩
      · simp [pushL] at g3; exact ⟨rfl, by omega⟩
      · rw [hnone j] at g3; cases g3
    rcases rowAt_push h1 with ⟨g1, g2⟩ | ⟨p, zs, rfl, g1, g2⟩ <;> rcases rowAt_push h2 with ⟨g3, g4⟩ | ⟨p', zs', rfl, g3, g4⟩
    · rw [hold L g1] at h3
      rw [hold L' g3] at h4
      exact hs.apart L xs L' xs' b o o' g2 g4 h3 h4
    · rw [hold L g1] at h3
      have h5 := key _ _ _ g3 g4 _ _ h4
      have := hs.owns ⟨L, xs, o, g2, h3⟩
      omega
    · rw [hold L' g3] at h4
      have h5 := key _ _ _ g1 g2 _ _ h3
      have := hs.owns ⟨L', xs', o', g4, h4⟩
      omega
    · rw [(key _ _ _ g1 g2 _ _ h3).1, (key _ _ _ g3 g4 _ _ h4).1]
  · intro b hb; have := hs.old b hb; simp; omega
  · intro L hL
    simp only [pushL]
    rw [if_neg (by rintro rfl; simp at hL; omega)]
    exact hs.lab L (by simp at hL; simp; omega)
  · have hl' : l < σ.length := (List.getElem?_eq_some_iff.1 hx).1
    exact ⟨by simp only [pushL]; rw [if_neg]; simp; omega, xs, by rw [List.getElem?_append_left hl']; exact hx⟩
/-- Cells that nobody has written, as an element that owns takes them. -/
def nilToL : List A → List A → Prop
  | [], [] => True
  | x :: xs, y :: ys => nilR x y ∧ nilToL xs ys
  | _, _ => False
where nilR (x y : A) : Prop := y = x ∨ (x = .n ∧ ∃ k, 0 < k ∧ (y = .o k [] ∨ y = .i k []))
theorem nilToL_get : ∀ {xs ys : List A}, nilToL xs ys → ∀ (j : Nat) y, ys[j]? = some y → ∃ x, xs[j]? = some x ∧ nilToL.nilR x y
  | [], [], _, j, y, h => by simp at h
  | x :: xs, y0 :: ys, hh, 0, y, h => by simp at h; subst h; exact ⟨x, rfl, hh.1⟩
  | x :: xs, y0 :: ys, hh, j + 1, y, h => by simpa using nilToL_get hh.2 j y (by simpa using h)
theorem nilS {x : A} : nilToL.nilR x x := .inl rfl
theorem nilO {α : Type} {T : Ty α} : nilToL.nilR .n (.o T.k (flat T.own [])) := .inr ⟨rfl, T.k, T.pos, .inl rfl⟩
theorem nilI {α : Type} {T : Ty α} : nilToL.nilR .n (.i T.k (flat T.enc [])) := .inr ⟨rfl, T.k, T.pos, .inr rfl⟩
theorem cell_nil {F Λ w bx c x y} (h : nilToL.nilR x y) (hx : ∀ L, Cell F Λ w bx L c x) (hp : x.plain = true) : ∀ L, Cell F Λ w bx L c y := by
  rcases h with rfl | ⟨rfl, k, hk, rfl | rfl⟩
  · exact hx
  · intro L
    have h1 : OK F Λ w c .n := (hx []).2
    obtain ⟨ad, rfl⟩ := h1.n_inv
    exact ⟨trivial, hk, 0, by simp, .inl ⟨rfl, ad, rfl⟩⟩
  · intro L
    have h1 : OK F Λ w c .n := (hx []).2
    exact ⟨by cases bx <;> rfl, h1.le leN⟩
section
variable {P : Program} {n m : Nat} {N : Env → Store → Prop} {E : Env} {σ : Store} {o : Oper}
theorem TOp_newN (r : Root) (ys : List A) (hr : r.cells = some ys) (t : TypeId) (hpl : ∀ x ∈ ys, plainN x = true) (rv : A) (hd : dstOK n o.dst = true)
    (h : ∀ F Λ w tmps, St F Λ σ w → FrOK F Λ w tmps E → ∃ (ccs : List Value) (v : Value), (∀ (j : Nat) x, ys[j]? = some x → ∃ c, ccs[j]? = some c ∧ ∀ L, Cell F Λ w (isB r) L c x) ∧
      (execOp (Act.eval ⟨tmps, []⟩) o).run P w = .ok (.value v) (w.alloc (.cells ccs.toArray t)) ∧ OK F (pushL Λ σ.length w.heap.size) (w.alloc (.cells ccs.toArray t)) v rv)
    (hN : N (put E o.dst rv) (σ ++ [r])) : TOp P n m o N E σ := fun F Λ w tmps K Q hn hs hf hk => by
  obtain ⟨ccs, v, hc, hrun, hv⟩ := h F Λ w tmps hs hf
  unfold Oper.wp
  rw [hrun, Oper.upon_value]
  obtain ⟨hs', hst⟩ := hs.pushN (m := m) r ys hr ccs t hpl hc
  obtain ⟨tmps', e, hn', hf'⟩ := (hf.push hs (.cells ccs.toArray t)).putO (ds := []) hn hd hv
  rw [e]
  exact hk F _ _ _ tmps' _ hn' hs' hf' hst hN
theorem TOp_makeN {α : Type} {T : Ty α} {f : α → List A} (hf : ∀ x, (f x).length = T.k) {t e by_ : Nat} {kl kc : IntKind} {x y : Operand} {zs : List Value} {z : α} {nz : Int} {us : List α} (hzT : nilToL (zs.map constA) (f z)) (hpf : (f z).all plainN = true) (hT : SlT P t e T.k) (hz : ZeroT P e zs) (hb : (P.info? e).map (·.bytes) = some by_) (h : o.op = .makeSlice t x y) (hd : dstOK n o.dst = true)
    (hx : val E x = .v (.int kl nz)) (hy : val E y = .v (.int kc nz)) (hm : mk by_ nz z = some us)
    (hN : N (put E o.dst (.m [σ.length] 0 us.length T.k)) (σ ++ [.row (flat f us)])) : TOp P n m o N E σ := by
  obtain ⟨nn, rfl, rfl, hsz, hmx⟩ := mk_inv hm
  have hzk : zs.length = T.k := by
    have : ∀ {xs ys : List A}, nilToL xs ys → xs.length = ys.length := fun {xs} => by
      induction xs with
      | nil => intro ys h; cases ys with | nil => rfl | cons => exact h.elim
      | cons x xs ih => intro ys h; cases ys with | nil => exact h.elim | cons y ys => simp [ih h.2]
    have := this hzT
    rw [hf] at this; simpa using this
  obtain ⟨⟨inf, zz, h1, h2, h3⟩, h4⟩ := hz
  have hb' : inf.bytes = by_ := by simpa [h1] using hb
  have hsize : inf.size = T.k := by obtain ⟨i2, g1, g2⟩ := hT.i; rw [h1] at g1; cases g1; exact g2
  have hmm : nn ≤ maxLen := by simp only [maxLen]; omega
  have hzc : zz.cells.size = T.k := by rw [← hzk, ← h3]; simp
  have hget : ∀ (j : Nat) x, (flat f (List.replicate nn z))[j]? = some x → j < nn * T.k ∧ (f z)[j % T.k]? = some x := fun j x hj => by
    have hlt : j < nn * T.k := by have := (List.getElem?_eq_some_iff.1 hj).1; rw [flat_len hf] at this; simpa using this
    have hm' : j % T.k < T.k := Nat.mod_lt _ T.pos
    have hq : j / T.k < nn := Nat.div_lt_of_lt_mul (by rw [Nat.mul_comm]; exact hlt)
    have e : j = j / T.k * T.k + j % T.k := by rw [Nat.mul_comm]; exact (Nat.div_add_mod j T.k).symm
    have hv : (List.replicate nn z)[j / T.k]? = some z := by simp [hq]
    have hy : (f z)[j % T.k]? = some ((f z)[j % T.k]'(by rw [hf]; exact hm')) := List.getElem?_eq_getElem _
    have := flat_at' hf hv hy
    rw [← e, hj] at this
    exact ⟨hlt, by rw [hy]; exact this.symm⟩
  refine TOp_newN (.row _) _ rfl e (fun y hy => ?_) _ hd (fun F Λ w tmps hs hf' => ?_) (by simpa using hN)
  · obtain ⟨j, hj⟩ := List.getElem?_of_mem hy
    have := (hget j y hj).2
    simp only [List.all_eq_true] at hpf
    exact hpf y (List.mem_of_getElem? this)
  · have e1 := val_ok (ds := []) hf' x
    have e2 := val_ok (ds := []) hf' y
    rw [hx] at e1
    rw [hy] at e2
    have e1 := e1.v_inv
    have e2 := e2.v_inv
    have hbb : (inf.bytes : Int) * (nn : Int) ≤ 281474976710656 := by
      have h9 : ((inf.bytes * nn : Nat) : Int) ≤ 281474976710656 := by rw [hb']; omega
      rwa [Int.natCast_mul] at h9
    have hr := run_make (P := P) w t e inf zz hT.u h1 h2 kl kc nn nn (by omega) (Int.le_refl _) hbb (by omega)
    simp only [Int.toNat_natCast] at hr
    refine ⟨(madeCells zz.cells (nn * inf.size)).toList, .slice (some ⟨w.heap.size, 0, none⟩) nn nn, fun j x hjx => ?_, ?_, ?_⟩
    · obtain ⟨hjl, hz0⟩ := hget j x hjx
      have hk0 := T.pos
      have hlt : j % T.k < zs.length := by rw [hzk]; exact Nat.mod_lt _ hk0
      obtain ⟨x0, g1, g2⟩ := nilToL_get hzT _ _ hz0
      rw [List.getElem?_map, List.getElem?_eq_getElem hlt] at g1
      simp only [Option.map_some, Option.some.injEq] at g1
      subst g1
      refine ⟨zs[j % T.k]!, ?_, cell_nil g2 (fun L => ?_) (constA_plain _)⟩
      · subst h3
        have hlt2 : j % T.k < zz.cells.size := by simpa using hlt
        have h10 : zz.cells.toList[j % T.k]! = zz.cells[j % T.k]! := by rw [getElem!_pos zz.cells.toList _ hlt, getElem!_pos zz.cells _ hlt2]; simp
        rw [h10, madeCells, hsize, hzc, Array.toList_map, List.getElem?_map, Array.toList_range, List.getElem?_range hjl]
        rfl
      · rw [getElem!_pos zs _ hlt]
        exact constA_cell (h4 _ (List.getElem_mem hlt))
    · simp only [execOp, h, e1, e2, Sem.run_bind]
      rw [hr]; simp
    · refine new_slice ?_ hmm
      simp [size_madeCells, hsize]
end
theorem nilL_nil : nilToL [] [] := trivial
theorem nilL_cons {x y : A} {xs ys : List A} (h : nilToL.nilR x y) (h' : nilToL xs ys) : nilToL (x :: xs) (y :: ys) := ⟨h, h'⟩
theorem namesL_append {p : List Nat → Bool} : ∀ {xs ys : List A}, namesL p (xs ++ ys) = (namesL p xs || namesL p ys)
  | [], ys => by simp [namesL]
  | x :: xs, ys => by simp [namesL, namesL_append (xs := xs), Bool.or_assoc]
theorem ownR_names {p : List Nat → Bool} {x : A} (h : ownR x = true) : x.names p = false := by
  cases x <;> first | rfl | simp [ownR] at h
theorem ownRL_names {p : List Nat → Bool} : ∀ {xs : List A}, ownRL xs = true → namesL p xs = false
  | [], _ => rfl
  | x :: xs, h => by
    simp only [ownRL, Bool.and_eq_true] at h
    simp only [namesL, ownR_names h.1, ownRL_names h.2, Bool.or_self]
theorem namesL_own {α : Type} {T : Ty α} {xs : List α} {p : List Nat → Bool} : namesL p (flat T.own xs) = false := ownRL_names (flat_ownR T xs)
theorem namesL_own1 {α : Type} {T : Ty α} {x : α} {p : List Nat → Bool} : namesL p (T.own x) = false := ownRL_names (T.ownR x)
theorem namesL_encs {α : Type} {T : Ty α} {xs : List α} {p : List Nat → Bool} : namesL p (flat T.enc xs) = false := looseL_names (flat_loose T xs) p
theorem namesL_set {p : List Nat → Bool} : ∀ {xs : List A} (d : Nat) {y : A}, namesL p xs = false → y.names p = false → namesL p (xs.set d y) = false
  | [], d, y, _, _ => rfl
  | x :: xs, 0, y, h, hy => by
    simp only [namesL, Bool.or_eq_false_iff] at h
    simp only [List.set, namesL, hy, h.2, Bool.or_self]
  | x :: xs, d + 1, y, h, hy => by
    simp only [namesL, Bool.or_eq_false_iff] at h
    simp only [List.set, namesL, h.1, namesL_set d h.2 hy, Bool.or_self]
theorem namesL_spl {p : List Nat → Bool} : ∀ {ys xs : List A} {d : Nat}, namesL p xs = false → namesL p ys = false → namesL p (spl xs d ys) = false
  | [], xs, d, h, _ => h
  | y :: ys, xs, d, h, hy => by
    simp only [namesL, Bool.or_eq_false_iff] at hy
    show namesL p (spl (xs.set d y) (d + 1) ys) = false
    exact namesL_spl (namesL_set d h hy.1) hy.2
theorem nms_nil {p : List Nat → Bool} : nmS p [] = false := rfl
theorem nms_row {p : List Nat → Bool} {xs σ} (h : nmS p σ = false) : nmS p (.row xs :: σ) = false := h
theorem nms_dead {p : List Nat → Bool} {σ} (h : nmS p σ = false) : nmS p (.dead :: σ) = false := h
theorem nms_box {p : List Nat → Bool} {xs σ} (h0 : namesL p xs = false) (h : nmS p σ = false) : nmS p (.box xs :: σ) = false := by simp only [nmS, h0, h, Bool.or_self]
theorem namesA {p : List Nat → Bool} {xs ys : List A} (h : namesL p xs = false) (h' : namesL p ys = false) : namesL p (xs ++ ys) = false := by rw [namesL_append, h, h']; rfl
theorem EnT.of {P : Program} {g : Nat} {fn : Func} {c : Code} (h : P.funcs[g]? = some fn) (hb : fn.body = some c) (hn : (fn.name == "runtime.NumGoroutine") = false) : EnT P g := fun args w => by
  have hn' : ¬ fn.name = "runtime.NumGoroutine" := by simpa using hn
  simp [callFunc, h, hb, hn']
end Go.Sep

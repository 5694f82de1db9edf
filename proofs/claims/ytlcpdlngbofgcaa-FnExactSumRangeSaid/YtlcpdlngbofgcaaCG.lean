/- What writes in place: stores into boxes and rows; make; slice literals. -/
import Derived.Test.YtlcpdlngbofgcaaCF
import Derived.Laws.CopyRow
set_option linter.unusedVariables false
set_option linter.unusedSimpArgs false
namespace Go.Sep
open Go

/-! ### a row under another list of cells -/
def setSub : List A → List Nat → List A → List A
  | _, [], ys => ys
  | xs, j :: p, ys => match xs[j]? with
    | some (.o k zs) => xs.set j (.o k (setSub zs p ys))
    | _ => xs
def Root.under (f : List A → List A) : Root → Root
  | .dead => .dead
  | .box xs => .box (f xs)
  | .row xs => .row (f xs)
def setRow (σ : Store) (L : List Nat) (ys : List A) : Store := match L with
  | [] => σ
  | l :: p => match σ[l]? with
    | some r => σ.set l (r.under fun xs => setSub xs p ys)
    | none => σ
@[simp] theorem under_cells (r : Root) (f : List A → List A) : (r.under f).cells = r.cells.map f := by cases r <;> rfl
theorem under_isB (r : Root) (f : List A → List A) : isB (r.under f) = isB r := by cases r <;> rfl

theorem setSub_len : ∀ (p : List Nat) (xs xs0 ys : List A), sub xs p = some xs0 → ys.length = xs0.length → (setSub xs p ys).length = xs.length
  | [], xs, xs0, ys, h, hl => by simp only [sub, Option.some.injEq] at h; subst h; simpa [setSub] using hl
  | j :: p, xs, xs0, ys, h, hl => by
    simp only [setSub]
    split <;> simp

/-- What lies where, behind the change. -/
theorem sub_setSub : ∀ (p : List Nat) (xs xs0 ys : List A), sub xs p = some xs0 → ys.length = xs0.length → (∀ (j : Nat) (x' : A), ys[j]? = some x' → xs0[j]? = some x' ∨ x'.plain = true) →
    ∀ q zs', sub (setSub xs p ys) q = some zs' → ∃ zs, sub xs q = some zs ∧ zs'.length = zs.length ∧ ∀ (j : Nat) (x' : A), zs'[j]? = some x' →
      (q = p ∧ ys[j]? = some x') ∨ (q ≠ p ∧ ∃ x, zs[j]? = some x ∧ (x' = x ∨ ∃ (k : Nat) (u u' : List A), x = .o k u ∧ x' = .o k u' ∧ u'.length = u.length))
  | [], xs, xs0, ys, h, hl, hp, q, zs', hq => by
    simp only [sub, Option.some.injEq] at h
    subst h
    simp only [setSub] at hq
    cases q with
    | nil =>
      simp only [sub, Option.some.injEq] at hq
      subst hq
      exact ⟨xs, rfl, hl, fun j x' hx => .inl ⟨rfl, hx⟩⟩
    | cons i q =>
      simp only [sub] at hq
      split at hq
      · rename_i k u hi
        rcases hp i _ hi with h1 | h1
        · refine ⟨zs', by simp only [sub, h1]; exact hq, rfl, fun j x' hx => .inr ⟨by simp, x', hx, .inl rfl⟩⟩
        · simp [A.plain] at h1
      · cases hq
  | i :: p, xs, xs0, ys, h, hl, hp, q, zs', hq => by
    simp only [sub] at h
    split at h
    case h_2 => cases h
    rename_i k zs0 hi
    simp only [setSub, hi] at hq
    have hil : i < xs.length := (List.getElem?_eq_some_iff.1 hi).1
    cases q with
    | nil =>
      simp only [sub, Option.some.injEq] at hq
      subst hq
      refine ⟨xs, rfl, by simp, fun j x' hx => .inr ⟨by simp, ?_⟩⟩
      rw [List.getElem?_set] at hx
      split at hx
      · rename_i e
        subst e
        simp [hil] at hx
        subst hx
        exact ⟨_, hi, .inr ⟨k, zs0, _, rfl, rfl, setSub_len p zs0 xs0 ys h hl⟩⟩
      · exact ⟨x', hx, .inl rfl⟩
    | cons j q =>
      simp only [sub] at hq
      by_cases e : i = j
      · subst e
        rw [List.getElem?_set] at hq
        simp only [if_true, hil] at hq
        obtain ⟨zs, h1, h2, h3⟩ := sub_setSub p zs0 xs0 ys h hl hp q zs' hq
        refine ⟨zs, by simp only [sub, hi]; exact h1, h2, fun j x' hx => ?_⟩
        rcases h3 j x' hx with ⟨h4, h5⟩ | ⟨h4, h5⟩
        · exact .inl ⟨by rw [h4], h5⟩
        · exact .inr ⟨by simpa using h4, h5⟩
      · rw [List.getElem?_set, if_neg e] at hq
        refine ⟨zs', by simp only [sub]; exact hq, rfl, fun j' x' hx => .inr ⟨by simp; intro h; exact absurd h.symm e, x', hx, .inl rfl⟩⟩

theorem rowAt_setRow {σ : Store} {L : List Nat} {xs ys : List A} (hr : rowAt σ L = some xs) (hl : ys.length = xs.length) (hp : ∀ (j : Nat) (x' : A), ys[j]? = some x' → xs[j]? = some x' ∨ x'.plain = true) {L' zs'} (h : rowAt (setRow σ L ys) L' = some zs') :
    ∃ zs, rowAt σ L' = some zs ∧ zs'.length = zs.length ∧ ∀ (j : Nat) (x' : A), zs'[j]? = some x' →
      (L' = L ∧ ys[j]? = some x') ∨ (L' ≠ L ∧ ∃ x, zs[j]? = some x ∧ (x' = x ∨ ∃ (k : Nat) (u u' : List A), x = .o k u ∧ x' = .o k u' ∧ u'.length = u.length)) := by
  cases L with
  | nil => simp [rowAt] at hr
  | cons l p =>
    simp only [rowAt] at hr
    split at hr
    case h_2 => cases hr
    rename_i r hlr
    split at hr
    case h_2 => cases hr
    rename_i ws hws
    simp only [setRow, hlr] at h
    have hll : l < σ.length := (List.getElem?_eq_some_iff.1 hlr).1
    cases L' with
    | nil => simp [rowAt] at h
    | cons l' q =>
      simp only [rowAt] at h
      by_cases e : l = l'
      · subst e
        rw [List.getElem?_set] at h
        simp only [if_true, hll, under_cells, hws, Option.map_some] at h
        obtain ⟨zs, h1, h2, h3⟩ := sub_setSub p ws xs ys hr hl hp q zs' h
        refine ⟨zs, by simp only [rowAt, hlr, hws]; exact h1, h2, fun j x' hx => ?_⟩
        rcases h3 j x' hx with ⟨h4, h5⟩ | ⟨h4, h5⟩
        · exact .inl ⟨by rw [h4], h5⟩
        · exact .inr ⟨by simpa using h4, h5⟩
      · rw [List.getElem?_set, if_neg e] at h
        refine ⟨zs', by simp only [rowAt]; exact h, rfl, fun j x' hx => .inr ⟨by simp; intro h; exact absurd h.symm e, x', hx, .inl rfl⟩⟩

theorem setRow_len (σ : Store) (L ys) : (setRow σ L ys).length = σ.length := by
  unfold setRow
  split
  · rfl
  · split <;> simp
theorem isBox_one (σ : Store) (l : Nat) : isBox σ [l] = ((σ[l]?).map isB).getD false := by
  simp only [isBox]
  cases σ[l]? with
  | none => rfl
  | some r => cases r <;> rfl
theorem isBox_setRow (σ : Store) (L ys L') : isBox (setRow σ L ys) L' = isBox σ L' := by
  match L' with
  | [] => rfl
  | [l'] =>
    rw [isBox_one, isBox_one]
    congr 1
    unfold setRow
    split
    · rfl
    · rename_i l p
      split
      · rename_i r hr
        rw [List.getElem?_set]
        split
        · rename_i e
          subst e
          have hll : l < σ.length := (List.getElem?_eq_some_iff.1 hr).1
          rw [if_pos hll, hr]
          simp [under_isB]
        · rfl
      · rfl
  | _ :: _ :: _ => rfl

theorem Cell.len {F Λ w bx L c k u u'} (h : Cell F Λ w bx L c (.o k u)) (hl : u'.length = u.length) : Cell F Λ w bx L c (.o k u') := by
  obtain ⟨h1, h2, n, h3, h4⟩ := h
  exact ⟨h1, h2, n, by rw [hl]; exact h3, h4⟩

theorem St.store {m F Λ σ w w'} (hs : St F Λ σ w) {L xs ys b o'} {cs cs' : Array Value} {t : TypeId} (hr : rowAt σ L = some xs) (hl : ys.length = xs.length) (hp : ∀ (j : Nat) (x' : A), ys[j]? = some x' → xs[j]? = some x' ∨ x'.plain = true)
    (hL : Λ L = some (b, o')) (hb : w.heap[b]? = some (.cells cs t (0, 0))) (hb' : w'.heap[b]? = some (.cells cs' t (0, 0))) (hsz : cs'.size = cs.size) (hoth : ∀ b', b' ≠ b → w'.heap[b']? = w.heap[b']?)
    (hsize : w'.heap.size = w.heap.size) (hos : w'.os = w.os) (htape : w'.tape = w.tape) (hout : w'.output = w.output)
    (hc : ∀ (j : Nat) x', ys[j]? = some x' → ∃ c, cs'[o' + j]? = some c ∧ Cell F Λ w (isBox σ L) (L ++ [j]) c x') :
    St F Λ (setRow σ L ys) w' ∧ Step m F Λ σ w F Λ (setRow σ L ys) w' := by
  have hO : ¬ F b := fun hf => hs.notOwn hf ⟨L, xs, o', hr, hL⟩
  have hF : ∀ b', F b' → F b' ∧ w'.heap[b']? = w.heap[b']? := fun b' hb' => ⟨hb', hoth b' fun e => hO (e ▸ hb')⟩
  have hS : Sizes w w' := fun b' cs1 t1 h1 => by
    by_cases e : b' = b
    · subst e; rw [hb] at h1; cases h1; exact ⟨cs', hb', hsz⟩
    · exact ⟨cs1, by rw [hoth b' e]; exact h1, rfl⟩
  have hown : ∀ b', Own Λ (setRow σ L ys) b' → Own Λ σ b' := by
    rintro b' ⟨L', zs', o2, h1, h2⟩
    obtain ⟨zs, h3, _⟩ := rowAt_setRow hr hl hp h1
    exact ⟨L', zs, o2, h3, h2⟩
  refine ⟨⟨fun L' zs' h1 => ?_, fun L1 x1 L2 x2 b1 o1 o2 h1 h2 h3 h4 => ?_, fun b' hb' => by rw [hsize]; exact hs.old b' hb', fun L' hL' => hs.lab L' (by rw [setRow_len] at hL'; exact hL')⟩, ?_⟩
  · obtain ⟨zs, h3, h4, h5⟩ := rowAt_setRow hr hl hp h1
    by_cases e : L' = L
    · subst e
      refine .inr ⟨b, o', cs', t, hL, hO, hb', fun j x' hx => ?_⟩
      rcases h5 j x' hx with ⟨_, h6⟩ | ⟨h6, _⟩
      · obtain ⟨c, h7, h8⟩ := hc j x' h6
        exact ⟨c, h7, by rw [isBox_setRow]; exact h8.mono hF hS⟩
      · exact absurd rfl h6
    · rcases hs.row L' zs h3 with ⟨h6, h7⟩ | ⟨b2, o2, cs2, t2, h6, h7, h8, h9⟩
      · refine .inl ⟨h6, ?_⟩
        subst h7
        exact List.eq_nil_of_length_eq_zero h4
      · have hne : b2 ≠ b := fun e2 => by
          subst e2
          exact e (hs.apart L' zs L xs b2 o2 o' h3 hr h6 hL)
        refine .inr ⟨b2, o2, cs2, t2, h6, h7, by rw [hoth b2 hne]; exact h8, fun j x' hx => ?_⟩
        rcases h5 j x' hx with ⟨h10, _⟩ | ⟨_, x, h10, h11⟩
        · exact absurd h10 e
        · obtain ⟨c, h12, h13⟩ := h9 j x h10
          refine ⟨c, h12, ?_⟩
          rw [isBox_setRow]
          rcases h11 with rfl | ⟨k, u, u', rfl, rfl, h14⟩
          · exact h13.mono hF hS
          · exact (h13.mono hF hS).len h14
  · obtain ⟨zs1, g1, _⟩ := rowAt_setRow hr hl hp h1
    obtain ⟨zs2, g2, _⟩ := rowAt_setRow hr hl hp h2
    exact hs.apart L1 zs1 L2 zs2 b1 o1 o2 g1 g2 h3 h4
  · exact { os := hos, tape := htape, output := hout, size := by omega, sizes := hS
            keep := fun b' _ hno => hoth b' fun e => hno (e ▸ ⟨L, xs, o', hr, hL⟩)
            mono := fun _ h => h, new := fun _ h => .inl h, own := fun b' h => .inl (hown b' h)
            len := by rw [setRow_len]; exact Nat.min_le_right _ _
            kept := fun _ _ _ _ h => h
            boxes := fun l zs _ hx => ⟨rfl, by
              have := isBox_setRow σ L ys [l]
              simp only [isBox, hx] at this
              split at this
              · rename_i zs' h; exact ⟨zs', h⟩
              · cases this⟩ }

/-! ### stores -/
/-- The cells from d on, under others. -/
def spl : List A → Nat → List A → List A
  | xs, _, [] => xs
  | xs, d, y :: ys => spl (xs.set d y) (d + 1) ys
theorem spl_len : ∀ (ys xs : List A) (d : Nat), (spl xs d ys).length = xs.length
  | [], xs, d => rfl
  | y :: ys, xs, d => by simp [spl, spl_len ys]
theorem spl_get : ∀ (ys xs : List A) (d j : Nat), d + ys.length ≤ xs.length → (spl xs d ys)[j]? = if d ≤ j ∧ j < d + ys.length then ys[j - d]? else xs[j]?
  | [], xs, d, j, h => by simp only [spl, List.length_nil]; rw [if_neg (by omega)]
  | y :: ys, xs, d, j, h => by
    simp only [List.length_cons] at h
    simp only [spl]
    rw [spl_get ys _ (d + 1) j (by simp; omega)]
    by_cases h1 : d + 1 ≤ j ∧ j < d + 1 + ys.length
    · rw [if_pos h1, if_pos (by simp; omega), show j - d = (j - (d + 1)) + 1 by omega]; simp
    · rw [if_neg h1, List.getElem?_set]
      by_cases e : d = j
      · subst e; rw [if_pos rfl, if_pos (by omega), if_pos (by simp)]; simp
      · rw [if_neg e, if_neg (by simp; omega)]

/-- A variable of type t is of k cells. -/
structure SzT (P : Program) (t k : Nat) : Prop where
  i : ∃ inf, P.info? t = some inf ∧ inf.size = k
theorem SzT.of {P : Program} {t k : Nat} (i : (P.info? t).map (·.size) = some k) : SzT P t k := ⟨by simpa using i⟩

section
variable {P : Program} {n m : Nat} {N : Env → Store → Prop} {E : Env} {σ : Store} {o : Oper}

theorem oneCell_sc {v : Value} (h : sc v = true) : v.oneCell' = true := by cases v <;> simp_all [sc, Value.oneCell']

theorem store_row {t : Nat} {addr x : Operand} {L : List Nat} {d k : Nat} {xs ys : List A} (hT : SzT P t k) (h : o.op = .store t addr x) (hdst : o.dst = none) (hr : rowAt σ L = some xs) (hv : cellsOf (val E x) = ys) (hk : ys.length = k) (hk0 : 0 < k) (hd : d + k ≤ xs.length)
    (hcell : ∀ y ∈ ys, (if isBox σ L then y.inBox else y.inCell) = true) (hbox : ∀ y ∈ ys, y.inBox = true)
    (ha : ∀ F Λ w tmps, St F Λ σ w → FrOK F Λ w tmps E → ∃ b o', Λ L = some (b, o') ∧ Act.eval ⟨tmps, []⟩ addr = .pointer (some ⟨b, o' + d, none⟩))
    (hN : N E (setRow σ L (spl xs d ys))) : TOp P n m o N E σ := fun F Λ w tmps K Q hn hs hf hq => by
  obtain ⟨b, o', hL, he⟩ := ha F Λ w tmps hs hf
  have hx := val_ok (ds := []) hf x
  have hcs := hx.cellsOf (by rw [hv]; exact hbox)
  rw [hv] at hcs
  obtain hrow | ⟨b2, o2, cs, ty, h1, h2, h3, h4⟩ := hs.row L xs hr
  · rw [hL] at hrow; cases hrow.1
  rw [hL] at h1; cases h1
  have hlen : (Act.eval ⟨tmps, []⟩ x).cells.toList.length = k := by
    cases hvx : val E x with
    | g zs =>
      rw [hvx] at hx hv
      obtain ⟨vs, h5, h6, _⟩ := hx.g_inv
      simp only [Sep.cellsOf] at hv
      rw [h5]; simp [Value.cells, h6, hv, hk]
    | _ =>
      rw [hvx] at hx hv
      simp only [Sep.cellsOf] at hv
      obtain ⟨h5, _⟩ := hx.cells1 (hbox _ (by rw [← hv]; simp))
      rw [h5, ← hk, ← hv]; simp
  have hfit : o' + d + k ≤ cs.size := by
    obtain ⟨y, hy⟩ : ∃ y, xs[d + k - 1]? = some y := ⟨_, List.getElem?_eq_getElem (by omega)⟩
    obtain ⟨c, h6, _⟩ := h4 _ y hy
    have := (Array.getElem?_eq_some_iff.1 h6).1
    omega
  generalize hvs : (Act.eval ⟨tmps, []⟩ x).cells.toList = vs at hcs hlen
  have hone : ∀ v ∈ vs, v.oneCell' = true := fun v hv' => by
    obtain ⟨j, hj, hjv⟩ := List.getElem_of_mem hv'
    obtain ⟨y, hy⟩ : ∃ y, ys[j]? = some y := ⟨_, List.getElem?_eq_getElem (by omega)⟩
    obtain ⟨c, h5, h6⟩ := hcs j y hy
    rw [List.getElem?_eq_getElem hj, hjv] at h5
    cases h5
    exact oneCell_sc (h6.cells1 (hbox y (List.mem_of_getElem? hy))).2
  have hst := run_storeCells_at P b (o' + d) ty vs 0 cs w h3 (by omega) hone
  have hrun : (execOp (Act.eval ⟨tmps, []⟩) o).run P w = .ok .skip (w.setRow b (cs.toList.take (o' + d + 0) ++ vs ++ cs.toList.drop (o' + d + 0 + vs.length)).toArray) := by
    simp only [execOp, h, he, Instr.storeAt, Instr.sureAddr, storeVar, Sem.run_bind, Sem.run_pure, Result.andThen_ok, run_sizeOf' hT.i]
    have hsz : (Act.eval ⟨tmps, []⟩ x).cells.size = k := by rw [← hlen, ← hvs]; simp
    simp only [hsz, ne_eq, not_true_eq_false, if_false, Sem.run_bind, Sem.run_pure, Result.andThen_ok, hvs, hst]
  unfold Oper.wp
  rw [hrun, Oper.upon_skip]
  generalize hcs' : (cs.toList.take (o' + d + 0) ++ vs ++ cs.toList.drop (o' + d + 0 + vs.length)).toArray = cs'
  have hcl : cs'.size = cs.size := by rw [← hcs']; simp; omega
  have hcget : ∀ j, cs'[j]? = if o' + d ≤ j ∧ j < o' + d + k then vs[j - (o' + d)]? else cs[j]? := fun j => by
    rw [← hcs']
    simp only [List.getElem?_toArray, Nat.add_zero]
    by_cases h1 : j < o' + d
    · rw [if_neg (by omega), List.append_assoc, List.getElem?_append_left (by simp; omega), List.getElem?_take_of_lt h1]
      simp
    · by_cases h2 : j < o' + d + k
      · rw [if_pos ⟨by omega, h2⟩, List.append_assoc, List.getElem?_append_right (by simp; omega), List.getElem?_append_left (by simp; omega)]
        congr 1; simp; omega
      · rw [if_neg (by omega), List.getElem?_append_right (by simp; omega), List.getElem?_drop]
        simp only [List.length_append, List.length_take, Array.length_toList]
        rw [show o' + d + vs.length + (j - (min (o' + d) cs.size + vs.length)) = j by omega]
        simp
  obtain ⟨hs', hst'⟩ := hs.store (m := m) (ys := spl xs d ys) (cs' := cs') hr (spl_len ..) (fun j x' hx' => by
      rw [spl_get ys xs d j (by omega)] at hx'
      split at hx'
      · exact .inr (inBox_plain (hbox x' (List.mem_of_getElem? hx')))
      · exact .inl hx') hL h3 (setRow_heap w b cs _ ty _ h3) hcl (fun b' hb' => setRow_other w b b' _ hb') (by simp) rfl rfl rfl (fun j x' hx' => by
      rw [spl_get ys xs d j (by omega)] at hx'
      rw [hcget]
      split at hx'
      · rename_i h5
        rw [if_pos (by omega)]
        obtain ⟨c, h6, h7⟩ := hcs _ x' hx'
        refine ⟨c, by rw [← h6]; congr 1; omega, ?_⟩
        have h8 := hcell x' (List.mem_of_getElem? hx')
        cases hbx : isBox σ L with
        | true => exact .ofBox (by simpa [hbx] using h8) h7
        | false => exact .ofCell (by simpa [hbx] using h8) h7
      · rename_i h5
        rw [if_neg (by omega)]
        exact h4 j x' hx')
  have hput : (Act.put ⟨tmps, []⟩ o.dst undef) = ⟨tmps, []⟩ := by rw [hdst]; rfl
  rw [hput]
  exact hq F Λ _ _ tmps E hn hs' (hf.mono (hst'.frozen hs) hst'.sizes) hst' hN

def boxAllB (ys : List A) : Bool := ys.all A.inBox
theorem boxAll {ys : List A} (h : boxAllB ys = true) : ∀ y ∈ ys, y.inBox = true := by simpa [boxAllB] using h
theorem inCell_inBox {x : A} (h : x.inCell = true) : x.inBox = true := by cases x <;> simp_all [A.inCell, A.inBox]
def cellAllB (ys : List A) : Bool := ys.all A.inCell
theorem cellAll {ys : List A} (h : cellAllB ys = true) : ∀ y ∈ ys, y.inCell = true := by simpa [cellAllB] using h

/-- A store into a box. -/
theorem TOp_storeB {t : Nat} {addr x : Operand} {l d k : Nat} {xs ys : List A} (hT : SzT P t k) (h : o.op = .store t addr x) (hdst : o.dst = none) (ha : val E addr = .b l d) (hr : rowAt σ [l] = some xs) (hbx : isBox σ [l] = true) (hv : cellsOf (val E x) = ys) (hk : ys.length = k) (hk0 : 0 < k) (hd : d + k ≤ xs.length)
    (hbox : boxAllB ys = true) (hN : N E (setRow σ [l] (spl xs d ys))) : TOp P n m o N E σ :=
  store_row hT h hdst hr hv hk hk0 hd (fun y hy => by rw [hbx, if_pos rfl]; exact boxAll hbox y hy) (boxAll hbox) (fun F Λ w tmps hs hf => by
    have e1 := val_ok (ds := []) hf addr
    rw [ha] at e1
    exact e1.b_inv) hN
/-- A store into a row. -/
theorem TOp_storeE {t : Nat} {addr x : Operand} {L : List Nat} {d k : Nat} {xs ys : List A} (hT : SzT P t k) (h : o.op = .store t addr x) (hdst : o.dst = none) (ha : val E addr = .e L d) (hr : rowAt σ L = some xs) (hv : cellsOf (val E x) = ys) (hk : ys.length = k) (hk0 : 0 < k) (hd : d + k ≤ xs.length)
    (hcell : cellAllB ys = true) (hN : N E (setRow σ L (spl xs d ys))) : TOp P n m o N E σ :=
  store_row hT h hdst hr hv hk hk0 hd (fun y hy => by
    have := cellAll hcell y hy
    split
    · exact inCell_inBox this
    · exact this) (fun y hy => inCell_inBox (cellAll hcell y hy)) (fun F Λ w tmps hs hf => by
    have e1 := val_ok (ds := []) hf addr
    rw [ha] at e1
    exact e1.e_inv) hN

/-! ### make, literals -/
theorem new_slice {F : Nat → Prop} {Λ : Lbl} {σ : Nat} {w : World} {cs : Array Value} {t : TypeId} {nn k : Nat} (hk : nn * k ≤ cs.size) (hm : nn ≤ maxLen) : OK F (pushL Λ σ w.heap.size) (w.alloc (.cells cs t)) (.slice (some ⟨w.heap.size, 0, none⟩) nn nn) (.m [σ] 0 nn k) :=
  .m (.inr ⟨w.heap.size, 0, nn, by simp [pushL], by simp, Nat.le_refl _, hm, cs, t, heap_alloc_new w _, by simpa using hk⟩)

theorem TOp_make {t e k kl kc : _} {x y : Operand} {nn : Nat} {zs : List Value} {by_ : Nat} (hT : SlT P t e k) (hz : ZeroT P e zs) (hzk : zs.length = k) (hb : (P.info? e).map (·.bytes) = some by_) (h : o.op = .makeSlice t x y) (hd : dstOK n o.dst = true)
    (hx : val E x = .v (.int kl (nn : Int))) (hy : val E y = .v (.int kc (nn : Int))) (hsz : by_ * nn ≤ 281474976710656) (hm : nn ≤ 1099511627776)
    (hN : N (put E o.dst (.m [σ.length] 0 nn k)) (σ ++ [.row ((List.range (nn * k)).map fun j => constA (zs[j % k]!))])) : TOp P n m o N E σ := by
  obtain ⟨⟨inf, z, h1, h2, h3⟩, h4⟩ := hz
  have hb' : inf.bytes = by_ := by simpa [h1] using hb
  have hsize : inf.size = k := by obtain ⟨i2, g1, g2⟩ := hT.i; rw [h1] at g1; cases g1; exact g2
  have hmm : nn ≤ maxLen := by simp only [maxLen]; omega
  have hzc : z.cells.size = k := by rw [← hzk, ← h3]; simp
  refine TOp_new (.row _) _ rfl e (fun y hy => ?_) _ hd (fun F Λ w tmps hs hf => ?_) hN
  · obtain ⟨c, _, rfl⟩ := List.mem_map.1 hy; exact constA_plain _
  · have e1 := val_ok (ds := []) hf x
    have e2 := val_ok (ds := []) hf y
    rw [hx] at e1
    rw [hy] at e2
    have e1 := e1.v_inv
    have e2 := e2.v_inv
    have hbb : (inf.bytes : Int) * (nn : Int) ≤ 281474976710656 := by
      have h9 : ((inf.bytes * nn : Nat) : Int) ≤ 281474976710656 := by rw [hb']; omega
      rwa [Int.natCast_mul] at h9
    have hr := run_make (P := P) w t e inf z hT.u h1 h2 kl kc nn nn (by omega) (Int.le_refl _) hbb (by omega)
    simp only [Int.toNat_natCast] at hr
    refine ⟨(madeCells z.cells (nn * inf.size)).toList, .slice (some ⟨w.heap.size, 0, none⟩) nn nn, fun j x hjx => ?_, ?_, ?_⟩
    · have hjl : j < nn * k := by
        have := (List.getElem?_eq_some_iff.1 hjx).1
        simpa using this
      rw [List.getElem?_map, List.getElem?_range hjl] at hjx
      simp only [Option.map_some, Option.some.injEq] at hjx
      subst hjx
      have hk0 := hT.pos
      have hlt : j % k < zs.length := by rw [hzk]; exact Nat.mod_lt _ hk0
      refine ⟨zs[j % k]!, ?_, constA_cell (h4 _ (by have := List.getElem_mem hlt; rwa [← getElem!_pos zs (j % k) hlt] at this))⟩
      subst h3
      have hlt2 : j % k < z.cells.size := by simpa using hlt
      have h10 : z.cells.toList[j % k]! = z.cells[j % k]! := by rw [getElem!_pos z.cells.toList _ hlt, getElem!_pos z.cells _ hlt2]; simp
      rw [h10, madeCells, hsize, hzc, Array.toList_map, List.getElem?_map, Array.toList_range, List.getElem?_range hjl]
      rfl
    · simp only [execOp, h, e1, e2, Sem.run_bind]
      rw [hr]; simp
    · refine new_slice ?_ hmm
      simp [size_madeCells, hsize]
end
end Go.Sep

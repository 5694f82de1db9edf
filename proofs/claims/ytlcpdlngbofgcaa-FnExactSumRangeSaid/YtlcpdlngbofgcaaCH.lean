/- What is owned, seen as what nobody writes: for results that are handed back so, and for calls that only look. -/
import Derived.Test.YtlcpdlngbofgcaaCG
set_option linter.unusedVariables false
set_option linter.unusedSimpArgs false
namespace Go.Sep
open Go

mutual
/-- Owned rows as slices that nobody writes. -/
def fz : A → A
  | .o k xs => .i k (fzL xs)
  | .v x => .v x
  | .n => .n
  | .i k xs => .i k xs
  | .q xs d => .q xs d
  | .f f xs => .f f xs
  | .g xs => .g xs
  | .t xs => .t xs
  | .j => .j
  | .m L a n k => .m L a n k
  | .e L a => .e L a
  | .b l a => .b l a
def fzL : List A → List A
  | [] => []
  | x :: xs => fz x :: fzL xs
end
mutual
/-- Nothing in it is unknown, and nothing names a root. -/
def firm : A → Bool
  | .v _ => true
  | .n => true
  | .i _ _ => true
  | .q _ _ => true
  | .g xs => firmL xs
  | .t xs => firmL xs
  | .f _ xs => firmL xs
  | .o k xs => decide (0 < k) && firmL xs
  | .j => false
  | .m _ _ _ _ => false
  | .e _ _ => false
  | .b _ _ => false
def firmL : List A → Bool
  | [] => true
  | x :: xs => firm x && firmL xs
end
theorem firmL_mem {xs : List A} (h : firmL xs = true) : ∀ x ∈ xs, firm x = true := by
  induction xs with
  | nil => simp
  | cons y ys ih =>
    simp only [firmL, Bool.and_eq_true] at h
    intro x hx
    rcases List.mem_cons.1 hx with rfl | hx
    · exact h.1
    · exact ih h.2 x hx
theorem firmL_of {xs : List A} (h : ∀ x ∈ xs, firm x = true) : firmL xs = true := by
  induction xs with
  | nil => rfl
  | cons y ys ih =>
    simp only [firmL, Bool.and_eq_true]
    exact ⟨h y (List.mem_cons_self ..), ih fun x hx => h x (List.mem_cons_of_mem _ hx)⟩
theorem fzL_get : ∀ (xs : List A) (j : Nat), (fzL xs)[j]? = (xs[j]?).map fz
  | [], j => by simp [fzL]
  | x :: xs, 0 => by simp [fzL]
  | x :: xs, j + 1 => by simp [fzL, fzL_get xs j]
theorem fzL_len : ∀ xs : List A, (fzL xs).length = xs.length
  | [] => rfl
  | x :: xs => by simp [fzL, fzL_len xs]
theorem fzL_map (xs : List A) : fzL xs = xs.map fz := by
  induction xs with
  | nil => rfl
  | cons x xs ih => simp [fzL, ih]

theorem OK.imm_of {F Λ w v x} (h : OK F Λ w v x) (hf : firm x = true) : Imm F w v x := by
  induction h with
  | imm h => exact h
  | j v => simp [firm] at hf
  | m => simp [firm] at hf
  | e => simp [firm] at hf
  | b => simp [firm] at hf
  | g vs xs hl _ ih => simp only [firm] at hf; exact .g vs xs hl fun j x y hx hy => ih j x y hx hy (firmL_mem hf x (List.mem_of_getElem? hx))
  | t vs xs hl _ ih => simp only [firm] at hf; exact .t vs xs hl fun j x y hx hy => ih j x y hx hy (firmL_mem hf x (List.mem_of_getElem? hx))
  | f fn vs xs hl _ ih => simp only [firm] at hf; exact .f fn vs xs hl fun j x y hx hy => ih j x y hx hy (firmL_mem hf x (List.mem_of_getElem? hx))
theorem firm_fz {x : A} (h : firm x = true) : (match x with | .o _ _ => true | _ => decide True) = true := by cases x <;> rfl

theorem sub_snoc : ∀ (p : List Nat) (xs ys zs : List A) (j k : Nat), sub xs p = some ys → ys[j]? = some (.o k zs) → sub xs (p ++ [j]) = some zs
  | [], xs, ys, zs, j, k, h, hj => by simp only [sub, Option.some.injEq] at h; subst h; simp [sub, hj]
  | i :: p, xs, ys, zs, j, k, h, hj => by
    simp only [sub] at h
    split at h
    · rename_i k' us hi
      simp only [List.cons_append, sub, hi]
      exact sub_snoc p us ys zs j k h hj
    · cases h
theorem rowAt_cons (σ : Store) (l : Nat) (p : List Nat) : rowAt σ (l :: p) = ((σ[l]?).bind Root.cells).bind fun xs => sub xs p := by
  simp only [rowAt]
  cases σ[l]? with
  | none => rfl
  | some r =>
    show (match r.cells with | some xs => sub xs p | none => none) = _
    simp only [Option.bind_some]
    cases r.cells <;> rfl
theorem rowAt_snoc {σ : Store} {L xs j k zs} (h : rowAt σ L = some xs) (hj : xs[j]? = some (.o k zs)) : rowAt σ (L ++ [j]) = some zs := by
  cases L with
  | nil => simp [rowAt] at h
  | cons l p =>
    rw [List.cons_append, rowAt_cons] at *
    cases hr : (σ[l]?).bind Root.cells with
    | none => rw [hr] at h; cases h
    | some ws =>
      rw [hr] at h
      exact sub_snoc p ws xs zs j k h hj

/-- The blocks that stay, and those that are owned. -/
def FO (F : Nat → Prop) (Λ : Lbl) (σ : Store) (b : Nat) : Prop := F b ∨ Own Λ σ b

theorem cell_imm {F Λ σ w} (hs : St F Λ σ w) : ∀ (N : Nat) (x : A), SizeOf.sizeOf x < N → ∀ L j bx c xs, rowAt σ L = some xs → xs[j]? = some x → firm x = true → Cell F Λ w bx (L ++ [j]) c x → Imm (FO F Λ σ) w c (fz x) := by
  intro N
  have hF : ∀ b, F b → FO F Λ σ b ∧ w.heap[b]? = w.heap[b]? := fun b hb => ⟨.inl hb, rfl⟩
  induction N with
  | zero => intro x hx; exact absurd hx (Nat.not_lt_zero _)
  | succ N ih =>
    intro x hx L j bx c xs hr hj hf hc
    cases x with
    | o k ys =>
      obtain ⟨_, hk, n, hn, hsl⟩ := hc
      have hr' := rowAt_snoc hr hj
      simp only [firm, Bool.and_eq_true] at hf
      show Imm (FO F Λ σ) w c (.i k (fzL ys))
      rcases hsl with ⟨rfl, ad, rfl⟩ | ⟨b, o', cap, hL, rfl, hle, hm, cs, t, hb, hcap⟩
      · have : ys = [] := List.eq_nil_of_length_eq_zero (by omega)
        subst this
        exact .i0 ad 0 k
      · rcases Nat.eq_zero_or_pos n with h0 | h0
        · subst h0
          have : ys = [] := List.eq_nil_of_length_eq_zero (by omega)
          subst this
          exact .i0 _ cap k
        · obtain hrow | ⟨b2, o2, cs2, t2, g1, g2, g3, g4⟩ := hs.row _ ys hr'
          · rw [hL] at hrow; cases hrow.1
          rw [hL] at g1; cases g1
          refine .i b (o' + 0) n cap k (fun j => (cs2[o' + j]?).getD undef) (fzL ys) (.inr ⟨_, ys, o', hr', hL⟩) h0 hle (Nat.le_trans hle hm) (by rw [fzL_len]; exact hn) (fun i y hy => ?_) (fun i y hy => ?_)
          · rw [fzL_get] at hy
            cases hi : ys[i]? with
            | none => simp [hi] at hy
            | some u =>
              obtain ⟨c', g5, _⟩ := g4 i u hi
              simp [World.cell?, g3, g5]
          · rw [fzL_get] at hy
            cases hi : ys[i]? with
            | none => simp [hi] at hy
            | some u =>
              simp [hi] at hy
              subst hy
              obtain ⟨c', g5, g6⟩ := g4 i u hi
              simp only [g5, Option.getD_some]
              have hsz : SizeOf.sizeOf u < SizeOf.sizeOf ys := List.sizeOf_lt_of_mem (List.mem_of_getElem? hi)
              exact ih u (by simp at hx; omega) _ i _ c' ys hr' hi (firmL_mem hf.2 u (List.mem_of_getElem? hi)) g6
    | j => simp [firm] at hf
    | _ => exact (hc.2.imm_of hf).mono hF

mutual
/-- A value, with what it owns seen as what nobody writes. -/
def fzR (σ : Store) : A → A
  | .m L a n k => .i k (fzL ((((rowAt σ L).getD []).drop a).take (n * k)))
  | .e L a => .q (fzL ((rowAt σ L).getD [])) a
  | .b l a => .q (fzL ((rowAt σ [l]).getD [])) a
  | .g xs => .g (fzRL σ xs)
  | .t xs => .t (fzRL σ xs)
  | .f f xs => .f f (fzRL σ xs)
  | .o k xs => .o k xs
  | .v x => .v x
  | .n => .n
  | .i k xs => .i k xs
  | .q xs d => .q xs d
  | .j => .j
def fzRL (σ : Store) : List A → List A
  | [] => []
  | x :: xs => fzR σ x :: fzRL σ xs
end
mutual
def frzOK (σ : Store) : A → Prop
  | .m L a n k => 0 < k ∧ ∃ xs, rowAt σ L = some xs ∧ a + n * k ≤ xs.length ∧ firmL ((xs.drop a).take (n * k)) = true
  | .e L a => ∃ xs, rowAt σ L = some xs ∧ firmL xs = true
  | .b l a => ∃ xs, rowAt σ [l] = some xs ∧ firmL xs = true
  | .g xs => frzOKL σ xs
  | .t xs => frzOKL σ xs
  | .f _ xs => frzOKL σ xs
  | .o _ _ => False
  | .v _ => True
  | .n => True
  | .i _ _ => True
  | .q _ _ => True
  | .j => True
def frzOKL (σ : Store) : List A → Prop
  | [] => True
  | x :: xs => frzOK σ x ∧ frzOKL σ xs
end
theorem frzOKL_mem {σ : Store} {xs : List A} (h : frzOKL σ xs) : ∀ x ∈ xs, frzOK σ x := by
  induction xs with
  | nil => simp
  | cons y ys ih =>
    intro x hx
    rcases List.mem_cons.1 hx with rfl | hx
    · exact h.1
    · exact ih h.2 x hx
theorem fzRL_get (σ : Store) : ∀ (xs : List A) (j : Nat), (fzRL σ xs)[j]? = (xs[j]?).map (fzR σ)
  | [], j => by simp [fzRL]
  | x :: xs, 0 => by simp [fzRL]
  | x :: xs, j + 1 => by simp [fzRL, fzRL_get σ xs j]
theorem fzRL_len (σ : Store) : ∀ xs : List A, (fzRL σ xs).length = xs.length
  | [] => rfl
  | x :: xs => by simp [fzRL, fzRL_len σ xs]
theorem fzR_loose {F w v} {σ : Store} {x : A} (h : Imm F w v x) : fzR σ x = x := by
  induction h with
  | g vs xs hl _ ih =>
    simp only [fzR]; congr 1
    apply List.ext_getElem?
    intro j
    rw [fzRL_get]
    cases hj : xs[j]? with
    | none => rfl
    | some x =>
      have : j < vs.length := by have := (List.getElem?_eq_some_iff.1 hj).1; omega
      simp [ih j x _ hj (List.getElem?_eq_getElem this)]
  | t vs xs hl _ ih =>
    simp only [fzR]; congr 1
    apply List.ext_getElem?
    intro j
    rw [fzRL_get]
    cases hj : xs[j]? with
    | none => rfl
    | some x =>
      have : j < vs.length := by have := (List.getElem?_eq_some_iff.1 hj).1; omega
      simp [ih j x _ hj (List.getElem?_eq_getElem this)]
  | f fn vs xs hl _ ih =>
    simp only [fzR]; congr 1
    apply List.ext_getElem?
    intro j
    rw [fzRL_get]
    cases hj : xs[j]? with
    | none => rfl
    | some x =>
      have : j < vs.length := by have := (List.getElem?_eq_some_iff.1 hj).1; omega
      simp [ih j x _ hj (List.getElem?_eq_getElem this)]
  | _ => rfl

/-- Under labels of nothing, with all that was owned among what stays. -/
theorem OK.frz {F Λ σ w v x} (hs : St F Λ σ w) (h : OK F Λ w v x) (hf : frzOK σ x) : OK (FO F Λ σ) (fun _ => none) w v (fzR σ x) := by
  have hF : ∀ b, F b → FO F Λ σ b ∧ w.heap[b]? = w.heap[b]? := fun b hb => ⟨.inl hb, rfl⟩
  have row : ∀ L xs b o' , rowAt σ L = some xs → Λ L = some (b, o') → ∀ (j : Nat) y, xs[j]? = some y → firm y = true → ∃ c, w.cell? ⟨b, o' + j, none⟩ = some c ∧ Imm (FO F Λ σ) w c (fz y) := fun L xs b o' hr hL j y hy hfy => by
    obtain ⟨c, h1, h2⟩ := hs.cellAt hr hL hy
    exact ⟨c, h1, cell_imm hs _ y (Nat.lt_succ_self _) L j _ c xs hr hy hfy h2⟩
  have ptr : ∀ L xs b o' a, rowAt σ L = some xs → Λ L = some (b, o') → firmL xs = true → Imm (FO F Λ σ) w (.pointer (some ⟨b, o' + a, none⟩)) (.q (fzL xs) a) := fun L xs b o' a hr hL hfx => by
    refine .q b o' a (fun j => (w.cell? ⟨b, o' + j, none⟩).getD undef) (fzL xs) (.inr ⟨L, xs, o', hr, hL⟩) (fun i y hy => ?_) (fun i y hy => ?_)
    all_goals
      rw [fzL_get] at hy
      cases hi : xs[i]? with
      | none => simp [hi] at hy
      | some u =>
        simp [hi] at hy
        subst hy
        obtain ⟨c, h1, h2⟩ := row L xs b o' hr hL i u hi (firmL_mem hfx u (List.mem_of_getElem? hi))
        simp only [h1, Option.getD_some]
        first | done | rfl | exact h2
  induction h with
  | imm h => rw [fzR_loose h]; exact .imm (h.mono hF)
  | j v => exact .j v
  | @m v L a n k hsl =>
    obtain ⟨hk, xs, hr, hl, hfx⟩ := hf
    simp only [fzR, hr, Option.getD_some]
    refine .imm ?_
    have hlen : ((xs.drop a).take (n * k)).length = n * k := by simp; omega
    rcases hsl with ⟨rfl, ad, rfl⟩ | ⟨b, o', cap, hL, rfl, hle, hm, cs, t, hb, hcap⟩
    · simp only [Nat.zero_mul, List.take_zero, fzL]; exact .i0 ad 0 k
    · rcases Nat.eq_zero_or_pos n with h0 | h0
      · subst h0
        simp only [Nat.zero_mul, List.take_zero, fzL]; exact .i0 _ cap k
      · have key : ∀ (i : Nat) y, ((xs.drop a).take (n * k))[i]? = some y → xs[a + i]? = some y := fun i y hi => by
          have hil : i < n * k := by have := (List.getElem?_eq_some_iff.1 hi).1; omega
          rwa [List.getElem?_take_of_lt hil, List.getElem?_drop] at hi
        refine .i b (o' + a) n cap k (fun j => (w.cell? ⟨b, o' + a + j, none⟩).getD undef) _ (.inr ⟨L, xs, o', hr, hL⟩) h0 hle (Nat.le_trans hle hm) (by rw [fzL_len]; exact hlen) (fun i y hy => ?_) (fun i y hy => ?_)
        all_goals
          rw [fzL_get] at hy
          cases hi : ((xs.drop a).take (n * k))[i]? with
          | none => simp [hi] at hy
          | some u =>
            simp [hi] at hy
            subst hy
            obtain ⟨c, h1, h2⟩ := row L xs b o' hr hL (a + i) u (key i u hi) (firmL_mem hfx u (List.mem_of_getElem? hi))
            rw [← Nat.add_assoc] at h1
            simp only [h1, Option.getD_some]
            first | done | rfl | exact h2
  | @e L a b o' hL =>
    obtain ⟨xs, hr, hfx⟩ := hf
    simp only [fzR, hr, Option.getD_some]
    exact .imm (ptr L xs b o' a hr hL hfx)
  | @b l a b o' hL =>
    obtain ⟨xs, hr, hfx⟩ := hf
    simp only [fzR, hr, Option.getD_some]
    exact .imm (ptr [l] xs b o' a hr hL hfx)
  | g vs xs hl _ ih =>
    simp only [frzOK] at hf
    simp only [fzR]
    refine .g vs _ (by rw [fzRL_len]; exact hl) fun j x y hx hy => ?_
    rw [fzRL_get] at hx
    cases hj : xs[j]? with
    | none => simp [hj] at hx
    | some u => simp [hj] at hx; subst hx; exact ih j u y hj hy (frzOKL_mem hf u (List.mem_of_getElem? hj))
  | t vs xs hl _ ih =>
    simp only [frzOK] at hf
    simp only [fzR]
    refine .t vs _ (by rw [fzRL_len]; exact hl) fun j x y hx hy => ?_
    rw [fzRL_get] at hx
    cases hj : xs[j]? with
    | none => simp [hj] at hx
    | some u => simp [hj] at hx; subst hx; exact ih j u y hj hy (frzOKL_mem hf u (List.mem_of_getElem? hj))
  | f fn vs xs hl _ ih =>
    simp only [frzOK] at hf
    simp only [fzR]
    refine .f fn vs _ (by rw [fzRL_len]; exact hl) fun j x y hx hy => ?_
    rw [fzRL_get] at hx
    cases hj : xs[j]? with
    | none => simp [hj] at hx
    | some u => simp [hj] at hx; subst hx; exact ih j u y hj hy (frzOKL_mem hf u (List.mem_of_getElem? hj))

theorem St.frz {F Λ σ w} (hs : St F Λ σ w) : St (FO F Λ σ) (fun _ => none) [] w :=
  ⟨fun L xs h => by cases L <;> simp [rowAt] at h, fun L xs _ _ _ _ _ h => by cases L <;> simp [rowAt] at h, fun b hb => hb.elim (hs.old b) hs.owns, fun _ _ => rfl⟩

/-- What a function hands back of its own, taken as what nobody writes. -/
theorem Fn.frz {P : Program} {f : Nat} {as : List A} {Q : A → Store → Prop} {r' : A} (h : Fn P f as [] Q) (hq : ∀ r σ, Q r σ → frzOK σ r ∧ fzR σ r = r') : FnV P f as r' := fun F Λ w vs R hs ha hR => by
  refine h F Λ w vs R hs ha fun F1 Λ1 σ1 w1 v r hs1 hst hv hqr => ?_
  obtain ⟨h1, h2⟩ := hq r σ1 hqr
  have h3 := hv.frz hs1 h1
  rw [h2] at h3
  refine hR (FO F1 Λ1 σ1) (fun _ => none) [] w1 v r' hs1.frz ?_ h3 ⟨rfl, rfl⟩
  have hne : ∀ b, Own Λ1 σ1 b → w.heap.size ≤ b := fun b hb => (hst.own b hb).elim (fun ho => ho.empty.elim) id
  exact { os := hst.os, tape := hst.tape, output := hst.output, size := hst.size, sizes := hst.sizes, keep := hst.keep
          mono := fun b hb => .inl (hst.mono b hb)
          new := fun b hb => hb.elim (hst.new b) fun ho => .inr (.inr (hne b ho))
          own := fun b hb => hb.empty.elim, len := Nat.zero_le _, boxes := fun l xs hl _ => by simp at hl
          kept := fun L b o hL _ => by simp at hL }

section
variable {P : Program} {n m : Nat} {N : Env → Store → Prop} {E : Env} {σ : Store} {o : Oper} {ops : Array Oper} {os : List Oper}
/-- A call that only looks at what the caller owns, and hands back a plain value. -/
theorem TOp_callB {g : Nat} {as as' : List A} {x : Value} (hc : CallOp P o E g as) (hf : frzOKL σ as) (has : fzRL σ as = as') (hF : FnV P g as' (.v x)) (hd : dstOK n o.dst = true) (hN : N (put E o.dst (.v x)) σ) : TOp P n m o N E σ := fun F Λ w tmps K Qx hn hs hfr hk => by
  obtain ⟨vs, ⟨hvl, hvs⟩, hrun⟩ := hc F Λ w tmps hfr
  unfold Oper.wp
  rw [hrun w, Oper.upon_enter]
  subst has
  refine hF (FO F Λ σ) (fun _ => none) w vs _ hs.frz ⟨by rw [fzRL_len]; exact hvl, fun j a y hx hy => ?_⟩ fun F1 Λ1 σ1 w1 v r hs1 hst hv hq => ?_
  · rw [fzRL_get] at hx
    cases hj : as[j]? with
    | none => simp [hj] at hx
    | some u => simp [hj] at hx; subst hx; exact (hvs j u y hj hy).frz hs (frzOKL_mem hf u (List.mem_of_getElem? hj))
  · obtain ⟨rfl, rfl⟩ := hq
    have := hv.v_inv
    subst this
    have hkeep : ∀ b, b < w.heap.size → w1.heap[b]? = w.heap[b]? := fun b hb => hst.keep b hb fun ho => ho.empty
    have hst' : Step m F Λ σ w F Λ σ w1 :=
      { os := hst.os, tape := hst.tape, output := hst.output, size := hst.size, sizes := hst.sizes, keep := fun b hb _ => hkeep b hb, mono := fun _ h => h
        new := fun b hb => .inl hb, own := fun b hb => .inl hb, len := Nat.min_le_right _ _, boxes := fun l xs _ hx => ⟨rfl, xs, hx⟩, kept := fun _ _ _ _ h => h }
    have hs' : St F Λ σ w1 := ⟨fun L xs hr => by
      rcases hs.row L xs hr with h5 | ⟨b, o, cs, t', h5, h6, h7, h8⟩
      · exact .inl h5
      · have hlt : b < w.heap.size := (Array.getElem?_eq_some_iff.1 h7).1
        refine .inr ⟨b, o, cs, t', h5, h6, by rw [hkeep b hlt]; exact h7, fun j x hx => ?_⟩
        obtain ⟨c, h9, h10⟩ := h8 j x hx
        exact ⟨c, h9, h10.mono (fun b hb => ⟨hb, hkeep b (hs.old b hb)⟩) hst.sizes⟩, hs.apart, fun b hb => Nat.lt_of_lt_of_le (hs.old b hb) hst.size, hs.lab⟩
    obtain ⟨tmps', e, hn2, hf2⟩ := (hfr.mono (hst'.frozen hs) hst.sizes).putO (ds := []) hn hd (.imm (.v v))
    show K (Act.put ⟨tmps, []⟩ o.dst v) w1
    rw [e]
    exact hk F Λ σ w1 tmps' _ hn2 hs' hf2 hst' hN
end
end Go.Sep

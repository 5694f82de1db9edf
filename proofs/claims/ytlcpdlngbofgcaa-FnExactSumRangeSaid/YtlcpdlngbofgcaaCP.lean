/- One root out of several; calls that look at the caller's rows and hand back rows of their own. -/
import Derived.Test.YtlcpdlngbofgcaaCO
set_option linter.unusedVariables false
set_option linter.unusedSimpArgs false
namespace Go.Sep
open Go
theorem Own.one {F Λ σ w} (hs : St F Λ σ w) {l : Nat} {xs : List A} (hr : σ[l]? = some (.row xs)) {b} (h : Own (downL Λ l) [.row xs] b) : Own Λ σ b := by
  obtain ⟨p, zs, o, h1, h2⟩ := Own.down hr h
  exact ⟨_, _, _, h1, h2⟩
/-- Of what a function hands back only root l is kept. -/
theorem Fn.pick {P : Program} {f : Nat} {as : List A} {Q : A → Store → Prop} {r' : A} {xs : List A} (l : Nat) (h : Fn P f as [] Q) (hq : ∀ r σ, Q r σ → σ[l]? = some (.row xs) ∧ r.names (offL l) = false ∧ r.ren (fun _ => 0) = r') :
    Fn P f as [] fun r σ => r = r' ∧ σ = [.row xs] := fun F Λ w vs R hs ha hR => by
  refine h F Λ w vs R hs ha fun F1 Λ1 σ1 w1 v r hs1 hst hv hqr => ?_
  obtain ⟨h1, h2, h3⟩ := hq r σ1 hqr
  refine hR F1 (downL Λ1 l) [.row xs] w1 v r' (hs1.down h1) ?_ ?_ ⟨rfl, rfl⟩
  · exact { os := hst.os, tape := hst.tape, output := hst.output, size := hst.size, sizes := hst.sizes, keep := hst.keep, mono := hst.mono, new := hst.new
            own := fun b hb => hst.own b (Own.one hs1 h1 hb), len := Nat.zero_le _, boxes := fun l xs hl _ => by simp at hl, kept := fun L b o hL _ => by simp at hL }
  · rw [← h3]
    refine hv.ren (offL l) _ (fun L b o hp hL => ?_) h2
    cases L with
    | nil => simp [offL] at hp
    | cons h p => simp [offL] at hp; subst hp; simpa [rh, downL] using hL

/-- Cells that lead nowhere but to rows of their own. -/
def OwnC (σ : Store) : Prop := ∀ L xs x, rowAt σ L = some xs → x ∈ xs → (∃ v, x = .v v) ∨ x = .n ∨ ∃ k ys, x = .o k ys
theorem ownC_ints (xs : List Int) : OwnC [.row (ints xs)] := fun L ys x h hx => by
  obtain ⟨p, rfl, h⟩ := rowAt_one h
  cases p with
  | nil =>
    simp only [rowAt, List.getElem?_cons_zero, Root.cells, sub, Option.some.injEq] at h
    subst h
    obtain ⟨z, _, rfl⟩ := List.mem_map.1 hx
    exact .inl ⟨_, rfl⟩
  | cons j p =>
    simp only [rowAt, List.getElem?_cons_zero, Root.cells, sub] at h
    split at h
    · rename_i k zs hj
      obtain ⟨z, _, e⟩ := List.mem_map.1 (List.mem_of_getElem? hj)
      cases e
    · cases h
theorem St.joinB {F Λ σ w F1 Λ1 σ1 w1} (hs : St F Λ σ w) (h : Step 0 (FO F Λ σ) (fun _ => none) [] w F1 Λ1 σ1 w1) (hs1 : St F1 Λ1 σ1 w1) (hr : isRows σ1 = true) (ho : OwnC σ1) : St F (joinL Λ Λ1 σ.length) (σ ++ σ1) w1 := by
  have hkeep : ∀ b, b < w.heap.size → w1.heap[b]? = w.heap[b]? := fun b hb => h.keep b hb fun ho => ho.empty
  have hF : ∀ b, F b → F b ∧ w1.heap[b]? = w.heap[b]? := fun b hb => ⟨hb, hkeep b (hs.old b hb)⟩
  have hnew : ∀ b, Own Λ1 σ1 b → w.heap.size ≤ b := fun b hb => (h.own b hb).elim (fun ho => ho.empty.elim) id
  refine ⟨fun L xs hx => ?_, fun L xs L' xs' b o o' h1 h2 h3 h4 => ?_, fun b hb => Nat.lt_of_lt_of_le (hs.old b hb) h.size, fun L hL => ?_⟩
  · cases L with
    | nil => simp [rowAt] at hx
    | cons l p =>
      rw [rowAt_join] at hx
      split at hx
      · rename_i hh
        have e : joinL Λ Λ1 σ.length (l :: p) = Λ (l :: p) := if_pos hh
        rw [e]
        refine (hs.row _ _ hx).imp id fun ⟨b, o, cs, t, g1, g2, g3, g4⟩ => ⟨b, o, cs, t, g1, g2, by rw [hkeep b (Array.getElem?_eq_some_iff.1 g3).1]; exact g3, fun j x hj => (g4 j x hj).imp fun c hc => ⟨hc.1, ?_⟩⟩
        rw [isBox_join hr, if_pos hh]
        exact (hc.2.mono hF h.sizes).ext (joinL_ext hs Λ1)
      · rename_i hh
        have e : joinL Λ Λ1 σ.length (l :: p) = Λ1 ((l - σ.length) :: p) := if_neg hh
        rw [e]
        rcases hs1.row _ _ hx with h5 | ⟨b, o, cs, t, g1, g2, g3, g4⟩
        · exact .inl h5
        · refine .inr ⟨b, o, cs, t, g1, fun hb => ?_, g3, fun j x hj => (g4 j x hj).imp fun c hc => ⟨hc.1, ?_⟩⟩
          · have := hs.old b hb
            have := hnew b ⟨_, _, _, hx, g1⟩
            omega
          · rw [isBox_join hr, if_neg hh]
            have h5 := hc.2
            rw [isBox_rows hr] at h5
            rcases ho _ _ x hx (List.mem_of_getElem? hj) with ⟨v, rfl⟩ | rfl | ⟨k, ys, rfl⟩
            · have h6 := h5.2.v_inv
              subst h6
              exact ⟨h5.1, .imm (.v _)⟩
            · obtain ⟨ad, h6⟩ := h5.2.n_inv
              subst h6
              exact ⟨h5.1, .imm (.n _)⟩
            · exact ⟨h5.1, h5.2.1, h5.2.2.elim fun n hn => ⟨n, hn.1, hn.2.imp id fun ⟨b, o, cap, k1, k2⟩ => ⟨b, o, cap, by simpa [joinL, hh] using k1, k2⟩⟩⟩
  · cases L with
    | nil => simp [rowAt] at h1
    | cons l p =>
      cases L' with
      | nil => simp [rowAt] at h2
      | cons l' p' =>
        rw [rowAt_join] at h1 h2
        simp only [joinL] at h3 h4
        split at h1 <;> split at h2
        · rename_i c1 c2
          rw [if_pos c1] at h3
          rw [if_pos c2] at h4
          exact hs.apart _ _ _ _ _ _ _ h1 h2 h3 h4
        · rename_i c1 c2
          rw [if_pos c1] at h3
          rw [if_neg c2] at h4
          have := hs.owns ⟨_, _, _, h1, h3⟩
          have := hnew b ⟨_, _, _, h2, h4⟩
          omega
        · rename_i c1 c2
          rw [if_neg c1] at h3
          rw [if_pos c2] at h4
          have := hs.owns ⟨_, _, _, h2, h4⟩
          have := hnew b ⟨_, _, _, h1, h3⟩
          omega
        · rename_i c1 c2
          rw [if_neg c1] at h3
          rw [if_neg c2] at h4
          have := hs1.apart _ _ _ _ _ _ _ h1 h2 h3 h4
          simp only [List.cons.injEq] at this
          obtain ⟨e1, rfl⟩ := this
          congr 1; omega
  · cases L with
    | nil => simp only [joinL]; exact hs.lab [] (by simp at hL; simp [hL.1])
    | cons l p =>
      simp only [List.headD_cons, List.length_append] at hL
      simp only [joinL]
      rw [if_neg (by omega)]
      exact hs1.lab _ (by simp; omega)
theorem Step.joinB {m F Λ σ w F1 Λ1 σ1 w1} (hs : St F Λ σ w) (h : Step 0 (FO F Λ σ) (fun _ => none) [] w F1 Λ1 σ1 w1) : Step m F Λ σ w F (joinL Λ Λ1 σ.length) (σ ++ σ1) w1 :=
  { os := h.os, tape := h.tape, output := h.output, size := h.size, sizes := h.sizes, keep := fun b hb _ => h.keep b hb fun ho => ho.empty, mono := fun _ h => h
    new := fun b hb => .inl hb
    own := fun b ⟨L, xs, o, h1, h2⟩ => by
      cases L with
      | nil => simp [rowAt] at h1
      | cons l p =>
        rw [rowAt_join] at h1
        simp only [joinL] at h2
        split at h1
        · rename_i c; rw [if_pos c] at h2; exact .inl ⟨_, _, _, h1, h2⟩
        · rename_i c; rw [if_neg c] at h2; exact .inr ((h.own b ⟨_, _, _, h1, h2⟩).elim (fun ho => ho.empty.elim) id)
    len := by simp; omega
    boxes := fun l xs _ hx => by
      have hl : l < σ.length := (List.getElem?_eq_some_iff.1 hx).1
      exact ⟨if_pos hl, xs, by rw [List.getElem?_append_left hl]; exact hx⟩
    kept := fun L b o _ hL => joinL_ext hs Λ1 L b o hL }
section
variable {P : Program} {n m : Nat} {N : Env → Store → Prop} {E : Env} {σ : Store} {o : Oper}
/-- A call that only looks at what the caller owns, and hands back rows of its own. -/
theorem TOp_callOB {g : Nat} {as as' : List A} (hc : CallOp P o E g as) (hf : frzOKL σ as) (has : fzRL σ as = as') {L0 : List Nat} {a nn k : Nat} {σ0 : Store} (hF : Fn P g as' [] fun r σ1 => r = .m L0 a nn k ∧ σ1 = σ0) (hr : isRows σ0 = true) (ho : OwnC σ0) (hn0 : L0 ≠ []) (hd : dstOK n o.dst = true)
    (hN : N (put E o.dst (.m (rh (· + σ.length) L0) a nn k)) (σ ++ σ0)) : TOp P n m o N E σ := fun F Λ w tmps K Qx hn hs hfr hk => by
  obtain ⟨vs, ⟨hvl, hvs⟩, hrun⟩ := hc F Λ w tmps hfr
  unfold Oper.wp
  rw [hrun w, Oper.upon_enter]
  subst has
  refine hF (FO F Λ σ) (fun _ => none) w vs _ hs.frz ⟨by rw [fzRL_len]; exact hvl, fun j a y hx hy => ?_⟩ fun F1 Λ1 σ1 w1 v r hs1 hst hv hq => ?_
  · rw [fzRL_get] at hx
    cases hj : as[j]? with
    | none => simp [hj] at hx
    | some u => simp [hj] at hx; subst hx; exact (hvs j u y hj hy).frz hs (frzOKL_mem hf u (List.mem_of_getElem? hj))
  · obtain ⟨rfl, rfl⟩ := hq
    have hst' := Step.joinB (m := m) hs hst
    have hf1 := (hfr.mono (hst'.frozen hs) hst.sizes).ext (joinL_ext hs Λ1)
    have hv' : OK F (joinL Λ Λ1 σ.length) w1 v (.m (rh (· + σ.length) L0) a nn k) := .m (hv.m_inv.imp id fun ⟨b, o, cap, g1, g2⟩ => ⟨b, o, cap, by
      cases L0 with
      | nil => exact absurd rfl hn0
      | cons h p => simp only [rh, joinL]; rw [if_neg (Nat.not_lt.2 (Nat.le_add_left _ _)), Nat.add_sub_cancel]; exact g1, g2⟩)
    obtain ⟨tmps', e, hn2, hf2⟩ := hf1.putO (ds := []) hn hd hv'
    show K (Act.put ⟨tmps, []⟩ o.dst v) w1
    rw [e]
    exact hk F _ _ w1 tmps' _ hn2 (hs.joinB hst hs1 hr ho) hf2 hst' hN
end

/-! ### one field of an element of a row -/
theorem set_flat {α : Type} [Inhabited α] {f : α → List A} {k : Nat} (hk : ∀ x, (f x).length = k) (xs : List α) (i j : Nat) (y : α) (a : A) (hi : i < xs.length) (hj : j < k) (hy : f y = (f (xs.getD i default)).set j a) :
    (flat f xs).set (i * k + j) a = flat f (xs.set i y) := by
  rw [← spl_flat hk xs i y hi, Nat.zero_add]
  have hlen : (flat f xs).length = xs.length * k := flat_len hk xs
  have hik : i * k + k ≤ xs.length * k := by rw [← Nat.succ_mul]; exact Nat.mul_le_mul_right _ hi
  apply List.ext_getElem?
  intro q
  rw [spl_get _ _ _ _ (by rw [hk, hlen]; exact hik), hk, List.getElem?_set]
  by_cases e : i * k + j = q
  · subst e
    rw [if_pos rfl, if_pos (by omega), if_pos (by omega), hy, Nat.add_sub_cancel_left, List.getElem?_set]
    rw [if_pos rfl, if_pos (by rw [hk]; exact hj)]
  · rw [if_neg e]
    split
    · rename_i h
      obtain ⟨r, rfl⟩ : ∃ r, q = i * k + r := ⟨q - i * k, by omega⟩
      rw [Nat.add_sub_cancel_left, hy, List.getElem?_set, if_neg (by omega), flat_get hk xs i r hi (by omega)]
    · rfl
section
variable {P : Program} {n m : Nat} {N : Env → Store → Prop} {E : Env} {σ : Store} {o : Oper}
theorem TOp_setFld {α : Type} [Inhabited α] {f : α → List A} {k : Nat} {t : Nat} {addr x : Operand} {l d i j : Nat} {xs : List α} {a : A} (y : α) (hk : ∀ x, (f x).length = k) (hj : j < k) (hT : SzT P t 1) (h : o.op = .store t addr x) (hdst : o.dst = none) (ha : val E addr = .e [l] d) (hd : d = 0 + i * k + j)
    (hr : σ[l]? = some (.row (flat f xs))) (hi : i < xs.length) (hv : cellsOf (val E x) = [a]) (hc : cellAllB [a] = true) (hy : f y = (f (xs.getD i default)).set j a) (hN : N E (σ.set l (.row (flat f (xs.set i y))))) : TOp P n m o N E σ := by
  subst hd
  have hrow : rowAt σ [l] = some (flat f xs) := by rw [rowAt_cons, hr]; rfl
  have hlen : (flat f xs).length = xs.length * k := flat_len hk xs
  have hik : i * k + k ≤ xs.length * k := by rw [← Nat.succ_mul]; exact Nat.mul_le_mul_right _ hi
  refine TOp_storeE (ys := [a]) hT h hdst ha hrow hv rfl (by omega) (by rw [hlen]; omega) hc ?_
  have e : spl (flat f xs) (0 + i * k + j) [a] = flat f (xs.set i y) := by
    simp only [spl, Nat.zero_add]
    exact set_flat hk xs i j y a hi hj hy
  rw [e]
  simpa [setRow, hr, Root.under, setSub] using hN
end
end Go.Sep

/- Literals of slices; calls that hand back rows, calls that write into a row of the caller's. -/
import Derived.Test.YtlcpdlngbofgcaaCL
set_option linter.unusedVariables false
set_option linter.unusedSimpArgs false
namespace Go.Sep
open Go

theorem fill_ok2 {F Λ w} {pl : List (Nat × Nat)} {f : Nat → Option (Nat × Nat)} (hfp : ∀ i p, pl[i]? = some p → f i = some p) {tmps : Array Value} {E : Env} (hf : FrOK F Λ w tmps E) : ∀ (parts : List (Nat × Operand)) (cs : Array Value) (as as' : List A), cs.size = as.length → (∀ (j : Nat) y, as[j]? = some y → ∃ c, cs[j]? = some c ∧ OK F Λ w c y) →
    fillA pl as (parts.map fun p => (p.1, val E p.2)) = some as' →
    ∃ cs', Instr.fill f cs (parts.map fun p => (p.1, Act.eval ⟨tmps, []⟩ p.2)) = some cs' ∧ cs'.size = as'.length ∧ (∀ (j : Nat) y, as'[j]? = some y → ∃ c, cs'[j]? = some c ∧ OK F Λ w c y)
  | [], cs, as, as', hl, hc, h => by
    simp only [List.map_nil, fillA, Option.some.injEq] at h
    subst h
    exact ⟨cs, rfl, hl, hc⟩
  | (i, x) :: rest, cs, as, as', hl, hc, h => by
    simp only [List.map_cons, fillA] at h
    split at h
    case h_2 => cases h
    rename_i off k hp
    split at h
    case isFalse => cases h
    rename_i hh
    obtain ⟨h1, h2, h3⟩ := hh
    have hx := val_ok (ds := []) hf x
    have hcs := hx.cellsOf (boxAll h3)
    have hlen : (Act.eval ⟨tmps, []⟩ x).cells.size = k := by
      cases hvx : val E x with
      | g zs =>
        rw [hvx] at hx h1
        obtain ⟨vs, h5, h6, _⟩ := hx.g_inv
        simp only [Sep.cellsOf] at h1
        rw [h5]; simp [Value.cells, h6, h1]
      | _ =>
        rw [hvx] at hx h1 h3
        simp only [Sep.cellsOf] at h1 h3
        obtain ⟨h5, _⟩ := hx.cells1 (boxAll h3 _ (by simp))
        rw [h5, ← h1]; simp
    generalize hvs : Act.eval ⟨tmps, []⟩ x = v at hcs hlen
    simp only [List.map_cons, Instr.fill, hfp i _ hp, hvs]
    rw [if_neg (by simp [hlen]; omega)]
    refine fill_ok2 hfp hf rest _ _ as' ?_ (fun j y hy => ?_) h
    · rw [← Array.foldl_toList, Array.toList_zipIdx, foldl_size, spl_len]; exact hl
    · rw [spl_get _ _ _ _ (by rw [h1]; omega)] at hy
      rw [← Array.foldl_toList, Array.toList_zipIdx, foldl_cells _ 0 off cs (by simp [hlen]; omega)]
      simp only [Nat.add_zero, Array.length_toList, hlen]
      rw [h1] at hy
      split at hy
      · rename_i h6
        rw [if_pos h6]
        obtain ⟨c, h7, h8⟩ := hcs _ y hy
        exact ⟨c, h7, h8⟩
      · rename_i h6
        rw [if_neg h6]
        exact hc j y hy
def litPl (n k : Nat) : List (Nat × Nat) := (List.range n).map fun i => (i * k, k)
theorem litPl_get {n k i : Nat} {p} (h : (litPl n k)[i]? = some p) : some (i * k, k) = some p := by
  have hi : i < n := by have := (List.getElem?_eq_some_iff.1 h).1; simpa [litPl] using this
  simp [litPl, hi] at h
  rw [h]
section
variable {P : Program} {n m : Nat} {N : Env → Store → Prop} {E : Env} {σ : Store} {o : Oper}
theorem TOp_lit {t e k nn : Nat} {zs : List Value} {parts : List (Nat × Operand)} {as : List A} (hT : SlT P t e k) (hz : ZeroT P e zs) (h : o.op = .buildSlice t nn parts.toArray) (hd : dstOK n o.dst = true)
    (hfill : fillA (litPl nn k) (List.replicate (nn * k) .j) (parts.map fun p => (p.1, val E p.2)) = some as) (hc : cellAllB as = true) (hsz : nn * k ≤ 16777216)
    (hN : N (put E o.dst (.m [σ.length] 0 nn k)) (σ ++ [.row as])) : TOp P n m o N E σ := by
  obtain ⟨⟨inf, z, h1, h2, h3⟩, h4⟩ := hz
  have hsize : inf.size = k := by obtain ⟨i2, g1, g2⟩ := hT.i; rw [h1] at g1; cases g1; exact g2
  refine TOp_new (.row as) as rfl e (fun y hy => inCell_plain (cellAll hc y hy)) _ hd (fun F Λ w tmps hs hf => ?_) hN
  obtain ⟨cs', g1, g2, g3⟩ := fill_ok2 (f := fun i => some (i * k, k)) (fun i p hp => litPl_get hp) hf parts ((Array.range (nn * k)).map ((if nn * k = 0 then #[] else z.cells)[· % (if nn * k = 0 then #[] else z.cells).size]!)) (List.replicate (nn * k) .j) as (by simp) (fun j y hy => by
    have hj : j < nn * k := by have := (List.getElem?_eq_some_iff.1 hy).1; simpa using this
    rw [List.getElem?_replicate, if_pos hj] at hy
    cases hy
    exact ⟨_, Array.getElem?_eq_getElem (by simpa using hj), .j _⟩) hfill
  have hlen : as.length = nn * k := by
    have key : ∀ (parts : List (Nat × A)) (as as' : List A), fillA (litPl nn k) as parts = some as' → as'.length = as.length := fun parts => by
      induction parts with
      | nil => intro as as' h; simp only [fillA, Option.some.injEq] at h; subst h; rfl
      | cons p rest ih =>
        intro as as' h
        obtain ⟨i, a⟩ := p
        simp only [fillA] at h
        split at h
        · split at h
          · rw [ih _ _ h, spl_len]
          · cases h
        · cases h
    rw [key _ _ _ hfill]; simp
  refine ⟨cs'.toList, .slice (some ⟨w.heap.size, 0, none⟩) nn nn, fun j x hx => ?_, ?_, ?_⟩
  · obtain ⟨c, g4, g5⟩ := g3 j x hx
    exact ⟨c, by rw [Array.getElem?_toList]; exact g4, .ofCell (cellAll hc x (List.mem_of_getElem? hx)) g5⟩
  · simp only [execOp, h, Instr.buildSlice, run_underlying hT.u, Sem.run_bind, Result.andThen_ok, run_sizeOf' hT.i]
    rw [if_neg (by omega)]
    have hm : (parts.toArray.map fun (x : Nat × Operand) => match x with | (i, x) => (i, Act.eval ⟨tmps, []⟩ x)).toList = parts.map fun p => (p.1, Act.eval ⟨tmps, []⟩ p.2) := by simp
    have hzr : (zeroValue e).run P w = .ok z w := by simp [zeroValue, typeInfo, h1, h2]
    by_cases h0 : nn * k = 0
    · rw [if_pos h0] at g1
      simp only [h0, if_true, Sem.run_pure, Result.andThen_ok, Sem.run_bind, hm] at g1 ⊢
      rw [g1]
      simp [newRow]
    · rw [if_neg h0] at g1
      simp only [h0, if_false, Sem.run_pure, Sem.run_bind, hzr, Result.andThen_ok, hm]
      rw [g1]
      simp [newRow]
  · exact .m (.inr ⟨w.heap.size, 0, nn, by simp [pushL], by simp, Nat.le_refl _, by
      have := hT.pos
      have : nn ≤ nn * k := Nat.le_mul_of_pos_right _ hT.pos
      simp only [maxLen]; omega, _, e, heap_alloc_new w _, by simp only [Array.toArray_toList, Nat.zero_add]; omega⟩)
end

/-! ### a callee's own rows become the caller's -/
def isRows (σ : Store) : Bool := σ.all fun r => match r with | .row _ => true | .dead => true | _ => false
def joinL (Λ Λ1 : Lbl) (s : Nat) : Lbl := fun L => match L with
  | [] => Λ []
  | h :: p => if h < s then Λ (h :: p) else Λ1 ((h - s) :: p)
theorem rowAt_join {σ σ1 : Store} {h : Nat} {p : List Nat} : rowAt (σ ++ σ1) (h :: p) = if h < σ.length then rowAt σ (h :: p) else rowAt σ1 ((h - σ.length) :: p) := by
  simp only [rowAt]
  by_cases hh : h < σ.length
  · rw [List.getElem?_append_left hh, if_pos hh]
  · rw [List.getElem?_append_right (by omega), if_neg hh]
theorem isBox_rows {σ1 : Store} (h : isRows σ1 = true) (L : List Nat) : isBox σ1 L = false := by
  match L with
  | [] => rfl
  | [l] =>
    simp only [isBox]
    cases hs : σ1[l]? with
    | none => rfl
    | some r =>
      simp only [isRows, List.all_eq_true] at h
      have := h r (List.mem_of_getElem? hs)
      cases r <;> simp_all
  | _ :: _ :: _ => rfl
theorem isBox_join {σ σ1 : Store} (h1 : isRows σ1 = true) (h : Nat) (p : List Nat) : isBox (σ ++ σ1) (h :: p) = if h < σ.length then isBox σ (h :: p) else false := by
  cases p with
  | cons j p => simp [isBox]
  | nil =>
    have h2 := isBox_rows h1 [h - σ.length]
    simp only [isBox] at h2 ⊢
    by_cases hh : h < σ.length
    · rw [List.getElem?_append_left hh, if_pos hh]
    · rw [List.getElem?_append_right (by omega), if_neg hh]; exact h2
theorem St.join {F Λ σ w F1 Λ1 σ1 w1} (hs : St F Λ σ w) (h : Step 0 F (fun _ => none) [] w F1 Λ1 σ1 w1) (hs1 : St F1 Λ1 σ1 w1) (hr : isRows σ1 = true) : St F1 (joinL Λ Λ1 σ.length) (σ ++ σ1) w1 := by
  have h0 := hs.callee h hs1
  have hnew : ∀ b, Own Λ1 σ1 b → w.heap.size ≤ b := fun b hb => (h.own b hb).elim (fun ho => ho.empty.elim) id
  refine ⟨fun L xs hx => ?_, fun L xs L' xs' b o o' h1 h2 h3 h4 => ?_, hs1.old, fun L hL => ?_⟩
  · cases L with
    | nil => simp [rowAt] at hx
    | cons l p =>
      rw [rowAt_join] at hx
      split at hx
      · rename_i hh
        have e : joinL Λ Λ1 σ.length (l :: p) = Λ (l :: p) := if_pos hh
        rw [e]
        refine (h0.row _ _ hx).imp id fun ⟨b, o, cs, t, g1, g2, g3, g4⟩ => ⟨b, o, cs, t, g1, g2, g3, fun j x hj => (g4 j x hj).imp fun c hc => ⟨hc.1, ?_⟩⟩
        rw [isBox_join hr, if_pos hh]
        refine hc.2.ext fun L b o hL => ?_
        cases L with
        | nil => exact hL
        | cons h p =>
          simp only [joinL]
          rw [if_pos ?_]
          · exact hL
          · refine Nat.lt_of_not_le fun hc => ?_
            rw [hs.lab (h :: p) (by simpa using hc)] at hL; cases hL
      · rename_i hh
        have e : joinL Λ Λ1 σ.length (l :: p) = Λ1 ((l - σ.length) :: p) := if_neg hh
        rw [e]
        refine (hs1.row _ _ hx).imp id fun ⟨b, o, cs, t, g1, g2, g3, g4⟩ => ⟨b, o, cs, t, g1, g2, g3, fun j x hj => (g4 j x hj).imp fun c hc => ⟨hc.1, ?_⟩⟩
        rw [isBox_join hr, if_neg hh]
        have h5 := hc.2
        rw [isBox_rows hr] at h5
        exact h5.unbox fun a n k v hv => hv.imp id fun ⟨b, o, cap, k1, k2⟩ => ⟨b, o, cap, by simpa [joinL, hh] using k1, k2⟩
  · cases L with
    | nil => simp [rowAt] at h1
    | cons l p =>
      cases L' with
      | nil => simp [rowAt] at h2
      | cons l' p' =>
        rw [rowAt_join] at h1 h2
        simp only [joinL] at h3 h4
        split at h1 <;> split at h2
        · rename_i c1 c2
          rw [if_pos c1] at h3
          rw [if_pos c2] at h4
          exact hs.apart _ _ _ _ _ _ _ h1 h2 h3 h4
        · rename_i c1 c2
          rw [if_pos c1] at h3
          rw [if_neg c2] at h4
          have := hs.owns ⟨_, _, _, h1, h3⟩
          have := hnew b ⟨_, _, _, h2, h4⟩
          omega
        · rename_i c1 c2
          rw [if_neg c1] at h3
          rw [if_pos c2] at h4
          have := hs.owns ⟨_, _, _, h2, h4⟩
          have := hnew b ⟨_, _, _, h1, h3⟩
          omega
        · rename_i c1 c2
          rw [if_neg c1] at h3
          rw [if_neg c2] at h4
          have := hs1.apart _ _ _ _ _ _ _ h1 h2 h3 h4
          simp only [List.cons.injEq] at this
          obtain ⟨e1, rfl⟩ := this
          congr 1; omega
  · cases L with
    | nil => simp only [joinL]; exact hs.lab [] (by simp at hL; simp [hL.1])
    | cons l p =>
      simp only [List.headD_cons, List.length_append] at hL
      simp only [joinL]
      rw [if_neg (by omega)]
      exact hs1.lab _ (by simp; omega)
theorem joinL_ext {F Λ σ w} (hs : St F Λ σ w) (Λ1 : Lbl) : ∀ L b o, Λ L = some (b, o) → joinL Λ Λ1 σ.length L = some (b, o) := fun L b o hL => by
  cases L with
  | nil => exact hL
  | cons h p =>
    simp only [joinL]
    rw [if_pos ?_]
    · exact hL
    · refine Nat.lt_of_not_le fun hc => ?_
      rw [hs.lab (h :: p) (by simpa using hc)] at hL; cases hL
theorem Step.join {m F Λ σ w F1 Λ1 σ1 w1} (hs : St F Λ σ w) (h : Step 0 F (fun _ => none) [] w F1 Λ1 σ1 w1) : Step m F Λ σ w F1 (joinL Λ Λ1 σ.length) (σ ++ σ1) w1 :=
  { os := h.os, tape := h.tape, output := h.output, size := h.size, sizes := h.sizes, keep := fun b hb _ => h.keep b hb fun ho => ho.empty, mono := h.mono
    new := fun b hb => (h.new b hb).elim .inl fun h1 => h1.elim (fun ho => ho.empty.elim) fun h1 => .inr (.inr h1)
    own := fun b ⟨L, xs, o, h1, h2⟩ => by
      cases L with
      | nil => simp [rowAt] at h1
      | cons l p =>
        rw [rowAt_join] at h1
        simp only [joinL] at h2
        split at h1
        · rename_i c; rw [if_pos c] at h2; exact .inl ⟨_, _, _, h1, h2⟩
        · rename_i c; rw [if_neg c] at h2; exact .inr ((h.own b ⟨_, _, _, h1, h2⟩).elim (fun ho => ho.empty.elim) id)
    len := by simp; omega
    boxes := fun l xs _ hx => by
      have hl : l < σ.length := (List.getElem?_eq_some_iff.1 hx).1
      exact ⟨if_pos hl, xs, by rw [List.getElem?_append_left hl]; exact hx⟩
    kept := fun L b o _ hL => joinL_ext hs Λ1 L b o hL }
section
variable {P : Program} {n m : Nat} {N : Env → Store → Prop} {E : Env} {σ : Store} {o : Oper}
/-- A call of a function that is handed nothing of the call's own, and hands back rows. -/
theorem TOp_callO {g : Nat} {as : List A} (hc : CallOp P o E g as) (hl : looseL as = true) {r0 : A} {σ0 : Store} (hF : Fn P g as [] fun r σ1 => r = r0 ∧ σ1 = σ0) (hr : isRows σ0 = true) (hnn : r0.names (fun L => decide (L = [])) = false) (hd : dstOK n o.dst = true)
    (hN : N (put E o.dst (r0.ren (· + σ.length))) (σ ++ σ0)) : TOp P n m o N E σ := fun F Λ w tmps K Qx hn hs hf hk => by
  obtain ⟨vs, ⟨hvl, hvs⟩, hrun⟩ := hc F Λ w tmps hf
  unfold Oper.wp
  rw [hrun w, Oper.upon_enter]
  refine hF F (fun _ => none) w vs _ hs.empty ⟨hvl, fun j x y hx hy => (hvs j x y hx hy).free (looseL_mem hl x (List.mem_of_getElem? hx))⟩ fun F1 Λ1 σ1 w1 v r hs1 hst hv hq => ?_
  obtain ⟨rfl, rfl⟩ := hq
  have hst' := Step.join (m := m) hs hst
  have hf1 := (hf.mono (hst'.frozen hs) hst.sizes).ext (joinL_ext hs Λ1)
  have hv' : OK F1 (joinL Λ Λ1 σ.length) w1 v (r.ren (· + σ.length)) := hv.ren (fun L => decide (L = [])) _ (fun L b o hp hL => by
    cases L with
    | nil => simp at hp
    | cons h p => simp only [rh, joinL]; rw [if_neg (Nat.not_lt.2 (Nat.le_add_left _ _)), Nat.add_sub_cancel]; exact hL) hnn
  obtain ⟨tmps', e, hn2, hf2⟩ := hf1.putO (ds := []) hn hd hv'
  show K (Act.put ⟨tmps, []⟩ o.dst v) w1
  rw [e]
  exact hk F1 _ _ w1 tmps' _ hn2 (hs.join hst hs1 hr) hf2 hst' hN
end

/-! ### a callee that writes into a row of the caller's -/
/-- A label that is not under root l. -/
def offL (l : Nat) (L : List Nat) : Bool := match L with
  | [] => true
  | h :: _ => h != l
def downL (Λ : Lbl) (l : Nat) : Lbl := fun L => match L with
  | [] => none
  | h :: p => if h = 0 then Λ (l :: p) else none
def upL (Λ Λ1 : Lbl) (l : Nat) : Lbl := fun L => match L with
  | [] => Λ []
  | h :: p => if h = l then Λ1 (0 :: p) else Λ (h :: p)
theorem rowAt_one {r : Root} {L xs} (h : rowAt [r] L = some xs) : ∃ p, L = 0 :: p ∧ rowAt [r] (0 :: p) = some xs := by
  cases L with
  | nil => simp [rowAt] at h
  | cons l p =>
    cases l with
    | zero => exact ⟨p, rfl, h⟩
    | succ l => simp [rowAt] at h
theorem rowAt_down {σ : Store} {l : Nat} {xs : List A} (hr : σ[l]? = some (.row xs)) (p : List Nat) : rowAt [.row xs] (0 :: p) = rowAt σ (l :: p) := by simp [rowAt, hr]
theorem St.down {F Λ σ w} (hs : St F Λ σ w) {l : Nat} {xs : List A} (hr : σ[l]? = some (.row xs)) : St F (downL Λ l) [.row xs] w := by
  refine ⟨fun L zs hz => ?_, fun L zs L' zs' b o o' h1 h2 h3 h4 => ?_, hs.old, fun L hL => ?_⟩
  · obtain ⟨p, rfl, h1⟩ := rowAt_one hz
    rw [rowAt_down hr] at h1
    have e : downL Λ l (0 :: p) = Λ (l :: p) := by simp [downL]
    rw [e]
    refine (hs.row _ _ h1).imp id fun ⟨b, o, cs, t, g1, g2, g3, g4⟩ => ⟨b, o, cs, t, g1, g2, g3, fun j x hj => (g4 j x hj).imp fun c hc => ⟨hc.1, ?_⟩⟩
    rw [isBox_rows rfl]
    have h5 := hc.2
    rw [isBox_row hr] at h5
    exact h5.unbox fun a n k v hv => hv.imp id fun ⟨b, o, cap, k1, k2⟩ => ⟨b, o, cap, by simpa [downL] using k1, k2⟩
  · obtain ⟨p, rfl, h1⟩ := rowAt_one h1
    obtain ⟨p', rfl, h2⟩ := rowAt_one h2
    rw [rowAt_down hr] at h1 h2
    have := hs.apart _ _ _ _ _ _ _ h1 h2 (by simpa [downL] using h3) (by simpa [downL] using h4)
    simp only [List.cons.injEq] at this
    rw [this.2]
  · cases L with
    | nil => rfl
    | cons h p =>
      simp only [List.headD_cons, List.length_cons, List.length_nil] at hL
      exact if_neg (by omega)
theorem Own.down {Λ : Lbl} {σ : Store} {l : Nat} {xs : List A} (hr : σ[l]? = some (.row xs)) {b} (h : Own (downL Λ l) [.row xs] b) : ∃ p zs o, rowAt σ (l :: p) = some zs ∧ Λ (l :: p) = some (b, o) := by
  obtain ⟨L, zs, o, h1, h2⟩ := h
  obtain ⟨p, rfl, h1⟩ := rowAt_one h1
  rw [rowAt_down hr] at h1
  exact ⟨p, zs, o, h1, by simpa [downL] using h2⟩
theorem rowAt_up {σ : Store} {l : Nat} {xs xs' : List A} (hr : σ[l]? = some (.row xs)) (h : Nat) (p : List Nat) : rowAt (σ.set l (.row xs')) (h :: p) = if h = l then rowAt [.row xs'] (0 :: p) else rowAt σ (h :: p) := by
  have hl : l < σ.length := (List.getElem?_eq_some_iff.1 hr).1
  by_cases e : h = l
  · subst e; rw [if_pos rfl]; simp [rowAt, hl]
  · rw [if_neg e]; simp only [rowAt, List.getElem?_set_ne (Ne.symm e)]
theorem isBox_up {σ : Store} {l : Nat} {xs xs' : List A} (hr : σ[l]? = some (.row xs)) (h : Nat) (p : List Nat) : isBox (σ.set l (.row xs')) (h :: p) = if h = l then false else isBox σ (h :: p) := by
  have hl : l < σ.length := (List.getElem?_eq_some_iff.1 hr).1
  cases p with
  | cons j p => simp [isBox]
  | nil =>
    by_cases e : h = l
    · subst e; rw [if_pos rfl]; simp [isBox, hl]
    · rw [if_neg e]; simp only [isBox, List.getElem?_set_ne (Ne.symm e)]
theorem upL_ext {F Λ w F1 Λ1 w1} {l : Nat} {xs xs' : List A} (h : Step 1 F (downL Λ l) [.row xs] w F1 Λ1 [.row xs'] w1) : ∀ L b o, Λ L = some (b, o) → upL Λ Λ1 l L = some (b, o) := fun L b o hL => by
  cases L with
  | nil => exact hL
  | cons h0 p =>
    simp only [upL]
    split
    · rename_i e; subst e
      exact h.kept (0 :: p) b o (by simp) (by simpa [downL] using hL)
    · exact hL
theorem St.up {F Λ σ w F1 Λ1 w1} (hs : St F Λ σ w) {l : Nat} {xs xs' : List A} (hr : σ[l]? = some (.row xs)) (h : Step 1 F (downL Λ l) [.row xs] w F1 Λ1 [.row xs'] w1) (hs1 : St F1 Λ1 [.row xs'] w1) :
    St F1 (upL Λ Λ1 l) (σ.set l (.row xs')) w1 ∧ (∀ m, Step m F Λ σ w F1 (upL Λ Λ1 l) (σ.set l (.row xs')) w1) := by
  have hl : l < σ.length := (List.getElem?_eq_some_iff.1 hr).1
  have hext := upL_ext (F := F) h
  have hno : ∀ L zs b o, rowAt σ L = some zs → L.headD 0 ≠ l → Λ L = some (b, o) → ¬ Own (downL Λ l) [.row xs] b := fun L zs b o h1 h2 h3 h4 => by
    obtain ⟨p, zs', o', h5, h6⟩ := Own.down hr h4
    have := hs.apart _ _ _ _ _ _ _ h1 h5 h3 h6
    subst this; exact h2 rfl
  have hF : ∀ b, F b → F1 b ∧ w1.heap[b]? = w.heap[b]? := (h.frozen (hs.down hr))
  have hown1 : ∀ b, Own Λ1 [.row xs'] b → (∃ p zs o, rowAt σ (l :: p) = some zs ∧ Λ (l :: p) = some (b, o)) ∨ w.heap.size ≤ b := fun b hb => (h.own b hb).imp (Own.down hr) id
  refine ⟨⟨fun L zs hz => ?_, fun L zs L' zs' b o o' h1 h2 h3 h4 => ?_, hs1.old, fun L hL => ?_⟩, fun m => ?_⟩
  · cases L with
    | nil => simp [rowAt] at hz
    | cons h0 p =>
      rw [rowAt_up hr] at hz
      split at hz
      · rename_i e; subst e
        have e : upL Λ Λ1 h0 (h0 :: p) = Λ1 (0 :: p) := if_pos rfl
        rw [e]
        refine (hs1.row _ _ hz).imp id fun ⟨b, o, cs, t, g1, g2, g3, g4⟩ => ⟨b, o, cs, t, g1, g2, g3, fun j x hj => (g4 j x hj).imp fun c hc => ⟨hc.1, ?_⟩⟩
        rw [isBox_up hr, if_pos rfl]
        have h5 := hc.2
        rw [isBox_rows rfl] at h5
        exact h5.unbox fun a n k v hv => hv.imp id fun ⟨b, o, cap, k1, k2⟩ => ⟨b, o, cap, by simpa [upL] using k1, k2⟩
      · rename_i e
        have e2 : upL Λ Λ1 l (h0 :: p) = Λ (h0 :: p) := if_neg e
        rw [e2]
        rcases hs.row _ _ hz with h4 | ⟨b, o, cs, t, g1, g2, g3, g4⟩
        · exact .inl h4
        · have hlt : b < w.heap.size := (Array.getElem?_eq_some_iff.1 g3).1
          have hn := hno _ _ b o hz (by simpa using e) g1
          refine .inr ⟨b, o, cs, t, g1, fun hb => ?_, by rw [h.keep b hlt hn]; exact g3, fun j x hj => ?_⟩
          · rcases h.new b hb with k | k | k
            · exact g2 k
            · exact hn k
            · omega
          · obtain ⟨c, g5, g6⟩ := g4 j x hj
            refine ⟨c, g5, ?_⟩
            rw [isBox_up hr, if_neg e]
            exact (g6.mono hF h.sizes).ext hext
  · have key : ∀ L zs b o, rowAt (σ.set l (.row xs')) L = some zs → upL Λ Λ1 l L = some (b, o) → (∃ p, L = l :: p ∧ rowAt [.row xs'] (0 :: p) = some zs ∧ Λ1 (0 :: p) = some (b, o)) ∨ (L.headD 0 ≠ l ∧ rowAt σ L = some zs ∧ Λ L = some (b, o)) := fun L zs b o hz hb => by
      cases L with
      | nil => simp [rowAt] at hz
      | cons h0 p =>
        rw [rowAt_up hr] at hz
        simp only [upL] at hb
        split at hz
        · rename_i e; subst e; rw [if_pos rfl] at hb; exact .inl ⟨p, rfl, hz, hb⟩
        · rename_i e; rw [if_neg e] at hb; exact .inr ⟨by simpa using e, hz, hb⟩
    have cross : ∀ p zs L' zs' b o o', rowAt [.row xs'] (0 :: p) = some zs → Λ1 (0 :: p) = some (b, o) → L'.headD 0 ≠ l → rowAt σ L' = some zs' → Λ L' = some (b, o') → False := fun p zs L' zs' b o o' g1 g2 g3 g4 g5 => by
      rcases hown1 b ⟨_, _, _, g1, g2⟩ with ⟨p2, zs2, o2, k1, k2⟩ | k
      · have := hs.apart _ _ _ _ _ _ _ g4 k1 g5 k2
        subst this; exact g3 rfl
      · have := hs.owns ⟨_, _, _, g4, g5⟩; omega
    rcases key _ _ _ _ h1 h3 with ⟨p, rfl, g1, g2⟩ | ⟨g0, g1, g2⟩ <;> rcases key _ _ _ _ h2 h4 with ⟨p', rfl, g3, g4⟩ | ⟨g0', g3, g4⟩
    · have := hs1.apart _ _ _ _ _ _ _ g1 g3 g2 g4
      simp only [List.cons.injEq] at this
      rw [this.2]
    · exact (cross _ _ _ _ _ _ _ g1 g2 g0' g3 g4).elim
    · exact (cross _ _ _ _ _ _ _ g3 g4 g0 g1 g2).elim
    · exact hs.apart _ _ _ _ _ _ _ g1 g3 g2 g4
  · rw [List.length_set] at hL
    cases L with
    | nil => simp at hL; subst hL; simp at hl
    | cons h0 p =>
      simp only [List.headD_cons] at hL
      simp only [upL]
      rw [if_neg (by omega)]
      exact hs.lab (h0 :: p) hL
  · exact { os := h.os, tape := h.tape, output := h.output, size := h.size, sizes := h.sizes
            keep := fun b hb hn => h.keep b hb fun ho => by
              obtain ⟨p, zs, o, h1, h2⟩ := Own.down hr ho
              exact hn ⟨_, _, _, h1, h2⟩
            mono := h.mono
            new := fun b hb => (h.new b hb).imp id fun k => k.imp (fun ho => by
              obtain ⟨p, zs, o, h1, h2⟩ := Own.down hr ho
              exact ⟨_, _, _, h1, h2⟩) id
            own := fun b ⟨L, zs, o, h1, h2⟩ => by
              cases L with
              | nil => simp [rowAt] at h1
              | cons h0 p =>
                rw [rowAt_up hr] at h1
                simp only [upL] at h2
                split at h1
                · rename_i e; subst e; rw [if_pos rfl] at h2
                  exact (hown1 b ⟨_, _, _, h1, h2⟩).imp (fun ⟨p, zs, o, k1, k2⟩ => ⟨_, _, _, k1, k2⟩) id
                · rename_i e; rw [if_neg e] at h2; exact .inl ⟨_, _, _, h1, h2⟩
            len := by simp; omega
            boxes := fun a us _ ha => by
              have e1 : a ≠ l := by rintro rfl; rw [hr] at ha; cases ha
              exact ⟨if_neg e1, us, by rw [List.getElem?_set_ne (Ne.symm e1)]; exact ha⟩
            kept := fun L b o _ hL => hext L b o hL }
section
variable {P : Program} {n m : Nat} {N : Env → Store → Prop} {E : Env} {σ : Store} {o : Oper}
/-- A call that may write into the row at root l, and hands back a plain value. -/
theorem TOp_callM (l : Nat) {g : Nat} {as as' : List A} {xs xs' : List A} {x : Value} (hc : CallOp P o E g as) (hr : σ[l]? = some (.row xs)) (hnm : namesL (offL l) as = false) (has : renL (fun _ => 0) as = as')
    (hF : Fn P g as' [.row xs] fun r σ1 => r = .v x ∧ σ1 = [.row xs']) (hd : dstOK n o.dst = true)
    (hN : N (put E o.dst (.v x)) (σ.set l (.row xs'))) : TOp P n m o N E σ := fun F Λ w tmps K Qx hn hs hf hk => by
  obtain ⟨vs, ⟨hvl, hvs⟩, hrun⟩ := hc F Λ w tmps hf
  unfold Oper.wp
  rw [hrun w, Oper.upon_enter]
  subst has
  refine hF F (downL Λ l) w vs _ (hs.down hr) ⟨by rw [renL_len]; exact hvl, fun j a y hx hy => ?_⟩ fun F1 Λ1 σ1 w1 v r hs1 hst hv hq => ?_
  · rw [renL_get] at hx
    cases hj : as[j]? with
    | none => simp [hj] at hx
    | some u =>
      simp [hj] at hx; subst hx
      refine (hvs j u y hj hy).ren (offL l) _ (fun L b o hp hL => ?_) (namesL_false hnm u (List.mem_of_getElem? hj))
      cases L with
      | nil => simp [offL] at hp
      | cons h p => simp [offL] at hp; subst hp; simpa [rh, downL] using hL
  · obtain ⟨rfl, rfl⟩ := hq
    have := hv.v_inv
    subst this
    obtain ⟨hs2, hst2⟩ := hs.up hr hst hs1
    have hf1 := (hf.mono ((hst2 m).frozen hs) hst.sizes).ext (upL_ext (F := F) hst)
    obtain ⟨tmps', e, hn2, hf2⟩ := hf1.putO (ds := []) hn hd (.imm (.v v))
    show K (Act.put ⟨tmps, []⟩ o.dst v) w1
    rw [e]
    exact hk F1 _ _ w1 tmps' _ hn2 hs2 hf2 (hst2 m) hN
end
end Go.Sep

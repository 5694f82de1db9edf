/- Comparison with nil; rows that are not yet anywhere. -/
import Derived.Test.YtlcpdlngbofgcaaCN
set_option linter.unusedVariables false
set_option linter.unusedSimpArgs false
namespace Go.Sep
open Go
section
variable {P : Program}
theorem eqGuard_slice {op t x y a n c a' n' c'} (w : World) : (eqGuard op t x y (.slice a n c) (.slice a' n' c')).run P w = .ok () w := by
  unfold eqGuard; split <;> simp
theorem run_eqNil (w : World) (t e : TypeId) (a : Option Addr) (l c : Nat) (h : P.underlying t = some (.slice e)) : (binOp .eql t (.slice a l c) (.slice none 0 0)).run P w = .ok (.bool a.isNone) w := by
  have h1 : ∀ d : Nat, (Op.equalIn (d + 1) t (.slice a l c) (.slice none 0 0)).run P w = .ok a.isNone w := fun d => by
    cases a <;> simp [Op.equalIn, run_underlying h]
  simp only [binOp]
  simp [Op.equal, Op.maxDepth, h1 9999]
theorem run_neNil (w : World) (t e : TypeId) (a : Option Addr) (l c : Nat) (h : P.underlying t = some (.slice e)) : (binOp .neq t (.slice a l c) (.slice none 0 0)).run P w = .ok (.bool !a.isNone) w := by
  have h1 : ∀ d : Nat, (Op.equalIn (d + 1) t (.slice a l c) (.slice none 0 0)).run P w = .ok a.isNone w := fun d => by
    cases a <;> simp [Op.equalIn, run_underlying h]
  simp only [binOp]
  simp [Op.equal, Op.maxDepth, h1 9999]
variable {n m : Nat} {N : Env → Store → Prop} {K : Exit → Env → Store → Prop} {E : Env} {σ : Store} {o : Oper} {ops : Array Oper} {os : List Oper}
theorem TOp_nilcmp {op : BinOp} (f : Bool → Bool) {t t' e x} (Z : Prop) (ht : P.underlying t = some (.slice e)) (h : o.op = .binOp op t x (.const (.slice none 0 0)) t') (hd : dstOK n o.dst = true)
    (hrun : ∀ w a l c, (binOp op t (.slice a l c) (.slice none 0 0)).run P w = .ok (.bool (f a.isNone)) w)
    (hx : ∀ F Λ w tmps, St F Λ σ w → FrOK F Λ w tmps E → ∃ a l c, Act.eval ⟨tmps, []⟩ x = .slice a l c ∧ (a = none → Z))
    (hN : ∀ b, (b = true → Z) → N (put E o.dst (.v (.bool (f b)))) σ) : TOp P n m o N E σ := fun F Λ w tmps K Q hn hs hf hk => by
  obtain ⟨a, l, c, h1, h2⟩ := hx F Λ w tmps hs hf
  unfold Oper.wp
  have hr : (execOp (Act.eval ⟨tmps, []⟩) o).run P w = .ok (.value (.bool (f a.isNone))) w := by
    simp only [execOp, h, h1, show Act.eval ⟨tmps, []⟩ (.const (.slice none 0 0)) = .slice none 0 0 from rfl, Sem.run_bind, eqGuard_slice, Result.andThen_ok, hrun, Sem.run_pure]
  rw [hr, Oper.upon_value]
  obtain ⟨tmps', e', hn', hf'⟩ := hf.putO (ds := []) hn hd (.imm (.v (.bool (f a.isNone))))
  rw [e']
  exact hk F Λ σ w tmps' _ hn' hs hf' (.refl ..) (hN _ fun hb => h2 (by cases a <;> simp_all))
theorem nil_i {x : Operand} {k : Nat} {xs : List A} (hx : val E x = .i k xs) : ∀ F Λ w tmps, St F Λ σ w → FrOK F Λ w tmps E → ∃ a l c, Act.eval ⟨tmps, []⟩ x = .slice a l c ∧ (a = none → xs = []) := fun F Λ w tmps hs hf => by
  have e1 := val_ok (ds := []) hf x
  rw [hx] at e1
  generalize Act.eval ⟨tmps, []⟩ x = v at e1
  cases e1 with
  | imm h =>
    cases h with
    | i0 ad cap => exact ⟨_, _, _, rfl, fun _ => rfl⟩
    | i => exact ⟨_, _, _, rfl, fun h => by cases h⟩
theorem nil_n {x : Operand} (hx : val E x = .n) : ∀ F Λ w tmps, St F Λ σ w → FrOK F Λ w tmps E → ∃ a l c, Act.eval ⟨tmps, []⟩ x = .slice a l c ∧ (a = none → True) := fun F Λ w tmps hs hf => by
  have e1 := val_ok (ds := []) hf x
  rw [hx] at e1
  obtain ⟨ad, h⟩ := e1.n_inv
  exact ⟨_, _, _, h, fun _ => trivial⟩
theorem nil_m {x : Operand} {L a nn k} (hx : val E x = .m L a nn k) : ∀ F Λ w tmps, St F Λ σ w → FrOK F Λ w tmps E → ∃ ad l c, Act.eval ⟨tmps, []⟩ x = .slice ad l c ∧ (ad = none → nn = 0) := fun F Λ w tmps hs hf => by
  have e1 := val_ok (ds := []) hf x
  rw [hx] at e1
  rcases e1.m_inv with ⟨h0, ad, h⟩ | ⟨b, o', cap, _, h, _⟩
  · exact ⟨_, _, _, h, fun _ => h0⟩
  · exact ⟨_, _, _, h, fun h => by cases h⟩
theorem TOp_isnil_i {t t' e x k} {xs : List A} (ht : P.underlying t = some (.slice e)) (h : o.op = .binOp .eql t x (.const (.slice none 0 0)) t') (hd : dstOK n o.dst = true) (hx : val E x = .i k xs)
    (hN : ∀ b, (b = true → xs = []) → N (put E o.dst (.v (.bool b))) σ) : TOp P n m o N E σ :=
  TOp_nilcmp id (xs = []) ht h hd (fun w a l c => run_eqNil w t e a l c ht) (nil_i hx) hN
theorem TOp_isnil_m {t t' e x L a nn k} (ht : P.underlying t = some (.slice e)) (h : o.op = .binOp .eql t x (.const (.slice none 0 0)) t') (hd : dstOK n o.dst = true) (hx : val E x = .m L a nn k)
    (hN : ∀ b, (b = true → nn = 0) → N (put E o.dst (.v (.bool b))) σ) : TOp P n m o N E σ :=
  TOp_nilcmp id (nn = 0) ht h hd (fun w a l c => run_eqNil w t e a l c ht) (nil_m hx) hN
theorem TOp_nonil_i {t t' e x k} {xs : List A} (ht : P.underlying t = some (.slice e)) (h : o.op = .binOp .neq t x (.const (.slice none 0 0)) t') (hd : dstOK n o.dst = true) (hx : val E x = .i k xs)
    (hN : ∀ b, (b = true → xs = []) → N (put E o.dst (.v (.bool !b))) σ) : TOp P n m o N E σ :=
  TOp_nilcmp (fun b => !b) (xs = []) ht h hd (fun w a l c => run_neNil w t e a l c ht) (nil_i hx) hN

/-! ### a row of nothing -/
theorem rowAt_ghost {L xs} {σ : Store} (h : rowAt (σ ++ [.row []]) L = some xs) : (L.headD 0 < σ.length ∧ rowAt σ L = some xs) ∨ (L = [σ.length] ∧ xs = []) := by
  rcases rowAt_push h with h | ⟨p, ys, rfl, h1, h2⟩
  · exact .inl h
  · simp only [Root.cells, Option.some.injEq] at h1
    subst h1
    cases p with
    | nil => simp only [sub, Option.some.injEq] at h2; exact .inr ⟨rfl, h2.symm⟩
    | cons j p => simp [sub] at h2
theorem St.ghost {F Λ σ w} (hs : St F Λ σ w) : St F Λ (σ ++ [.row []]) w where
  row L xs h := by
    rcases rowAt_ghost h with ⟨h1, h2⟩ | ⟨rfl, rfl⟩
    · exact (hs.row L xs h2).imp id fun ⟨b, o, cs, t, g1, g2, g3, g4⟩ => ⟨b, o, cs, t, g1, g2, g3, by rw [isBox_push h1]; exact g4⟩
    · exact .inl ⟨hs.lab _ (by simp), rfl⟩
  apart L xs L' xs' b o o' h1 h2 h3 h4 := by
    rcases rowAt_ghost h1 with ⟨_, g1⟩ | ⟨rfl, _⟩
    · rcases rowAt_ghost h2 with ⟨_, g2⟩ | ⟨rfl, _⟩
      · exact hs.apart L xs L' xs' b o o' g1 g2 h3 h4
      · rw [hs.lab _ (by simp)] at h4; cases h4
    · rw [hs.lab _ (by simp)] at h3; cases h3
  old := hs.old
  lab L h := hs.lab L (Nat.le_trans (by simp) h)
theorem Step.ghost {m F Λ σ w} (hs : St F Λ σ w) : Step m F Λ σ w F Λ (σ ++ [.row []]) w :=
  { os := rfl, tape := rfl, output := rfl, size := Nat.le_refl _, sizes := Sizes.refl _, keep := fun _ _ _ => rfl, mono := fun _ h => h, new := fun _ h => .inl h
    own := fun b ⟨L, xs, o, h1, h2⟩ => by
      rcases rowAt_ghost h1 with ⟨_, g1⟩ | ⟨rfl, _⟩
      · exact .inl ⟨L, xs, o, g1, h2⟩
      · rw [hs.lab _ (by simp)] at h2; cases h2
    len := by simp; omega
    boxes := fun l xs _ hx => ⟨rfl, xs, by rw [List.getElem?_append_left (List.getElem?_eq_some_iff.1 hx).1]; exact hx⟩
    kept := fun _ _ _ _ h => h }
theorem FrOK.ghost {F Λ w tmps} {s d k : Nat} (hf : FrOK F Λ w tmps E) (hl : lk E d = .n) : FrOK F Λ w tmps ((d, .m [s] 0 0 k) :: E) := fun t => by
  simp only [lk]
  split
  · rename_i e; subst e
    have := hf d
    rw [hl] at this
    obtain ⟨ad, h⟩ := this.n_inv
    exact .m (.inl ⟨rfl, ad, h⟩)
  · exact hf t
/-- A slice that is nil, taken as a row of nothing. -/
theorem TO_ghost (d k : Nat) (hl : lk E d = .n) (h : TO P n m ops os N ((d, .m [σ.length] 0 0 k) :: E) (σ ++ [.row []])) : TO P n m ops os N E σ := fun F Λ w tmps Q hn hs hf hq =>
  h F Λ w tmps Q hn hs.ghost (hf.ghost hl) fun F' Λ' σ' w' tmps' E' hn' hs' hf' hst hN => hq F' Λ' σ' w' tmps' E' hn' hs' hf' ((Step.ghost hs).trans hst) hN
theorem T_ghost (d k : Nat) {c : Code} (hl : lk E d = .n) (h : T P n m c K ((d, .m [σ.length] 0 0 k) :: E) (σ ++ [.row []])) : T P n m c K E σ := fun F Λ w tmps Q hn hs hf hq =>
  h F Λ w tmps Q hn hs.ghost (hf.ghost hl) fun e F' Λ' σ' w' tmps' E' hn' hs' hf' hst hN => hq e F' Λ' σ' w' tmps' E' hn' hs' hf' ((Step.ghost hs).trans hst) hN
end
theorem nil_one (x : Int) : ([] : List A) ++ [intA x] = ints [x] := rfl
theorem frz_intsN {σ : Store} {l n : Nat} {xs : List Int} (h : rowAt σ [l] = some (ints xs)) (hn : n = xs.length) : frzOK σ (.m [l] 0 n 1) ∧ fzR σ (.m [l] 0 n 1) = .i 1 (ints xs) := by
  subst hn; exact frz_ints h
theorem frz_rowsN {σ : Store} {l n : Nat} {xs : List (List Int)} (h : rowAt σ [l] = some (rows xs)) (hn : n = xs.length) : frzOK σ (.m [l] 0 n 1) ∧ fzR σ (.m [l] 0 n 1) = .i 1 (rows xs) := by
  subst hn; exact frz_rows h
theorem src_ints {P : Program} {E : Env} {σ : Store} {y : Operand} {xs : List Int} (hy : val E y = .i 1 (ints xs)) : SrcA P E σ y xs.length 1 (ints xs) := src_i xs.length (by decide) hy (by simp [ints_len])
theorem src_edges {P : Program} {E : Env} {σ : Store} {y : Operand} {xs : List (Int × Int)} (hy : val E y = .i 2 (flat edge xs)) : SrcA P E σ y xs.length 2 (flat edge xs) := src_i xs.length (by decide) hy (flat_len len_edge xs)
theorem src_rows {P : Program} {E : Env} {σ : Store} {y : Operand} {xs : List (List Int)} (hy : val E y = .i 1 (rows xs)) : SrcA P E σ y xs.length 1 (rows xs) := src_i xs.length (by decide) hy (by simp [rows_len])
end Go.Sep

/- min, max; forms for texts that a program prints. -/
import Derived.Test.YtlcpdlngbofgcaaCM
import Derived.Laws.Small
set_option linter.unusedVariables false
set_option linter.unusedSimpArgs false
namespace Go.Sep
open Go
section
variable {P : Program} {E : Env} {σ : Store} {o : Oper}
theorem pur_min {x y k ts} {a b : Int} (h : o.op = .call { callee := .builtin .min, args := #[x, y], argTypes := ts }) (hx : val E x = .v (.int k a)) (hy : val E y = .v (.int k b)) : Pur P o E σ (.v (.int k (if b < a then b else a))) := fun F Λ w tmps hs hf => by
  have h1 := val_ok (ds := []) hf x
  have h2 := val_ok (ds := []) hf y
  rw [hx] at h1
  rw [hy] at h2
  refine ⟨_, .imm (.v _), fun w' _ => ?_⟩
  simp only [execOp, h, resolve, Sem.run_bind, Sem.run_pure, invoke, builtin, List.map_toArray, List.map_cons, List.map_nil, h1.v_inv, h2.v_inv, Result.andThen_ok, run_min_int2]
theorem pur_max {x y k ts} {a b : Int} (h : o.op = .call { callee := .builtin .max, args := #[x, y], argTypes := ts }) (hx : val E x = .v (.int k a)) (hy : val E y = .v (.int k b)) : Pur P o E σ (.v (.int k (if a < b then b else a))) := fun F Λ w tmps hs hf => by
  have h1 := val_ok (ds := []) hf x
  have h2 := val_ok (ds := []) hf y
  rw [hx] at h1
  rw [hy] at h2
  refine ⟨_, .imm (.v _), fun w' _ => ?_⟩
  simp only [execOp, h, resolve, Sem.run_bind, Sem.run_pure, invoke, builtin, List.map_toArray, List.map_cons, List.map_nil, h1.v_inv, h2.v_inv, Result.andThen_ok, run_max_int2, gt_iff_lt]
end
theorem cells_ints (xs : List Int) : cellAllB (ints xs) = true := by
  simp only [cellAllB, List.all_eq_true]
  intro x hx
  obtain ⟨z, _, rfl⟩ := List.mem_map.1 hx; rfl
theorem cells_flat {α : Type} {f : α → List A} (h : ∀ y, cellAllB (f y) = true) (xs : List α) : cellAllB (flat f xs) = true := by
  simp only [cellAllB, List.all_eq_true] at *
  intro x hx
  obtain ⟨y, _, hy⟩ := mem_flat hx
  exact h y x hy
theorem cells_edges (xs : List (Int × Int)) : cellAllB (flat edge xs) = true := cells_flat (fun _ => rfl) xs
theorem cells_rows (xs : List (List Int)) : cellAllB (rows xs) = true := by
  simp only [cellAllB, List.all_eq_true]
  intro x hx
  obtain ⟨z, _, rfl⟩ := List.mem_map.1 hx; rfl
theorem ints_app (xs ys : List Int) : ints xs ++ ints ys = ints (xs ++ ys) := by simp [ints]
theorem ints_one (xs : List Int) (y : Int) : ints xs ++ [intA y] = ints (xs ++ [y]) := by simp [ints]
theorem rows_one (xs : List (List Int)) (y : List Int) : rows xs ++ [.i 1 (ints y)] = rows (xs ++ [y]) := by simp [rows]
theorem flat_app {α : Type} (f : α → List A) (xs ys : List α) : flat f xs ++ flat f ys = flat f (xs ++ ys) := by
  induction xs with
  | nil => rfl
  | cons x xs ih => simp only [flat, List.cons_append, List.append_assoc, ih]
theorem flat_one {α : Type} (f : α → List A) (xs : List α) (y : α) : flat f xs ++ f y = flat f (xs ++ [y]) := by
  rw [← flat_app]; simp [flat]
/-- A row of whole numbers that is owned, taken as what nobody writes. -/
theorem frz_ints {σ : Store} {l : Nat} {xs : List Int} (h : rowAt σ [l] = some (ints xs)) : frzOK σ (.m [l] 0 xs.length 1) ∧ fzR σ (.m [l] 0 xs.length 1) = .i 1 (ints xs) := by
  refine ⟨⟨by decide, ints xs, h, by simp [ints_len], ?_⟩, ?_⟩
  · rw [List.drop_zero, Nat.mul_one, ← ints_len xs, List.take_length]; exact firmL_ints xs
  · simp only [fzR, h, Option.getD_some, List.drop_zero, Nat.mul_one]
    rw [← ints_len xs, List.take_length, fzL_ints]
theorem frz_edges {σ : Store} {l : Nat} {xs : List (Int × Int)} (h : rowAt σ [l] = some (flat edge xs)) : frzOK σ (.m [l] 0 xs.length 2) ∧ fzR σ (.m [l] 0 xs.length 2) = edgesI xs := by
  have hl := flat_len len_edge xs
  refine ⟨⟨by decide, flat edge xs, h, by simp [hl], ?_⟩, ?_⟩
  · rw [List.drop_zero, ← hl, List.take_length]; exact firmL_edges xs
  · simp only [fzR, h, Option.getD_some, List.drop_zero]
    rw [← hl, List.take_length, fzL_edges]
theorem frz_rows {σ : Store} {l : Nat} {xs : List (List Int)} (h : rowAt σ [l] = some (rows xs)) : frzOK σ (.m [l] 0 xs.length 1) ∧ fzR σ (.m [l] 0 xs.length 1) = .i 1 (rows xs) := by
  refine ⟨⟨by decide, rows xs, h, by simp [rows_len], ?_⟩, ?_⟩
  · rw [List.drop_zero, Nat.mul_one, ← rows_len xs, List.take_length]; exact firmL_rows xs
  · simp only [fzR, h, Option.getD_some, List.drop_zero, Nat.mul_one]
    rw [← rows_len xs, List.take_length, fzL_rows]

theorem mvS_grow {σ : Store} {l : Nat} {zs : List A} (hl : l < σ.length) : mvS l σ.length (σ.set l .dead ++ [.row zs]) = (σ.map (mvR l σ.length)).set l (.row zs) ++ [.dead] := by
  apply List.ext_getElem?
  intro h
  rw [mvS_get (by omega) (by simp; omega), grow_get hl, grow_get hl]
  simp only [List.length_append, List.length_set, List.length_cons, List.length_nil]
  by_cases e : h = σ.length
  · subst e
    rw [if_pos ⟨rfl, by omega⟩, List.getElem?_append_right (by simp)]
    simp
  · rw [if_neg (by rintro ⟨rfl, _⟩; exact e rfl)]
    by_cases e2 : h = l
    · subst e2
      have e3 : ¬ σ.length = h := by omega
      rw [if_pos rfl, List.getElem?_append_left (by simpa using hl)]
      simp [hl, e3]
    · rw [if_neg e2, if_neg e2, if_neg e]
      rcases Nat.lt_or_ge h σ.length with h3 | h3
      · rw [List.getElem?_append_left (by simpa using h3), List.getElem?_set_ne (Ne.symm e2), List.getElem?_map]
      · rw [List.getElem?_eq_none h3, List.getElem?_eq_none (by simp; omega)]; rfl
section
variable {P : Program} {n m : Nat} {N : Env → Store → Prop} {E : Env} {σ : Store} {o : Oper} {ops : Array Oper} {os : List Oper}
/-- append, the row keeping its place. -/
theorem TOp_app {t e k l nn mm by_ : Nat} {x y : Operand} {zs : List Value} {xs ys us : List A} (hT : SlT P t e k) (hz : ZeroT P e zs) (hzk : zs.length = k) (hby : (P.info? e).map (·.bytes) = some by_)
    (h : o.op = .call { callee := .builtin .append, args := #[x, y], argTypes := #[t, t] }) (hd : dstOK n o.dst = true) (hx : val E x = .m [l] 0 nn k) (hr : σ[l]? = some (.row xs)) (hl : xs.length = nn * k)
    (hsrc : SrcA P E σ y mm k ys) (hc : cellAllB ys = true) (hm : nn + mm ≤ 9223372036854775807) (hb : (nn + mm) * by_ ≤ 140737488355328) (hml : m ≤ l) (hus : xs ++ ys = us)
    (hN : TO P n m ops os N (mvE l σ.length (put E o.dst (.m [σ.length] 0 (nn + mm) k))) ((σ.map (mvR l σ.length)).set l (.row us) ++ [.dead])) : TOp P n m o (TO P n m ops os N) E σ := by
  have hlt : l < σ.length := (List.getElem?_eq_some_iff.1 hr).1
  subst hus
  refine TOp_append hT hz hzk hby h hd hx hr hl hsrc hc hm hb (TO_move l σ.length (by omega) (by simp; omega) (zs := xs ++ ys) (by rw [grow_get hlt, if_neg (by omega), if_pos rfl]) (by unfold noBox; rw [grow_get hlt, if_pos rfl]) hml ?_)
  rw [mvS_grow hlt]
  exact hN
theorem frzOKL_cons {σ : Store} {a : A} {as : List A} (h : frzOK σ a) (hs : frzOKL σ as) : frzOKL σ (a :: as) := ⟨h, hs⟩
theorem frzOKL_nil {σ : Store} : frzOKL σ [] := trivial
theorem fzRL_cons {σ : Store} {a a' : A} {as as' : List A} (h : fzR σ a = a') (hs : fzRL σ as = as') : fzRL σ (a :: as) = a' :: as' := by simp only [fzRL, h, hs]
end

/-! ### all that is owned is from here on what nobody writes -/
def FrzE (σ : Store) (E : Env) : Env → Prop
  | [] => True
  | (t, a) :: E' => (frzOK σ (lk E t) ∧ fzR σ (lk E t) = a) ∧ FrzE σ E E'
theorem FrzE.ok {F Λ σ w tmps} (hs : St F Λ σ w) {E : Env} (hf : FrOK F Λ w tmps E) : ∀ {E' : Env}, FrzE σ E E' → FrOK (FO F Λ σ) (fun _ => none) w tmps E'
  | [], _, t => .j _
  | (u, a) :: E', h, t => by
    simp only [lk]
    split
    · rename_i e; subst e
      have := (hf u).frz hs h.1.1
      rw [h.1.2] at this; exact this
    · exact FrzE.ok hs hf h.2 t
theorem Step.frz {F Λ σ w} (hs : St F Λ σ w) : Step 0 F Λ σ w (FO F Λ σ) (fun _ => none) [] w :=
  { os := rfl, tape := rfl, output := rfl, size := Nat.le_refl _, sizes := Sizes.refl _, keep := fun _ _ _ => rfl, mono := fun _ h => .inl h, new := fun b h => h.elim .inl fun h => .inr (.inl h)
    own := fun b hb => hb.empty.elim, len := Nat.zero_le _, boxes := fun l xs hl _ => by simp at hl, kept := fun L b o hL _ => by simp at hL }
section
variable {P : Program} {n : Nat} {K : Exit → Env → Store → Prop} {N : Env → Store → Prop} {E : Env} {σ : Store} {ops : Array Oper} {os : List Oper}
theorem T_frz {c : Code} {E' : Env} (hE : FrzE σ E E') (h : T P n 0 c K E' []) : T P n 0 c K E σ := fun F Λ w tmps Q hn hs hf hq =>
  h _ _ w tmps Q hn hs.frz (hE.ok hs hf) fun e F' Λ' σ' w' tmps' E' hn' hs' hf' hst hN => hq e F' Λ' σ' w' tmps' E' hn' hs' hf' ((Step.frz hs).trans hst) hN
theorem TO_frz {E' : Env} (hE : FrzE σ E E') (h : TO P n 0 ops os N E' []) : TO P n 0 ops os N E σ := fun F Λ w tmps Q hn hs hf hq =>
  h _ _ w tmps Q hn hs.frz (hE.ok hs hf) fun F' Λ' σ' w' tmps' E' hn' hs' hf' hst hN => hq F' Λ' σ' w' tmps' E' hn' hs' hf' ((Step.frz hs).trans hst) hN
end

theorem loose_names : ∀ (k : Nat) (p : List Nat → Bool), (∀ x : A, SizeOf.sizeOf x ≤ k → x.loose = true → x.names p = false) ∧ (∀ xs : List A, SizeOf.sizeOf xs ≤ k → looseL xs = true → namesL p xs = false) := by
  intro k p
  induction k with
  | zero =>
    refine ⟨fun x hx _ => ?_, fun xs hx _ => ?_⟩
    · cases x <;> simp at hx
    · cases xs <;> simp at hx
  | succ k ih =>
    refine ⟨fun x hx hn => ?_, fun xs hx hn => ?_⟩
    · cases x <;> simp only [A.names, A.loose] at * <;> first | rfl | (cases hn; done) | exact ih.2 _ (by simp at hx; omega) hn
    · cases xs with
      | nil => rfl
      | cons y ys =>
        simp only [namesL, looseL, Bool.and_eq_true, Bool.or_eq_false_iff] at *
        exact ⟨ih.1 _ (by simp at hx; omega) hn.1, ih.2 _ (by simp at hx; omega) hn.2⟩
theorem looseL_names {xs : List A} (h : looseL xs = true) (p : List Nat → Bool) : namesL p xs = false := (loose_names _ p).2 xs (Nat.le_refl _) h
section
variable {P : Program} {E : Env} {σ : Store} {o : Oper}
theorem pur_ixN {t x y e k kk} {xs : List A} {i : Nat} {n : Nat} [hn : Len xs k n] (hT : SlT P t e k) (hx : val E x = .i k xs) (hy : val E y = .v (.int kk (i : Int))) (h1 : i < n) (h : o.op = .indexAddr t x y) : Pur P o E σ (.q xs (i * k)) :=
  pur_ix_i n hT hx hy hn.h (by omega) (by omega) h
theorem pur_ixN_m {t x y e k kk L a n} {i : Nat} (hT : SlT P t e k) (hx : val E x = .m L a n k) (hy : val E y = .v (.int kk (i : Int))) (h1 : i < n) (h : o.op = .indexAddr t x y) : Pur P o E σ (.e L (a + i * k)) :=
  pur_ix_m hT hx hy (by omega) (by omega) h
end
end Go.Sep

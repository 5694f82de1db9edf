/- The operations, typed. -/
import Derived.Test.YtlcpdlngbofgcaaCQ
set_option linter.unusedVariables false
set_option linter.unusedSimpArgs false
namespace Go.Sep
open Go

section
variable {P : Program} {E : Env} {σ : Store} {o : Oper}
theorem pur_ixT {α : Type} {T : Ty α} {t x y e kk} {xs : List α} {z : Int} {i : Nat} {v : α} (hT : SlT P t e T.k) (hx : val E x = sl T xs) (hy : val E y = .v (.int kk z)) (hz : z = (i : Int)) (hv : xs[i]? = some v) (h : o.op = .indexAddr t x y) : Pur P o E σ (.q (flat T.enc xs) (i * T.k)) := by
  have hi := (List.getElem?_eq_some_iff.1 hv).1
  subst hz
  exact pur_ix_i xs.length hT hx hy (flat_len T.len xs) (by omega) (by omega) h
theorem pur_ixM {α : Type} {T : Ty α} {t x y e kk L} {xs : List α} {z : Int} {i : Nat} {v : α} (hT : SlT P t e T.k) (hx : val E x = .m L 0 xs.length T.k) (hy : val E y = .v (.int kk z)) (hz : z = (i : Int)) (hv : xs[i]? = some v) (h : o.op = .indexAddr t x y) : Pur P o E σ (.e L (i * T.k)) := by
  have hi := (List.getElem?_eq_some_iff.1 hv).1
  subst hz
  have := pur_ix_m (σ := σ) hT hx hy (by omega) (by omega) h
  simpa using this
theorem pur_ldT {α : Type} {T : Ty α} {t x d i off} {xs : List α} {v : α} {y : A} (h : o.op = .load t x) (hT : OneT P t) (hx : val E x = .q (flat T.enc xs) d) (hd : d = i * T.k + off) (hv : xs[i]? = some v) (hy : (T.enc v)[off]? = some y) : Pur P o E σ y := by
  subst hd; exact pur_ld_q hT hx (flat_at' T.len hv hy) h
theorem pur_ldTK {α : Type} {T : Ty α} {t x d i off k'} {xs : List α} {v : α} {ys : List A} (h : o.op = .load t x) (hT : AggT P t k') (hx : val E x = .q (flat T.enc xs) d) (hd : d = i * T.k + off) (hv : xs[i]? = some v) (hk : off + k' ≤ T.k) (hy : ((T.enc v).drop off).take k' = ys) : Pur P o E σ (.g ys) := by
  subst hd hy
  rw [← flat_cut T.len hv hk]
  exact pur_ldK_q hT hx (flat_n T.len hv hk) h
theorem pur_ldE {α : Type} {f : α → List A} {k : Nat} {t x d i off L} {xs : List α} {v : α} {y y' : A} (hf : ∀ x, (f x).length = k) (h : o.op = .load t x) (hT : OneT P t) (hx : val E x = .e L d) (hr : rowAt σ L = some (flat f xs)) (hd : d = i * k + off) (hv : xs[i]? = some v) (hy : (f v)[off]? = some y) (hy' : cellVal (L ++ [d]) y = y') : Pur P o E σ y' := by
  subst hd hy'; exact pur_ld_e hT hx hr (flat_at' hf hv hy) h
theorem pur_ldEK {α : Type} {f : α → List A} {k : Nat} {t x d i off k' L} {xs : List α} {v : α} {ys : List A} (hf : ∀ x, (f x).length = k) (h : o.op = .load t x) (hT : AggT P t k') (hx : val E x = .e L d) (hr : rowAt σ L = some (flat f xs)) (hd : d = i * k + off) (hv : xs[i]? = some v) (hk : off + k' ≤ k) (hy : cellVals L d (((f v).drop off).take k') = ys) : Pur P o E σ (.g ys) := by
  subst hy
  have := pur_ldK_e (σ := σ) hT hx hr (by subst hd; exact flat_n hf hv hk) h
  rw [hd] at this ⊢
  rwa [flat_cut hf hv hk] at this
theorem cellVal_sl {α : Type} {T : Ty α} {xs : List α} {L : List Nat} : cellVal L (.o T.k (flat T.own xs)) = .m L 0 xs.length T.k := by
  simp only [cellVal, flat_len T.lenO]; rw [Nat.mul_div_cancel _ T.pos]
theorem pur_wadd {t x y t' k} {a b : Int} (h : o.op = .binOp .add t x y t') (hx : val E x = .v (.int k a)) (hy : val E y = .v (.int k b)) : Pur P o E σ (.v (.int k (k.wrap (a + b)))) := pur_add h hx hy rfl
theorem pur_wsub {t x y t' k} {a b : Int} (h : o.op = .binOp .sub t x y t') (hx : val E x = .v (.int k a)) (hy : val E y = .v (.int k b)) : Pur P o E σ (.v (.int k (k.wrap (a - b)))) := pur_sub h hx hy rfl
theorem pur_wmul {t x y t' k} {a b : Int} (h : o.op = .binOp .mul t x y t') (hx : val E x = .v (.int k a)) (hy : val E y = .v (.int k b)) : Pur P o E σ (.v (.int k (k.wrap (a * b)))) := pur_mul h hx hy rfl
theorem pur_wquo {t x y t' k} {a b : Int} (h : o.op = .binOp .quo t x y t') (hx : val E x = .v (.int k a)) (hy : val E y = .v (.int k b)) (h0 : b ≠ 0) : Pur P o E σ (.v (.int k (k.wrap (a.tdiv b)))) := pur_quo h hx hy h0 rfl
theorem pur_wneg {t x k} {a : Int} (h : o.op = .unOp .neg t x) (hx : val E x = .v (.int k a)) : Pur P o E σ (.v (.int k (k.wrap (-a)))) := pur_neg h hx rfl
theorem pur_lenT {α : Type} {T : Ty α} {t x e k'} {xs : List α} (hT : SlT P t e k') (hx : val E x = sl T xs) (h : o.op = .call { callee := .builtin .len, args := #[x], argTypes := #[t] }) : Pur P o E σ (natA xs.length) :=
  pur_len_i xs.length hT hx T.pos (flat_len T.len xs) h
end

/-! ### nil as an empty slice -/
mutual
/-- Whatever is b's is a's too. -/
def LeA : A → A → Prop
  | .n, b => b = .n ∨ (∃ k, b = .i k []) ∨ ∃ L a k, b = .m L a 0 k
  | .g xs, b => ∃ ys, b = .g ys ∧ LeL xs ys
  | .t xs, b => ∃ ys, b = .t ys ∧ LeL xs ys
  | .j, b => b = .j
  | .v x, b => b = .v x
  | .i k xs, b => b = .i k xs
  | .o k xs, b => b = .o k xs
  | .m L a n k, b => b = .m L a n k
  | .e L a, b => b = .e L a
  | .b l a, b => b = .b l a
  | .q xs d, b => b = .q xs d
  | .f f xs, b => b = .f f xs
def LeL : List A → List A → Prop
  | [], bs => bs = []
  | a :: as, bs => ∃ b bs', bs = b :: bs' ∧ LeA a b ∧ LeL as bs'
end
theorem LeL.get {as bs : List A} (h : LeL as bs) : as.length = bs.length ∧ ∀ (j : Nat) a b, as[j]? = some a → bs[j]? = some b → LeA a b := by
  induction as generalizing bs with
  | nil => simp only [LeL] at h; subst h; exact ⟨rfl, by simp⟩
  | cons a as ih =>
    simp only [LeL] at h
    obtain ⟨b, bs', rfl, h1, h2⟩ := h
    obtain ⟨h3, h4⟩ := ih h2
    refine ⟨by simp [h3], fun j x y hx hy => ?_⟩
    cases j with
    | zero => simp at hx hy; subst hx; subst hy; exact h1
    | succ j => exact h4 j x y (by simpa using hx) (by simpa using hy)
theorem LeA.ok {F Λ w} : ∀ (N : Nat) (a b : A), SizeOf.sizeOf a < N → LeA a b → ∀ v, OK F Λ w v a → OK F Λ w v b := by
  intro N
  induction N with
  | zero => intro a b h; exact absurd h (Nat.not_lt_zero _)
  | succ N ih =>
    intro a b hN hl v h
    cases a with
    | n =>
      obtain ⟨ad, rfl⟩ := h.n_inv
      rcases hl with rfl | ⟨k, rfl⟩ | ⟨L, a, k, rfl⟩
      · exact h
      · exact .imm (.i0 ad 0 k)
      · exact .m (.inl ⟨rfl, ad, rfl⟩)
    | g xs =>
      obtain ⟨ys, rfl, h1⟩ := hl
      obtain ⟨vs, rfl, h2, h3⟩ := h.g_inv
      obtain ⟨h4, h5⟩ := h1.get
      refine .g vs ys (h2.trans h4) fun j x y hx hy => ?_
      have hj : j < xs.length := by have := (List.getElem?_eq_some_iff.1 hx).1; omega
      have hs : SizeOf.sizeOf xs[j] < SizeOf.sizeOf xs := List.sizeOf_lt_of_mem (List.getElem_mem hj)
      exact ih xs[j] x (by simp at hN; omega) (h5 j _ _ (List.getElem?_eq_getElem hj) hx) y (h3 j _ y (List.getElem?_eq_getElem hj) hy)
    | t xs =>
      obtain ⟨ys, rfl, h1⟩ := hl
      obtain ⟨vs, rfl, h2, h3⟩ := h.t_inv
      obtain ⟨h4, h5⟩ := h1.get
      refine .t vs ys (h2.trans h4) fun j x y hx hy => ?_
      have hj : j < xs.length := by have := (List.getElem?_eq_some_iff.1 hx).1; omega
      have hs : SizeOf.sizeOf xs[j] < SizeOf.sizeOf xs := List.sizeOf_lt_of_mem (List.getElem_mem hj)
      exact ih xs[j] x (by simp at hN; omega) (h5 j _ _ (List.getElem?_eq_getElem hj) hx) y (h3 j _ y (List.getElem?_eq_getElem hj) hy)
    | _ => cases hl; exact h
theorem OK.le {F Λ w v a b} (h : OK F Λ w v a) (hl : LeA a b) : OK F Λ w v b := LeA.ok _ a b (Nat.lt_succ_self _) hl v h
theorem leN {k : Nat} : LeA .n (.i k []) := .inr (.inl ⟨k, rfl⟩)
theorem leM {L : List Nat} {a k : Nat} : LeA .n (.m L a 0 k) := .inr (.inr ⟨L, a, k, rfl⟩)
theorem leG {xs ys : List A} (h : LeL xs ys) : LeA (.g xs) (.g ys) := ⟨ys, rfl, h⟩
theorem leT {xs ys : List A} (h : LeL xs ys) : LeA (.t xs) (.t ys) := ⟨ys, rfl, h⟩
mutual
theorem LeA.rfl' : ∀ (a : A), LeA a a
  | .n => .inl rfl
  | .g xs => ⟨xs, rfl, LeL.rfl' xs⟩
  | .t xs => ⟨xs, rfl, LeL.rfl' xs⟩
  | .j => rfl
  | .v _ => rfl
  | .i _ _ => rfl
  | .o _ _ => rfl
  | .m _ _ _ _ => rfl
  | .e _ _ => rfl
  | .b _ _ => rfl
  | .q _ _ => rfl
  | .f _ _ => rfl
theorem LeL.rfl' : ∀ (as : List A), LeL as as
  | [] => rfl
  | a :: as => ⟨a, as, rfl, LeA.rfl' a, LeL.rfl' as⟩
end
theorem leR {a b : A} (h : a = b) : LeA a b := h ▸ LeA.rfl' a
theorem leNil : LeL [] [] := rfl
theorem leCons {a b : A} {as bs : List A} (h : LeA a b) (hs : LeL as bs) : LeL (a :: as) (b :: bs) := ⟨b, bs, rfl, h, hs⟩
section
variable {P : Program} {n m : Nat} {K : Exit → Env → Store → Prop} {N : Env → Store → Prop} {E : Env} {σ : Store} {ops : Array Oper} {os : List Oper} {o : Oper}
theorem pur_le {a b : A} (h : Pur P o E σ a) (hl : LeA a b) : Pur P o E σ b := fun F Λ w tmps hs hf => by
  obtain ⟨v, h1, h2⟩ := h F Λ w tmps hs hf
  exact ⟨v, h1.le hl, h2⟩
theorem CallOp.le {g : Nat} {as bs : List A} (h : CallOp P o E g as) (hl : LeL as bs) : CallOp P o E g bs := fun F Λ w tmps hf => by
  obtain ⟨vs, ⟨h1, h2⟩, h3⟩ := h F Λ w tmps hf
  obtain ⟨h4, h5⟩ := hl.get
  refine ⟨vs, ⟨h1.trans h4, fun j y v hy hv => ?_⟩, h3⟩
  have hj : j < as.length := by have := (List.getElem?_eq_some_iff.1 hy).1; omega
  exact (h2 j _ v (List.getElem?_eq_getElem hj) hv).le (h5 j _ _ (List.getElem?_eq_getElem hj) hy)
/-- The slots of E' hold in E. -/
def PkL (E : Env) : Env → Prop
  | [] => True
  | (t, a) :: E' => LeA (lk E t) a ∧ PkL E E'
theorem PkL.fr {F Λ w tmps} (hf : FrOK F Λ w tmps E) : ∀ {E' : Env}, PkL E E' → FrOK F Λ w tmps E'
  | [], _ => fun t => .j _
  | (u, a) :: E', h => fun t => by
    simp only [lk]
    split
    · rename_i e; subst e; exact (hf u).le h.1
    · exact PkL.fr hf h.2 t
theorem T_envL {c : Code} {E' : Env} (hE : PkL E E') (h : T P n m c K E' σ) : T P n m c K E σ := fun F Λ w tmps Q hn hs hf hq => h F Λ w tmps Q hn hs (hE.fr hf) hq
theorem TO_envL {E' : Env} (hE : PkL E E') (h : TO P n m ops os N E' σ) : TO P n m ops os N E σ := fun F Λ w tmps Q hn hs hf hq => h F Λ w tmps Q hn hs (hE.fr hf) hq
theorem TO_env {E' : Env} (hE : Pk E E') (h : TO P n m ops os N E' σ) : TO P n m ops os N E σ := fun F Λ w tmps Q hn hs hf hq => h F Λ w tmps Q hn hs (hf.weak hE.all) hq
theorem TQ_env {E' : Env} (hE : Pk E E') (h : TQ P n m ops os N E' σ) : TQ P n m ops os N E σ := fun F Λ w tmps Q hn hs hf hq => h F Λ w tmps Q hn hs (hf.weak hE.all) hq
theorem T_row0 {c : Code} (h : T P n m c K E (σ ++ [.row []])) : T P n m c K E σ := fun F Λ w tmps Q hn hs hf hq =>
  h F Λ w tmps Q hn hs.ghost hf fun e F' Λ' σ' w' tmps' E' hn' hs' hf' hst hN => hq e F' Λ' σ' w' tmps' E' hn' hs' hf' ((Step.ghost hs).trans hst) hN
theorem TO_row0 (h : TO P n m ops os N E (σ ++ [.row []])) : TO P n m ops os N E σ := fun F Λ w tmps Q hn hs hf hq =>
  h F Λ w tmps Q hn hs.ghost hf fun F' Λ' σ' w' tmps' E' hn' hs' hf' hst hN => hq F' Λ' σ' w' tmps' E' hn' hs' hf' ((Step.ghost hs).trans hst) hN
theorem TO_st {σ' : Store} (hσ : σ = σ') (h : TO P n m ops os N E σ') : TO P n m ops os N E σ := hσ ▸ h
theorem T_st {c : Code} {σ' : Store} (hσ : σ = σ') (h : T P n m c K E σ') : T P n m c K E σ := hσ ▸ h
end

/-! ### loops and joins -/
/-- Forgetting, nil being taken as an empty slice. -/
def WeakL (m : Nat) (E : Env) (σ : Store) (E' : Env) (σ' : Store) : Prop := PkL E E' ∧ Weak m E' σ E' σ'
theorem WeakL.go {m E σ E' σ' F Λ w tmps} (h : WeakL m E σ E' σ') (hs : St F Λ σ w) (hf : FrOK F Λ w tmps E) : ∃ Λ', St F Λ' σ' w ∧ FrOK F Λ' w tmps E' ∧ Step m F Λ σ w F Λ' σ' w := h.2.go hs (h.1.fr hf)
theorem pk_self : ∀ {E E' : Env}, (∀ t a, (t, a) ∈ E' → lk E t = a) → Pk E E'
  | E, [], _ => trivial
  | E, (t, a) :: E', h => ⟨h t a (List.mem_cons_self ..), pk_self fun t a hm => h t a (List.mem_cons_of_mem _ hm)⟩
/-- Slots in ascending order are not twice there. -/
def ascE : Env → Bool
  | [] => true
  | (t, _) :: E => ascE E && E.all fun p => decide (t < p.1)
theorem asc_lk : ∀ {E : Env}, ascE E = true → ∀ p ∈ E, lk E p.1 = p.2
  | [], _, p, h => by cases h
  | (t, a) :: E, hs, p, h => by
    simp only [ascE, Bool.and_eq_true, List.all_eq_true, decide_eq_true_eq] at hs
    rcases List.mem_cons.1 h with rfl | h
    · simp [lk]
    · have := hs.2 p h
      simp only [lk]; rw [if_neg (by omega)]; exact asc_lk hs.1 p h
theorem WeakL.to {m E σ E' σ'} (k : Nat) (hm : m ≤ k) (ha : ascE E' = true) (hσ : σ' = σ.take k) (h1 : namesE k E' = false) (h2 : boxesE k σ' = false) (hE : PkL E E') : WeakL m E σ E' σ' :=
  ⟨hE, asc_lk ha, k, hm, hσ, namesE_all h1, boxesE_all h2⟩
section
variable {P : Program} {n m : Nat} {K : Exit → Env → Store → Prop} {N : Env → Store → Prop} {E : Env} {σ : Store} {ops : Array Oper} {os : List Oper} {o : Oper}
theorem T_weakL {c : Code} {E' σ'} (hw : WeakL m E σ E' σ') (h : T P n m c K E' σ') : T P n m c K E σ := fun F Λ w tmps Q hn hs hf hq => by
  obtain ⟨Λ', hs', hf', hst⟩ := hw.go hs hf
  exact h F Λ' w tmps Q hn hs' hf' fun e F2 Λ2 σ2 w2 tmps2 E2 hn2 hs2 hf2 hst2 hK => hq e F2 Λ2 σ2 w2 tmps2 E2 hn2 hs2 hf2 (hst.trans hst2) hK
/-- One loop rule for all: φ tells what is known at the head at number k, of state x. -/
theorem T_loopX {c : Code} {X : Type} (φ : Nat → X → Prop) (Ex : X → Env) (σx : X → Store) (k0 : Nat) (x0 : X) (hw : WeakL m E σ (Ex x0) (σx x0)) (h0 : φ k0 x0)
    (h : ∀ k x, φ k x → T P n m c (thenK (fun E' σ' => ∃ k' x', k' < k ∧ WeakL m E' σ' (Ex x') (σx x') ∧ φ k' x') K) (Ex x) (σx x)) : T P n m (.loop c) K E σ := T_weakL hw fun F Λ w tmps Q hn hs hf hq => by
  refine wp_loop_ghost (fun k a w' => ∃ F' Λ' tmps' x, a = ⟨tmps', []⟩ ∧ tmps'.size = n ∧ St F' Λ' (σx x) w' ∧ FrOK F' Λ' w' tmps' (Ex x) ∧ Step m F Λ (σx x0) w F' Λ' (σx x) w' ∧ φ k x) k0 ⟨F, Λ, tmps, x0, rfl, hn, hs, hf, .refl .., h0⟩ ?_
  rintro k a w1 ⟨F1, Λ1, tmps1, x1, rfl, hn1, hs1, hf1, hst1, hI⟩
  refine h k x1 hI F1 Λ1 w1 tmps1 _ hn1 hs1 hf1 fun e F2 Λ2 σ2 w2 tmps2 E2 hn2 hs2 hf2 hst2 hK => ?_
  cases e with
  | normal =>
    obtain ⟨k', x', hk, hw3, hI3⟩ := hK
    obtain ⟨Λ3, hs3, hf3, hst3⟩ := hw3.go hs2 hf2
    exact ⟨k', hk, F2, Λ3, tmps2, x', rfl, hn2, hs3, hf3, (hst1.trans hst2).trans hst3, hI3⟩
  | _ => exact hq _ F2 Λ2 σ2 w2 tmps2 E2 hn2 hs2 hf2 (hst1.trans hst2) hK
theorem again {X : Type} {φ : Nat → X → Prop} {Ex : X → Env} {σx : X → Store} {k : Nat} (k' : Nat) (x' : X) (hk : k' < k) (hw : WeakL m E σ (Ex x') (σx x')) (h : φ k' x') : ∃ k' x', k' < k ∧ WeakL m E σ (Ex x') (σx x') ∧ φ k' x' := ⟨k', x', hk, hw, h⟩
/-- A sequence, cut: what is known between is a state x, with φ of it. -/
theorem T_cutX {a b : Code} {X : Type} (φ : X → Prop) (Ex : X → Env) (σx : X → Store) (h : T P n m a (thenK (fun E' σ' => ∃ x, WeakL m E' σ' (Ex x) (σx x) ∧ φ x) K) E σ)
    (h2 : ∀ x, φ x → T P n m b K (Ex x) (σx x)) : T P n m (.seq a b) K E σ :=
  T_cut (fun E' σ' => ∃ x, WeakL m E' σ' (Ex x) (σx x) ∧ φ x) h fun E' σ' ⟨x, h3, h4⟩ => T_weakL h3 (h2 x h4)
theorem joined {X : Type} {φ : X → Prop} {Ex : X → Env} {σx : X → Store} (x : X) (hw : WeakL m E σ (Ex x) (σx x)) (h : φ x) : ∃ x, WeakL m E σ (Ex x) (σx x) ∧ φ x := ⟨x, hw, h⟩
end
theorem and_T {a b x : Bool} (h : a = true) (hx : x = b) : x = (a && b) := by subst h; simpa using hx
theorem and_F {a b x : Bool} (h : a = false) (hx : x = false) : x = (a && b) := by subst h; simpa using hx
theorem or_T {a b x : Bool} (h : a = true) (hx : x = true) : x = (a || b) := by subst h; simpa using hx
theorem or_F {a b x : Bool} (h : a = false) (hx : x = b) : x = (a || b) := by subst h; simpa using hx
theorem cond_T {α : Type} {c : Bool} {a b x : α} (h : c = true) (hx : x = a) : x = cond c a b := by subst h; simpa using hx
theorem cond_F {α : Type} {c : Bool} {a b x : α} (h : c = false) (hx : x = b) : x = cond c a b := by subst h; simpa using hx
theorem some_inj {α : Type} {a b : α} (h : some a = some b) : a = b := Option.some.inj h
theorem onS_l {S R X : Type} {s : S} {K : S → Option X} {L : R → Option X} {r} (h : onS (.inl s) K L = r) : K s = r := h
theorem onS_r {S R X : Type} {s : R} {K : S → Option X} {L : R → Option X} {r} (h : onS (.inr s) K L = r) : L s = r := h

theorem gen_forL {α S R : Type} {b : Int → α → S → Option (Ctl S R)} {xs i s o} (h : forL b xs i s = some o) : ∃ c, c = b ∧ forL c xs i s = some o := ⟨b, rfl, h⟩
theorem gen_forS {α S : Type} {b : Int → α → S → Option S} {xs i s o} (h : forS b xs i s = some o) : ∃ c, c = b ∧ forS c xs i s = some o := ⟨b, rfl, h⟩
theorem gen_forN {S R : Type} {b : Int → S → Option (Ctl S R)} {k i s o} (h : forN b k i s = some o) : ∃ c, c = b ∧ forN c k i s = some o := ⟨b, rfl, h⟩
theorem gen_forM {S : Type} {b : Int → S → Option S} {k i s o} (h : forM b k i s = some o) : ∃ c, c = b ∧ forM c k i s = some o := ⟨b, rfl, h⟩
theorem gen_whileF {S R : Type} {b : S → Option (Ctl S R)} {k s o} (h : whileF b k s = some o) : ∃ c, c = b ∧ whileF c k s = some o := ⟨b, rfl, h⟩

/-! ### append, to a row that is owned -/
section
variable {P : Program} {n m : Nat} {N : Env → Store → Prop} {E : Env} {σ : Store} {o : Oper} {ops : Array Oper} {os : List Oper}
theorem TOp_appT {α : Type} {T : Ty α} {f : α → List A} (hf : ∀ x, (f x).length = T.k) {t e l by_ : Nat} {x y : Operand} {zs : List Value} {xs ys : List α} (hT : SlT P t e T.k) (hz : ZeroT P e zs) (hzk : zs.length = T.k) (hby : (P.info? e).map (·.bytes) = some by_) (hb1 : 1 ≤ by_)
    (h : o.op = .call { callee := .builtin .append, args := #[x, y], argTypes := #[t, t] }) (hd : dstOK n o.dst = true) (hx : val E x = .m [l] 0 xs.length T.k) (hr : σ[l]? = some (.row (flat f xs)))
    (hsrc : SrcA P E σ y ys.length T.k (flat f ys)) (hc : cellAllB (flat f ys) = true) (hb : (xs.length + ys.length) * by_ ≤ 140737488355328) (hml : m ≤ l)
    (hN : TO P n m ops os N (mvE l σ.length (put E o.dst (.m [σ.length] 0 (xs ++ ys).length T.k))) ((σ.map (mvR l σ.length)).set l (.row (flat f (xs ++ ys))) ++ [.dead])) : TOp P n m o (TO P n m ops os N) E σ := by
  have h63 : xs.length + ys.length ≤ 9223372036854775807 := by
    have : (xs.length + ys.length) * 1 ≤ (xs.length + ys.length) * by_ := Nat.mul_le_mul_left _ hb1
    omega
  refine TOp_app hT hz hzk hby h hd hx hr (flat_len hf xs) hsrc hc h63 hb hml (flat_app f xs ys) ?_
  rw [← List.length_append]; exact hN
theorem src_T {α : Type} {T : Ty α} {y : Operand} {ys : List α} (hy : val E y = sl T ys) : SrcA P E σ y ys.length T.k (flat T.enc ys) := src_i ys.length T.pos hy (flat_len T.len ys)
theorem src_mT {α : Type} {f : α → List A} {k : Nat} (hf : ∀ x, (f x).length = k) {y : Operand} {ys : List α} {l : Nat} (hy : val E y = .m [l] 0 ys.length k) (hr : σ[l]? = some (.row (flat f ys))) (hc : cellAllB (flat f ys) = true) : SrcA P E σ y ys.length k (flat f ys) := by
  have hl := flat_len hf ys
  refine src_m (zs := flat f ys) hy (by rw [rowAt_cons, hr]; rfl) (by omega) ?_ (by simp [isBox, hr]) hc
  rw [List.drop_zero, ← hl, List.take_length]
end
/-- A row that is owned, taken as what nobody writes. -/
theorem frzT {α : Type} {T : Ty α} {σ : Store} {l : Nat} {xs : List α} (h : rowAt σ [l] = some (flat T.own xs)) : frzOK σ (.m [l] 0 xs.length T.k) ∧ fzR σ (.m [l] 0 xs.length T.k) = sl T xs := by
  have hl := flat_len T.lenO xs
  refine ⟨⟨T.pos, flat T.own xs, h, by omega, ?_⟩, ?_⟩
  · rw [List.drop_zero, ← hl, List.take_length]; exact flat_firmO T xs
  · simp only [fzR, h, Option.getD_some, List.drop_zero]; rw [← hl, List.take_length, flat_fz T.fzO]
theorem frzTE {α : Type} {T : Ty α} {σ : Store} {l : Nat} {xs : List α} (h : rowAt σ [l] = some (flat T.enc xs)) : frzOK σ (.m [l] 0 xs.length T.k) ∧ fzR σ (.m [l] 0 xs.length T.k) = sl T xs := by
  have hl := flat_len T.len xs
  refine ⟨⟨T.pos, flat T.enc xs, h, by omega, ?_⟩, ?_⟩
  · rw [List.drop_zero, ← hl, List.take_length]; exact flat_firm T xs
  · simp only [fzR, h, Option.getD_some, List.drop_zero]; rw [← hl, List.take_length, flat_fz T.fz]
theorem ownRL_mem {xs : List A} (h : ownRL xs = true) : ∀ x ∈ xs, ownR x = true := by
  induction xs with
  | nil => simp
  | cons y ys ih =>
    simp only [ownRL, Bool.and_eq_true] at h
    intro x hx
    rcases List.mem_cons.1 hx with rfl | hx
    · exact h.1
    · exact ih h.2 x hx
theorem sub_ownR : ∀ (p : List Nat) (xs ys : List A), sub xs p = some ys → ownRL xs = true → ownRL ys = true
  | [], xs, ys, h, ho => by simp only [sub, Option.some.injEq] at h; subst h; exact ho
  | j :: p, xs, ys, h, ho => by
    simp only [sub] at h
    split at h
    · rename_i k zs hj
      have := ownRL_mem ho _ (List.mem_of_getElem? hj)
      simp only [ownR, Bool.and_eq_true] at this
      exact sub_ownR p zs ys h this.2
    · cases h
def ownSB (σ : Store) : Prop := ∀ r ∈ σ, ∀ xs, r.cells = some xs → ownRL xs = true
theorem ownSB_nil : ownSB [] := fun r h => by cases h
theorem ownSB_cons {xs : List A} {σ : Store} (h : ownRL xs = true) (hs : ownSB σ) : ownSB (.row xs :: σ) := fun r hr ys hy => by
  rcases List.mem_cons.1 hr with rfl | hr
  · simp only [Root.cells, Option.some.injEq] at hy; subst hy; exact h
  · exact hs r hr ys hy
theorem ownC_of {σ : Store} (h : ownSB σ) : OwnC σ := fun L xs x hr hx => by
  cases L with
  | nil => simp [rowAt] at hr
  | cons l p =>
    simp only [rowAt] at hr
    split at hr
    · rename_i r hl
      split at hr
      · rename_i ys hy
        have h1 := ownRL_mem (sub_ownR p ys xs hr (h r (List.mem_of_getElem? hl) ys hy)) x hx
        cases x with
        | v y => exact .inl ⟨y, rfl⟩
        | n => exact .inr (.inl rfl)
        | o k ys => exact .inr (.inr ⟨k, ys, rfl⟩)
        | _ => simp [ownR] at h1
      · cases hr
    · cases hr
end Go.Sep

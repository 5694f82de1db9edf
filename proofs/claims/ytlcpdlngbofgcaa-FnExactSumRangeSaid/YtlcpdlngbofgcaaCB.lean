/- The operations that only lk: each with what it yields of abstract values, in every world that agrees on the blocks in question. -/
import Derived.Test.YtlcpdlngbofgcaaCA
set_option linter.unusedVariables false
set_option linter.unusedSimpArgs false
namespace Go.Sep
open Go

/-! ### inversion -/
section
variable {F : Nat → Prop} {Λ : Lbl} {w : World}
theorem OK.v_inv {v x : Value} (h : OK F Λ w v (.v x)) : v = x := by
  cases h with | imm h => cases h with | v => rfl
theorem OK.n_inv {v : Value} (h : OK F Λ w v .n) : ∃ ad, v = .slice ad 0 0 := by
  cases h with | imm h => cases h with | n ad => exact ⟨ad, rfl⟩
theorem OK.i_inv {v : Value} {k : Nat} {xs : List A} (h : OK F Λ w v (.i k xs)) {n : Nat} (hk : 0 < k) (hl : xs.length = n * k) :
    (n = 0 ∧ xs = [] ∧ ∃ ad cap, v = .slice ad 0 cap) ∨ ∃ (b o cap : Nat) (cs : Nat → Value), 0 < n ∧ n ≤ maxLen ∧ v = .slice (some ⟨b, o, none⟩) n cap ∧ F b ∧ (∀ j x, xs[j]? = some x → w.cell? ⟨b, o + j, none⟩ = some (cs j)) ∧ (∀ j x, xs[j]? = some x → Imm F w (cs j) x) := by
  cases h with
  | imm h =>
    cases h with
    | i0 ad cap =>
      refine .inl ⟨?_, rfl, ad, cap, rfl⟩
      have : n * k = 0 := by simpa using hl.symm
      rcases Nat.mul_eq_zero.1 this with h | h <;> omega
    | i b o n' cap k' cs xs' hb h0 hnc hm hl' hc hi =>
      have : n' = n := Nat.eq_of_mul_eq_mul_right hk (hl'.symm.trans hl)
      subst this
      exact .inr ⟨b, o, cap, cs, h0, hm, rfl, hb, hc, hi⟩
theorem OK.i_inv2 {v : Value} {k : Nat} {xs : List A} (h : OK F Λ w v (.i k xs)) {n : Nat} (hk : 0 < k) (hl : xs.length = n * k) :
    (n = 0 ∧ xs = [] ∧ ∃ ad cap, v = .slice ad 0 cap) ∨ ∃ (b o cap : Nat) (cs : Nat → Value), 0 < n ∧ n ≤ cap ∧ n ≤ maxLen ∧ v = .slice (some ⟨b, o, none⟩) n cap ∧ F b ∧ (∀ j x, xs[j]? = some x → w.cell? ⟨b, o + j, none⟩ = some (cs j)) ∧ (∀ j x, xs[j]? = some x → Imm F w (cs j) x) := by
  cases h with
  | imm h =>
    cases h with
    | i0 ad cap =>
      refine .inl ⟨?_, rfl, ad, cap, rfl⟩
      have : n * k = 0 := by simpa using hl.symm
      rcases Nat.mul_eq_zero.1 this with h | h <;> omega
    | i b o n' cap k' cs xs' hb h0 hnc hm hl' hc hi =>
      have : n' = n := Nat.eq_of_mul_eq_mul_right hk (hl'.symm.trans hl)
      subst this
      exact .inr ⟨b, o, cap, cs, h0, hnc, hm, rfl, hb, hc, hi⟩
theorem OK.q_inv {v : Value} {xs : List A} {d : Nat} (h : OK F Λ w v (.q xs d)) : ∃ (b o : Nat) (cs : Nat → Value), v = .pointer (some ⟨b, o + d, none⟩) ∧ F b ∧ (∀ j x, xs[j]? = some x → w.cell? ⟨b, o + j, none⟩ = some (cs j)) ∧ (∀ j x, xs[j]? = some x → Imm F w (cs j) x) := by
  cases h with | imm h => cases h with | q b o d cs xs hb hc hi => exact ⟨b, o, cs, rfl, hb, hc, hi⟩
theorem OK.m_inv {v : Value} {L a n k} (h : OK F Λ w v (.m L a n k)) : Sl Λ w L a n k v := by
  cases h with
  | m h => exact h
  | imm h => cases h
theorem OK.e_inv {v : Value} {L a} (h : OK F Λ w v (.e L a)) : ∃ b o, Λ L = some (b, o) ∧ v = .pointer (some ⟨b, o + a, none⟩) := by
  cases h with
  | e h => exact ⟨_, _, h, rfl⟩
  | imm h => cases h
theorem OK.b_inv {v : Value} {l a} (h : OK F Λ w v (.b l a)) : ∃ b o, Λ [l] = some (b, o) ∧ v = .pointer (some ⟨b, o + a, none⟩) := by
  cases h with
  | b h => exact ⟨_, _, h, rfl⟩
  | imm h => cases h
theorem OK.g_inv {v : Value} {xs : List A} (h : OK F Λ w v (.g xs)) : ∃ vs : List Value, v = .agg vs.toArray ∧ vs.length = xs.length ∧ ∀ (j : Nat) x y, xs[j]? = some x → vs[j]? = some y → OK F Λ w y x := by
  cases h with
  | g vs _ hl h => exact ⟨vs, rfl, hl, h⟩
  | imm h => cases h with | g vs _ hl h => exact ⟨vs, rfl, hl, fun j x y hx hy => .imm (h j x y hx hy)⟩
theorem OK.t_inv {v : Value} {xs : List A} (h : OK F Λ w v (.t xs)) : ∃ vs : List Value, v = .tuple vs.toArray ∧ vs.length = xs.length ∧ ∀ (j : Nat) x y, xs[j]? = some x → vs[j]? = some y → OK F Λ w y x := by
  cases h with
  | t vs _ hl h => exact ⟨vs, rfl, hl, h⟩
  | imm h => cases h with | t vs _ hl h => exact ⟨vs, rfl, hl, fun j x y hx hy => .imm (h j x y hx hy)⟩
theorem OK.f_inv {v : Value} {fn} {xs : List A} (h : OK F Λ w v (.f fn xs)) : ∃ vs : List Value, v = .func (.func fn) #[] vs.toArray ∧ vs.length = xs.length ∧ ∀ (j : Nat) x y, xs[j]? = some x → vs[j]? = some y → OK F Λ w y x := by
  cases h with
  | f _ vs _ hl h => exact ⟨vs, rfl, hl, h⟩
  | imm h => cases h with | f _ vs _ hl h => exact ⟨vs, rfl, hl, fun j x y hx hy => .imm (h j x y hx hy)⟩
end

/-! ### operands -/
def constA : Value → A
  | .slice none 0 0 => .n
  | c => .v c
def val (E : Env) : Operand → A
  | .tmp t => lk E t
  | .const c => constA c
  | .global _ => .j
  | .func f => .f f []

theorem constA_ok {F : Nat → Prop} {Λ : Lbl} {w : World} (c : Value) : OK F Λ w c (constA c) := by
  unfold constA
  split
  · exact .imm (.n _)
  · exact .imm (.v _)

theorem val_ok {F Λ w tmps E} {ds} (h : FrOK F Λ w tmps E) (x : Operand) : OK F Λ w (Act.eval ⟨tmps, ds⟩ x) (val E x) := by
  cases x with
  | tmp t => exact h t
  | const c => exact constA_ok c
  | global g => exact .j _
  | func f => exact .imm (.f f [] [] rfl (by simp))

/-- The worlds that agree with w on what may be looked at. -/
def Alike (F : Nat → Prop) (Λ : Lbl) (σ : Store) (w w' : World) : Prop := ∀ b, F b ∨ Own Λ σ b → w'.heap[b]? = w.heap[b]?
theorem Alike.refl (F Λ σ w) : Alike F Λ σ w w := fun _ _ => rfl
theorem Alike.cell {F Λ σ w w'} (h : Alike F Λ σ w w') {a : Addr} (hb : F a.block ∨ Own Λ σ a.block) : w'.cell? a = w.cell? a := World.cell?_of_block (w := w) (h _ hb)

/-- Operation o, on a frame that E tells of and a store σ, yields r. -/
def Pur (P : Program) (o : Oper) (E : Env) (σ : Store) (r : A) : Prop :=
  ∀ F Λ w tmps, St F Λ σ w → FrOK F Λ w tmps E → ∃ v, OK F Λ w v r ∧ ∀ w', Alike F Λ σ w w' → (execOp (Act.eval ⟨tmps, []⟩) o).run P w' = .ok (.value v) w'

section
variable {P : Program} {o : Oper} {E : Env} {σ : Store}

theorem pur_move {x : Operand} (h : o.op = .move x) : Pur P o E σ (val E x) := fun F Λ w tmps _ hf =>
  ⟨_, val_ok hf x, fun w' _ => by simp only [execOp, h]; rfl⟩
theorem pur_assign {x : Operand} (h : o.op = .assign x) : Pur P o E σ (val E x) := fun F Λ w tmps _ hf =>
  ⟨_, val_ok hf x, fun w' _ => by simp only [execOp, h]; rfl⟩
theorem pur_pick {c a b : Operand} {t : Bool} {r : A} (h : o.op = .pick c a b) (hc : val E c = .v (.bool t)) (hr : (if t then val E a else val E b) = r) : Pur P o E σ r := fun F Λ w tmps _ hf => by
  have h1 := val_ok (ds := []) hf c
  rw [hc] at h1
  have h1 := h1.v_inv
  subst hr
  cases t
  · exact ⟨_, val_ok (ds := []) hf b, fun w' _ => by simp [execOp, h, h1, asBool]⟩
  · exact ⟨_, val_ok (ds := []) hf a, fun w' _ => by simp [execOp, h, h1, asBool]⟩
/-- One of two booleans is picked. -/
theorem pur_pickB {c a b : Operand} {t x y : Bool} (h : o.op = .pick c a b) (hc : val E c = .v (.bool t)) (ha : val E a = .v (.bool x)) (hb : val E b = .v (.bool y)) : Pur P o E σ (.v (.bool (if t then x else y))) := by
  cases t
  · exact pur_pick h hc (by simpa using hb)
  · exact pur_pick h hc (by simpa using ha)

theorem pur_bin {op t x y t'} {a b r : Value} (h : o.op = .binOp op t x y t') (hx : val E x = .v a) (hy : val E y = .v b)
    (hr : ∀ w, Sem.run P (do eqGuard op t x y a b; binOp op t a b) w = .ok r w) : Pur P o E σ (.v r) := fun F Λ w tmps _ hf => by
  have h1 := val_ok (ds := []) hf x
  have h2 := val_ok (ds := []) hf y
  rw [hx] at h1
  rw [hy] at h2
  have h1 := h1.v_inv
  have h2 := h2.v_inv
  refine ⟨r, .imm (.v r), fun w' _ => ?_⟩
  simp only [execOp, h, h1, h2]
  rw [Sem.run_bind, hr w']; rfl

/-- x, cut to the kind, is c. -/
def Fits (k : IntKind) (x c : Int) : Prop := c = k.wrap x
theorem fits64 {x : Int} (h1 : -9223372036854775808 ≤ x) (h2 : x ≤ 9223372036854775807) : Fits .i64 x x := by
  unfold Fits IntKind.wrap; simp [IntKind.bits, IntKind.signed]; omega

theorem eqGuard_int {op t x y k a k' b} (w : World) : (eqGuard op t x y (.int k a) (.int k' b)).run P w = .ok () w := by
  unfold eqGuard; split <;> simp
theorem eqGuard_bool {op t x y a b} (w : World) : (eqGuard op t x y (.bool a) (.bool b)).run P w = .ok () w := by
  unfold eqGuard; split <;> simp
theorem eqGuard_string {op t x y a b} (w : World) : (eqGuard op t x y (.string a) (.string b)).run P w = .ok () w := by
  unfold eqGuard; split <;> simp

theorem pur_add {t x y t' k} {a b c : Int} (h : o.op = .binOp .add t x y t') (hx : val E x = .v (.int k a)) (hy : val E y = .v (.int k b)) (hc : Fits k (a + b) c) : Pur P o E σ (.v (.int k c)) :=
  pur_bin h hx hy fun w => by simp [eqGuard_int, binOp, Op.intArith, hc.symm]
theorem pur_sub {t x y t' k} {a b c : Int} (h : o.op = .binOp .sub t x y t') (hx : val E x = .v (.int k a)) (hy : val E y = .v (.int k b)) (hc : Fits k (a - b) c) : Pur P o E σ (.v (.int k c)) :=
  pur_bin h hx hy fun w => by simp [eqGuard_int, binOp, Op.intArith, hc.symm]
theorem pur_mul {t x y t' k} {a b c : Int} (h : o.op = .binOp .mul t x y t') (hx : val E x = .v (.int k a)) (hy : val E y = .v (.int k b)) (hc : Fits k (a * b) c) : Pur P o E σ (.v (.int k c)) :=
  pur_bin h hx hy fun w => by simp [eqGuard_int, binOp, Op.intArith, hc.symm]
theorem pur_quo {t x y t' k} {a b c : Int} (h : o.op = .binOp .quo t x y t') (hx : val E x = .v (.int k a)) (hy : val E y = .v (.int k b)) (h0 : b ≠ 0) (hc : Fits k (a.tdiv b) c) : Pur P o E σ (.v (.int k c)) :=
  pur_bin h hx hy fun w => by simp [eqGuard_int, binOp, Op.intDiv, hc.symm, h0]
theorem pur_rem {t x y t' k} {a b : Int} (h : o.op = .binOp .rem t x y t') (hx : val E x = .v (.int k a)) (hy : val E y = .v (.int k b)) (h0 : b ≠ 0) : Pur P o E σ (.v (.int k (a.tmod b))) :=
  pur_bin h hx hy fun w => by simp [eqGuard_int, binOp, Op.intDiv, h0]
theorem pur_lss {t x y t' k} {a b : Int} (h : o.op = .binOp .lss t x y t') (hx : val E x = .v (.int k a)) (hy : val E y = .v (.int k b)) : Pur P o E σ (.v (.bool (decide (a < b)))) :=
  pur_bin h hx hy fun w => by simp [eqGuard_int, binOp, Op.intCmp]
theorem pur_leq {t x y t' k} {a b : Int} (h : o.op = .binOp .leq t x y t') (hx : val E x = .v (.int k a)) (hy : val E y = .v (.int k b)) : Pur P o E σ (.v (.bool (decide (a ≤ b)))) :=
  pur_bin h hx hy fun w => by simp [eqGuard_int, binOp, Op.intCmp]
theorem pur_gtr {t x y t' k} {a b : Int} (h : o.op = .binOp .gtr t x y t') (hx : val E x = .v (.int k a)) (hy : val E y = .v (.int k b)) : Pur P o E σ (.v (.bool (decide (b < a)))) :=
  pur_bin h hx hy fun w => by simp [eqGuard_int, binOp, Op.intCmp]
theorem pur_geq {t x y t' k} {a b : Int} (h : o.op = .binOp .geq t x y t') (hx : val E x = .v (.int k a)) (hy : val E y = .v (.int k b)) : Pur P o E σ (.v (.bool (decide (b ≤ a)))) :=
  pur_bin h hx hy fun w => by simp [eqGuard_int, binOp, Op.intCmp]
theorem pur_eql {t x y t' k} {a b : Int} (h : o.op = .binOp .eql t x y t') (hx : val E x = .v (.int k a)) (hy : val E y = .v (.int k b)) : Pur P o E σ (.v (.bool (decide (a = b)))) :=
  pur_bin h hx hy fun w => by simp [eqGuard_int, binOp, Op.intCmp]; rw [Bool.eq_iff_iff]; simp
theorem pur_neq {t x y t' k} {a b : Int} (h : o.op = .binOp .neq t x y t') (hx : val E x = .v (.int k a)) (hy : val E y = .v (.int k b)) : Pur P o E σ (.v (.bool (decide (a ≠ b)))) :=
  pur_bin h hx hy fun w => by simp [eqGuard_int, binOp, Op.intCmp]; rw [Bool.eq_iff_iff]; simp
theorem pur_eqlB {t x y t'} {a b : Bool} (ht : P.underlying t = some .bool) (h : o.op = .binOp .eql t x y t') (hx : val E x = .v (.bool a)) (hy : val E y = .v (.bool b)) : Pur P o E σ (.v (.bool (a == b))) :=
  pur_bin h hx hy fun w => by rw [Sem.run_bind, eqGuard_bool]; simp only [Result.andThen, binOp, Sem.run_bind, run_equal_bool w t a b ht, Sem.run_pure]
theorem pur_neqB {t x y t'} {a b : Bool} (ht : P.underlying t = some .bool) (h : o.op = .binOp .neq t x y t') (hx : val E x = .v (.bool a)) (hy : val E y = .v (.bool b)) : Pur P o E σ (.v (.bool (a != b))) :=
  pur_bin h hx hy fun w => by rw [Sem.run_bind, eqGuard_bool]; simp only [Result.andThen, binOp, Sem.run_bind, run_equal_bool w t a b ht, Sem.run_pure]; rfl
theorem beq_bytes (a b : ByteArray) : (a.toList == b.toList) = decide (a = b) := by
  rw [ByteArray.toList_eq, ByteArray.toList_eq]
  obtain ⟨⟨x⟩⟩ := a
  obtain ⟨⟨y⟩⟩ := b
  rw [Bool.eq_iff_iff]; simp
theorem pur_eqlS {t x y t'} {a b : ByteArray} (h : o.op = .binOp .eql t x y t') (hx : val E x = .v (.string a)) (hy : val E y = .v (.string b)) : Pur P o E σ (.v (.bool (decide (a = b)))) :=
  pur_bin h hx hy fun w => by simp only [Sem.run_bind, eqGuard_string, binOp, Op.stringOp, Result.andThen, beq_bytes, Sem.run_pure]
theorem pur_neqS {t x y t'} {a b : ByteArray} (h : o.op = .binOp .neq t x y t') (hx : val E x = .v (.string a)) (hy : val E y = .v (.string b)) : Pur P o E σ (.v (.bool (decide (a ≠ b)))) :=
  pur_bin h hx hy fun w => by simp only [Sem.run_bind, eqGuard_string, binOp, Op.stringOp, Result.andThen, beq_bytes, Sem.run_pure]; simp
theorem pur_not {t x} {b : Bool} (h : o.op = .unOp .not t x) (hx : val E x = .v (.bool b)) : Pur P o E σ (.v (.bool (!b))) := fun F Λ w tmps _ hf => by
  have h1 := val_ok (ds := []) hf x
  rw [hx] at h1
  have h1 := h1.v_inv
  exact ⟨_, .imm (.v _), fun w' _ => by simp [execOp, h, h1, Op.unary]⟩
theorem pur_neg {t x k} {a c : Int} (h : o.op = .unOp .neg t x) (hx : val E x = .v (.int k a)) (hc : Fits k (-a) c) : Pur P o E σ (.v (.int k c)) := fun F Λ w tmps _ hf => by
  have h1 := val_ok (ds := []) hf x
  rw [hx] at h1
  have h1 := h1.v_inv
  exact ⟨_, .imm (.v _), fun w' _ => by simp [execOp, h, h1, Op.unary, Op.intArith, hc.symm]⟩

/-! ### slices -/
/-- t is a type of slices; its elements are of type e, k cells each. -/
structure SlT (P : Program) (t e k : Nat) : Prop where
  u : P.underlying t = some (.slice e)
  i : ∃ inf, P.info? e = some inf ∧ inf.size = k
  pos : 0 < k

theorem run_sizeOf' {e k : Nat} (h : ∃ inf, P.info? e = some inf ∧ inf.size = k) (w : World) : (sizeOf e).run P w = .ok k w := by
  obtain ⟨inf, h1, h2⟩ := h
  simp [sizeOf, typeInfo, h1, h2]

theorem addr_add (b o j : Nat) : (⟨b, o, none⟩ : Addr).add j = ⟨b, o + j, none⟩ := by
  unfold Addr.add; split <;> simp_all

theorem pur_call_len {t x} {n : Int} (h : o.op = .call { callee := .builtin .len, args := #[x], argTypes := #[t] })
    (hx : ∀ F Λ w tmps, St F Λ σ w → FrOK F Λ w tmps E → ∃ u, Act.eval ⟨tmps, []⟩ x = u ∧ ∀ w', (Builtin.len_ #[t] o.type #[u]).run P w' = .ok (.int .i64 n) w') : Pur P o E σ (.v (.int .i64 n)) := fun F Λ w tmps hs hf => by
  obtain ⟨u, h1, h2⟩ := hx F Λ w tmps hs hf
  refine ⟨_, .imm (.v _), fun w' _ => ?_⟩
  have := h2 w'
  simp only [execOp, h, resolve, Sem.run_bind, Sem.run_pure, invoke, builtin]
  simp [h1, this]

theorem pur_len_i {t x e k k'} {xs : List A} (n : Nat) (hT : SlT P t e k') (hx : val E x = .i k xs) (hk : 0 < k) (hn : xs.length = n * k) (h : o.op = .call { callee := .builtin .len, args := #[x], argTypes := #[t] }) : Pur P o E σ (.v (.int .i64 n)) :=
  pur_call_len h fun F Λ w tmps hs hf => by
    have h1 := val_ok (ds := []) hf x
    rw [hx] at h1
    rcases h1.i_inv hk hn with ⟨h0, _, ad, cap, h2⟩ | ⟨b, o', cap, cs, h0, _, h2, _⟩
    · exact ⟨_, h2, fun w' => by simp [Builtin.len_, run_underlying hT.u, goInt, h0]⟩
    · exact ⟨_, h2, fun w' => by simp [Builtin.len_, run_underlying hT.u, goInt]⟩
theorem pur_len_n {t x e k'} (hT : SlT P t e k') (hx : val E x = .n) (h : o.op = .call { callee := .builtin .len, args := #[x], argTypes := #[t] }) : Pur P o E σ (.v (.int .i64 (0 : Nat))) :=
  pur_call_len h fun F Λ w tmps hs hf => by
    have h1 := val_ok (ds := []) hf x
    rw [hx] at h1
    obtain ⟨ad, h2⟩ := h1.n_inv
    exact ⟨_, h2, fun w' => by simp [Builtin.len_, run_underlying hT.u, goInt]⟩
theorem Sl.form {Λ : Lbl} {w : World} {L a n k v} (h : Sl Λ w L a n k v) : ∃ ad cap, v = .slice ad n cap := by
  rcases h with ⟨rfl, ad, rfl⟩ | ⟨b, o, cap, _, rfl, _⟩
  · exact ⟨ad, 0, rfl⟩
  · exact ⟨_, cap, rfl⟩
theorem pur_len_m {t x e k' L a n k} (hT : SlT P t e k') (hx : val E x = .m L a n k) (h : o.op = .call { callee := .builtin .len, args := #[x], argTypes := #[t] }) : Pur P o E σ (.v (.int .i64 n)) :=
  pur_call_len h fun F Λ w tmps hs hf => by
    have h1 := val_ok (ds := []) hf x
    rw [hx] at h1
    obtain ⟨ad, cap, h2⟩ := h1.m_inv.form
    exact ⟨_, h2, fun w' => by simp [Builtin.len_, run_underlying hT.u, goInt]⟩
theorem pur_len_s {t x} {s : ByteArray} (hT : P.underlying t = some .string) (hx : val E x = .v (.string s)) (h : o.op = .call { callee := .builtin .len, args := #[x], argTypes := #[t] }) : Pur P o E σ (.v (.int .i64 s.size)) :=
  pur_call_len h fun F Λ w tmps hs hf => by
    have h1 := val_ok (ds := []) hf x
    rw [hx] at h1
    exact ⟨_, h1.v_inv, fun w' => by simp [Builtin.len_, run_underlying hT, goInt]⟩

theorem pur_ix_i {t x y e k kk} {xs : List A} {z : Int} (n : Nat) (hT : SlT P t e k) (hx : val E x = .i k xs) (hy : val E y = .v (.int kk z)) (hn : xs.length = n * k) (h0 : 0 ≤ z) (h1 : z < n) (h : o.op = .indexAddr t x y) : Pur P o E σ (.q xs (z.toNat * k)) := fun F Λ w tmps hs hf => by
  have e1 := val_ok (ds := []) hf x
  have e2 := val_ok (ds := []) hf y
  rw [hx] at e1
  rw [hy] at e2
  have e2 := e2.v_inv
  rcases e1.i_inv hT.pos hn with ⟨hz, _⟩ | ⟨b, o', cap, cs, _, _, h2, hb, hc, hi⟩
  · omega
  · refine ⟨.pointer (some ⟨b, o' + z.toNat * k, none⟩), .imm (.q b o' _ cs xs hb hc hi), fun w' _ => ?_⟩
    simp only [execOp, h, h2, e2]
    simp [Instr.indexAt, run_underlying hT.u, asIntOf, h0, h1, run_sizeOf' hT.i, addr_add]
theorem pur_ix_m {t x y e k kk L a n} {z : Int} (hT : SlT P t e k) (hx : val E x = .m L a n k) (hy : val E y = .v (.int kk z)) (h0 : 0 ≤ z) (h1 : z < n) (h : o.op = .indexAddr t x y) : Pur P o E σ (.e L (a + z.toNat * k)) := fun F Λ w tmps hs hf => by
  have e1 := val_ok (ds := []) hf x
  have e2 := val_ok (ds := []) hf y
  rw [hx] at e1
  rw [hy] at e2
  have e2 := e2.v_inv
  rcases e1.m_inv with ⟨hz, _⟩ | ⟨b, o', cap, hL, h2, _⟩
  · omega
  · refine ⟨.pointer (some ⟨b, o' + (a + z.toNat * k), none⟩), .e hL, fun w' _ => ?_⟩
    simp only [execOp, h, h2, e2]
    simp [Instr.indexAt, run_underlying hT.u, asIntOf, h0, h1, run_sizeOf' hT.i, addr_add, Nat.add_assoc]

/-! ### fields, loads -/
/-- Field number x of struct type t lies at off; it is of type ft. -/
structure FldT (P : Program) (t x off ft : Nat) : Prop where
  u : ∃ fs f, P.underlying t = some (.struct fs) ∧ fs[x]? = some f ∧ f.offset = off ∧ f.type = ft
  i : ∃ inf, P.info? ft = some inf ∧ inf.size ≠ 0

theorem run_fieldAt {t x off ft : Nat} (hT : FldT P t x off ft) (b o' : Nat) (w : World) : (Instr.fieldAt t (.pointer (some ⟨b, o', none⟩)) x).run P w = .ok (.pointer (some ⟨b, o' + off, none⟩)) w := by
  obtain ⟨⟨fs, f, h1, h2, h3, h4⟩, inf, h5, h6⟩ := hT
  subst h3 h4
  simp [Instr.fieldAt, run_underlying h1, h2, Instr.sureAddr, fieldPlace, sizeOf, typeInfo, h5, h6, addr_add]

theorem pur_fa_q {t x fld off ft d} {xs : List A} (hT : FldT P t fld off ft) (hx : val E x = .q xs d) (h : o.op = .fieldAddr t x fld) : Pur P o E σ (.q xs (d + off)) := fun F Λ w tmps hs hf => by
  have e1 := val_ok (ds := []) hf x
  rw [hx] at e1
  obtain ⟨b, o', cs, h2, hb, hc, hi⟩ := e1.q_inv
  refine ⟨.pointer (some ⟨b, o' + (d + off), none⟩), .imm (.q b o' _ cs xs hb hc hi), fun w' _ => ?_⟩
  simp only [execOp, h, h2]
  simp [run_fieldAt hT, Nat.add_assoc]
theorem pur_fa_e {t x fld off ft a L} (hT : FldT P t fld off ft) (hx : val E x = .e L a) (h : o.op = .fieldAddr t x fld) : Pur P o E σ (.e L (a + off)) := fun F Λ w tmps hs hf => by
  have e1 := val_ok (ds := []) hf x
  rw [hx] at e1
  obtain ⟨b, o', hL, h2⟩ := e1.e_inv
  refine ⟨.pointer (some ⟨b, o' + (a + off), none⟩), .e hL, fun w' _ => ?_⟩
  simp only [execOp, h, h2]
  simp [run_fieldAt hT, Nat.add_assoc]
theorem pur_fa_b {t x fld off ft a l} (hT : FldT P t fld off ft) (hx : val E x = .b l a) (h : o.op = .fieldAddr t x fld) : Pur P o E σ (.b l (a + off)) := fun F Λ w tmps hs hf => by
  have e1 := val_ok (ds := []) hf x
  rw [hx] at e1
  obtain ⟨b, o', hL, h2⟩ := e1.b_inv
  refine ⟨.pointer (some ⟨b, o' + (a + off), none⟩), .b hL, fun w' _ => ?_⟩
  simp only [execOp, h, h2]
  simp [run_fieldAt hT, Nat.add_assoc]

def isOne : TypeDesc → Bool
  | .struct _ => false
  | .array _ _ => false
  | _ => true
/-- A variable of type t is one cell. -/
structure OneT (P : Program) (t : Nat) : Prop where
  u : ∃ d, P.underlying t = some d ∧ isOne d = true
/-- A variable of type t is a struct of k cells. -/
structure AggT (P : Program) (t k : Nat) : Prop where
  u : ∃ fs, P.underlying t = some (.struct fs)
  i : ∃ inf, P.info? t = some inf ∧ inf.size = k
theorem run_isAgg1 {t} (h : OneT P t) (w : World) : (isAgg t).run P w = .ok false w := by
  obtain ⟨d, h1, h2⟩ := h
  simp only [isAgg, Sem.run_bind, run_underlying h1, Result.andThen]
  cases d <;> simp_all [isOne]
theorem run_isAggK {t k} (h : AggT P t k) (w : World) : (isAgg t).run P w = .ok true w := by
  obtain ⟨⟨fs, h1⟩, _⟩ := h
  simp [isAgg, run_underlying h1]
theorem run_load1 {t} (h : OneT P t) {w : World} {b o' : Nat} {c : Value} (hc : w.cell? ⟨b, o', none⟩ = some c) : (Instr.loadAt t (.pointer (some ⟨b, o', none⟩))).run P w = .ok c w := by
  simp [Instr.loadAt, Instr.sureAddr, loadVar, run_isAgg1 h, hc]
theorem run_loadK {t k} (h : AggT P t k) {w : World} {b o' : Nat} {cs : List Value} (hl : cs.length = k) (hc : ∀ j c, cs[j]? = some c → w.cell? ⟨b, o' + j, none⟩ = some c) : (Instr.loadAt t (.pointer (some ⟨b, o', none⟩))).run P w = .ok (.agg cs.toArray) w := by
  have := run_loadCells_list (P := P) w ⟨b, o', none⟩ cs (fun j v hj => by rw [addr_add]; exact hc j v hj)
  rw [hl] at this
  simp [Instr.loadAt, Instr.sureAddr, loadVar, run_isAggK h, run_sizeOf' h.i, this]

theorem pur_ld_q {t x d y} {xs : List A} (hT : OneT P t) (hx : val E x = .q xs d) (hy : xs[d]? = some y) (h : o.op = .load t x) : Pur P o E σ y := fun F Λ w tmps hs hf => by
  have e1 := val_ok (ds := []) hf x
  rw [hx] at e1
  obtain ⟨b, o', cs, h2, hb, hc, hi⟩ := e1.q_inv
  refine ⟨cs d, .imm (hi d y hy), fun w' ha => ?_⟩
  have hc' := hc d y hy
  rw [← ha.cell (.inl hb)] at hc'
  simp only [execOp, h, h2]
  simp [run_load1 hT hc']
theorem pur_ldK_q {t x d k} {xs : List A} (hT : AggT P t k) (hx : val E x = .q xs d) (hy : d + k ≤ xs.length) (h : o.op = .load t x) : Pur P o E σ (.g ((xs.drop d).take k)) := fun F Λ w tmps hs hf => by
  have e1 := val_ok (ds := []) hf x
  rw [hx] at e1
  obtain ⟨b, o', cs, h2, hb, hc, hi⟩ := e1.q_inv
  have hj : ∀ j, j < k → ∃ y, xs[d + j]? = some y := fun j hj => ⟨xs[d + j], List.getElem?_eq_getElem (by omega)⟩
  refine ⟨.agg ((List.range k).map fun j => cs (d + j)).toArray, .imm (.g _ _ (by simp; omega) fun j x y hx hy' => ?_), fun w' ha => ?_⟩
  · have hjk : j < k := by
      rcases Nat.lt_or_ge j k with h | h
      · exact h
      · simp [List.getElem?_eq_none, h] at hy'
    simp [hjk] at hy'
    subst hy'
    rw [List.getElem?_take_of_lt hjk, List.getElem?_drop] at hx
    exact hi _ _ hx
  · simp only [execOp, h, h2]
    rw [Sem.run_bind, run_loadK (cs := (List.range k).map fun j => cs (d + j)) hT (by simp) (fun j c hjc => ?_)]
    · rfl
    · have hjk : j < k := by
        rcases Nat.lt_or_ge j k with h | h
        · exact h
        · simp [List.getElem?_eq_none, h] at hjc
      simp [hjk] at hjc
      subst hjc
      obtain ⟨y, hy⟩ := hj j hjk
      have hc' := hc _ _ hy
      rw [← ha.cell (.inl hb)] at hc'
      rw [← hc', Nat.add_assoc]

/-- What a cell of row L holds, as a value. -/
def cellVal (L : List Nat) : A → A
  | .o k ys => .m L 0 (ys.length / k) k
  | x => x
theorem Cell.val {F Λ w bx L c x} (h : Cell F Λ w bx L c x) : OK F Λ w c (cellVal L x) := by
  cases x with
  | o k ys =>
    obtain ⟨_, hk, n, hn, hsl⟩ := h
    have : ys.length / k = n := by rw [hn]; exact Nat.mul_div_cancel _ hk
    simp only [cellVal, this]
    exact .m hsl
  | j => exact .j _
  | _ => exact h.2

theorem St.cellAt {F Λ σ w} (hs : St F Λ σ w) {L xs b o'} (hr : rowAt σ L = some xs) (hL : Λ L = some (b, o')) {d y} (hy : xs[d]? = some y) : ∃ c, w.cell? ⟨b, o' + d, none⟩ = some c ∧ Cell F Λ w (isBox σ L) (L ++ [d]) c y := by
  rcases hs.row L xs hr with ⟨h1, h2⟩ | ⟨b', o'', cs, t, h1, h2, h3, h4⟩
  · rw [hL] at h1; cases h1
  · rw [hL] at h1
    cases h1
    obtain ⟨c, h5, h6⟩ := h4 d y hy
    refine ⟨c, ?_, h6⟩
    simp [World.cell?, h3, h5]

theorem pur_ld_e {t x d y L} {xs : List A} (hT : OneT P t) (hx : val E x = .e L d) (hr : rowAt σ L = some xs) (hy : xs[d]? = some y) (h : o.op = .load t x) : Pur P o E σ (cellVal (L ++ [d]) y) := fun F Λ w tmps hs hf => by
  have e1 := val_ok (ds := []) hf x
  rw [hx] at e1
  obtain ⟨b, o', hL, h2⟩ := e1.e_inv
  obtain ⟨c, h3, h4⟩ := hs.cellAt hr hL hy
  refine ⟨c, h4.val, fun w' ha => ?_⟩
  rw [← ha.cell (.inr ⟨L, xs, o', hr, hL⟩)] at h3
  simp only [execOp, h, h2]
  simp [run_load1 hT h3]
theorem pur_ld_b {t x d y l} {xs : List A} (hT : OneT P t) (hx : val E x = .b l d) (hr : rowAt σ [l] = some xs) (hy : xs[d]? = some y) (h : o.op = .load t x) : Pur P o E σ (cellVal [l, d] y) := fun F Λ w tmps hs hf => by
  have e1 := val_ok (ds := []) hf x
  rw [hx] at e1
  obtain ⟨b, o', hL, h2⟩ := e1.b_inv
  obtain ⟨c, h3, h4⟩ := hs.cellAt hr hL hy
  refine ⟨c, h4.val, fun w' ha => ?_⟩
  rw [← ha.cell (.inr ⟨[l], xs, o', hr, hL⟩)] at h3
  simp only [execOp, h, h2]
  simp [run_load1 hT h3]

def cellVals (L : List Nat) (d : Nat) : List A → List A
  | [] => []
  | x :: xs => cellVal (L ++ [d]) x :: cellVals L (d + 1) xs
theorem cellVals_get (L : List Nat) : ∀ (xs : List A) (d j : Nat), (cellVals L d xs)[j]? = (xs[j]?).map (cellVal (L ++ [d + j]))
  | [], d, j => by simp [cellVals]
  | x :: xs, d, 0 => by simp [cellVals]
  | x :: xs, d, j + 1 => by simp [cellVals, cellVals_get L xs, Nat.add_assoc, Nat.add_comm 1 j]
theorem cellVals_len (L : List Nat) : ∀ (xs : List A) (d : Nat), (cellVals L d xs).length = xs.length
  | [], d => rfl
  | x :: xs, d => by simp [cellVals, cellVals_len L xs]

theorem ldK_row {t x d k L b o'} {xs : List A} (hT : AggT P t k) (hr : rowAt σ L = some xs) (hd : d + k ≤ xs.length) (h : o.op = .load t x) {F Λ w tmps} (hs : St F Λ σ w)
    (hL : Λ L = some (b, o')) (h2 : Act.eval ⟨tmps, []⟩ x = .pointer (some ⟨b, o' + d, none⟩)) : ∃ v, OK F Λ w v (.g (cellVals L d ((xs.drop d).take k))) ∧ ∀ w', Alike F Λ σ w w' → (execOp (Act.eval ⟨tmps, []⟩) o).run P w' = .ok (.value v) w' := by
  have key : ∀ j, j < k → ∃ c y, xs[d + j]? = some y ∧ w.cell? ⟨b, o' + (d + j), none⟩ = some c ∧ OK F Λ w c (cellVal (L ++ [d + j]) y) := fun j hj => by
    have hy : xs[d + j]? = some xs[d + j] := List.getElem?_eq_getElem (by omega)
    obtain ⟨c, h3, h4⟩ := hs.cellAt hr hL hy
    exact ⟨c, _, hy, h3, h4.val⟩
  let cs : Nat → Value := fun j => ((w.cell? ⟨b, o' + (d + j), none⟩).getD undef)
  refine ⟨.agg ((List.range k).map cs).toArray, .g _ _ (by simp [cellVals_len]; omega) fun j x y hx hy' => ?_, fun w' ha => ?_⟩
  · have hjk : j < k := by
      rcases Nat.lt_or_ge j k with h | h
      · exact h
      · simp [List.getElem?_eq_none, h] at hy'
    simp [hjk] at hy'
    subst hy'
    obtain ⟨c, y, h3, h4, h5⟩ := key j hjk
    rw [cellVals_get, List.getElem?_take_of_lt hjk, List.getElem?_drop, h3] at hx
    simp at hx
    subst hx
    simp only [cs, h4, Option.getD_some]
    exact h5
  · simp only [execOp, h, h2]
    rw [Sem.run_bind, run_loadK (cs := (List.range k).map cs) hT (by simp) (fun j c hjc => ?_)]
    · rfl
    · have hjk : j < k := by
        rcases Nat.lt_or_ge j k with h | h
        · exact h
        · simp [List.getElem?_eq_none, h] at hjc
      simp [hjk] at hjc
      subst hjc
      obtain ⟨c, y, h3, h4, h5⟩ := key j hjk
      have h6 := h4
      rw [← ha.cell (.inr ⟨L, xs, o', hr, hL⟩)] at h4
      simp only [cs, h6, Option.getD_some]
      rw [← h4, Nat.add_assoc]
theorem pur_ldK_e {t x d k L} {xs : List A} (hT : AggT P t k) (hx : val E x = .e L d) (hr : rowAt σ L = some xs) (hd : d + k ≤ xs.length) (h : o.op = .load t x) : Pur P o E σ (.g (cellVals L d ((xs.drop d).take k))) := fun F Λ w tmps hs hf => by
  have e1 := val_ok (ds := []) hf x
  rw [hx] at e1
  obtain ⟨b, o', hL, h2⟩ := e1.e_inv
  exact ldK_row hT hr hd h hs hL h2
theorem pur_ldK_b {t x d k l} {xs : List A} (hT : AggT P t k) (hx : val E x = .b l d) (hr : rowAt σ [l] = some xs) (hd : d + k ≤ xs.length) (h : o.op = .load t x) : Pur P o E σ (.g (cellVals [l] d ((xs.drop d).take k))) := fun F Λ w tmps hs hf => by
  have e1 := val_ok (ds := []) hf x
  rw [hx] at e1
  obtain ⟨b, o', hL, h2⟩ := e1.b_inv
  exact ldK_row hT hr hd h hs hL h2

/-! ### function values, tuples -/
theorem pur_makeFunc {fn : Nat} {cs : List Operand} (h : o.op = .makeFunc (.func fn) #[] cs.toArray) : Pur P o E σ (.f fn (cs.map (val E))) := fun F Λ w tmps hs hf => by
  refine ⟨.func (.func fn) #[] (cs.map (Act.eval ⟨tmps, []⟩)).toArray, .f fn _ _ (by simp) fun j x y hx hy => ?_, fun w' _ => ?_⟩
  · simp only [List.getElem?_map] at hx hy
    cases hj : cs[j]? with
    | none => simp [hj] at hx
    | some c =>
      simp [hj] at hx hy
      subst hx hy
      exact val_ok hf c
  · simp only [execOp, h]; simp [Instr.makeFunc]
theorem pur_extract {x ix y} {xs : List A} (hx : val E x = .t xs) (hy : xs[ix]? = some y) (h : o.op = .extract x ix) : Pur P o E σ y := fun F Λ w tmps hs hf => by
  have e1 := val_ok (ds := []) hf x
  rw [hx] at e1
  obtain ⟨vs, h2, hl, hi⟩ := e1.t_inv
  have hlt : ix < vs.length := by
    have := (List.getElem?_eq_some_iff.1 hy).1
    omega
  have hv : vs[ix]? = some vs[ix] := List.getElem?_eq_getElem hlt
  refine ⟨vs[ix], hi ix y _ hy hv, fun w' _ => ?_⟩
  simp only [execOp, h, h2]
  simp [Instr.extract, hlt]
/-- A field of a struct that is at hand. -/
theorem pur_field1 {t x fld off ft y} {xs : List A} (hT : FldT P t fld off ft) (h1 : OneT P ft) (hx : val E x = .g xs) (hy : xs[off]? = some y) (h : o.op = .field t x fld) : Pur P o E σ y := fun F Λ w tmps hs hf => by
  have e1 := val_ok (ds := []) hf x
  rw [hx] at e1
  obtain ⟨vs, h2, hl, hi⟩ := e1.g_inv
  have hlt : off < vs.length := by
    have := (List.getElem?_eq_some_iff.1 hy).1
    omega
  have hv : vs[off]? = some vs[off] := List.getElem?_eq_getElem hlt
  refine ⟨vs[off], hi off y _ hy hv, fun w' _ => ?_⟩
  obtain ⟨⟨fs, f, g1, g2, g3, g4⟩, _⟩ := hT
  subst g3 g4
  simp only [execOp, h, h2]
  simp [Instr.field, run_underlying g1, g2, asAgg, part, run_isAgg1 h1, hlt]
end
end Go.Sep

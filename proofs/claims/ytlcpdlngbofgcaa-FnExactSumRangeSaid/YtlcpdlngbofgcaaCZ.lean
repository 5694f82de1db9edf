/- Strings and conversions. -/
import Derived.Test.YtlcpdlngbofgcaaCX
set_option linter.unusedVariables false
set_option linter.unusedSimpArgs false
namespace Go.Sep
open Go
/-- s[i], of a string. -/
def getB (s : ByteArray) (i : Int) : Option Int := if 0 ≤ i then (s[i.toNat]?).map (fun b => (b.toNat : Int)) else none
/-- Two strings as one, where an int holds the length. -/
def catS (x y : ByteArray) : Option ByteArray := if ((x.size + y.size : Nat) : Int) ≤ 9223372036854775807 then some (x ++ y) else none
theorem catS_ok {x y : ByteArray} (h : x.size + y.size ≤ 9223372036854775807) : catS x y = some (x ++ y) := if_pos (by omega)
/-- s[lo:hi]. -/
def cutB (s : ByteArray) (lo hi : Int) : Option ByteArray := if 0 ≤ lo ∧ lo ≤ hi ∧ hi ≤ (s.size : Int) then some (s.extract lo.toNat hi.toNat) else none
def ltS (x y : ByteArray) : Bool := Op.bytesLess x.toList y.toList
section
variable {P : Program} {E : Env} {σ : Store} {o : Oper}
theorem pur_ixS {t x y kk} {s : ByteArray} {z v : Int} (hT : P.underlying t = some .string) (hx : val E x = .v (.string s)) (hy : val E y = .v (.int kk z)) (hv : getB s z = some v) (h : o.op = .index t x y) : Pur P o E σ (.v (.int .u8 v)) := fun F Λ w tmps hs hf => by
  have e1 := val_ok (ds := []) hf x
  have e2 := val_ok (ds := []) hf y
  rw [hx] at e1
  rw [hy] at e2
  have e1 := e1.v_inv
  have e2 := e2.v_inv
  unfold getB at hv
  split at hv
  case isFalse => cases hv
  rename_i h0
  cases hb : s[z.toNat]? with
  | none => rw [hb] at hv; cases hv
  | some b =>
    rw [hb] at hv
    simp only [Option.map_some, Option.some.injEq] at hv
    subst hv
    exact ⟨_, .imm (.v _), fun w' _ => by simp [execOp, h, e1, e2, Instr.index, asIntOf, run_underlying hT, h0, hb]⟩
theorem pur_cat {t x y t'} {a b c : ByteArray} (h : o.op = .binOp .add t x y t') (hx : val E x = .v (.string a)) (hy : val E y = .v (.string b)) (hc : catS a b = some c) : Pur P o E σ (.v (.string c)) := by
  unfold catS at hc
  split at hc
  case isFalse => cases hc
  rename_i h0
  simp only [Option.some.injEq] at hc
  subst hc
  have h1 : ¬ ((a.size + b.size : Nat) : Int) > IntKind.i64.max := by
    have : IntKind.i64.max = 9223372036854775807 := by decide
    omega
  exact pur_bin h hx hy fun w => by simp only [Sem.run_bind, eqGuard_string, binOp, Op.stringOp, Result.andThen, Sem.run_pure, if_neg h1]
theorem pur_lssS {t x y t'} {a b : ByteArray} (h : o.op = .binOp .lss t x y t') (hx : val E x = .v (.string a)) (hy : val E y = .v (.string b)) : Pur P o E σ (.v (.bool (ltS a b))) :=
  pur_bin h hx hy fun w => by simp only [Sem.run_bind, eqGuard_string, binOp, Op.stringOp, Result.andThen, Sem.run_pure, ltS]
theorem pur_geqS {t x y t'} {a b : ByteArray} (h : o.op = .binOp .geq t x y t') (hx : val E x = .v (.string a)) (hy : val E y = .v (.string b)) : Pur P o E σ (.v (.bool (!ltS a b))) :=
  pur_bin h hx hy fun w => by simp only [Sem.run_bind, eqGuard_string, binOp, Op.stringOp, Result.andThen, Sem.run_pure, ltS]
theorem pur_convI {s d x k k'} {z : Int} (hs : ∃ q, P.underlying s = some q) (hd : P.underlying d = some (.int k)) (h : o.op = .convert s d x) (hx : val E x = .v (.int k' z)) : Pur P o E σ (.v (.int k (k.wrap z))) := fun F Λ w tmps _ hf => by
  obtain ⟨q, hs⟩ := hs
  have e1 := val_ok (ds := []) hf x
  rw [hx] at e1
  have e1 := e1.v_inv
  exact ⟨_, .imm (.v _), fun w' _ => by simp [execOp, h, e1, convert, run_underlying hs, run_underlying hd, Conv.intToInt]⟩
theorem pur_cutB {t : Nat} {x : Operand} {lo hi : Option Operand} {s c : ByteArray} {a b : Int} (hT : P.underlying t = some .string) (hx : val E x = .v (.string s)) (hlo : bnd E 0 lo a) (hhi : bnd E (s.size : Int) hi b) (hc : cutB s a b = some c) (h : o.op = .slice t x lo hi none) : Pur P o E σ (.v (.string c)) := fun F Λ w tmps hs hf => by
  have e1 := val_ok (ds := []) hf x
  rw [hx] at e1
  have e1 := e1.v_inv
  unfold cutB at hc
  split at hc
  case isFalse => cases hc
  rename_i h0
  simp only [Option.some.injEq] at hc
  subst hc
  refine ⟨_, .imm (.v _), fun w' _ => ?_⟩
  cases lo with
  | none =>
    simp only [bnd] at hlo
    cases hi with
    | none =>
      simp only [bnd] at hhi
      subst hlo hhi
      simp [execOp, h, e1, Instr.sliceAt, Instr.slice, Instr.sliceBounds, run_underlying hT]
    | some y =>
      obtain ⟨k, hy⟩ := hhi
      have e2 := val_ok (ds := []) hf y
      rw [hy] at e2
      have e2 := e2.v_inv
      subst hlo
      have g1 : 0 ≤ b ∧ b ≤ (s.size : Int) := ⟨by omega, h0.2.2⟩
      simp [execOp, h, e1, e2, Instr.sliceAt, Instr.slice, Instr.sliceBounds, Instr.sliceBound, asIntOf, run_underlying hT, g1]
  | some y0 =>
    obtain ⟨k0, hy0⟩ := hlo
    have e3 := val_ok (ds := []) hf y0
    rw [hy0] at e3
    have e3 := e3.v_inv
    cases hi with
    | none =>
      simp only [bnd] at hhi
      subst hhi
      have g2 : 0 ≤ a ∧ a ≤ (s.size : Int) := ⟨h0.1, h0.2.1⟩
      simp [execOp, h, e1, e3, Instr.sliceAt, Instr.slice, Instr.sliceBounds, Instr.sliceBound, asIntOf, run_underlying hT, g2]
    | some y =>
      obtain ⟨k, hy⟩ := hhi
      have e2 := val_ok (ds := []) hf y
      rw [hy] at e2
      have e2 := e2.v_inv
      have g1 : 0 ≤ b ∧ b ≤ (s.size : Int) := ⟨by omega, h0.2.2⟩
      have g2 : 0 ≤ a ∧ a ≤ ((b.toNat : Nat) : Int) := ⟨h0.1, by omega⟩
      simp [execOp, h, e1, e2, e3, Instr.sliceAt, Instr.slice, Instr.sliceBounds, Instr.sliceBound, asIntOf, run_underlying hT, g1, g2]
      intro hx; omega
end
end Go.Sep

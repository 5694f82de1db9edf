/- Regions that draw their order and write, path by path: what looks at no world is taken first, the others in every order. -/
import Derived.Test.YtlcpdlngbofgcaaCV
set_option linter.unusedVariables false
set_option linter.unusedSimpArgs false
namespace Go.Sep
open Go

/-- As Pur, in whatever world. -/
def PurI (P : Program) (o : Oper) (E : Env) (r : A) : Prop := ∀ F Λ w tmps, FrOK F Λ w tmps E → ∃ v, OK F Λ w v r ∧ ∀ w', (execOp (Act.eval ⟨tmps, []⟩) o).run P w' = .ok (.value v) w'
section
variable {P : Program} {o : Oper} {E : Env} {σ : Store}
theorem purI_move {x : Operand} (h : o.op = .move x) : PurI P o E (val E x) := fun F Λ w tmps hf => ⟨_, val_ok hf x, fun w' => by simp only [execOp, h]; rfl⟩
theorem purI_assign {x : Operand} (h : o.op = .assign x) : PurI P o E (val E x) := fun F Λ w tmps hf => ⟨_, val_ok hf x, fun w' => by simp only [execOp, h]; rfl⟩
theorem purI_bin {op t x y t'} {a b r : Value} (h : o.op = .binOp op t x y t') (hx : val E x = .v a) (hy : val E y = .v b)
    (hr : ∀ w, Sem.run P (do eqGuard op t x y a b; binOp op t a b) w = .ok r w) : PurI P o E (.v r) := fun F Λ w tmps hf => by
  have h1 := val_ok (ds := []) hf x
  have h2 := val_ok (ds := []) hf y
  rw [hx] at h1
  rw [hy] at h2
  refine ⟨r, .imm (.v r), fun w' => ?_⟩
  simp only [execOp, h, h1.v_inv, h2.v_inv]
  rw [Sem.run_bind, hr w']; rfl
theorem purI_add {t x y t' k} {a b c : Int} (h : o.op = .binOp .add t x y t') (hx : val E x = .v (.int k a)) (hy : val E y = .v (.int k b)) (hc : Fits k (a + b) c) : PurI P o E (.v (.int k c)) :=
  purI_bin h hx hy fun w => by simp [eqGuard_int, binOp, Op.intArith, hc.symm]
theorem purI_sub {t x y t' k} {a b c : Int} (h : o.op = .binOp .sub t x y t') (hx : val E x = .v (.int k a)) (hy : val E y = .v (.int k b)) (hc : Fits k (a - b) c) : PurI P o E (.v (.int k c)) :=
  purI_bin h hx hy fun w => by simp [eqGuard_int, binOp, Op.intArith, hc.symm]
theorem purI_wadd {t x y t' k} {a b : Int} (h : o.op = .binOp .add t x y t') (hx : val E x = .v (.int k a)) (hy : val E y = .v (.int k b)) : PurI P o E (.v (.int k (k.wrap (a + b)))) := purI_add h hx hy rfl
theorem purI_wsub {t x y t' k} {a b : Int} (h : o.op = .binOp .sub t x y t') (hx : val E x = .v (.int k a)) (hy : val E y = .v (.int k b)) : PurI P o E (.v (.int k (k.wrap (a - b)))) := purI_sub h hx hy rfl
theorem purI_lss {t x y t' k} {a b : Int} (h : o.op = .binOp .lss t x y t') (hx : val E x = .v (.int k a)) (hy : val E y = .v (.int k b)) : PurI P o E (.v (.bool (decide (a < b)))) :=
  purI_bin h hx hy fun w => by simp [eqGuard_int, binOp, Op.intCmp]
theorem purI_lenT {α : Type} {T : Ty α} {t x e k'} {xs : List α} (hT : SlT P t e k') (hx : val E x = sl T xs) (h : o.op = .call { callee := .builtin .len, args := #[x], argTypes := #[t] }) : PurI P o E (natA xs.length) := fun F Λ w tmps hf => by
  have h1 := val_ok (ds := []) hf x
  rw [hx] at h1
  refine ⟨_, .imm (.v _), fun w' => ?_⟩
  rcases h1.i_inv T.pos (flat_len T.len xs) with ⟨h0, _, ad, cap, h2⟩ | ⟨b, o', cap, cs, h0, _, h2, _⟩
  · simp only [execOp, h, resolve, Sem.run_bind, Sem.run_pure, invoke, builtin]
    simp [h2, Builtin.len_, run_underlying hT.u, goInt, h0]
  · simp only [execOp, h, resolve, Sem.run_bind, Sem.run_pure, invoke, builtin]
    simp [h2, Builtin.len_, run_underlying hT.u, goInt]
theorem purI_len_m {t x e k' L a n k} (hT : SlT P t e k') (hx : val E x = .m L a n k) (h : o.op = .call { callee := .builtin .len, args := #[x], argTypes := #[t] }) : PurI P o E (.v (.int .i64 n)) := fun F Λ w tmps hf => by
  have h1 := val_ok (ds := []) hf x
  rw [hx] at h1
  obtain ⟨ad, cap, h2⟩ := h1.m_inv.form
  refine ⟨_, .imm (.v _), fun w' => ?_⟩
  simp only [execOp, h, resolve, Sem.run_bind, Sem.run_pure, invoke, builtin]
  simp [h2, Builtin.len_, run_underlying hT.u, goInt]
theorem purI_ixT {α : Type} {T : Ty α} {t x y e kk} {xs : List α} {z : Int} {i : Nat} {v : α} (hT : SlT P t e T.k) (hx : val E x = sl T xs) (hy : val E y = .v (.int kk z)) (hz : z = (i : Int)) (hv : xs[i]? = some v) (h : o.op = .indexAddr t x y) : PurI P o E (.q (flat T.enc xs) (i * T.k)) := fun F Λ w tmps hf => by
  have hi := (List.getElem?_eq_some_iff.1 hv).1
  subst hz
  have e1 := val_ok (ds := []) hf x
  have e2 := val_ok (ds := []) hf y
  rw [hx] at e1
  rw [hy] at e2
  have e2 := e2.v_inv
  rcases e1.i_inv hT.pos (flat_len T.len xs) with ⟨hz, _⟩ | ⟨b, o', cap, cs, _, _, h2, hb, hc, hi'⟩
  · omega
  · refine ⟨.pointer (some ⟨b, o' + i * T.k, none⟩), .imm (.q b o' _ cs _ hb hc hi'), fun w' => ?_⟩
    simp only [execOp, h, h2, e2]
    simp [Instr.indexAt, run_underlying hT.u, asIntOf, run_sizeOf' hT.i, addr_add, hi]
theorem purI_ixM {α : Type} {T : Ty α} {t x y e kk L} {xs : List α} {z : Int} {i : Nat} {v : α} (hT : SlT P t e T.k) (hx : val E x = .m L 0 xs.length T.k) (hy : val E y = .v (.int kk z)) (hz : z = (i : Int)) (hv : xs[i]? = some v) (h : o.op = .indexAddr t x y) : PurI P o E (.e L (i * T.k)) := fun F Λ w tmps hf => by
  have hi := (List.getElem?_eq_some_iff.1 hv).1
  subst hz
  have e1 := val_ok (ds := []) hf x
  have e2 := val_ok (ds := []) hf y
  rw [hx] at e1
  rw [hy] at e2
  have e2 := e2.v_inv
  rcases e1.m_inv with ⟨hz, _⟩ | ⟨b, o', cap, hL, h2, _⟩
  · omega
  · refine ⟨.pointer (some ⟨b, o' + i * T.k, none⟩), .e hL, fun w' => ?_⟩
    simp only [execOp, h, h2, e2]
    simp [Instr.indexAt, run_underlying hT.u, asIntOf, run_sizeOf' hT.i, addr_add, hi]
theorem purI_fa_q {t x fld off ft d} {xs : List A} (hT : FldT P t fld off ft) (hx : val E x = .q xs d) (h : o.op = .fieldAddr t x fld) : PurI P o E (.q xs (d + off)) := fun F Λ w tmps hf => by
  have e1 := val_ok (ds := []) hf x
  rw [hx] at e1
  obtain ⟨b, o', cs, h2, hb, hc, hi⟩ := e1.q_inv
  refine ⟨.pointer (some ⟨b, o' + (d + off), none⟩), .imm (.q b o' _ cs xs hb hc hi), fun w' => ?_⟩
  simp only [execOp, h, h2]
  simp [run_fieldAt hT, Nat.add_assoc]
theorem purI_fa_e {t x fld off ft a L} (hT : FldT P t fld off ft) (hx : val E x = .e L a) (h : o.op = .fieldAddr t x fld) : PurI P o E (.e L (a + off)) := fun F Λ w tmps hf => by
  have e1 := val_ok (ds := []) hf x
  rw [hx] at e1
  obtain ⟨b, o', hL, h2⟩ := e1.e_inv
  refine ⟨.pointer (some ⟨b, o' + (a + off), none⟩), .e hL, fun w' => ?_⟩
  simp only [execOp, h, h2]
  simp [run_fieldAt hT, Nat.add_assoc]
theorem purI_fa_b {t x fld off ft a l} (hT : FldT P t fld off ft) (hx : val E x = .b l a) (h : o.op = .fieldAddr t x fld) : PurI P o E (.b l (a + off)) := fun F Λ w tmps hf => by
  have e1 := val_ok (ds := []) hf x
  rw [hx] at e1
  obtain ⟨b, o', hL, h2⟩ := e1.b_inv
  refine ⟨.pointer (some ⟨b, o' + (a + off), none⟩), .b hL, fun w' => ?_⟩
  simp only [execOp, h, h2]
  simp [run_fieldAt hT, Nat.add_assoc]
theorem purI_not {t x} {b : Bool} (h : o.op = .unOp .not t x) (hx : val E x = .v (.bool b)) : PurI P o E (.v (.bool (!b))) := fun F Λ w tmps hf => by
  have h1 := val_ok (ds := []) hf x
  rw [hx] at h1
  exact ⟨_, .imm (.v _), fun w' => by simp [execOp, h, h1.v_inv, Op.unary]⟩
theorem purI_extract {x ix y} {xs : List A} (hx : val E x = .t xs) (hy : xs[ix]? = some y) (h : o.op = .extract x ix) : PurI P o E y := fun F Λ w tmps hf => by
  have e1 := val_ok (ds := []) hf x
  rw [hx] at e1
  obtain ⟨vs, h2, hl, hi⟩ := e1.t_inv
  have hlt : ix < vs.length := by
    have := (List.getElem?_eq_some_iff.1 hy).1
    omega
  have hv : vs[ix]? = some vs[ix] := List.getElem?_eq_getElem hlt
  refine ⟨vs[ix], hi ix y _ hy hv, fun w' => ?_⟩
  simp only [execOp, h, h2]
  simp [Instr.extract, hlt]
theorem purI_makeFunc {fn : Nat} {cs : List Operand} (h : o.op = .makeFunc (.func fn) #[] cs.toArray) : PurI P o E (.f fn (cs.map (val E))) := fun F Λ w tmps hf => by
  refine ⟨.func (.func fn) #[] (cs.map (Act.eval ⟨tmps, []⟩)).toArray, .f fn _ _ (by simp) fun j x y hx hy => ?_, fun w' => ?_⟩
  · simp only [List.getElem?_map] at hx hy
    cases hj : cs[j]? with
    | none => simp [hj] at hx
    | some c =>
      simp [hj] at hx hy
      subst hx hy
      exact val_ok hf c
  · simp only [execOp, h]; simp [Instr.makeFunc]
theorem purI_build {t} {pl : List (Nat × Nat)} {zs : List Value} {parts : List (Nat × Operand)} {as : List A} (hT : BldT P t pl zs) (h : o.op = .build t parts.toArray) (hfill : fillA pl (zs.map constA) (parts.map fun p => (p.1, val E p.2)) = some as) : PurI P o E (.g as) := fun F Λ w tmps hf => by
  obtain ⟨⟨⟨inf, z, h1, h2, h3⟩, h4⟩, fs, h5, h6⟩ := hT
  obtain ⟨cs', g1, g2, g3⟩ := fill_ok hf parts z.cells (zs.map constA) as (by rw [← h3]; simp) (fun j y hy => by
    rw [List.getElem?_map] at hy
    cases hj : zs[j]? with
    | none => simp [hj] at hy
    | some c =>
      simp [hj] at hy
      subst hy
      refine ⟨c, ?_, constA_ok c⟩
      rw [← hj, ← h3]; simp) hfill
  refine ⟨.agg cs', ?_, fun w' => ?_⟩
  · have : OK F Λ w (.agg cs'.toList.toArray) (.g as) := .g cs'.toList as (by simpa using g2) fun j x y hx hy => by
      obtain ⟨c, g4, g5⟩ := g3 j x hx
      have : y = c := by
        rw [Array.getElem?_toList] at hy
        rw [hy] at g4; exact Option.some.inj g4
      rw [this]; exact g5
    simpa using this
  · simp only [execOp, h, Instr.build, Sem.run_bind]
    have hz : (zeroValue t).run P w' = .ok z w' := by simp [zeroValue, typeInfo, h1, h2]
    rw [hz]
    simp only [Result.andThen_ok, run_underlying h5, h6]
    have hm : (parts.toArray.map fun (x : Nat × Operand) => match x with | (i, x) => (i, Act.eval ⟨tmps, []⟩ x)).toList = parts.map fun p => (p.1, Act.eval ⟨tmps, []⟩ p.2) := by simp
    simp only [Sem.run_bind, Result.andThen_ok, h6, hm]
    have hpl : (fun i : Nat => pl.toArray[i]?) = fun i : Nat => pl[i]? := by funext i; simp
    rw [hpl, g1]
    simp

theorem purI_cutT {α : Type} {T : Ty α} {t e : Nat} {x : Operand} {lo hi : Option Operand} {xs ys : List α} {a b : Int} (hT : SlT P t e T.k) (hx : val E x = sl T xs) (hlo : bnd E 0 lo a) (hhi : bnd E (xs.length : Int) hi b) (hc : cutI xs a b = some ys) (h : o.op = .slice t x lo hi none) : PurI P o E (sl T ys) := fun F Λ w tmps hf => by
  obtain ⟨i, j, rfl, rfl, h1, h2, rfl, h3⟩ := cutI_inv hc
  have e1 := val_ok (ds := []) hf x
  rw [hx] at e1
  rcases e1.i_inv2 T.pos (flat_len T.len xs) with ⟨h0, hz, ad, cap, h4⟩ | ⟨b, o', cap, cs, h4, h5, h6, h7, h8, h9, h10⟩
  · have ei : i = 0 := by omega
    have ej : j = 0 := by omega
    subst ei ej
    refine ⟨.slice (if cap = 0 then ad else ad.map (·.add (0 * T.k))) (0 - 0) (cap - 0), ?_, fun w' => run_cut hf hT h (by rw [h4, h0]) hlo hhi h1 h2 (by omega) w'⟩
    simp only [List.take_zero, List.drop_nil, flat]
    exact .imm (.i0 _ _ _)
  · refine ⟨.slice (if cap = i then some ⟨b, o', none⟩ else (some (⟨b, o', none⟩ : Addr)).map (·.add (i * T.k))) (j - i) (cap - i), ?_, fun w' => run_cut hf hT h h7 hlo hhi h1 h2 h5 w'⟩
    rcases Nat.eq_zero_or_pos (j - i) with hz | hz
    · have : (xs.take j).drop i = [] := List.eq_nil_of_length_eq_zero (by rw [h3]; exact hz)
      rw [this, hz]
      exact .imm (.i0 _ _ _)
    · rw [if_neg (by omega)]
      simp only [Option.map_some, addr_add]
      have hfl : flat T.enc ((xs.take j).drop i) = ((flat T.enc xs).take (j * T.k)).drop (i * T.k) := by rw [flat_drop T.len, flat_take T.len]
      have hat : ∀ (q : Nat) x, (flat T.enc ((xs.take j).drop i))[q]? = some x → (flat T.enc xs)[i * T.k + q]? = some x := fun q x hq => by
        rw [hfl, List.getElem?_drop] at hq
        have := (List.getElem?_eq_some_iff.1 hq).1
        rw [List.length_take] at this
        rwa [List.getElem?_take_of_lt (by omega)] at hq
      refine .imm (.i b (o' + i * T.k) (j - i) (cap - i) T.k (fun q => cs (i * T.k + q)) _ h8 hz (by omega) (by omega) (by rw [flat_len T.len, h3]) (fun q x hq => ?_) (fun q x hq => h10 _ x (hat q x hq)))
      rw [Nat.add_assoc]; exact h9 _ x (hat q x hq)
theorem purI_cutM {t e k l : Nat} {x : Operand} {lo hi : Option Operand} {i j nn : Nat} (hT : SlT P t e k) (hx : val E x = .m [l] 0 nn k) (hlo : bnd E 0 lo (i : Int)) (hhi : bnd E (nn : Int) hi (j : Int)) (h1 : i ≤ j) (h2 : j ≤ nn) (h : o.op = .slice t x lo hi none) : PurI P o E (.m [l] (i * k) (j - i) k) := fun F Λ w tmps hf => by
  have e1 := val_ok (ds := []) hf x
  rw [hx] at e1
  rcases e1.m_inv with ⟨h0, ad, h4⟩ | ⟨b, o', cap, hL, h5, h6, h7, cs, t', h8, h9⟩
  · subst h0
    refine ⟨_, ?_, fun w' => run_cut hf hT h h4 hlo hhi h1 h2 (Nat.le_refl _) w'⟩
    rw [show j - i = 0 by omega, show 0 - i = 0 by omega]
    exact .m (.inl ⟨rfl, _, rfl⟩)
  · refine ⟨_, ?_, fun w' => run_cut hf hT h h5 hlo hhi h1 h2 h6 w'⟩
    by_cases hz : cap = i
    · rw [show j - i = 0 by omega, show cap - i = 0 by omega]
      exact .m (.inl ⟨rfl, _, rfl⟩)
    · rw [if_neg hz]
      simp only [Option.map_some, addr_add, Nat.add_zero]
      refine .m (.inr ⟨b, o', cap - i, hL, rfl, by omega, by omega, cs, t', h8, ?_⟩)
      have : i * k + (cap - i) * k = cap * k := by rw [← Nat.add_mul]; congr 1; omega
      omega
end

/-! ### paths -/
def onlyN (Q : Act → World → Prop) : Exit → Act → World → Prop := fun e a w => match e with
  | .normal => Q a w
  | _ => False
def TA (P : Program) (n m : Nat) (ops : Array Oper) (fuel : Nat) (listed : Array Bool) (N : Env → Store → Prop) (E : Env) (σ : Store) : Prop :=
  ∀ F Λ w tmps (Q : Act → World → Prop), tmps.size = n → St F Λ σ w → FrOK F Λ w tmps E →
    (∀ F' Λ' σ' w' tmps' E', tmps'.size = n → St F' Λ' σ' w' → FrOK F' Λ' w' tmps' E' → Step m F Λ σ w F' Λ' σ' w' → N E' σ' → Q ⟨tmps', []⟩ w') →
    wpAny P .any ops (onlyN Q) fuel listed ⟨tmps, []⟩ w
section
variable {P : Program} {n m : Nat} {K : Exit → Env → Store → Prop} {N : Env → Store → Prop} {E : Env} {σ : Store} {ops : Array Oper} {fuel : Nat} {listed : Array Bool}
theorem TA_nil (hr : Region.ready .any ops listed = []) (h : N E σ) : TA P n m ops fuel listed N E σ := fun F Λ w tmps Q hn hs hf hq => by
  have := hq F Λ σ w tmps E hn hs hf (.refl ..) h
  cases fuel with
  | zero => exact ⟨hr, this⟩
  | succ fuel => exact ⟨fun _ => this, fun i hi => by rw [hr] at hi; cases hi⟩
theorem TA_first (i : Nat) (listed' : Array Bool) {o : Oper} {r : A} (hi : ops[i]? = some o) (hp : PurI P o E r) (hg : o.guard = none) (hd : dstOK n o.dst = true) (hl : listed.setIfInBounds i true = listed') (hsel : Region.noSelect ops = true)
    (hr : (Region.ready .any ops listed).contains i = true) (hfr : Region.free .any ops listed i = true) (h : TA P n m ops fuel listed' N (put E o.dst r) σ) : TA P n m ops (fuel + 1) listed N E σ := fun F Λ w tmps Q hn hs hf hq => by
  obtain ⟨v, hv, hrun⟩ := hp F Λ w tmps hf
  obtain ⟨tmps', e, hn', hf'⟩ := hf.putO (ds := []) hn hd hv
  subst hl
  refine wpAny_first hi (Region.noSelect_spec hsel) (fun c a w h => h) fuel listed _ w (Region.free_spec hi hfr) (by simpa using hr) (.inl ⟨by simp [Region.wanted, hg], hrun⟩) ?_
  rw [e]
  exact h F Λ w tmps' Q hn' hs hf' hq
def AllR (P : Program) (n m : Nat) (ops : Array Oper) (fuel : Nat) (listed : Array Bool) (N : Env → Store → Prop) (E : Env) (σ : Store) : List Nat → Prop
  | [] => True
  | i :: rs => (∃ o, ops[i]? = some o ∧ o.guard = none ∧ TOp P n m o (TA P n m ops fuel (listed.setIfInBounds i true) N) E σ) ∧ AllR P n m ops fuel listed N E σ rs
theorem AllR.get : ∀ {rs : List Nat}, AllR P n m ops fuel listed N E σ rs → ∀ i ∈ rs, ∃ o, ops[i]? = some o ∧ o.guard = none ∧ TOp P n m o (TA P n m ops fuel (listed.setIfInBounds i true) N) E σ
  | [], _, i, h => by cases h
  | j :: rs, h, i, hi => by
    rcases List.mem_cons.1 hi with rfl | hi
    · exact h.1
    · exact AllR.get h.2 i hi
theorem TA_all (rs : List Nat) (hr : Region.ready .any ops listed = rs) (hne : rs ≠ []) (h : AllR P n m ops fuel listed N E σ rs) : TA P n m ops (fuel + 1) listed N E σ := fun F Λ w tmps Q hn hs hf hq => by
  refine ⟨fun h0 => absurd (hr.symm.trans h0) hne, fun i hi => ?_⟩
  rw [hr] at hi
  obtain ⟨o, h1, h2, h3⟩ := h.get i hi
  unfold wpOp
  rw [h1]
  simp only
  rw [if_pos (by simp [Region.wanted, h2])]
  exact .inl (h3 F Λ w tmps _ (onlyN Q) hn hs hf fun F' Λ' σ' w' tmps' E' hn' hs' hf' hst hN =>
    hN F' Λ' w' tmps' Q hn' hs' hf' fun F2 Λ2 σ2 w2 tmps2 E2 hn2 hs2 hf2 hst2 hN2 => hq F2 Λ2 σ2 w2 tmps2 E2 hn2 hs2 hf2 (hst.trans hst2) hN2)
theorem TA_listed (listed' : Array Bool) (hl : listed = listed') (h : TA P n m ops fuel listed' N E σ) : TA P n m ops fuel listed N E σ := hl ▸ h
theorem TA_ghost {E' σ'} (hg : Ghost m E σ E' σ') (h : TA P n m ops fuel listed N E' σ') : TA P n m ops fuel listed N E σ := fun F Λ w tmps Q hn hs hf hq => by
  obtain ⟨F1, Λ1, h1, h2, h3⟩ := hg F Λ w tmps hs hf
  exact h F1 Λ1 w tmps Q hn h1 h2 fun F2 Λ2 σ2 w2 tmps2 E2 hn2 hs2 hf2 hst2 hN2 => hq F2 Λ2 σ2 w2 tmps2 E2 hn2 hs2 hf2 (h3.trans hst2) hN2
theorem TA_env {E' : Env} (hE : Pk E E') (h : TA P n m ops fuel listed N E' σ) : TA P n m ops fuel listed N E σ := fun F Λ w tmps Q hn hs hf hq => h F Λ w tmps Q hn hs (hf.weak hE.all) hq
theorem TA_st {σ' : Store} (hσ : σ = σ') (h : TA P n m ops fuel listed N E σ') : TA P n m ops fuel listed N E σ := hσ ▸ h
theorem TA_fact {p : Prop} (hp : ∀ F Λ w tmps, St F Λ σ w → FrOK F Λ w tmps E → p) (h : p → TA P n m ops fuel listed N E σ) : TA P n m ops fuel listed N E σ := fun F Λ w tmps Q hn hs hf hq => h (hp F Λ w tmps hs hf) F Λ w tmps Q hn hs hf hq
theorem TA_frz1 (l : Nat) {xs : List A} {E' : Env} (hr : σ[l]? = some (.row xs)) (hb : boxNo l σ = true) (hm : m ≤ l) (hE : FzE l xs E E') (h : TA P n m ops fuel listed N E' (σ.set l .dead)) : TA P n m ops fuel listed N E σ :=
  TA_ghost (fun F Λ w tmps hs hf => ⟨_, _, hs.frz1 hr hb, hE.fr hs hr hf, Step.frz1 hs hr hm⟩) h
theorem T_pad {c : Code} (h : T P n m c K E (σ ++ [.dead])) : T P n m c K E σ := fun F Λ w tmps Q hn hs hf hq =>
  h F Λ w tmps Q hn hs.pad hf fun e F' Λ' σ' w' tmps' E' hn' hs' hf' hst hN => hq e F' Λ' σ' w' tmps' E' hn' hs' hf' (Step.pad.trans hst) hN
theorem T_move' (l l' : Nat) {c : Code} {zs} (hne : l ≠ l') (hl : l < σ.length) (hr : σ[l']? = some (.row zs)) (hb : noBox σ l = true) (hm : m ≤ l) (h : T P n m c K (mvE l l' E) (mvS l l' σ)) : T P n m c K E σ := T_move l l' hne hl hr hb hm h
theorem T_regionP {rid} {l : List Oper} (hm : P.follows .mixedOrders = true) (h : TA P n m l.toArray l.length (Array.replicate l.length false) (K .normal) E σ) : T P n m (.region rid l.toArray true) K E σ := fun F Λ w tmps Q hn hs hf hq => by
  have h1 := h F Λ { w with drawn := w.drawn + 1 } tmps (fun a w => Q .normal a w) hn
    ⟨fun L xs hx => (hs.row L xs hx).imp (fun h => h) fun ⟨b, o, cs, t, h1, h2, h3, h4⟩ => ⟨b, o, cs, t, h1, h2, h3, fun j x hj => (h4 j x hj).imp fun c hc => ⟨hc.1, Cell.mono (w := w) (w' := { w with drawn := w.drawn + 1 }) (fun b hb => ⟨hb, rfl⟩) (fun b cs t h => ⟨cs, h, rfl⟩) hc.2⟩⟩, hs.apart, hs.old, hs.lab⟩
    (FrOK.mono (w := w) (w' := { w with drawn := w.drawn + 1 }) (fun b hb => ⟨hb, rfl⟩) (fun b cs t h => ⟨cs, h, rfl⟩) hf)
    fun F' Λ' σ' w' tmps' E' hn' hs' hf' hst hN => hq .normal F' Λ' σ' w' tmps' E' hn' hs' hf'
      { os := hst.os, tape := hst.tape, output := hst.output, size := hst.size, sizes := hst.sizes, keep := hst.keep, mono := hst.mono, new := hst.new, own := hst.own, len := hst.len, boxes := hst.boxes, kept := hst.kept } hN
  exact wp_mono (wp_region_any hm (by simpa using h1)) fun e a w h => by cases e <;> first | exact h | exact h.elim
end
end Go.Sep

/- Regions that draw their order, with operations that wait for a test. -/
import Derived.Test.YtlcpdlngbofgcaaDA
import Derived.Test.YtlcpdlngbofgcaaCX
set_option linter.unusedVariables false
set_option linter.unusedSimpArgs false
namespace Go.Sep
open Go
section
variable {P : Program} {n m : Nat} {K : Exit → Env → Store → Prop} {N : Env → Store → Prop} {E : Env} {σ : Store} {ops : Array Oper} {fuel : Nat} {listed : Array Bool}
theorem T_caseB {c : Code} (t : Bool) (h1 : t = true → T P n m c K E σ) (h2 : t = false → T P n m c K E σ) : T P n m c K E σ := by
  cases t with
  | true => exact h1 rfl
  | false => exact h2 rfl
theorem TA_firstG (i : Nat) (listed' : Array Bool) {o : Oper} {r : A} {j d : Nat} {want : Bool} (hi : ops[i]? = some o) (hp : PurI P o E r) (hg : o.guard = some (j, want)) (hgd : (ops[j]?).bind (·.dst) = some d) (hdn : d < n) (hlk : lk E d = .v (.bool want)) (hd : dstOK n o.dst = true) (hl : listed.setIfInBounds i true = listed') (hsel : Region.noSelect ops = true)
    (hr : (Region.ready .any ops listed).contains i = true) (hfr : Region.free .any ops listed i = true) (h : TA P n m ops fuel listed' N (put E o.dst r) σ) : TA P n m ops (fuel + 1) listed N E σ := fun F Λ w tmps Q hn hs hf hq => by
  obtain ⟨v, hv, hrun⟩ := hp F Λ w tmps hf
  obtain ⟨tmps', e, hn', hf'⟩ := hf.putO (ds := []) hn hd hv
  subst hl
  refine wpAny_first hi (Region.noSelect_spec hsel) (fun c a w h => h) fuel listed _ w (Region.free_spec hi hfr) (by simpa using hr) (.inl ⟨by simp [Region.wanted, hg, yielded_of hf hn hgd hdn hlk], hrun⟩) ?_
  rw [e]
  exact h F Λ w tmps' Q hn' hs hf' hq
theorem TA_off (i : Nat) (listed' : Array Bool) {o : Oper} {j d : Nat} {want : Bool} {v0 : Value} (hi : ops[i]? = some o) (hg : o.guard = some (j, want)) (hgd : (ops[j]?).bind (·.dst) = some d) (hdn : d < n) (hlk : lk E d = .v v0) (hv0 : offB want v0 = true) (hd : dstOK n o.dst = true) (hl : listed.setIfInBounds i true = listed') (hsel : Region.noSelect ops = true)
    (hr : (Region.ready .any ops listed).contains i = true) (hfr : Region.free .any ops listed i = true) (h : TA P n m ops fuel listed' N (put E o.dst (.v undef)) σ) : TA P n m ops (fuel + 1) listed N E σ := fun F Λ w tmps Q hn hs hf hq => by
  obtain ⟨tmps', e, hn', hf'⟩ := hf.putO (ds := []) (v := undef) hn hd (.imm (.v _))
  subst hl
  refine wpAny_first hi (Region.noSelect_spec hsel) (fun c a w h => h) fuel listed _ w (Region.free_spec hi hfr) (by simpa using hr) (.inr ⟨by simpa [Region.wanted, hg] using yielded_off hf hn hgd hdn hlk hv0, rfl⟩) ?_
  rw [e]
  exact h F Λ w tmps' Q hn' hs hf' hq
/-- What an operation that is ready needs: it waits for nothing, or for a test that is as wanted. -/
def GoOK (n : Nat) (ops : Array Oper) (E : Env) (o : Oper) : Prop := o.guard = none ∨ ∃ j d want, o.guard = some (j, want) ∧ (ops[j]?).bind (·.dst) = some d ∧ d < n ∧ lk E d = .v (.bool want)
theorem goN {o : Oper} (h : o.guard = none) : GoOK n ops E o := .inl h
theorem goG {o : Oper} {j d : Nat} {want : Bool} (hg : o.guard = some (j, want)) (hgd : (ops[j]?).bind (·.dst) = some d) (hdn : d < n) (hlk : lk E d = .v (.bool want)) : GoOK n ops E o := .inr ⟨j, d, want, hg, hgd, hdn, hlk⟩
def AllG (P : Program) (n m : Nat) (ops : Array Oper) (fuel : Nat) (listed : Array Bool) (N : Env → Store → Prop) (E : Env) (σ : Store) : List Nat → Prop
  | [] => True
  | i :: rs => (∃ o, ops[i]? = some o ∧ GoOK n ops E o ∧ TOp P n m o (TA P n m ops fuel (listed.setIfInBounds i true) N) E σ) ∧ AllG P n m ops fuel listed N E σ rs
theorem AllG.get : ∀ {rs : List Nat}, AllG P n m ops fuel listed N E σ rs → ∀ i ∈ rs, ∃ o, ops[i]? = some o ∧ GoOK n ops E o ∧ TOp P n m o (TA P n m ops fuel (listed.setIfInBounds i true) N) E σ
  | [], _, i, h => by cases h
  | j :: rs, h, i, hi => by
    rcases List.mem_cons.1 hi with rfl | hi
    · exact h.1
    · exact AllG.get h.2 i hi
theorem TA_allG (rs : List Nat) (hr : Region.ready .any ops listed = rs) (hne : rs ≠ []) (h : AllG P n m ops fuel listed N E σ rs) : TA P n m ops (fuel + 1) listed N E σ := fun F Λ w tmps Q hn hs hf hq => by
  refine ⟨fun h0 => absurd (hr.symm.trans h0) hne, fun i hi => ?_⟩
  rw [hr] at hi
  obtain ⟨o, h1, h2, h3⟩ := h.get i hi
  unfold wpOp
  rw [h1]
  simp only
  have hw : Region.wanted o (yielded ops tmps) = true := by
    rcases h2 with h2 | ⟨j, d, want, g1, g2, g3, g4⟩
    · simp [Region.wanted, h2]
    · simp [Region.wanted, g1, yielded_of hf hn g2 g3 g4]
  rw [if_pos hw]
  exact .inl (h3 F Λ w tmps _ (onlyN Q) hn hs hf fun F' Λ' σ' w' tmps' E' hn' hs' hf' hst hN =>
    hN F' Λ' w' tmps' Q hn' hs' hf' fun F2 Λ2 σ2 w2 tmps2 E2 hn2 hs2 hf2 hst2 hN2 => hq F2 Λ2 σ2 w2 tmps2 E2 hn2 hs2 hf2 (hst.trans hst2) hN2)
/-- A slot that is this truth value. -/
theorem TA_bool (d : Nat) {t t' : Bool} (ht : t = t') (hl : lk E d = .v (.bool t)) (h : TA P n m ops fuel listed N ((d, .v (.bool t')) :: E) σ) : TA P n m ops fuel listed N E σ := fun F Λ w tmps Q hn hs hf hq => by
  subst ht
  exact h F Λ w tmps Q hn hs (hf.congr fun u => (lk_same hl u).symm) hq
end
end Go.Sep

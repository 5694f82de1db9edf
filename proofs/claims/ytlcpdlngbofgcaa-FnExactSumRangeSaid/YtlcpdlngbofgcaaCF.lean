/- Functions of one known answer; regions that draw their order. -/
import Derived.Test.YtlcpdlngbofgcaaCE
import Derived.KernelRfl
set_option linter.unusedVariables false
set_option linter.unusedSimpArgs false
namespace Go.Sep
open Go

/-- Function f, called with 'as', hands back just r and nothing of its own. -/
def FnV (P : Program) (f : Nat) (as : List A) (r : A) : Prop := Fn P f as [] fun r' σ => r' = r ∧ σ = []

theorem looseL_app {xs ys : List A} (h1 : looseL xs = true) (h2 : looseL ys = true) : looseL (xs ++ ys) = true := by
  induction xs with
  | nil => exact h2
  | cons x xs ih => simp only [looseL, Bool.and_eq_true, List.cons_append] at *; exact ⟨h1.1, ih h1.2⟩

section
variable {P : Program} {n m : Nat} {K : Exit → Env → Store → Prop} {N : Env → Store → Prop} {E : Env} {σ : Store} {ops : Array Oper} {os : List Oper} {o : Oper}
theorem TOp_callV {g : Nat} {as : List A} {r : A} (hc : CallOp P o E g as) (hF : FnV P g as r) (hl : looseL as = true) (hr : r.loose = true) (hd : dstOK n o.dst = true) (hN : N (put E o.dst r) σ) : TOp P n m o N E σ :=
  TOp_call hc hl hF hd (fun r' h => by rw [h.1]; exact ⟨hr, hN⟩) fun r' σ' h => h.2

theorem fnV_of_T {f} {fn : Func} {c : Code} {as : List A} {r : A} {rs : List ResultVar} (hf : P.funcs[f]? = some fn) (hb : fn.body = some c) (hr : fn.results = rs.toArray) (hn : as.length ≤ fn.ntmps)
    (h : T P fn.ntmps 0 c (EndK P rs 0 fun r' σ => r' = r ∧ σ = []) (entry 0 as) []) : FnV P f as r := fn_of_T hf hb hr hn h

/-! ### any order -/
def Cls (m : Nat) (F : Nat → Prop) (Λ : Lbl) (σ : Store) (w : World) (w' : World) : Prop := St F Λ σ w' ∧ Alike F Λ σ w w' ∧ Step m F Λ σ w F Λ σ w'
theorem Cls.fr {F Λ w tmps w'} (h : Cls m F Λ σ w w') (hf : FrOK F Λ w tmps E) : FrOK F Λ w' tmps E := hf.mono (fun b hb => ⟨hb, h.2.1 b (.inl hb)⟩) h.2.2.sizes
def TQ (P : Program) (n m : Nat) (ops : Array Oper) (os : List Oper) (N : Env → Store → Prop) (E : Env) (σ : Store) : Prop :=
  ∀ F Λ w tmps (Q : Act → Prop), tmps.size = n → St F Λ σ w → FrOK F Λ w tmps E → (∀ tmps' E', tmps'.size = n → FrOK F Λ w tmps' E' → N E' σ → Q ⟨tmps', []⟩) →
    wpQuiet P ops (Cls m F Λ σ w) Q os ⟨tmps, []⟩
theorem TQ_nil (h : N E σ) : TQ P n m ops [] N E σ := fun F Λ w tmps Q hn hs hf hq => hq tmps E hn hf h
theorem TQ_pure {r : A} (hg : o.guard = none) (hp : Pur P o E σ r) (hd : dstOK n o.dst = true) (h : TQ P n m ops os N (put E o.dst r) σ) : TQ P n m ops (o :: os) N E σ := fun F Λ w tmps Q hn hs hf hq => by
  obtain ⟨v, hv, hr⟩ := hp F Λ w tmps hs hf
  unfold wpQuiet
  rw [if_pos (by simp [Region.wanted, hg])]
  refine ⟨v, fun w' hw' => ?_, ?_⟩
  · unfold Oper.quietAt; rw [hr w' hw'.2.1]; exact ⟨rfl, rfl⟩
  · obtain ⟨tmps', e, hn', hf'⟩ := hf.putO (ds := []) hn hd hv
    rw [e]; exact h F Λ w tmps' Q hn' hs hf' hq
theorem TQ_split (d : Nat) {t : Bool} (hl : lk E d = .v (.bool t)) (h1 : t = true → TQ P n m ops os N ((d, .v (.bool true)) :: E) σ) (h2 : t = false → TQ P n m ops os N ((d, .v (.bool false)) :: E) σ) : TQ P n m ops os N E σ := fun F Λ w tmps Q hn hs hf hq => by
  cases t with
  | true => exact h1 rfl F Λ w tmps Q hn hs (hf.congr fun u => (lk_same hl u).symm) hq
  | false => exact h2 rfl F Λ w tmps Q hn hs (hf.congr fun u => (lk_same hl u).symm) hq
theorem yielded_of {F Λ w tmps} {j d : Nat} {t : Bool} (hf : FrOK F Λ w tmps E) (hn : tmps.size = n) (hd : (ops[j]?).bind (·.dst) = some d) (hdn : d < n) (hl : lk E d = .v (.bool t)) : yielded ops tmps j = some t := by
  have e1 := hf d
  rw [hl] at e1
  have e1 := e1.v_inv
  unfold yielded
  rw [hd]
  have : tmps[d]? = some (.bool t) := by
    rw [Array.getD_eq_getD_getElem?, Array.getElem?_eq_getElem (by omega)] at e1
    rw [Array.getElem?_eq_getElem (by omega)]
    simpa using e1
  simp [this]
theorem TQ_on {r : A} {j d : Nat} {want : Bool} (hg : o.guard = some (j, want)) (hd : (ops[j]?).bind (·.dst) = some d) (hdn : d < n) (hl : lk E d = .v (.bool want)) (hp : Pur P o E σ r) (hdst : dstOK n o.dst = true) (h : TQ P n m ops os N (put E o.dst r) σ) : TQ P n m ops (o :: os) N E σ := fun F Λ w tmps Q hn hs hf hq => by
  obtain ⟨v, hv, hr⟩ := hp F Λ w tmps hs hf
  unfold wpQuiet
  rw [if_pos (by simp [Region.wanted, hg, yielded_of hf hn hd hdn hl])]
  refine ⟨v, fun w' hw' => ?_, ?_⟩
  · unfold Oper.quietAt; rw [hr w' hw'.2.1]; exact ⟨rfl, rfl⟩
  · obtain ⟨tmps', e, hn', hf'⟩ := hf.putO (ds := []) hn hdst hv
    rw [e]; exact h F Λ w tmps' Q hn' hs hf' hq
theorem TQ_off {j d : Nat} {want : Bool} {v0 : Value} (hg : o.guard = some (j, want)) (hd : (ops[j]?).bind (·.dst) = some d) (hdn : d < n) (hl : lk E d = .v v0) (hv : offB want v0 = true) (hdst : dstOK n o.dst = true) (h : TQ P n m ops os N (put E o.dst (.v undef)) σ) : TQ P n m ops (o :: os) N E σ := fun F Λ w tmps Q hn hs hf hq => by
  unfold wpQuiet
  rw [if_neg (by simpa [Region.wanted, hg] using yielded_off hf hn hd hdn hl hv)]
  obtain ⟨tmps', e, hn', hf'⟩ := hf.putO (ds := []) (v := undef) hn hdst (.imm (.v _))
  rw [e]; exact h F Λ w tmps' Q hn' hs hf' hq
theorem quiet_call {g : Nat} {as : List A} {x : Value} {F Λ w tmps} (hc : CallOp P o E g as) (hF : FnV P g as (.v x)) (hl : looseL as = true) (hf : FrOK F Λ w tmps E) : ∀ w', Cls m F Λ σ w w' → o.quietAt P ⟨tmps, []⟩ (Cls m F Λ σ w) w' x := fun w' hw' => by
  obtain ⟨vs, ⟨hvl, hvs⟩, hrun⟩ := hc F Λ w' tmps (hw'.fr hf)
  unfold Oper.quietAt
  rw [hrun w']
  refine ⟨rfl, ?_⟩
  refine hF F (fun _ => none) w' vs _ hw'.1.empty ⟨hvl, fun j x y hx hy => (hvs j x y hx hy).free (looseL_mem hl x (List.mem_of_getElem? hx))⟩ fun F1 Λ1 σ1 w1 v r hs1 hst hv hq => ?_
  obtain ⟨rfl, rfl⟩ := hq
  have := hv.v_inv
  subst this
  refine ⟨rfl, ?_⟩
  have hst' : Step m F Λ σ w' F Λ σ w1 :=
    { os := hst.os, tape := hst.tape, output := hst.output, size := hst.size, sizes := hst.sizes, keep := fun b hb _ => hst.keep b hb fun ho => ho.empty, mono := fun _ h => h
      new := fun b hb => .inl hb, own := fun b hb => .inl hb, len := Nat.min_le_right _ _, boxes := fun l xs _ hx => ⟨rfl, xs, hx⟩, kept := fun _ _ _ _ h => h }
  have hkeep : ∀ b, b < w'.heap.size → w1.heap[b]? = w'.heap[b]? := fun b hb => hst.keep b hb fun ho => ho.empty
  have hs' := hw'.1
  refine ⟨⟨fun L xs hr => ?_, hs'.apart, fun b hb => Nat.lt_of_lt_of_le (hs'.old b hb) hst.size, hs'.lab⟩, fun b hb => ?_, hw'.2.2.trans hst'⟩
  · rcases hs'.row L xs hr with h5 | ⟨b, o, cs, t', h5, h6, h7, h8⟩
    · exact .inl h5
    · have hlt : b < w'.heap.size := (Array.getElem?_eq_some_iff.1 h7).1
      refine .inr ⟨b, o, cs, t', h5, h6, by rw [hkeep b hlt]; exact h7, fun j x hx => ?_⟩
      obtain ⟨c, h9, h10⟩ := h8 j x hx
      exact ⟨c, h9, h10.mono (fun b hb => ⟨hb, hkeep b (hs'.old b hb)⟩) hst.sizes⟩
  · have hlt : b < w'.heap.size := by
      rcases hb with hb | hb
      · exact hs'.old b hb
      · exact hs'.owns hb
    rw [hkeep b hlt, hw'.2.1 b hb]
theorem TQ_callV {g : Nat} {as : List A} {x : Value} (hg : o.guard = none) (hc : CallOp P o E g as) (hF : FnV P g as (.v x)) (hl : looseL as = true) (hd : dstOK n o.dst = true) (h : TQ P n m ops os N (put E o.dst (.v x)) σ) : TQ P n m ops (o :: os) N E σ := fun F Λ w tmps Q hn hs hf hq => by
  unfold wpQuiet
  rw [if_pos (by simp [Region.wanted, hg])]
  refine ⟨x, quiet_call hc hF hl hf, ?_⟩
  obtain ⟨tmps', e, hn', hf'⟩ := hf.putO (ds := []) hn hd (.imm (.v x))
  rw [e]; exact h F Λ w tmps' Q hn' hs hf' hq
theorem TQ_onV {g : Nat} {as : List A} {x : Value} {j d : Nat} {want : Bool} (hg : o.guard = some (j, want)) (hd : (ops[j]?).bind (·.dst) = some d) (hdn : d < n) (hw : lk E d = .v (.bool want)) (hc : CallOp P o E g as) (hF : FnV P g as (.v x)) (hl : looseL as = true) (hdst : dstOK n o.dst = true) (h : TQ P n m ops os N (put E o.dst (.v x)) σ) : TQ P n m ops (o :: os) N E σ := fun F Λ w tmps Q hn hs hf hq => by
  unfold wpQuiet
  rw [if_pos (by simp [Region.wanted, hg, yielded_of hf hn hd hdn hw])]
  refine ⟨x, quiet_call hc hF hl hf, ?_⟩
  obtain ⟨tmps', e, hn', hf'⟩ := hf.putO (ds := []) hn hdst (.imm (.v x))
  rw [e]; exact h F Λ w tmps' Q hn' hs hf' hq

theorem T_regionD {id} {l : List Oper} (hm : P.follows .mixedOrders = true) (hB : Region.lexB .any l.toArray = true) (h : TQ P n m l.toArray l (K .normal) E σ) : T P n m (.region id l.toArray true) K E σ := fun F Λ w tmps Q hn hs hf hq => by
  have h0 : ∀ b, Own Λ σ b → b < w.heap.size := fun b hb => hs.owns hb
  refine wp_region_quiet (C := Cls m F Λ σ w) hm hB ⟨⟨fun L xs hr => ?_, hs.apart, hs.old, hs.lab⟩, fun b _ => rfl, ?_⟩ ?_
  · exact (hs.row L xs hr).imp (fun h => h) fun ⟨b, o, cs, t, h1, h2, h3, h4⟩ => ⟨b, o, cs, t, h1, h2, h3, fun j x hx => (h4 j x hx).imp fun c hc => ⟨hc.1, hc.2.mono (w := w) (w' := { w with drawn := w.drawn + 1 }) (fun b hb => ⟨hb, rfl⟩) fun b cs t h => ⟨cs, h, rfl⟩⟩⟩
  · exact { os := rfl, tape := rfl, output := rfl, size := Nat.le_refl _, sizes := fun b cs t h => ⟨cs, h, rfl⟩, keep := fun _ _ _ => rfl, mono := fun _ h => h, new := fun _ h => .inl h, own := fun _ h => .inl h, len := Nat.min_le_right _ _, boxes := fun l xs _ hx => ⟨rfl, xs, hx⟩, kept := fun _ _ _ _ h => h }
  · have := h F Λ w tmps (fun a' => ∀ w', Cls m F Λ σ w w' → Q .normal a' w') hn hs hf fun tmps' E' hn' hf' hN w' hw' => hq .normal F Λ σ w' tmps' E' hn' hw'.1 (hw'.fr hf') hw'.2.2 hN
    simpa using this
end

/-! ### the program's own facts, each a closed one -/
theorem SlT.of {P : Program} {t e k : Nat} (u : P.underlying t = some (.slice e)) (i : (P.info? e).map (·.size) = some k) (pos : 0 < k) : SlT P t e k := ⟨u, by simpa using i, pos⟩
theorem AggT.of {P : Program} {t k : Nat} (u : ((P.underlying t).map fun d => match d with | .struct _ => true | _ => false) = some true) (i : (P.info? t).map (·.size) = some k) : AggT P t k := by
  refine ⟨?_, by simpa using i⟩
  cases h : P.underlying t with
  | none => simp [h] at u
  | some d => cases d <;> simp [h] at u; exact ⟨_, rfl⟩
theorem OneT.of {P : Program} {t : Nat} (u : ((P.underlying t).map isOne) = some true) : OneT P t := by
  cases h : P.underlying t with
  | none => simp [h] at u
  | some d => exact ⟨d, h, by simpa [h] using u⟩
theorem FldT.of {P : Program} {t x off ft : Nat} (u : ((P.underlying t).bind fun d => match d with | .struct fs => (fs[x]?).map fun f => (f.offset, f.type) | _ => none) = some (off, ft)) (i : ((P.info? ft).map fun j => j.size != 0) = some true) : FldT P t x off ft := by
  constructor
  · cases h : P.underlying t with
    | none => simp [h] at u
    | some d =>
      cases d <;> simp [h] at u
      rename_i fs
      obtain ⟨f, h1, h2, h3⟩ := u
      exact ⟨fs, f, rfl, by simpa using h1, h2, h3⟩
  · cases h : P.info? ft with
    | none => simp [h] at i
    | some j => exact ⟨j, rfl, by simpa [h] using i⟩
theorem ZeroT.of {P : Program} {t : Nat} {zs : List Value} (z : ((P.info? t).bind (·.zero)).map (fun z => z.cells.toList) = some zs) (s : ∀ z ∈ zs, Sep.sc z = true) : ZeroT P t zs := by
  refine ⟨?_, s⟩
  cases h : P.info? t with
  | none => simp [h] at z
  | some i =>
    simp [h] at z
    obtain ⟨y, h1, h2⟩ := z
    exact ⟨i, y, rfl, h1, h2⟩
end Go.Sep

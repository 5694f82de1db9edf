/- Code, loops, functions and calls: the rules of the calculus, but for what writes. -/
import Derived.Test.YtlcpdlngbofgcaaCB
set_option linter.unusedVariables false
set_option linter.unusedSimpArgs false
namespace Go.Sep
open Go

/-! ### frames -/
def put (E : Env) (d : Option Tmp) (r : A) : Env := match d with | some d => (d, r) :: E | none => E

theorem getD_set (tmps : Array Value) (d u : Nat) (v : Value) (hd : d < tmps.size) : (tmps.setIfInBounds d v).getD u undef = if d = u then v else tmps.getD u undef := by
  simp only [Array.getD_eq_getD_getElem?, Array.getElem?_setIfInBounds]
  split
  · rename_i h; subst h; simp [hd]
  · rfl

theorem FrOK.put {F Λ w tmps E} (h : FrOK F Λ w tmps E) {d v r} (hd : d < tmps.size) (hr : OK F Λ w v r) : FrOK F Λ w (tmps.setIfInBounds d v) ((d, r) :: E) := fun t => by
  rw [getD_set _ _ _ _ hd]
  simp only [lk]
  split
  · exact hr
  · exact h t
def dstOK (n : Nat) : Option Tmp → Bool
  | some d => d < n
  | none => true
theorem FrOK.putO {F Λ w tmps E ds} (h : FrOK F Λ w tmps E) {d : Option Tmp} {v r n} (hn : tmps.size = n) (hd : dstOK n d = true) (hr : OK F Λ w v r) : ∃ tmps', (Act.put ⟨tmps, ds⟩ d v) = ⟨tmps', ds⟩ ∧ tmps'.size = n ∧ FrOK F Λ w tmps' (Sep.put E d r) := by
  cases d with
  | none => exact ⟨tmps, rfl, hn, h⟩
  | some d => exact ⟨tmps.setIfInBounds d v, rfl, by simpa using hn, h.put (by rw [hn]; simpa [dstOK] using hd) hr⟩
/-- Less is known. -/
theorem FrOK.weak {F Λ w tmps E E'} (h : FrOK F Λ w tmps E) (hE : ∀ p ∈ E', lk E p.1 = p.2) : FrOK F Λ w tmps E' := fun t => by
  have : lk E' t = .j ∨ lk E' t = lk E t := by
    clear h
    induction E' with
    | nil => exact .inl rfl
    | cons p E' ih =>
      obtain ⟨u, a⟩ := p
      simp only [lk]
      split
      · rename_i e; subst e; exact .inr (hE (u, a) (List.mem_cons_self ..)).symm
      · exact ih fun p hp => hE p (List.mem_cons_of_mem _ hp)
  rcases this with e | e
  · rw [e]; exact .j _
  · rw [e]; exact h t

/-! ### the predicates -/
section
variable (P : Program) (n m : Nat)
/-- From here the operations 'os' lead to N. -/
def TO (ops : Array Oper) (os : List Oper) (N : Env → Store → Prop) (E : Env) (σ : Store) : Prop :=
  ∀ F Λ w tmps (Q : Exit → Act → World → Prop), tmps.size = n → St F Λ σ w → FrOK F Λ w tmps E →
    (∀ F' Λ' σ' w' tmps' E', tmps'.size = n → St F' Λ' σ' w' → FrOK F' Λ' w' tmps' E' → Step m F Λ σ w F' Λ' σ' w' → N E' σ' → Q .normal ⟨tmps', []⟩ w') →
    wpList P ops Q os ⟨tmps, []⟩ w
def TOp (o : Oper) (N : Env → Store → Prop) (E : Env) (σ : Store) : Prop :=
  ∀ F Λ w tmps (K : Act → World → Prop) (Q : Exit → Act → World → Prop), tmps.size = n → St F Λ σ w → FrOK F Λ w tmps E →
    (∀ F' Λ' σ' w' tmps' E', tmps'.size = n → St F' Λ' σ' w' → FrOK F' Λ' w' tmps' E' → Step m F Λ σ w F' Λ' σ' w' → N E' σ' → K ⟨tmps', []⟩ w') →
    o.wp P ⟨tmps, []⟩ w K Q
def T (c : Code) (K : Exit → Env → Store → Prop) (E : Env) (σ : Store) : Prop :=
  ∀ F Λ w tmps (Q : Exit → Act → World → Prop), tmps.size = n → St F Λ σ w → FrOK F Λ w tmps E →
    (∀ e F' Λ' σ' w' tmps' E', tmps'.size = n → St F' Λ' σ' w' → FrOK F' Λ' w' tmps' E' → Step m F Λ σ w F' Λ' σ' w' → K e E' σ' → Q e ⟨tmps', []⟩ w') →
    c.wp P Q ⟨tmps, []⟩ w
end

def thenK (N : Env → Store → Prop) (K : Exit → Env → Store → Prop) : Exit → Env → Store → Prop
  | .normal => N
  | e => K e
def blockK (id : Nat) (K : Exit → Env → Store → Prop) : Exit → Env → Store → Prop
  | .exit id' => if id' = id then K .normal else K (.exit id')
  | e => K e

section
variable {P : Program} {n m : Nat} {K : Exit → Env → Store → Prop} {N : Env → Store → Prop} {E : Env} {σ : Store} {ops : Array Oper} {os : List Oper} {o : Oper}

theorem TO_nil (h : N E σ) : TO P n m ops [] N E σ := fun F Λ w tmps Q hn hs hf hq => hq F Λ σ w tmps E hn hs hf (.refl ..) h

theorem TO_cons (hg : o.guard = none) (h : TOp P n m o (TO P n m ops os N) E σ) : TO P n m ops (o :: os) N E σ := fun F Λ w tmps Q hn hs hf hq => by
  unfold wpList
  rw [if_pos (by simp [Region.wanted, hg])]
  exact .inl (h F Λ w tmps _ Q hn hs hf fun F' Λ' σ' w' tmps' E' hn' hs' hf' hst hN =>
    hN F' Λ' w' tmps' Q hn' hs' hf' fun F2 Λ2 σ2 w2 tmps2 E2 hn2 hs2 hf2 hst2 hN2 => hq F2 Λ2 σ2 w2 tmps2 E2 hn2 hs2 hf2 (hst.trans hst2) hN2)

theorem TO_guard {j d : Nat} {want t : Bool} (hg : o.guard = some (j, want)) (hd : (ops[j]?).bind (·.dst) = some d) (hdn : d < n) (hl : lk E d = .v (.bool t)) (hdst : dstOK n o.dst = true)
    (h1 : t = want → TOp P n m o (TO P n m ops os N) ((d, .v (.bool want)) :: E) σ) (h2 : t = !want → TO P n m ops os N (put ((d, .v (.bool !want)) :: E) o.dst (.v undef)) σ) : TO P n m ops (o :: os) N E σ := fun F Λ w tmps Q hn hs hf hq => by
  have e1 := hf d
  rw [hl] at e1
  have e1 := e1.v_inv
  have hy : yielded ops tmps j = some t := by
    unfold yielded
    rw [hd]
    have : tmps[d]? = some (.bool t) := by
      rw [Array.getD_eq_getD_getElem?, Array.getElem?_eq_getElem (by omega)] at e1
      rw [Array.getElem?_eq_getElem (by omega)]
      simpa using e1
    simp [this]
  have hset : ∀ t', t = t' → FrOK F Λ w tmps ((d, .v (.bool t')) :: E) := fun t' ht u => by
    subst ht
    simp only [lk]
    split
    · rename_i e; subst e; rw [← hl]; exact hf d
    · exact hf u
  unfold wpList
  by_cases ht : t = want
  · rw [if_pos (by simp [Region.wanted, hg, hy, ht])]
    exact .inl (h1 ht F Λ w tmps _ Q hn hs (hset _ ht) fun F' Λ' σ' w' tmps' E' hn' hs' hf' hst hN =>
      hN F' Λ' w' tmps' Q hn' hs' hf' fun F2 Λ2 σ2 w2 tmps2 E2 hn2 hs2 hf2 hst2 hN2 => hq F2 Λ2 σ2 w2 tmps2 E2 hn2 hs2 hf2 (hst.trans hst2) hN2)
  · rw [if_neg (by simp [Region.wanted, hg, hy, ht])]
    have ht' : t = !want := by cases t <;> cases want <;> simp_all
    obtain ⟨tmps', e, hn', hf'⟩ := (hset _ ht').putO (ds := []) hn hdst (.imm (.v undef))
    rw [e]
    exact h2 ht' F Λ w tmps' Q hn' hs hf' hq

theorem TOp_pure {r : A} (hp : Pur P o E σ r) (hd : dstOK n o.dst = true) (h : N (put E o.dst r) σ) : TOp P n m o N E σ := fun F Λ w tmps K Q hn hs hf hk => by
  obtain ⟨v, hv, hr⟩ := hp F Λ w tmps hs hf
  unfold Oper.wp
  rw [hr w (Alike.refl F Λ σ w), Oper.upon_value]
  obtain ⟨tmps', e, hn', hf'⟩ := hf.putO (ds := []) hn hd hv
  rw [e]
  exact hk F Λ σ w tmps' _ hn' hs hf' (.refl ..) h

theorem T_skip (h : K .normal E σ) : T P n m .skip K E σ := fun F Λ w tmps Q hn hs hf hq => wp_skip (hq .normal F Λ σ w tmps E hn hs hf (.refl ..) h)
theorem T_ret (h : K .ret E σ) : T P n m .ret K E σ := fun F Λ w tmps Q hn hs hf hq => wp_ret (hq .ret F Λ σ w tmps E hn hs hf (.refl ..) h)
theorem T_exit {id} (h : K (.exit id) E σ) : T P n m (.exit id) K E σ := fun F Λ w tmps Q hn hs hf hq => wp_exit (hq (.exit id) F Λ σ w tmps E hn hs hf (.refl ..) h)

theorem T_mono {c : Code} {K' : Exit → Env → Store → Prop} (h : T P n m c K' E σ) (hk : ∀ e E σ, K' e E σ → K e E σ) : T P n m c K E σ := fun F Λ w tmps Q hn hs hf hq =>
  h F Λ w tmps Q hn hs hf fun e F' Λ' σ' w' tmps' E' hn' hs' hf' hst hK => hq e F' Λ' σ' w' tmps' E' hn' hs' hf' hst (hk _ _ _ hK)

theorem T_seq {a b : Code} (h : T P n m a (thenK (T P n m b K) K) E σ) : T P n m (.seq a b) K E σ := fun F Λ w tmps Q hn hs hf hq =>
  wp_seq (h F Λ w tmps _ hn hs hf fun e F' Λ' σ' w' tmps' E' hn' hs' hf' hst hK => by
    cases e with
    | normal => exact hK F' Λ' w' tmps' Q hn' hs' hf' fun e2 F2 Λ2 σ2 w2 tmps2 E2 hn2 hs2 hf2 hst2 hK2 => hq e2 F2 Λ2 σ2 w2 tmps2 E2 hn2 hs2 hf2 (hst.trans hst2) hK2
    | _ => exact hq _ F' Λ' σ' w' tmps' E' hn' hs' hf' hst hK)
/-- A sequence, cut at what is known between. -/
theorem T_cut {a b : Code} (M : Env → Store → Prop) (h : T P n m a (thenK M K) E σ) (h2 : ∀ E σ, M E σ → T P n m b K E σ) : T P n m (.seq a b) K E σ :=
  T_seq (T_mono h fun e E σ hk => by cases e <;> first | exact h2 _ _ hk | exact hk)

theorem T_cond {c : Operand} {a b : Code} {t : Bool} (hc : val E c = .v (.bool t)) (h1 : t = true → T P n m a K E σ) (h2 : t = false → T P n m b K E σ) : T P n m (.cond c a b) K E σ := fun F Λ w tmps Q hn hs hf hq => by
  have e1 := val_ok (ds := []) hf c
  rw [hc] at e1
  refine wp_cond_split e1.v_inv (fun ht => h1 ht F Λ w tmps Q hn hs hf hq) (fun ht => h2 ht F Λ w tmps Q hn hs hf hq)

theorem T_block {id} {c : Code} (h : T P n m c (blockK id K) E σ) : T P n m (.block id c) K E σ := fun F Λ w tmps Q hn hs hf hq =>
  wp_block (h F Λ w tmps _ hn hs hf fun e F' Λ' σ' w' tmps' E' hn' hs' hf' hst hK => by
    cases e with
    | exit id' =>
      simp only [blockK] at hK
      show (if id' = id then Q .normal _ _ else Q (.exit id') _ _)
      split
      · rename_i e; rw [if_pos e] at hK; exact hq _ F' Λ' σ' w' tmps' E' hn' hs' hf' hst hK
      · rename_i e; rw [if_neg e] at hK; exact hq _ F' Λ' σ' w' tmps' E' hn' hs' hf' hst hK
    | _ => exact hq _ F' Λ' σ' w' tmps' E' hn' hs' hf' hst hK)

theorem T_region {id} {l : List Oper} (h : TO P n m l.toArray l (K .normal) E σ) : T P n m (.region id l.toArray false) K E σ := fun F Λ w tmps Q hn hs hf hq =>
  wp_region_list (by simpa using h F Λ w tmps Q hn hs hf fun F' Λ' σ' w' tmps' E' hn' hs' hf' hst hN => hq .normal F' Λ' σ' w' tmps' E' hn' hs' hf' hst hN)

/-! ### less is known, and of fewer roots -/
def boxNames (k : Nat) : Root → Bool
  | .box xs => namesL (fun L => k ≤ L.headD 0) xs
  | _ => false

theorem rowAt_take {σ : Store} {k : Nat} {L : List Nat} {xs} (h : rowAt (σ.take k) L = some xs) : L.headD 0 < k ∧ L.headD 0 < σ.length ∧ rowAt σ L = some xs := by
  cases L with
  | nil => simp [rowAt] at h
  | cons l p =>
    simp only [rowAt, List.headD_cons] at *
    by_cases hl : l < k
    · rw [List.getElem?_take_of_lt hl] at h
      refine ⟨hl, ?_, h⟩
      rcases Nat.lt_or_ge l σ.length with h1 | h1
      · exact h1
      · simp [List.getElem?_eq_none h1] at h
    · rw [List.getElem?_eq_none (by simp; omega)] at h
      cases h

theorem isBox_take {σ : Store} {k : Nat} {L : List Nat} (h : L.headD 0 < k) : isBox (σ.take k) L = isBox σ L := by
  match L, h with
  | [], _ => rfl
  | [l], h => simp only [List.headD_cons] at h; simp only [isBox, List.getElem?_take_of_lt h]
  | _ :: _ :: _, _ => rfl

def cutL (Λ : Lbl) (k : Nat) : Lbl := fun L => if k ≤ L.headD 0 then none else Λ L

theorem OK.cut {F Λ w v x k} (h : OK F Λ w v x) (hn : x.names (fun L => k ≤ L.headD 0) = false) : OK F (cutL Λ k) w v x :=
  h.relabel _ (fun L b o hp hL => by simp only [cutL]; rw [if_neg (by simpa using hp)]; exact hL) hn

theorem inCell_names {x : A} (h : x.inCell = true) (p : List Nat → Bool) : x.names p = false := by
  have key : ∀ (xs : List A), namesL (fun _ => true) xs = false → namesL p xs = false := by
    have aux : ∀ (k : Nat), (∀ x : A, SizeOf.sizeOf x ≤ k → x.names (fun _ => true) = false → x.names p = false) ∧ (∀ xs : List A, SizeOf.sizeOf xs ≤ k → namesL (fun _ => true) xs = false → namesL p xs = false) := by
      intro k
      induction k with
      | zero =>
        refine ⟨fun x hx _ => ?_, fun xs hx _ => ?_⟩
        · cases x <;> simp at hx
        · cases xs <;> simp at hx
      | succ k ih =>
        refine ⟨fun x hx hn => ?_, fun xs hx hn => ?_⟩
        · cases x <;> simp only [A.names] at * <;> first | rfl | (cases hn; done) | exact ih.2 _ (by simp at hx; omega) hn
        · cases xs with
          | nil => rfl
          | cons y ys =>
            simp only [namesL, Bool.or_eq_false_iff] at *
            exact ⟨ih.1 _ (by simp at hx; omega) hn.1, ih.2 _ (by simp at hx; omega) hn.2⟩
    exact fun xs h => (aux (SizeOf.sizeOf xs)).2 xs (Nat.le_refl _) h
  cases x <;> simp [A.inCell] at h <;> simp only [A.names]
  exact key _ h

theorem Cell.relabel {F Λ Λ' w bx L c x} (p : List Nat → Bool) (h : ∀ L b o, p L = false → Λ L = some (b, o) → Λ' L = some (b, o)) (hL : p L = false) (hc : Cell F Λ w bx L c x) (hb : bx = true → x.names p = false) : Cell F Λ' w bx L c x := by
  cases x with
  | j => trivial
  | o k ys =>
    obtain ⟨h1, h2, n, h3, h4⟩ := hc
    refine ⟨h1, h2, n, h3, ?_⟩
    rcases h4 with h4 | ⟨b, o, cap, h4, h5⟩
    · exact .inl h4
    · exact .inr ⟨b, o, cap, h _ _ _ hL h4, h5⟩
  | _ =>
    refine ⟨hc.1, hc.2.relabel p h ?_⟩
    cases bx with
    | true => exact hb rfl
    | false => exact inCell_names (by have h1 := hc.1; rwa [if_neg (by simp)] at h1) p

theorem sub_cells {xs : List A} : ∀ {p ys}, sub xs p = some ys → True := fun _ => trivial

theorem St.take {F Λ σ w} (hs : St F Λ σ w) (k : Nat) (hb : ∀ r ∈ σ.take k, boxNames k r = false) : St F (cutL Λ k) (σ.take k) w where
  row L xs hr := by
    obtain ⟨h1, h2, h3⟩ := rowAt_take hr
    have e : cutL Λ k L = Λ L := if_neg (by omega)
    rw [e]
    rcases hs.row L xs h3 with h4 | ⟨b, o, cs, t, h4, h5, h6, h7⟩
    · exact .inl h4
    · refine .inr ⟨b, o, cs, t, h4, h5, h6, fun j x hx => ?_⟩
      obtain ⟨c, h8, h9⟩ := h7 j x hx
      refine ⟨c, h8, ?_⟩
      rw [isBox_take h1]
      refine h9.relabel (fun L => k ≤ L.headD 0) (fun L b o hp hL => by simp only [cutL]; rw [if_neg (by simpa using hp)]; exact hL) (by
        cases L with
        | nil => simp [rowAt] at h3
        | cons l p => simpa using h1) fun hbx => ?_
      match L, h1, h3, hbx with
      | [l], h1, h3, hbx =>
        simp only [List.headD_cons] at h1
        simp only [isBox] at hbx
        cases hl : σ[l]? with
        | none => simp [hl] at hbx
        | some r =>
          cases r with
          | box ys =>
            simp only [rowAt, hl, Root.cells, sub, Option.some.injEq] at h3
            subst h3
            have := hb (.box ys) (List.mem_of_getElem? (i := l) (by rw [List.getElem?_take_of_lt h1]; exact hl))
            exact namesL_false this x (List.mem_of_getElem? hx)
          | _ => simp [hl] at hbx
  apart L xs L' xs' b o o' hr hr' hL hL' := by
    obtain ⟨h1, h2, h3⟩ := rowAt_take hr
    obtain ⟨h1', h2', h3'⟩ := rowAt_take hr'
    simp only [cutL] at hL hL'
    rw [if_neg (by omega)] at hL hL'
    exact hs.apart L xs L' xs' b o o' h3 h3' hL hL'
  old := hs.old
  lab L hL := by
    simp only [cutL]
    split
    · rfl
    · exact hs.lab L (by rw [List.length_take] at hL; omega)

theorem Own.take {Λ σ k b} (h : Own (cutL Λ k) (σ.take k) b) : Own Λ σ b := by
  obtain ⟨L, xs, o, h1, h2⟩ := h
  obtain ⟨h3, h4, h5⟩ := rowAt_take h1
  simp only [cutL] at h2
  rw [if_neg (by omega)] at h2
  exact ⟨L, xs, o, h5, h2⟩

/-- Forgetting: fewer slots, and the roots from k on. -/
structure Weak (m : Nat) (E : Env) (σ : Store) (E' : Env) (σ' : Store) : Prop where
  env : ∀ p ∈ E', lk E p.1 = p.2
  take : ∃ k, m ≤ k ∧ σ' = σ.take k ∧ (∀ p ∈ E', p.2.names (fun L => decide (k ≤ L.headD 0)) = false) ∧ ∀ r ∈ σ', boxNames k r = false

theorem Weak.go {m E σ E' σ' F Λ w tmps} (h : Weak m E σ E' σ') (hs : St F Λ σ w) (hf : FrOK F Λ w tmps E) : ∃ Λ', St F Λ' σ' w ∧ FrOK F Λ' w tmps E' ∧ Step m F Λ σ w F Λ' σ' w := by
  obtain ⟨he, k, hm, rfl, hE, hb⟩ := h
  refine ⟨cutL Λ k, hs.take k hb, ?_, ?_⟩
  · have hf' := hf.weak he
    intro t
    have : (lk E' t).names (fun L => decide (k ≤ L.headD 0)) = false := by
      clear hf hf' he
      induction E' with
      | nil => rfl
      | cons p E' ih =>
        simp only [lk]
        split
        · exact hE p (List.mem_cons_self ..)
        · exact ih fun p hp => hE p (List.mem_cons_of_mem _ hp)
    exact (hf' t).cut this
  · exact { os := rfl, tape := rfl, output := rfl, size := Nat.le_refl _, sizes := Sizes.refl _, keep := fun _ _ _ => rfl, mono := fun _ h => h, new := fun _ h => .inl h, own := fun b h => .inl h.take
            len := by simp; omega
            kept := fun L b o hL h => by simp only [cutL]; rw [if_neg (by omega)]; exact h
            boxes := fun l xs hl hx => ⟨by simp only [cutL]; rw [if_neg (by simp; omega)], xs, by rw [List.getElem?_take_of_lt (by omega)]; exact hx⟩ }
theorem T_weak {c : Code} {E' σ'} (hw : Weak m E σ E' σ') (h : T P n m c K E' σ') : T P n m c K E σ := fun F Λ w tmps Q hn hs hf hq => by
  obtain ⟨Λ', hs', hf', hst⟩ := hw.go hs hf
  exact h F Λ' w tmps Q hn hs' hf' fun e F2 Λ2 σ2 w2 tmps2 E2 hn2 hs2 hf2 hst2 hK => hq e F2 Λ2 σ2 w2 tmps2 E2 hn2 hs2 hf2 (hst.trans hst2) hK
theorem TO_weak {E' σ'} (hw : Weak m E σ E' σ') (h : TO P n m ops os N E' σ') : TO P n m ops os N E σ := fun F Λ w tmps Q hn hs hf hq => by
  obtain ⟨Λ', hs', hf', hst⟩ := hw.go hs hf
  exact h F Λ' w tmps Q hn hs' hf' fun F2 Λ2 σ2 w2 tmps2 E2 hn2 hs2 hf2 hst2 hK => hq F2 Λ2 σ2 w2 tmps2 E2 hn2 hs2 hf2 (hst.trans hst2) hK
/-- No root is forgotten. -/
theorem Weak.env' {m E σ E'} (h : ∀ p ∈ E', lk E p.1 = p.2) (hm : m ≤ σ.length) (hE : ∀ p ∈ E', p.2.names (fun L => decide (σ.length ≤ L.headD 0)) = false) (hb : ∀ r ∈ σ, boxNames σ.length r = false) : Weak m E σ E' σ :=
  ⟨h, σ.length, hm, by simp, hE, hb⟩

/-- What a round hands on: the relation at a smaller number, after some forgetting. -/
def Again (m : Nat) (Inv : Nat → Env → Store → Prop) (k : Nat) (E : Env) (σ : Store) : Prop := ∃ k' E' σ', k' < k ∧ Weak m E σ E' σ' ∧ Inv k' E' σ'
theorem T_loop {c : Code} (Inv : Nat → Env → Store → Prop) (k0 : Nat) {E0 σ0} (hw : Weak m E σ E0 σ0) (h0 : Inv k0 E0 σ0)
    (h : ∀ k E σ, Inv k E σ → T P n m c (thenK (Again m Inv k) K) E σ) : T P n m (.loop c) K E σ := T_weak hw fun F Λ w tmps Q hn hs hf hq => by
  refine wp_loop_ghost (fun k a w' => ∃ F' Λ' σ' tmps' E', a = ⟨tmps', []⟩ ∧ tmps'.size = n ∧ St F' Λ' σ' w' ∧ FrOK F' Λ' w' tmps' E' ∧ Step m F Λ σ0 w F' Λ' σ' w' ∧ Inv k E' σ') k0 ⟨F, Λ, σ0, tmps, E0, rfl, hn, hs, hf, .refl .., h0⟩ ?_
  rintro k a w1 ⟨F1, Λ1, σ1, tmps1, E1, rfl, hn1, hs1, hf1, hst1, hI⟩
  refine h k E1 σ1 hI F1 Λ1 w1 tmps1 _ hn1 hs1 hf1 fun e F2 Λ2 σ2 w2 tmps2 E2 hn2 hs2 hf2 hst2 hK => ?_
  cases e with
  | normal =>
    obtain ⟨k', E3, σ3, hk, hw3, hI3⟩ := hK
    obtain ⟨Λ3, hs3, hf3, hst3⟩ := hw3.go hs2 hf2
    exact ⟨k', hk, F2, Λ3, σ3, tmps2, E3, rfl, hn2, hs3, hf3, (hst1.trans hst2).trans hst3, hI3⟩
  | _ => exact hq _ F2 Λ2 σ2 w2 tmps2 E2 hn2 hs2 hf2 (hst1.trans hst2) hK
end
end Go.Sep

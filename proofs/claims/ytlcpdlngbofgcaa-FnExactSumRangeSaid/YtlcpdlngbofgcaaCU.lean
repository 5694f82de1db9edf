/- append of one element that owns; calls that look at rows and hand back rows. -/
import Derived.Test.YtlcpdlngbofgcaaCT
set_option linter.unusedVariables false
set_option linter.unusedSimpArgs false
namespace Go.Sep
open Go

theorem app_len {α : Type} {b : Nat} {xs ys us : List α} (h : app b xs ys = some us) : xs.length + ys.length = us.length := by rw [(app_inv h).1]; simp
theorem set_right {α : Type} (xs ys : List α) (i : Nat) (y : α) : (xs ++ ys).set (xs.length + i) y = xs ++ ys.set i y := by
  rw [List.set_append]; rw [if_neg (by omega)]; simp
section
variable {P : Program} {n m : Nat} {N : Env → Store → Prop} {E : Env} {σ : Store} {ops : Array Oper} {os : List Oper} {o : Oper}
/-- The operation itself: the cells of the new element are copied, references and all. -/
theorem TOp_appB {α : Type} {T : Ty α} {t e l s by_ : Nat} {x y : Operand} {zs : List Value} {xs us : List α} {v : α} {cs : List A} (hT : SlT P t e T.k) (hz : ZeroT P e zs) (hzk : zs.length = T.k) (hby : (P.info? e).map (·.bytes) = some by_) (hb1 : 1 ≤ by_)
    (h : o.op = .call { callee := .builtin .append, args := #[x, y], argTypes := #[t, t] }) (hd : dstOK n o.dst = true) (hx : val E x = .m [l] 0 xs.length T.k) (hr : σ[l]? = some (.box (flat T.own xs)))
    (hy : val E y = .m [s] 0 1 T.k) (hs : σ[s]? = some (.box cs)) (hcs : cs.length = T.k) (hc : boxAllB cs = true) (ha : app by_ xs [v] = some us) (hml : m ≤ l)
    (hN : N (put E o.dst (.m [σ.length] 0 (xs.length + 1) T.k)) (σ.set l .dead ++ [.box (flat T.own xs ++ cs)])) : TOp P n m o N E σ := by
  obtain ⟨_, hb⟩ := app_inv ha
  simp only [List.length_cons, List.length_nil, Nat.zero_add] at hb
  have h63 : xs.length + 1 ≤ 9223372036854775807 := by
    have : (xs.length + 1) * 1 ≤ (xs.length + 1) * by_ := Nat.mul_le_mul_left _ hb1
    omega
  exact TOp_appendX hT hz hzk hby h hd hx hr (flat_len T.lenO xs) (src_b hy hs (by rw [hcs, Nat.one_mul]) hc) hc hml h63 hb hN
theorem TO_absorbA (s off l : Nat) {nn k : Nat} {pr cs ys : List A} (hs : σ[s]? = some (.box (pr ++ cs))) (hl : σ[l]? = some (.row ys)) (hx : cs[off]? = some (.m [l] 0 nn k)) (hne : s ≠ l) (hk : 0 < k) (hn : ys.length = nn * k) (hms : m ≤ s) (hml : m ≤ l)
    (hE : nmE (pre s (pr.length + off)) E = false) (hb : nmS (pre s (pr.length + off)) σ = false) (h : TO P n m ops os N E ((σ.set l .dead).set s (.box (pr ++ cs.set off (.o k ys))))) : TO P n m ops os N E σ := by
  refine TO_absorb s (pr.length + off) l hs hl ?_ hne hk hn hms hml hE hb ?_
  · rw [List.getElem?_append_right (by omega)]; simpa using hx
  · unfold abS; rw [set_right]; exact h
theorem rowB_own {xs : List A} (h : ownRL xs = true) : rowB xs = true := by
  simp only [rowB, List.all_eq_true]
  intro x hx
  have := ownRL_mem h x hx
  cases x <;> simp_all [ownR, A.inCell]
theorem TO_rowifyT {α : Type} {T : Ty α} (s : Nat) {xs us : List α} {v : α} {cs : List A} {by_ : Nat} (hs : σ[s]? = some (.box (flat T.own xs ++ cs))) (hv : cs = T.own v) (ha : app by_ xs [v] = some us) (hm : m ≤ s) (h : TO P n m ops os N E (σ.set s (.row (flat T.own us)))) : TO P n m ops os N E σ := by
  obtain ⟨rfl, _⟩ := app_inv ha
  subst hv
  have e : flat T.own xs ++ T.own v = flat T.own (xs ++ [v]) := flat_one _ _ _
  rw [e] at hs
  exact TO_rowify s hs (rowB_own (flat_ownR T _)) hm h
/-- A box of one literal element, as a row. -/
theorem TO_rowify1 (s : Nat) {cs : List A} (hs : σ[s]? = some (.box cs)) (hb : ownRL cs = true) (hm : m ≤ s) (h : TO P n m ops os N E (σ.set s (.row cs))) : TO P n m ops os N E σ := TO_rowify s hs (rowB_own hb) hm h
end

/-! ### a root that nobody needs -/
theorem St.kill {F Λ σ w} (hs : St F Λ σ w) (l : Nat) : St F Λ (σ.set l .dead) w where
  row L ys h := by
    obtain ⟨hn, h1⟩ := rowAt_kill h
    rw [isBox_kill hn]; exact hs.row L ys h1
  apart L ys L' ys' b o o' h1 h2 := hs.apart _ _ _ _ _ _ _ (rowAt_kill h1).2 (rowAt_kill h2).2
  old := hs.old
  lab L h := hs.lab L (by simpa using h)
theorem Step.kill {m F Λ σ w} {l : Nat} (hm : m ≤ l) : Step m F Λ σ w F Λ (σ.set l .dead) w :=
  { os := rfl, tape := rfl, output := rfl, size := Nat.le_refl _, sizes := Sizes.refl _, keep := fun _ _ _ => rfl, mono := fun _ h => h, new := fun _ h => .inl h
    own := fun b ⟨L, ys, o, g1, g2⟩ => .inl ⟨L, ys, o, (rowAt_kill g1).2, g2⟩
    len := by rw [List.length_set]; exact Nat.min_le_right _ _
    boxes := fun a us ha hu => ⟨rfl, us, by rw [List.getElem?_set_ne (by omega)]; exact hu⟩
    kept := fun _ _ _ _ h => h }
theorem TO_kill {P : Program} {n m : Nat} {N : Env → Store → Prop} {E : Env} {σ : Store} {ops : Array Oper} {os : List Oper} (l : Nat) (hm : m ≤ l) (h : TO P n m ops os N E (σ.set l .dead)) : TO P n m ops os N E σ := fun F Λ w tmps Q hn hs hf hq =>
  h F Λ w tmps Q hn (hs.kill l) hf fun F' Λ' σ' w' tmps' E' hn' hs' hf' hst hN => hq F' Λ' σ' w' tmps' E' hn' hs' hf' ((Step.kill hm).trans hst) hN

/-! ### calls -/
mutual
/-- It leads nowhere but to rows. -/
def ownLeaf : A → Bool
  | .v _ => true
  | .n => true
  | .m _ _ _ _ => true
  | .g xs => ownLeafL xs
  | .t xs => ownLeafL xs
  | .j => true
  | .i _ _ => false
  | .o _ _ => false
  | .e _ _ => false
  | .b _ _ => false
  | .q _ _ => false
  | .f _ _ => false
def ownLeafL : List A → Bool
  | [] => true
  | x :: xs => ownLeaf x && ownLeafL xs
end
theorem ownLeafL_mem {xs : List A} (h : ownLeafL xs = true) : ∀ x ∈ xs, ownLeaf x = true := by
  induction xs with
  | nil => simp
  | cons y ys ih =>
    simp only [ownLeafL, Bool.and_eq_true] at h
    intro x hx
    rcases List.mem_cons.1 hx with rfl | hx
    · exact h.1
    · exact ih h.2 x hx
theorem Imm.leaf {F F' : Nat → Prop} {w : World} {v : Value} {x : A} (h : Imm F w v x) (hl : ownLeaf x = true) : Imm F' w v x := by
  induction h with
  | v x => exact .v x
  | n ad => exact .n ad
  | i0 => simp [ownLeaf] at hl
  | i => simp [ownLeaf] at hl
  | q => simp [ownLeaf] at hl
  | g vs xs hl' _ ih => simp only [ownLeaf] at hl; exact .g vs xs hl' fun j x y hx hy => ih j x y hx hy (ownLeafL_mem hl x (List.mem_of_getElem? hx))
  | t vs xs hl' _ ih => simp only [ownLeaf] at hl; exact .t vs xs hl' fun j x y hx hy => ih j x y hx hy (ownLeafL_mem hl x (List.mem_of_getElem? hx))
  | f => simp [ownLeaf] at hl
theorem OK.leaf {F F' : Nat → Prop} {Λ : Lbl} {w : World} {v : Value} {x : A} (h : OK F Λ w v x) (hl : ownLeaf x = true) : OK F' Λ w v x := by
  induction h with
  | imm h => exact .imm (h.leaf hl)
  | j v => exact .j v
  | m h => exact .m h
  | e => simp [ownLeaf] at hl
  | b => simp [ownLeaf] at hl
  | g vs xs hl' _ ih => simp only [ownLeaf] at hl; exact .g vs xs hl' fun j x y hx hy => ih j x y hx hy (ownLeafL_mem hl x (List.mem_of_getElem? hx))
  | t vs xs hl' _ ih => simp only [ownLeaf] at hl; exact .t vs xs hl' fun j x y hx hy => ih j x y hx hy (ownLeafL_mem hl x (List.mem_of_getElem? hx))
  | f => simp [ownLeaf] at hl
section
variable {P : Program} {n m : Nat} {N : Env → Store → Prop} {E : Env} {σ : Store} {o : Oper}
/-- A call that only looks at what the caller owns, and hands back what is its own through and through. -/
theorem TOp_callOG {g : Nat} {as as' : List A} (hc : CallOp P o E g as) (hf : frzOKL σ as) (has : fzRL σ as = as') {r0 : A} {σ0 : Store} (hF : FnO P g as' r0 σ0) (hr : isRows σ0 = true) (ho : OwnC σ0) (hlf : ownLeaf r0 = true) (hnn : r0.names (fun L => decide (L = [])) = false) (hd : dstOK n o.dst = true)
    (hN : N (put E o.dst (r0.ren (· + σ.length))) (σ ++ σ0)) : TOp P n m o N E σ := fun F Λ w tmps K Qx hn hs hfr hk => by
  obtain ⟨vs, ⟨hvl, hvs⟩, hrun⟩ := hc F Λ w tmps hfr
  unfold Oper.wp
  rw [hrun w, Oper.upon_enter]
  subst has
  refine hF (FO F Λ σ) (fun _ => none) w vs _ hs.frz ⟨by rw [fzRL_len]; exact hvl, fun j a y hx hy => ?_⟩ fun F1 Λ1 σ1 w1 v r hs1 hst hv hq => ?_
  · rw [fzRL_get] at hx
    cases hj : as[j]? with
    | none => simp [hj] at hx
    | some u => simp [hj] at hx; subst hx; exact (hvs j u y hj hy).frz hs (frzOKL_mem hf u (List.mem_of_getElem? hj))
  · obtain ⟨rfl, rfl⟩ := hq
    have hst' := Step.joinB (m := m) hs hst
    have hf1 : FrOK F (joinL Λ Λ1 σ.length) w1 tmps E := (hfr.mono (fun b hb => ⟨hb, hst.keep b (hs.old b hb) fun ho => ho.empty⟩) hst.sizes).ext (joinL_ext hs Λ1)
    have hv' : OK F (joinL Λ Λ1 σ.length) w1 v (r.ren (· + σ.length)) := (hv.leaf hlf).ren (fun L => decide (L = [])) _ (fun L b o hp hL => by
      cases L with
      | nil => simp at hp
      | cons h p => simp only [rh, joinL]; rw [if_neg (by omega)]; simpa using hL) hnn
    obtain ⟨tmps', e, hn2, hf2⟩ := hf1.putO (ds := []) hn hd hv'
    show K (Act.put ⟨tmps, []⟩ o.dst v) w1
    rw [e]
    exact hk F _ _ w1 tmps' _ hn2 (hs.joinB hst hs1 hr ho) hf2 hst' hN
end
end Go.Sep

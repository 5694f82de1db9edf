/- Rows: one root frozen; results that are picked out; append, stores and make, typed. -/
import Derived.Test.YtlcpdlngbofgcaaCR
set_option linter.unusedVariables false
set_option linter.unusedSimpArgs false
namespace Go.Sep
open Go

/-! ### one root frozen -/
def hd (l : Nat) (L : List Nat) : Bool := match L with
  | [] => false
  | h :: _ => h == l
def boxNo (l : Nat) : Store → Bool
  | [] => true
  | .box xs :: σ => !namesL (hd l) xs && boxNo l σ
  | _ :: σ => boxNo l σ
theorem boxNo_all {l : Nat} : ∀ {σ : Store}, boxNo l σ = true → ∀ xs, Root.box xs ∈ σ → namesL (hd l) xs = false
  | [], _, xs, h => by cases h
  | .box ys :: σ, hb, xs, h => by
    simp only [boxNo, Bool.and_eq_true, Bool.not_eq_true'] at hb
    rcases List.mem_cons.1 h with h | h
    · cases h; exact hb.1
    · exact boxNo_all hb.2 xs h
  | .row _ :: σ, hb, xs, h => by
    rcases List.mem_cons.1 h with h | h
    · cases h
    · exact boxNo_all (σ := σ) hb xs h
  | .dead :: σ, hb, xs, h => by
    rcases List.mem_cons.1 h with h | h
    · cases h
    · exact boxNo_all (σ := σ) hb xs h
def dropL (l : Nat) (Λ : Lbl) : Lbl := fun L => if hd l L = true then none else Λ L
theorem dropL_ok {l : Nat} {Λ : Lbl} : ∀ L b o, hd l L = false → Λ L = some (b, o) → dropL l Λ L = some (b, o) := fun L b o h hL => by simp [dropL, h, hL]
theorem rowAt_kill {σ : Store} {l : Nat} {L xs} (h : rowAt (σ.set l .dead) L = some xs) : hd l L = false ∧ rowAt σ L = some xs := by
  cases L with
  | nil => simp [rowAt] at h
  | cons h0 p =>
    simp only [rowAt, List.getElem?_set] at h
    by_cases e : l = h0
    · subst e
      rw [if_pos rfl] at h
      split at h
      · rename_i r hr
        split at hr
        · cases hr; simp [Root.cells] at h
        · cases hr
      · cases h
    · rw [if_neg e] at h
      exact ⟨by simp [hd]; omega, by simpa only [rowAt] using h⟩
theorem isBox_kill {σ : Store} {l : Nat} {L : List Nat} (h : hd l L = false) : isBox (σ.set l .dead) L = isBox σ L := by
  match L with
  | [] => rfl
  | [h0] =>
    simp [hd] at h
    simp only [isBox, List.getElem?_set_ne (Ne.symm h)]
  | _ :: _ :: _ => rfl
abbrev F1 (F : Nat → Prop) (Λ : Lbl) (l : Nat) (xs : List A) : Nat → Prop := FO F (downL Λ l) [.row xs]
section
variable {F : Nat → Prop} {Λ : Lbl} {σ : Store} {w : World} {l : Nat} {xs : List A}
theorem F1_mono : ∀ b, F b → F1 F Λ l xs b ∧ w.heap[b]? = w.heap[b]? := fun b hb => ⟨.inl hb, rfl⟩
theorem not_F1 (hs : St F Λ σ w) (hr : σ[l]? = some (.row xs)) {L ys b o} (hL : rowAt σ L = some ys) (hb : Λ L = some (b, o)) (hn : hd l L = false) (hf : ¬ F b) : ¬ F1 F Λ l xs b := by
  rintro (h | h)
  · exact hf h
  · obtain ⟨p, zs, o', h1, h2⟩ := Own.down hr h
    have := hs.apart _ _ _ _ _ _ _ hL h1 hb h2
    subst this
    simp [hd] at hn
theorem St.frz1 (hs : St F Λ σ w) (hr : σ[l]? = some (.row xs)) (hb : boxNo l σ = true) : St (F1 F Λ l xs) (dropL l Λ) (σ.set l .dead) w where
  row L ys h := by
    obtain ⟨hn, h1⟩ := rowAt_kill h
    have e : dropL l Λ L = Λ L := by simp [dropL, hn]
    rw [e, isBox_kill hn]
    rcases hs.row L ys h1 with h2 | ⟨b, o, cs, t, h2, h3, h4, h5⟩
    · exact .inl h2
    · refine .inr ⟨b, o, cs, t, h2, not_F1 hs hr h1 h2 hn h3, h4, fun j x hx => ?_⟩
      obtain ⟨c, h6, h7⟩ := h5 j x hx
      refine ⟨c, h6, (h7.mono F1_mono (Sizes.refl w)).relabel (hd l) dropL_ok ?_ fun hbx => ?_⟩
      · cases L with
        | nil => simp [rowAt] at h1
        | cons h p => exact hn
      · match L, hbx, h1 with
        | [h0], hbx, h1 =>
          simp only [isBox] at hbx
          split at hbx
          · rename_i us hu
            simp only [rowAt, hu, Root.cells, sub, Option.some.injEq] at h1
            subst h1
            exact namesL_false (boxNo_all hb us (List.mem_of_getElem? hu)) x (List.mem_of_getElem? hx)
          · cases hbx
        | [], hbx, _ => cases hbx
        | _ :: _ :: _, hbx, _ => cases hbx
  apart L ys L' ys' b o o' h1 h2 h3 h4 := by
    obtain ⟨g1, g2⟩ := rowAt_kill h1
    obtain ⟨g3, g4⟩ := rowAt_kill h2
    simp only [dropL, g1, g3] at h3 h4
    exact hs.apart _ _ _ _ _ _ _ g2 g4 h3 h4
  old b h := h.elim (hs.old b) fun h => hs.owns (Own.one hs hr h)
  lab L h := by
    rw [List.length_set] at h
    simp only [dropL]; split
    · rfl
    · exact hs.lab L h
theorem Step.frz1 {m : Nat} (hs : St F Λ σ w) (hr : σ[l]? = some (.row xs)) (hm : m ≤ l) : Step m F Λ σ w (F1 F Λ l xs) (dropL l Λ) (σ.set l .dead) w where
  os := rfl
  tape := rfl
  output := rfl
  size := Nat.le_refl _
  sizes := Sizes.refl _
  keep _ _ _ := rfl
  mono b h := .inl h
  new b h := h.elim .inl fun h => .inr (.inl (Own.one hs hr h))
  own b h := by
    obtain ⟨L, ys, o, h1, h2⟩ := h
    obtain ⟨g1, g2⟩ := rowAt_kill h1
    simp only [dropL, g1] at h2
    exact .inl ⟨L, ys, o, g2, h2⟩
  len := by rw [List.length_set]; exact Nat.min_le_right _ _
  boxes l' ys h1 h2 := by
    have hne : l ≠ l' := fun e => by omega
    exact ⟨by simp [dropL, hd]; omega, ys, by rw [List.getElem?_set_ne hne]; exact h2⟩
  kept L b o h1 h2 := by
    cases L with
    | nil => simp [dropL, hd, h2]
    | cons h p => simp only [List.headD_cons] at h1; simp [dropL, hd, h2]; omega
/-- Value a, once root l is frozen. -/
inductive Fz1 (l : Nat) (xs : List A) : A → A → Prop
  | keep {a} : a.names (hd l) = false → Fz1 l xs a a
  | m {n k a} : frzOK [.row xs] (.m [0] 0 n k) → fzR [.row xs] (.m [0] 0 n k) = a → Fz1 l xs (.m [l] 0 n k) a
  | g {as bs : List A} : as.length = bs.length → (∀ (j : Nat) a b, as[j]? = some a → bs[j]? = some b → Fz1 l xs a b) → Fz1 l xs (.g as) (.g bs)
def FzLs (l : Nat) (xs : List A) : List A → List A → Prop
  | [], [] => True
  | a :: as, b :: bs => Fz1 l xs a b ∧ FzLs l xs as bs
  | _, _ => False
theorem FzLs.get {l : Nat} {xs : List A} : ∀ {as bs : List A}, FzLs l xs as bs → as.length = bs.length ∧ ∀ (j : Nat) a b, as[j]? = some a → bs[j]? = some b → Fz1 l xs a b
  | [], [], _ => ⟨rfl, by simp⟩
  | [], _ :: _, h => h.elim
  | _ :: _, [], h => h.elim
  | a :: as, b :: bs, ⟨h, hs⟩ => by
    obtain ⟨h1, h2⟩ := FzLs.get hs
    refine ⟨by simp [h1], fun j x y hx hy => ?_⟩
    cases j with
    | zero => simp at hx hy; subst hx; subst hy; exact h
    | succ j => exact h2 j x y (by simpa using hx) (by simpa using hy)
theorem fz1G {l : Nat} {xs as bs : List A} (h : FzLs l xs as bs) : Fz1 l xs (.g as) (.g bs) := .g h.get.1 h.get.2
theorem OK.fz1 (hs : St F Λ σ w) (hr : σ[l]? = some (.row xs)) {a b : A} (hz : Fz1 l xs a b) : ∀ {v}, OK F Λ w v a → OK (F1 F Λ l xs) (dropL l Λ) w v b := by
  induction hz with
  | keep hn => exact fun h => (h.mono F1_mono (Sizes.refl w)).relabel (hd l) dropL_ok hn
  | @m n k a h1 h2 =>
    intro v h
    have h3 : OK F (downL Λ l) w v (.m [0] 0 n k) := by
      refine .m ?_
      rcases h.m_inv with h | ⟨b, o, cap, h4, h5⟩
      · exact .inl h
      · exact .inr ⟨b, o, cap, by simpa [downL] using h4, h5⟩
    have h4 := h3.frz (hs.down hr) h1
    rw [h2] at h4
    have : a.loose = true := by rw [← h2]; rfl
    exact h4.free this
  | g hl _ ih =>
    intro v h
    obtain ⟨vs, rfl, h1, h2⟩ := h.g_inv
    refine .g vs _ (h1.trans hl) fun j x y hx hy => ?_
    rename_i as bs _
    have hj : j < as.length := by have := (List.getElem?_eq_some_iff.1 hx).1; omega
    exact ih j _ x (List.getElem?_eq_getElem hj) hx (h2 j _ y (List.getElem?_eq_getElem hj) hy)
def FzE (l : Nat) (xs : List A) (E : Env) : Env → Prop
  | [] => True
  | (t, a) :: E' => Fz1 l xs (lk E t) a ∧ FzE l xs E E'
theorem FzE.fr (hs : St F Λ σ w) (hr : σ[l]? = some (.row xs)) {E tmps} (hf : FrOK F Λ w tmps E) : ∀ {E' : Env}, FzE l xs E E' → FrOK (F1 F Λ l xs) (dropL l Λ) w tmps E'
  | [], _ => fun t => .j _
  | (u, a) :: E', h => fun t => by
    simp only [lk]
    split
    · rename_i e; subst e; exact OK.fz1 hs hr h.1 (hf u)
    · exact FzE.fr hs hr hf h.2 t
end
theorem fz1T {α : Type} {T : Ty α} {l : Nat} {xs : List α} : Fz1 l (flat T.own xs) (.m [l] 0 xs.length T.k) (sl T xs) := .m (frzT (σ := [.row (flat T.own xs)]) rfl).1 (frzT (σ := [.row (flat T.own xs)]) rfl).2
theorem fz1E {α : Type} {T : Ty α} {l : Nat} {xs : List α} : Fz1 l (flat T.enc xs) (.m [l] 0 xs.length T.k) (sl T xs) := .m (frzTE (σ := [.row (flat T.enc xs)]) rfl).1 (frzTE (σ := [.row (flat T.enc xs)]) rfl).2
section
variable {P : Program} {n m : Nat} {K : Exit → Env → Store → Prop} {N : Env → Store → Prop} {E : Env} {σ : Store} {ops : Array Oper} {os : List Oper} {o : Oper}
theorem TO_frz1 (l : Nat) {xs : List A} {E' : Env} (hr : σ[l]? = some (.row xs)) (hb : boxNo l σ = true) (hm : m ≤ l) (hE : FzE l xs E E') (h : TO P n m ops os N E' (σ.set l .dead)) : TO P n m ops os N E σ := fun F Λ w tmps Q hn hs hf hq =>
  h _ _ w tmps Q hn (hs.frz1 hr hb) (hE.fr hs hr hf) fun F' Λ' σ' w' tmps' E' hn' hs' hf' hst hN => hq F' Λ' σ' w' tmps' E' hn' hs' hf' ((Step.frz1 hs hr hm).trans hst) hN
theorem T_frz1 (l : Nat) {c : Code} {xs : List A} {E' : Env} (hr : σ[l]? = some (.row xs)) (hb : boxNo l σ = true) (hm : m ≤ l) (hE : FzE l xs E E') (h : T P n m c K E' (σ.set l .dead)) : T P n m c K E σ := fun F Λ w tmps Q hn hs hf hq =>
  h _ _ w tmps Q hn (hs.frz1 hr hb) (hE.fr hs hr hf) fun e F' Λ' σ' w' tmps' E' hn' hs' hf' hst hN => hq e F' Λ' σ' w' tmps' E' hn' hs' hf' ((Step.frz1 hs hr hm).trans hst) hN

/-! ### append, stores, make -/
theorem TOp_appZ {α : Type} {T : Ty α} {f : α → List A} (hf : ∀ x, (f x).length = T.k) {t e l by_ : Nat} {x y : Operand} {zs : List Value} {xs ys us : List α} (hT : SlT P t e T.k) (hz : ZeroT P e zs) (hzk : zs.length = T.k) (hby : (P.info? e).map (·.bytes) = some by_) (hb1 : 1 ≤ by_)
    (h : o.op = .call { callee := .builtin .append, args := #[x, y], argTypes := #[t, t] }) (hd : dstOK n o.dst = true) (hx : val E x = .m [l] 0 xs.length T.k) (hr : σ[l]? = some (.row (flat f xs)))
    (hsrc : SrcA P E σ y ys.length T.k (flat f ys)) (hc : cellAllB (flat f ys) = true) (ha : app by_ xs ys = some us) (hml : m ≤ l)
    (hN : TO P n m ops os N (mvE l σ.length (put E o.dst (.m [σ.length] 0 us.length T.k))) ((σ.map (mvR l σ.length)).set l (.row (flat f us)) ++ [.dead])) : TOp P n m o (TO P n m ops os N) E σ := by
  obtain ⟨rfl, hb⟩ := app_inv ha
  exact TOp_appT hf hT hz hzk hby hb1 h hd hx hr hsrc hc hb hml hN
theorem TOp_setT {α : Type} {f : α → List A} {k : Nat} (hf : ∀ x, (f x).length = k) (hk0 : 0 < k) {t : Nat} {addr x : Operand} {l d i : Nat} {z : Int} {xs : List α} {v y : α} (hz : z = (i : Int)) (hT : SzT P t k) (h : o.op = .store t addr x) (hdst : o.dst = none) (ha : val E addr = .e [l] d) (hd : d = i * k) (hr : σ[l]? = some (.row (flat f xs)))
    (hv : xs[i]? = some v) (hy : cellsOf (val E x) = f y) (hc : cellAllB (f y) = true) (hN : N E (σ.set l (.row (flat f (xs.set z.toNat y))))) : TOp P n m o N E σ := by
  subst hz; rw [Int.toNat_natCast] at hN
  have hi := (List.getElem?_eq_some_iff.1 hv).1
  subst hd
  have hrow : rowAt σ [l] = some (flat f xs) := by rw [rowAt_cons, hr]; rfl
  refine TOp_storeE hT h hdst ha hrow hy (hf y) hk0 (by rw [flat_len hf, ← Nat.succ_mul]; exact Nat.mul_le_mul_right _ hi) hc ?_
  have := spl_flat hf xs i y hi
  rw [Nat.zero_add] at this
  rw [this]
  simpa [setRow, hr, Root.under, setSub] using hN
theorem flat_setF {α : Type} {f : α → List A} {k : Nat} (hf : ∀ x, (f x).length = k) (xs : List α) (i off : Nat) (v y : α) (ys : List A) (hv : xs[i]? = some v) (ho : off + ys.length ≤ k) (hy : f y = spl (f v) off ys) : spl (flat f xs) (i * k + off) ys = flat f (xs.set i y) := by
  have hi := (List.getElem?_eq_some_iff.1 hv).1
  have e := spl_flat hf xs i y hi
  rw [Nat.zero_add] at e
  rw [← e, hy]
  have hlen : (flat f xs).length = xs.length * k := flat_len hf xs
  have hik : i * k + k ≤ xs.length * k := by rw [← Nat.succ_mul]; exact Nat.mul_le_mul_right _ hi
  apply List.ext_getElem?
  intro j
  have hsl : (spl (f v) off ys).length = k := by rw [spl_len, hf]
  rw [spl_get _ _ _ _ (by omega), spl_get _ _ _ _ (by rw [hsl]; omega), hsl]
  by_cases h1 : i * k ≤ j ∧ j < i * k + k
  · rw [if_pos h1, spl_get _ _ _ _ (by rw [hf]; omega)]
    by_cases h2 : i * k + off ≤ j ∧ j < i * k + off + ys.length
    · rw [if_pos h2, if_pos (by omega)]; congr 1; omega
    · rw [if_neg h2, if_neg (by omega)]
      have hlt : j - i * k < (f v).length := by rw [hf]; omega
      have := flat_at' hf hv (List.getElem?_eq_getElem hlt)
      rw [show i * k + (j - i * k) = j by omega] at this
      rw [this, List.getElem?_eq_getElem hlt]
  · rw [if_neg h1, if_neg (by omega)]
theorem TOp_setP {α : Type} {f : α → List A} {k : Nat} (hf : ∀ x, (f x).length = k) {t k' : Nat} {addr x : Operand} {l d i off : Nat} {z : Int} {xs : List α} {v : α} {ys : List A} (y : α) (hz : z = (i : Int)) (hT : SzT P t k') (hk0 : 0 < k') (h : o.op = .store t addr x) (hdst : o.dst = none) (ha : val E addr = .e [l] d) (hd : d = i * k + off) (hr : σ[l]? = some (.row (flat f xs)))
    (hv : xs[i]? = some v) (hys : cellsOf (val E x) = ys) (hyl : ys.length = k') (ho : off + k' ≤ k) (hy : f y = spl (f v) off ys) (hc : cellAllB ys = true) (hN : N E (σ.set l (.row (flat f (xs.set z.toNat y))))) : TOp P n m o N E σ := by
  subst hz; rw [Int.toNat_natCast] at hN
  have hi := (List.getElem?_eq_some_iff.1 hv).1
  subst hd
  have hrow : rowAt σ [l] = some (flat f xs) := by rw [rowAt_cons, hr]; rfl
  refine TOp_storeE hT h hdst ha hrow hys hyl hk0 (flat_n hf hv ho) hc ?_
  rw [flat_setF hf xs i off v y ys hv (by omega) hy]
  simpa [setRow, hr, Root.under, setSub] using hN
theorem zeros_T {α : Type} {T : Ty α} {zs : List Value} {z : α} (hz : zs.map constA = T.enc z) (n : Nat) : (List.range (n * T.k)).map (fun j => constA (zs[j % T.k]!)) = flat T.enc (List.replicate n z) := by
  have hl : zs.length = T.k := by have := congrArg List.length hz; rw [T.len] at this; simpa using this
  apply List.ext_getElem?
  intro j
  rcases Nat.lt_or_ge j (n * T.k) with h | h
  · have hm : j % T.k < T.k := Nat.mod_lt _ T.pos
    have hq : j / T.k < n := Nat.div_lt_of_lt_mul (by rw [Nat.mul_comm]; exact h)
    have e : j = j / T.k * T.k + j % T.k := by rw [Nat.mul_comm]; exact (Nat.div_add_mod j T.k).symm
    have hv : (List.replicate n z)[j / T.k]? = some z := by simp [hq]
    have hy : (T.enc z)[j % T.k]? = some (constA (zs[j % T.k]!)) := by
      rw [← hz, List.getElem?_map]
      rw [List.getElem?_eq_getElem (by omega)]
      simp [List.getElem!_eq_getElem?_getD, List.getElem?_eq_getElem (show j % T.k < zs.length by omega)]
    have := flat_at' T.len hv hy
    rw [← e] at this
    rw [this]; simp [h]
  · rw [List.getElem?_eq_none (by simpa using h), List.getElem?_eq_none (by rw [flat_len T.len]; simpa using h)]
theorem TOp_makeT {α : Type} {T : Ty α} {t e by_ : Nat} {kk kk' : IntKind} {x y : Operand} {zs : List Value} {z : α} {nz : Int} {us : List α} (hzT : zs.map constA = T.enc z) (hT : SlT P t e T.k) (hz : ZeroT P e zs) (hzk : zs.length = T.k) (hb : (P.info? e).map (·.bytes) = some by_) (h : o.op = .makeSlice t x y) (hd : dstOK n o.dst = true)
    (hx : val E x = .v (.int kk nz)) (hy : val E y = .v (.int kk' nz)) (hm : mk by_ nz z = some us)
    (hN : N (put E o.dst (.m [σ.length] 0 us.length T.k)) (σ ++ [.row (flat T.enc us)])) : TOp P n m o N E σ := by
  obtain ⟨k, rfl, rfl, h1, h2⟩ := mk_inv hm
  refine TOp_makeZ (zeros_T hzT k) hT hz hzk hb h hd hx hy h1 h2 ?_
  simpa using hN
end
theorem frz_loose {σ : Store} {x : A} (h : x.loose = true) : frzOK σ x ∧ fzR σ x = x := by
  have key : ∀ (N : Nat), (∀ x : A, SizeOf.sizeOf x ≤ N → x.loose = true → frzOK σ x ∧ fzR σ x = x) ∧ (∀ xs : List A, SizeOf.sizeOf xs ≤ N → looseL xs = true → frzOKL σ xs ∧ fzRL σ xs = xs) := by
    intro N
    induction N with
    | zero =>
      refine ⟨fun x hx _ => ?_, fun xs hx _ => ?_⟩
      · cases x <;> simp at hx
      · cases xs <;> simp at hx
    | succ N ih =>
      refine ⟨fun x hx hl => ?_, fun xs hx hl => ?_⟩
      · cases x <;> simp only [A.loose] at hl <;> first | (exact ⟨trivial, rfl⟩) | (cases hl; done) | (have h1 := ih.2 _ (by simp at hx; omega) hl; exact ⟨h1.1, by simp only [fzR, h1.2]⟩)
      · cases xs with
        | nil => exact ⟨trivial, rfl⟩
        | cons y ys =>
          simp only [looseL, Bool.and_eq_true] at hl
          have h1 := ih.1 y (by simp at hx; omega) hl.1
          have h2 := ih.2 ys (by simp at hx; omega) hl.2
          exact ⟨⟨h1.1, h2.1⟩, by simp only [fzRL, h1.2, h2.2]⟩
  exact (key _).1 x (Nat.le_refl _) h
theorem looseC {a : A} {as : List A} (h : a.loose = true) (hs : looseL as = true) : looseL (a :: as) = true := by simp only [looseL, h, hs, Bool.and_self]
theorem namesL_enc {α : Type} {T : Ty α} {x : α} {p : List Nat → Bool} : namesL p (T.enc x) = false := looseL_names (T.loose x) p
theorem flat_nil {α : Type} {T : Ty α} {xs : List α} (h : flat T.enc xs = []) : xs = [] := by
  have := congrArg List.length h
  rw [flat_len T.len] at this
  cases xs with
  | nil => rfl
  | cons x xs => have hp := T.pos; rw [List.length_nil, List.length_cons, Nat.succ_mul] at this; omega
theorem frzOK_g {σ : Store} {xs ys : List A} (h : frzOKL σ xs) (h2 : fzRL σ xs = ys) : frzOK σ (.g xs) ∧ fzR σ (.g xs) = .g ys := ⟨h, by simp only [fzR, h2]⟩
theorem frzOK_t {σ : Store} {xs ys : List A} (h : frzOKL σ xs) (h2 : fzRL σ xs = ys) : frzOK σ (.t xs) ∧ fzR σ (.t xs) = .t ys := ⟨h, by simp only [fzR, h2]⟩
theorem frzOK_f {σ : Store} {f : Nat} {xs ys : List A} (h : frzOKL σ xs) (h2 : fzRL σ xs = ys) : frzOK σ (.f f xs) ∧ fzR σ (.f f xs) = .f f ys := ⟨h, by simp only [fzR, h2]⟩
theorem frzOK_b {σ : Store} {l a : Nat} {xs ys : List A} (h : rowAt σ [l] = some xs) (h1 : firmL xs = true) (h2 : fzL xs = ys) : frzOK σ (.b l a) ∧ fzR σ (.b l a) = .q ys a := ⟨⟨xs, h, h1⟩, by simp only [fzR, h, Option.getD_some, h2]⟩
theorem frz_cons {σ : Store} {a a' : A} {as as' : List A} (h : frzOK σ a ∧ fzR σ a = a') (hs : frzOKL σ as ∧ fzRL σ as = as') : frzOKL σ (a :: as) ∧ fzRL σ (a :: as) = a' :: as' := ⟨⟨h.1, hs.1⟩, by simp only [fzRL, h.2, hs.2]⟩
theorem frz_nil {σ : Store} : frzOKL σ [] ∧ fzRL σ [] = [] := ⟨trivial, rfl⟩

/-! ### results that are picked out -/
/-- Function f hands back just r, and these rows. -/
def FnO (P : Program) (f : Nat) (as : List A) (r : A) (σ0 : Store) : Prop := Fn P f as [] fun r' σ => r' = r ∧ σ = σ0
/-- Some of the roots, in this order. -/
def pickS (σ : Store) (ls : List Nat) : List (Option Root) := ls.map fun l => σ[l]?
def ixOf (ls : List Nat) (h : Nat) : Nat := ls.findIdx (· == h)
def inL (ls : List Nat) (L : List Nat) : Bool := match L with
  | [] => false
  | h :: _ => ls.contains h
def PickQ (r0 : A) (σ0 : Store) (r : A) (σ : Store) : Prop := ∃ ls : List Nat, ls.Nodup ∧ pickS σ ls = σ0.map some ∧ isRows σ0 = true ∧ r.names (fun L => !inL ls L) = false ∧ r.ren (ixOf ls) = r0
def pickL (Λ : Lbl) (ls : List Nat) : Lbl := fun L => match L with
  | [] => none
  | h :: p => match ls[h]? with
    | some l => Λ (l :: p)
    | none => none
theorem rowAt_pick {σ σ0 : Store} {ls : List Nat} (h : pickS σ ls = σ0.map some) {L xs} (hr : rowAt σ0 L = some xs) : ∃ h p l, L = h :: p ∧ ls[h]? = some l ∧ rowAt σ (l :: p) = some xs ∧ σ0[h]? = σ[l]? := by
  cases L with
  | nil => simp [rowAt] at hr
  | cons h0 p =>
    have hlen : ls.length = σ0.length := by have := congrArg List.length h; simpa [pickS] using this
    simp only [rowAt] at hr
    cases hr0 : σ0[h0]? with
    | none => rw [hr0] at hr; cases hr
    | some r =>
      have hlt : h0 < σ0.length := (List.getElem?_eq_some_iff.1 hr0).1
      have h1 := congrArg (fun l => l[h0]?) h
      simp only [pickS, List.getElem?_map, hr0, Option.map_some] at h1
      rw [List.getElem?_eq_getElem (by omega)] at h1
      simp only [Option.map_some, Option.some.injEq] at h1
      refine ⟨h0, p, ls[h0], rfl, List.getElem?_eq_getElem (by omega), ?_, by rw [h1]; exact hr0⟩
      simp only [rowAt, h1]
      rw [hr0] at hr; exact hr
theorem St.pick {F Λ σ w} (hs : St F Λ σ w) {ls : List Nat} {σ0 : Store} (hnd : ls.Nodup) (h : pickS σ ls = σ0.map some) (hR : isRows σ0 = true) : St F (pickL Λ ls) σ0 w where
  row L xs hr := by
    obtain ⟨h0, p, l, rfl, h1, h2, h3⟩ := rowAt_pick h hr
    have e : pickL Λ ls (h0 :: p) = Λ (l :: p) := by simp [pickL, h1]
    rw [e, isBox_rows hR]
    have hb : isBox σ (l :: p) = false := by
      cases p with
      | cons j p => rfl
      | nil =>
        simp only [isBox, ← h3]
        cases hr0 : σ0[h0]? with
        | none => rfl
        | some r =>
          simp only [isRows, List.all_eq_true] at hR
          have := hR r (List.mem_of_getElem? hr0)
          cases r <;> simp_all
    refine (hs.row _ _ h2).imp id fun ⟨b, o, cs, t, g1, g2, g3, g4⟩ => ⟨b, o, cs, t, g1, g2, g3, fun j x hj => (g4 j x hj).imp fun c hc => ⟨hc.1, ?_⟩⟩
    have h5 := hc.2
    rw [hb] at h5
    exact h5.unbox fun a n k v hv => hv.imp id fun ⟨b, o, cap, k1, k2⟩ => ⟨b, o, cap, by simpa [pickL, h1] using k1, k2⟩
  apart L xs L' xs' b o o' hr hr' h3 h4 := by
    obtain ⟨h0, p, l, rfl, g1, g2, _⟩ := rowAt_pick h hr
    obtain ⟨h0', p', l', rfl, g1', g2', _⟩ := rowAt_pick h hr'
    have := hs.apart _ _ _ _ _ _ _ g2 g2' (by simpa [pickL, g1] using h3) (by simpa [pickL, g1'] using h4)
    simp only [List.cons.injEq] at this
    obtain ⟨rfl, rfl⟩ := this
    have e1 := List.getElem?_eq_some_iff.1 g1
    have e2 := List.getElem?_eq_some_iff.1 g1'
    have : h0 = h0' := by
      rcases Nat.lt_trichotomy h0 h0' with g | g | g
      · exact absurd (e1.2.trans e2.2.symm) (List.pairwise_iff_getElem.1 hnd h0 h0' e1.1 e2.1 g)
      · exact g
      · exact absurd (e2.2.trans e1.2.symm) (List.pairwise_iff_getElem.1 hnd h0' h0 e2.1 e1.1 g)
    rw [this]
  old := hs.old
  lab L hL := by
    have hlen : ls.length = σ0.length := by have := congrArg List.length h; simpa [pickS] using this
    cases L with
    | nil => rfl
    | cons h0 p => simp only [List.headD_cons] at hL; simp [pickL, List.getElem?_eq_none (show ls.length ≤ h0 by omega)]
theorem ixOf_get {ls : List Nat} (hnd : ls.Nodup) {h : Nat} (hm : ls.contains h = true) : ls[ixOf ls h]? = some h := by
  have hm' : h ∈ ls := by simpa using hm
  have hlt : ixOf ls h < ls.length := List.findIdx_lt_length_of_exists ⟨h, hm', by simp⟩
  rw [List.getElem?_eq_getElem hlt]
  have := List.findIdx_getElem (p := (· == h)) (xs := ls) (w := hlt)
  simp at this
  rw [show ls[ixOf ls h] = h from this]
theorem Fn.pickL {P : Program} {f : Nat} {as : List A} {r0 : A} {σ0 : Store} (h : Fn P f as [] (PickQ r0 σ0)) : FnO P f as r0 σ0 := fun F Λ w vs R hs ha hR => by
  refine h F Λ w vs R hs ha fun F1 Λ1 σ1 w1 v r hs1 hst hv hqr => ?_
  obtain ⟨ls, hnd, h1, h2, h3, h4⟩ := hqr
  refine hR F1 (Sep.pickL Λ1 ls) σ0 w1 v r0 (hs1.pick hnd h1 h2) ?_ ?_ ⟨rfl, rfl⟩
  · exact { os := hst.os, tape := hst.tape, output := hst.output, size := hst.size, sizes := hst.sizes, keep := hst.keep, mono := hst.mono, new := hst.new
            own := fun b hb => by
              obtain ⟨L, zs, o, g1, g2⟩ := hb
              obtain ⟨h0, p, l, rfl, k1, k2, _⟩ := rowAt_pick h1 g1
              exact hst.own b ⟨l :: p, zs, o, k2, by simpa [Sep.pickL, k1] using g2⟩
            len := Nat.zero_le _, boxes := fun l xs hl _ => by simp at hl, kept := fun L b o hL _ => by simp at hL }
  · rw [← h4]
    refine hv.ren (fun L => !inL ls L) _ (fun L b o hp hL => ?_) h3
    cases L with
    | nil => simp [inL] at hp
    | cons h p =>
      simp only [inL, Bool.not_eq_false'] at hp
      simp only [rh, Sep.pickL, ixOf_get hnd hp]; exact hL
theorem end_pick {P : Program} {E : Env} {σ : Store} {rs as} {r0 : A} {σ0 : Store} (h : ResA P E σ rs as) {r} (hr : resA as = r) (ls : List Nat) (hnd : ls.Nodup) (hb : boxesE σ.length σ = false)
    (hn : r.names (fun L => decide (σ.length ≤ L.headD 0)) = false) (hp : pickS σ ls = σ0.map some) (hR : isRows σ0 = true) (hnm : r.names (fun L => !inL ls L) = false) (hren : r.ren (ixOf ls) = r0) : EndK P rs 0 (PickQ r0 σ0) .ret E σ :=
  end_own h hr σ.length (Nat.zero_le _) (List.take_length ..).symm hb hn hb ⟨ls, hnd, hp, hR, hnm, hren⟩
theorem fnO_of_T {P f} {fn : Func} {c : Code} {as : List A} {r0 : A} {σ0 : Store} {rs : List ResultVar} (hf : P.funcs[f]? = some fn) (hb : fn.body = some c) (hr : fn.results = rs.toArray) (hn : as.length ≤ fn.ntmps)
    (h : T P fn.ntmps 0 c (EndK P rs 0 (PickQ r0 σ0)) (entry 0 as) []) : FnO P f as r0 σ0 := Fn.pickL (fn_of_T hf hb hr hn h)
/-- Taken as what nobody writes. -/
theorem FnO.frz {P f as r σ0 r'} (h : FnO P f as r σ0) (hq : frzOK σ0 r ∧ fzR σ0 r = r') : FnV P f as r' := Sep.Fn.frz h fun r1 σ1 h1 => by obtain ⟨rfl, rfl⟩ := h1; exact hq
end Go.Sep

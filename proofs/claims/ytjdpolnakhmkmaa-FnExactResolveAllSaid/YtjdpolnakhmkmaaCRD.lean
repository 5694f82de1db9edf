/- The calculus, part 4. -/
import Derived.Test.YtjdpolnakhmkmaaCRC
import Derived.Laws.BytesString
import Derived.Sort.Grow
/- Functions that are handed boxes; bits; pointers that are looked at. -/
set_option linter.unusedVariables false
set_option linter.unusedSimpArgs false
namespace Go.Sep
open Go
theorem fzN {l : Nat} {xs : List A} : FzLs l xs [] [] := trivial
theorem fzC {l : Nat} {xs : List A} {a b : A} {as bs : List A} (h : Fz1 l xs a b) (hs : FzLs l xs as bs) : FzLs l xs (a :: as) (b :: bs) := ⟨h, hs⟩
/-! ### one root frozen, that boxes name -/
theorem Fz1.o_inv {l : Nat} {xs : List A} {a : A} {k : Nat} {ys : List A} (h : Fz1 l xs a (.o k ys)) : a = .o k ys := by
  generalize hb : A.o k ys = b at h
  cases h with
  | keep => rfl
  | m h1 h2 => rw [← hb] at h2; simp [fzR] at h2
  | g => cases hb
theorem fzK {l : Nat} {xs : List A} : ∀ {as : List A}, namesL (hd l) as = false → FzLs l xs as as
  | [], _ => trivial
  | a :: as, h => by simp only [namesL, Bool.or_eq_false_iff] at h; exact ⟨.keep h.1, fzK h.2⟩
def FzRt (l : Nat) (xs : List A) : Root → Root → Prop
  | .box as, .box bs => FzLs l xs as bs
  | .row as, .row bs => as = bs
  | .dead, .dead => True
  | _, _ => False
def FzS (l : Nat) (xs : List A) : Store → Store → Prop
  | [], [] => True
  | r :: σ, r' :: σ' => FzRt l xs r r' ∧ FzS l xs σ σ'
  | _, _ => False
theorem FzS.get {l : Nat} {xs : List A} : ∀ {σ σ' : Store}, FzS l xs σ σ' → σ'.length = σ.length ∧ ∀ (j : Nat) r', σ'[j]? = some r' → ∃ r, σ[j]? = some r ∧ FzRt l xs r r'
  | [], [], _ => ⟨rfl, by simp⟩
  | [], _ :: _, h => h.elim
  | _ :: _, [], h => h.elim
  | r :: σ, r1 :: σ', ⟨h, hs⟩ => by
    obtain ⟨h1, h2⟩ := FzS.get hs
    refine ⟨by simp [h1], fun j r' hj => ?_⟩
    cases j with
    | zero => simp at hj; subst hj; exact ⟨r, rfl, h⟩
    | succ j => simpa using h2 j r' (by simpa using hj)
theorem sub_fz {l : Nat} {xs as bs : List A} (h : FzLs l xs as bs) {j : Nat} {p : List Nat} {zs : List A} (hz : sub bs (j :: p) = some zs) : sub as (j :: p) = some zs := by
  obtain ⟨h1, h2⟩ := h.get
  simp only [sub] at hz ⊢
  cases hj : bs[j]? with
  | none => rw [hj] at hz; cases hz
  | some b =>
    have hjl : j < as.length := by have := (List.getElem?_eq_some_iff.1 hj).1; omega
    have h3 := h2 j _ b (List.getElem?_eq_getElem hjl) hj
    rw [hj] at hz
    cases b with
    | o k us => rw [List.getElem?_eq_getElem hjl, h3.o_inv]; exact hz
    | _ => cases hz
section
variable {F : Nat → Prop} {Λ : Lbl} {σ σ' : Store} {w : World} {l : Nat} {xs : List A}
theorem rowAt_fz (hS : FzS l xs (σ.set l .dead) σ') {h0 : Nat} {p : List Nat} {zs : List A} (hz : rowAt σ' (h0 :: p) = some zs) : hd l (h0 :: p) = false ∧ isBox σ' (h0 :: p) = isBox σ (h0 :: p) ∧ ((isBox σ (h0 :: p) = false ∧ rowAt σ (h0 :: p) = some zs) ∨ (p = [] ∧ ∃ as, σ[h0]? = some (.box as) ∧ FzLs l xs as zs)) := by
  obtain ⟨_, hg⟩ := hS.get
  simp only [rowAt] at hz
  cases hr : σ'[h0]? with
  | none => rw [hr] at hz; cases hz
  | some r' =>
    rw [hr] at hz
    obtain ⟨r, h1, h2⟩ := hg h0 r' hr
    have hne : h0 ≠ l := by
      rintro rfl
      have hl : h0 < σ.length := by have := (List.getElem?_eq_some_iff.1 h1).1; simpa using this
      rw [List.getElem?_set_self hl] at h1; cases h1
      cases r' <;> first | (simp [Root.cells] at hz; done) | exact h2.elim
    rw [List.getElem?_set_ne (Ne.symm hne)] at h1
    refine ⟨by simpa [hd] using hne, ?_, ?_⟩
    · cases p with
      | cons j p => rfl
      | nil => simp only [isBox, hr, h1]; cases r <;> cases r' <;> first | rfl | exact h2.elim
    · cases r with
      | dead => cases r' <;> first | (simp [Root.cells] at hz; done) | exact h2.elim
      | row as =>
        cases r' with
        | row bs => cases h2; exact .inl ⟨by cases p <;> simp [isBox, h1], by simp only [rowAt, h1]; exact hz⟩
        | _ => exact h2.elim
      | box as =>
        cases r' with
        | box bs =>
          cases p with
          | nil => simp only [Root.cells, sub, Option.some.injEq] at hz; subst hz; exact .inr ⟨rfl, as, h1, h2⟩
          | cons j p => exact .inl ⟨rfl, by simp only [rowAt, h1, Root.cells]; exact sub_fz h2 hz⟩
        | _ => exact h2.elim
theorem Cell.frzB (hs : St F Λ σ w) (hr : σ[l]? = some (.row xs)) {L : List Nat} {c : Value} {a b : A} (hL : hd l L = false) (hz : Fz1 l xs a b) (hc : Cell F Λ w true L c a) : Cell (F1 F Λ l xs) (dropL l Λ) w true L c b := by
  have hz0 := hz
  cases hz with
  | keep hn => exact (hc.mono F1_mono (Sizes.refl w)).relabel (hd l) dropL_ok hL (fun _ => hn)
  | @m n k a0 a h1 h2 =>
    have h3 := OK.fz1 hs hr hz0 hc.2
    rw [← h2] at h3 ⊢
    exact ⟨rfl, h3⟩
  | g h1 h2 => have := hc.1; simp [A.inBox] at this
theorem St.frzB (hs : St F Λ σ w) (hr : σ[l]? = some (.row xs)) (hS : FzS l xs (σ.set l .dead) σ') : St (F1 F Λ l xs) (dropL l Λ) σ' w where
  row L ys h := by
    cases L with
    | nil => simp [rowAt] at h
    | cons h0 p =>
      obtain ⟨hn, hbx, hcase⟩ := rowAt_fz hS h
      have e : dropL l Λ (h0 :: p) = Λ (h0 :: p) := by simp [dropL, hn]
      have hn' : ∀ j, hd l ((h0 :: p) ++ [j]) = false := fun j => hn
      rw [e, hbx]
      rcases hcase with ⟨hb, h1⟩ | ⟨rfl, as, h1, h2⟩
      · rcases hs.row _ _ h1 with h2 | ⟨b, o, cs, t, h2, h3, h4, h5⟩
        · exact .inl h2
        · refine .inr ⟨b, o, cs, t, h2, not_F1 hs hr h1 h2 hn h3, h4, fun j x hx => ?_⟩
          obtain ⟨c, h6, h7⟩ := h5 j x hx
          rw [hb] at h7 ⊢
          exact ⟨c, h6, (h7.mono F1_mono (Sizes.refl w)).relabel (hd l) dropL_ok (hn' j) (fun h => by cases h)⟩
      · have hb : isBox σ [h0] = true := by simp [isBox, h1]
        have h1' : rowAt σ [h0] = some as := by simp [rowAt, h1, Root.cells, Sep.sub]
        obtain ⟨g1, g2⟩ := h2.get
        rcases hs.row _ _ h1' with ⟨h3, rfl⟩ | ⟨b, o, cs, t, h3, h4, h5, h6⟩
        · exact .inl ⟨h3, List.eq_nil_of_length_eq_zero (by simpa using g1.symm)⟩
        · refine .inr ⟨b, o, cs, t, h3, not_F1 hs hr h1' h3 hn h4, h5, fun j x hx => ?_⟩
          have hjl : j < as.length := by have := (List.getElem?_eq_some_iff.1 hx).1; omega
          obtain ⟨c, h7, h8⟩ := h6 j _ (List.getElem?_eq_getElem hjl)
          rw [hb] at h8 ⊢
          exact ⟨c, h7, Cell.frzB hs hr (hn' j) (g2 j _ x (List.getElem?_eq_getElem hjl) hx) h8⟩
  apart L ys L' ys' b o o' h1 h2 h3 h4 := by
    have key : ∀ L ys, rowAt σ' L = some ys → hd l L = false ∧ ∃ zs, rowAt σ L = some zs := fun L ys h => by
      cases L with
      | nil => simp [rowAt] at h
      | cons h0 p =>
        obtain ⟨hn, _, hcase⟩ := rowAt_fz hS h
        rcases hcase with ⟨_, h1⟩ | ⟨rfl, as, h1, _⟩
        · exact ⟨hn, _, h1⟩
        · exact ⟨hn, as, by simp [rowAt, h1, Root.cells, Sep.sub]⟩
    obtain ⟨g1, _, g2⟩ := key _ _ h1
    obtain ⟨g3, _, g4⟩ := key _ _ h2
    simp only [dropL, g1, g3] at h3 h4
    exact hs.apart _ _ _ _ _ _ _ g2 g4 h3 h4
  old b h := h.elim (hs.old b) fun h => hs.owns (Own.one hs hr h)
  lab L h := by
    have := hS.get.1
    rw [this, List.length_set] at h
    simp only [dropL]; split
    · rfl
    · exact hs.lab L h
theorem Step.frzB {m : Nat} (hs : St F Λ σ w) (hr : σ[l]? = some (.row xs)) (hm : m ≤ l) (hS : FzS l xs (σ.set l .dead) σ') : Step m F Λ σ w (F1 F Λ l xs) (dropL l Λ) σ' w where
  os := rfl
  tape := rfl
  output := rfl
  size := Nat.le_refl _
  sizes := Sizes.refl _
  keep _ _ _ := rfl
  mono b h := .inl h
  new b h := h.elim .inl fun h => .inr (.inl (Own.one hs hr h))
  own b h := by
    obtain ⟨L, ys, o, h1, h2⟩ := h
    cases L with
    | nil => simp [rowAt] at h1
    | cons h0 p =>
      obtain ⟨hn, _, hcase⟩ := rowAt_fz hS h1
      simp only [dropL, hn] at h2
      rcases hcase with ⟨_, h1⟩ | ⟨rfl, as, h1, _⟩
      · exact .inl ⟨_, _, o, h1, h2⟩
      · exact .inl ⟨_, as, o, by simp [rowAt, h1, Root.cells, Sep.sub], h2⟩
  len := by rw [hS.get.1, List.length_set]; exact Nat.min_le_right _ _
  boxes l' ys h1 h2 := by
    have hne : l ≠ l' := fun e => by omega
    refine ⟨by simp [dropL, hd]; omega, ?_⟩
    have hlt : l' < σ'.length := by rw [hS.get.1, List.length_set]; exact (List.getElem?_eq_some_iff.1 h2).1
    obtain ⟨r, k1, k2⟩ := hS.get.2 l' _ (List.getElem?_eq_getElem hlt)
    rw [List.getElem?_set_ne hne, h2] at k1; cases k1
    cases hc : σ'[l'] with
    | box us => exact ⟨us, by rw [List.getElem?_eq_getElem hlt, hc]⟩
    | _ => rw [hc] at k2; exact k2.elim
  kept L b o h1 h2 := by
    cases L with
    | nil => simp [dropL, hd, h2]
    | cons h p => simp only [List.headD_cons] at h1; simp [dropL, hd, h2]; omega
end
section
variable {P : Program} {n m : Nat} {K : Exit → Env → Store → Prop} {N : Env → Store → Prop} {E : Env} {σ σ' κ : Store} {ops : Array Oper} {os : List Oper} {fuel : Nat} {listed : Array Bool}
theorem T_frzB (l : Nat) {c : Code} {xs : List A} {E' : Env} (hr : σ[l]? = some (.row xs)) (hm : m ≤ l) (hE : FzE l xs E E') (hS : FzS l xs (σ.set l .dead) σ') (h : T P n m c K E' σ') : T P n m c K E σ := fun F Λ w tmps Q hn hs hf hq =>
  h _ _ w tmps Q hn (hs.frzB hr hS) (hE.fr hs hr hf) fun e F' Λ' σ' w' tmps' E' hn' hs' hf' hst hN => hq e F' Λ' σ' w' tmps' E' hn' hs' hf' ((Step.frzB hs hr hm hS).trans hst) hN
end
/-! ### bits -/
def bitI (op : BinOp) (k : IntKind) (a b : Int) : Int := match op with
  | .and => k.wrap ((BitVec.ofInt k.bits a &&& BitVec.ofInt k.bits b).toNat : Int)
  | .or => k.wrap ((BitVec.ofInt k.bits a ||| BitVec.ofInt k.bits b).toNat : Int)
  | .xor => k.wrap ((BitVec.ofInt k.bits a ^^^ BitVec.ofInt k.bits b).toNat : Int)
  | _ => 0
def shrI (k : IntKind) (a b : Int) : Int := a.fdiv (2 ^ (min b.toNat k.bits))
section
variable {P : Program} {o : Oper} {E : Env} {σ : Store}
end
/-! ### less is known of a box: nil as an empty slice -/
theorem LeA.o_inv {x : A} {k : Nat} {ys : List A} (h : LeA x (.o k ys)) : x = .o k ys := by
  cases x with
  | n => rcases h with h | ⟨k, h⟩ | ⟨L, a, k, h⟩ <;> cases h
  | g xs => obtain ⟨ys, h, _⟩ := h; cases h
  | t xs => obtain ⟨ys, h, _⟩ := h; cases h
  | _ => first | (cases h; rfl) | cases h
theorem Cell.le {F : Nat → Prop} {Λ : Lbl} {w : World} {L : List Nat} {c : Value} {x y : A} (h : LeA x y) (hc : Cell F Λ w true L c x) : Cell F Λ w true L c y := by
  rcases hc.box with rfl | ⟨k, ys, rfl⟩ | ⟨h1, h2⟩
  · cases h; exact hc
  · cases h; exact hc
  · have h3 := h2.le h
    cases x with
    | n => rcases h with rfl | ⟨k, rfl⟩ | ⟨L, a, k, rfl⟩ <;> exact ⟨rfl, h3⟩
    | j => simp [A.inBox] at h1
    | o k ys => simp [A.inBox] at h1
    | g xs => simp [A.inBox] at h1
    | t xs => simp [A.inBox] at h1
    | _ => cases h; exact hc
theorem rowAt_boxle {σ : Store} {l : Nat} {xs ys : List A} (hr : σ[l]? = some (.box xs)) (hl : LeL xs ys) {h0 : Nat} {p : List Nat} {zs : List A} (hz : rowAt (σ.set l (.box ys)) (h0 :: p) = some zs) : (h0 = l ∧ p = [] ∧ zs = ys) ∨ (¬ (h0 = l ∧ p = []) ∧ rowAt σ (h0 :: p) = some zs) := by
  have hll : l < σ.length := (List.getElem?_eq_some_iff.1 hr).1
  simp only [rowAt] at hz ⊢
  by_cases e : h0 = l
  · subst e
    rw [List.getElem?_set_self hll] at hz
    simp only [Root.cells] at hz
    cases p with
    | nil => simp only [Sep.sub, Option.some.injEq] at hz; exact .inl ⟨rfl, rfl, hz.symm⟩
    | cons j p =>
      refine .inr ⟨by simp, ?_⟩
      simp only [hr, Root.cells, Sep.sub] at hz ⊢
      obtain ⟨h1, h2⟩ := hl.get
      cases hj : ys[j]? with
      | none => rw [hj] at hz; cases hz
      | some y =>
        have hjl : j < xs.length := by have := (List.getElem?_eq_some_iff.1 hj).1; omega
        have h3 := h2 j _ y (List.getElem?_eq_getElem hjl) hj
        rw [hj] at hz
        cases y with
        | o k us =>
          have h4 := h3.o_inv
          rw [List.getElem?_eq_getElem hjl, h4]; exact hz
        | _ => cases hz
  · rw [List.getElem?_set_ne (Ne.symm e)] at hz
    exact .inr ⟨fun h => e h.1, hz⟩
theorem isBox_boxle {σ : Store} {l : Nat} {xs ys : List A} (hr : σ[l]? = some (.box xs)) (L : List Nat) : isBox (σ.set l (.box ys)) L = isBox σ L := by
  have hll : l < σ.length := (List.getElem?_eq_some_iff.1 hr).1
  cases L with
  | nil => rfl
  | cons h p =>
    cases p with
    | cons j p => rfl
    | nil =>
      simp only [isBox]
      by_cases e : h = l
      · subst e; rw [List.getElem?_set_self hll, hr]
      · rw [List.getElem?_set_ne (Ne.symm e)]
theorem St.boxle {F Λ σ w} (hs : St F Λ σ w) {l : Nat} {xs ys : List A} (hr : σ[l]? = some (.box xs)) (hl : LeL xs ys) : St F Λ (σ.set l (.box ys)) w where
  row L zs hz := by
    cases L with
    | nil => simp [rowAt] at hz
    | cons h0 p =>
      rw [isBox_boxle hr]
      rcases rowAt_boxle hr hl hz with ⟨rfl, rfl, rfl⟩ | ⟨_, h1⟩
      · have h1 : rowAt σ [h0] = some xs := by simp [rowAt, hr, Root.cells, Sep.sub]
        have hb : isBox σ [h0] = true := by simp [isBox, hr]
        obtain ⟨h2, h3⟩ := hl.get
        rcases hs.row _ _ h1 with ⟨g1, rfl⟩ | ⟨b, o, cs, t, g1, g2, g3, g4⟩
        · exact .inl ⟨g1, List.eq_nil_of_length_eq_zero (by simpa using h2.symm)⟩
        · refine .inr ⟨b, o, cs, t, g1, g2, g3, fun j y hj => ?_⟩
          have hjl : j < xs.length := by have := (List.getElem?_eq_some_iff.1 hj).1; omega
          obtain ⟨c, g5, g6⟩ := g4 j _ (List.getElem?_eq_getElem hjl)
          rw [hb] at g6 ⊢
          exact ⟨c, g5, g6.le (h3 j _ y (List.getElem?_eq_getElem hjl) hj)⟩
      · exact hs.row _ _ h1
  apart L zs L' zs' b o o' h1 h2 := by
    have key : ∀ L zs, rowAt (σ.set l (.box ys)) L = some zs → ∃ zs', rowAt σ L = some zs' := fun L zs h => by
      cases L with
      | nil => simp [rowAt] at h
      | cons h0 p =>
        rcases rowAt_boxle hr hl h with ⟨rfl, rfl, rfl⟩ | ⟨_, h1⟩
        · exact ⟨xs, by simp [rowAt, hr, Root.cells, Sep.sub]⟩
        · exact ⟨_, h1⟩
    obtain ⟨_, k1⟩ := key _ _ h1
    obtain ⟨_, k2⟩ := key _ _ h2
    exact hs.apart _ _ _ _ _ _ _ k1 k2
  old := hs.old
  lab L h := hs.lab L (by simpa using h)
theorem Step.boxle {m F Λ σ w} {l : Nat} {xs ys : List A} (hr : σ[l]? = some (.box xs)) (hl : LeL xs ys) : Step m F Λ σ w F Λ (σ.set l (.box ys)) w :=
  { os := rfl, tape := rfl, output := rfl, size := Nat.le_refl _, sizes := Sizes.refl _, keep := fun _ _ _ => rfl, mono := fun _ h => h, new := fun _ h => .inl h
    own := fun b ⟨L, zs, o, g1, g2⟩ => by
      cases L with
      | nil => simp [rowAt] at g1
      | cons h0 p =>
        rcases rowAt_boxle hr hl g1 with ⟨rfl, rfl, rfl⟩ | ⟨_, h1⟩
        · exact .inl ⟨_, xs, o, by simp [rowAt, hr, Root.cells, Sep.sub], g2⟩
        · exact .inl ⟨_, _, o, h1, g2⟩
    len := by rw [List.length_set]; exact Nat.min_le_right _ _
    boxes := fun a us _ ha => by
      have hll : l < σ.length := (List.getElem?_eq_some_iff.1 hr).1
      by_cases e : a = l
      · subst e; exact ⟨rfl, ys, List.getElem?_set_self hll⟩
      · exact ⟨rfl, us, by rw [List.getElem?_set_ne (Ne.symm e)]; exact ha⟩
    kept := fun _ _ _ _ h => h }
section
variable {P : Program} {n m : Nat} {K : Exit → Env → Store → Prop} {N : Env → Store → Prop} {E : Env} {σ : Store} {ops : Array Oper} {os : List Oper}
theorem T_boxle (l : Nat) {c : Code} {xs ys : List A} (hr : σ[l]? = some (.box xs)) (hl : LeL xs ys) (h : T P n m c K E (σ.set l (.box ys))) : T P n m c K E σ := fun F Λ w tmps Q hn hs hf hq =>
  h F Λ w tmps Q hn (hs.boxle hr hl) hf fun e F' Λ' σ' w' tmps' E' hn' hs' hf' hst hN => hq e F' Λ' σ' w' tmps' E' hn' hs' hf' ((Step.boxle hr hl).trans hst) hN
end
/-! ### structs of plain fields, compared -/
/-- Pairs of plain values. -/
inductive Sc2 where
  | s (a b : ByteArray)
  | i (a b : Int)
def Sc2.vx : Sc2 → Value
  | .s a _ => .string a
  | .i a _ => .int .i64 a
def Sc2.vy : Sc2 → Value
  | .s _ b => .string b
  | .i _ b => .int .i64 b
def Sc2.eq : Sc2 → Bool
  | .s a b => decide (a = b)
  | .i a b => decide (a = b)
def Sc2.str : Sc2 → Bool
  | .s _ _ => true
  | .i _ _ => false
def cmpSc : List Sc2 → Bool
  | [] => true
  | p :: ps => p.eq && cmpSc ps
structure EqS (P : Program) (t : Nat) (ks : List Bool) : Prop where
  g : P.eqGuardType P.depth t = false
  e : ∀ (ps : List Sc2) w, ps.map Sc2.str = ks → Sem.run P (Op.equalIn 10000 t (.agg (ps.map Sc2.vx).toArray) (.agg (ps.map Sc2.vy).toArray)) w = .ok (cmpSc ps) w
theorem EqS.of {P : Program} {t : Nat} {ks : List Bool} {ts : List Nat} (g : P.eqGuardType P.depth t = false) (hS : P.underlying t = some (.struct (P.fieldsOf t))) (hp : P.stoodInHeld t = false)
    (hf : ((P.fieldsOf t).toList.map fun f => (decide (f.name = "_"), f.offset, f.type)) = (List.range ts.length).map fun i => (false, i, ts.getD i 0))
    (hk : ts.length = ks.length) (hu : ∀ i, i < ts.length → P.underlying (ts.getD i 0) = some (if ks.getD i false = true then .string else .int .i64)) : EqS P t ks := by
  refine ⟨g, fun ps w hps => ?_⟩
  have hlen : ps.length = ks.length := by have := congrArg List.length hps; simpa using this
  rw [show (10000 : Nat) = 9999 + 1 from rfl, run_equalIn_agg w 9999 t _ _ hS hp]
  have key : ∀ (fs : List Field) (k : Nat), k + fs.length = ps.length → (fs.map fun f => (decide (f.name = "_"), f.offset, f.type)) = ((List.range fs.length).map fun i => (false, k + i, ts.getD (k + i) 0)) → Sem.run P (Op.eqFields 9999 (ps.map Sc2.vx).toArray (ps.map Sc2.vy).toArray fs) w = .ok (cmpSc (ps.drop k)) w := by
    intro fs
    induction fs with
    | nil => intro k hk _; simp only [List.length_nil] at hk; rw [List.drop_eq_nil_of_le (by omega)]; simp [Op.eqFields, cmpSc]
    | cons f fs ih =>
      intro k hk hfs
      simp only [List.length_cons] at hk
      rw [List.length_cons, List.range_succ_eq_map, List.map_cons, List.map_cons, List.map_map] at hfs
      simp only [List.cons.injEq, Prod.mk.injEq, decide_eq_false_iff_not] at hfs
      obtain ⟨⟨h1, h2, h3⟩, h4⟩ := hfs
      have hkl : k < ps.length := by omega
      have ih' := ih (k + 1) (by omega) (by rw [h4]; refine List.map_congr_left fun i _ => ?_; simp only [Function.comp, Nat.succ_eq_add_one]; rw [Nat.add_assoc, Nat.add_comm 1 i])
      have hu' := hu k (by omega)
      have hks : ks.getD k false = ps[k].str := by
        rw [← hps, List.getD_eq_getElem?_getD, List.getElem?_map, List.getElem?_eq_getElem hkl]; rfl
      rw [hks] at hu'
      rw [Nat.add_zero] at h2 h3
      rw [← h3] at hu'
      have hx : (ps.map Sc2.vx).toArray[k]? = some ps[k].vx := by simp [hkl]
      have hy : (ps.map Sc2.vy).toArray[k]? = some ps[k].vy := by simp [hkl]
      have hag : ∀ w, (isAgg f.type).run P w = .ok false w := fun w => by
        cases hc : ps[k].str with
        | true => rw [hc, if_pos rfl] at hu'; simp [isAgg, run_underlying hu']
        | false => rw [hc, if_neg (by decide)] at hu'; simp [isAgg, run_underlying hu']
      have he : ∀ w, (Op.equalIn 9999 f.type ps[k].vx ps[k].vy).run P w = .ok ps[k].eq w := fun w => by
        cases hc : ps[k] with
        | s a b =>
          rw [hc] at hu'
          simp only [Sc2.str, if_true] at hu'
          simp only [Sc2.vx, Sc2.vy, Sc2.eq]
          rw [show (9999 : Nat) = 9998 + 1 from rfl, run_equalIn_string w 9998 _ a b hu', beq_bytes]
        | i a b =>
          rw [hc] at hu'
          simp only [Sc2.str, Bool.false_eq_true, if_false] at hu'
          simp only [Sc2.vx, Sc2.vy, Sc2.eq]
          rw [show (9999 : Nat) = 9998 + 1 from rfl, run_equalIn_int w 9998 _ .i64 .i64 a b hu']
          exact congrArg (fun z => Result.ok z w) (Bool.eq_iff_iff.2 (by simp))
      rw [List.drop_eq_getElem_cons hkl]
      simp only [Op.eqFields, h2, cmpSc]
      have hpx : ∀ w, (part f.type (ps.map Sc2.vx).toArray k).run P w = .ok ps[k].vx w := fun w => by simp [part, hag, hkl]
      have hpy : ∀ w, (part f.type (ps.map Sc2.vy).toArray k).run P w = .ok ps[k].vy w := fun w => by simp [part, hag, hkl]
      cases hq : ps[k].eq <;> simp [hpx, hpy, he, hq, h1, ih']
  have := key (P.fieldsOf t).toList 0 (by have := congrArg List.length hf; simp only [List.length_map, List.length_range] at this; omega) (by
    rw [hf]
    have hl := congrArg List.length hf
    simp only [List.length_map, List.length_range] at hl
    rw [hl]
    refine List.map_congr_left fun i _ => ?_
    rw [Nat.zero_add])
  rw [List.drop_zero] at this
  exact this
section
variable {P : Program} {n m : Nat} {N : Env → Store → Prop} {E : Env} {σ κ : Store} {ops : Array Oper} {fuel : Nat} {listed : Array Bool}
/-- What is wanted where several orders meet, told ahead. -/
theorem TA_have (fuel2 : Nat) (listed2 : Array Bool) (E2 : Env) (σ2 : Store) (h : TA P n m κ ops fuel2 listed2 N E2 σ2) (k : TA P n m κ ops fuel2 listed2 N E2 σ2 → TA P n m κ ops fuel listed N E σ) : TA P n m κ ops fuel listed N E σ := k h
end
/-! ### strings out of bytes -/
def strOf (zs : List Int) : ByteArray := zs.foldl (fun r n => r.push (UInt8.ofNat n.toNat)) ByteArray.empty
theorem flat_u8 : ∀ zs : List Int, flat (tI .u8).enc zs = zs.map fun z => A.v (.int .u8 z)
  | [] => rfl
  | z :: zs => by
    have := flat_u8 zs
    show A.v (.int .u8 z) :: flat (tI .u8).enc zs = _
    rw [this]; rfl
section
variable {P : Program} {o : Oper} {E : Env} {σ : Store}
theorem run_strOf {s d e : Nat} (hs' : P.underlying s = some (.slice e)) (he : P.underlying e = some (.int .u8)) (hd : P.underlying d = some .string) (w : World) (b o' cap : Nat) (zs : List Int) (hc : ∀ j z, zs[j]? = some z → w.cell? ⟨b, o' + j, none⟩ = some (.int .u8 z)) : (convert s d (.slice (some ⟨b, o', none⟩) zs.length cap)).run P w = .ok (.string (strOf zs)) w := by
  rw [run_convert_bytes_string w s d e _ _ _ hs' he hd]
  refine run_bytesToString w _ _ _ zs ?_
  have := run_loadCells_list (P := P) w ⟨b, o', none⟩ (zs.map (Value.int .u8)) (fun j v hj => by
    rw [addr_add]
    rw [List.getElem?_map, Option.map_eq_some_iff] at hj
    obtain ⟨z, hz, rfl⟩ := hj
    exact hc j z hz)
  simpa using this
theorem run_strNil {s d e : Nat} (hs' : P.underlying s = some (.slice e)) (he : P.underlying e = some (.int .u8)) (hd : P.underlying d = some .string) (w : World) (ad : Option Addr) (cap : Nat) : (convert s d (.slice ad 0 cap)).run P w = .ok (.string (strOf [])) w := by
  rw [run_convert_bytes_string w s d e _ _ _ hs' he hd]
  cases ad with
  | none => rfl
  | some a => exact run_bytesToString w a 0 cap [] (run_loadCells_list (P := P) w a [] (fun j v hj => by simp at hj))
/-- A string out of a row of bytes. -/
theorem pur_strM {s d e : Nat} {x : Operand} {L : List Nat} {zs : List Int} (hs' : P.underlying s = some (.slice e)) (he : P.underlying e = some (.int .u8)) (hd : P.underlying d = some .string) (hx : val E x = .m L 0 zs.length 1) (hr : rowAt σ L = some (flat (tI .u8).enc zs)) (h : o.op = .convert s d x) : Pur P o E σ (.v (.string (strOf zs))) := fun F Λ w tmps hs hf => by
  have e1 := val_ok (ds := []) hf x
  rw [hx] at e1
  refine ⟨_, .imm (.v _), fun w' ha => ?_⟩
  rcases e1.m_inv with ⟨h0, ad, h4⟩ | ⟨b, o', cap, hL, h5, h6, h7, cs, t', h8, h9⟩
  · have : zs = [] := List.length_eq_zero_iff.1 h0
    subst this
    simp only [execOp, h, h4]
    simp [run_strNil hs' he hd]
  · rw [Nat.add_zero] at h5
    simp only [execOp, h, h5]
    have := run_strOf hs' he hd w' b o' cap zs fun j z hz => by
      have hy : (flat (tI .u8).enc zs)[j]? = some (.v (.int .u8 z)) := by rw [flat_u8, List.getElem?_map, hz]; rfl
      obtain ⟨c, g3, g4⟩ := hs.cellAt hr hL hy
      rw [← ha.cell (.inr ⟨L, _, o', hr, hL⟩)] at g3
      have := g4.val.v_inv
      rw [g3, this]
    simp [this]
end
/-! ### elements that own, in drawn regions -/
section
variable {P : Program} {n m : Nat} {N : Env → Store → Prop} {E : Env} {σ κ : Store} {ops : Array Oper} {fuel : Nat} {listed : Array Bool} {o : Oper}
theorem TA_kill (l : Nat) (hm : m ≤ l) (h : TA P n m κ ops fuel listed N E (σ.set l .dead)) : TA P n m κ ops fuel listed N E σ := TA_ghost (fun F Λ w tmps hs hf => ⟨F, Λ, hs.kill l, hf, Step.kill hm⟩) h
theorem TA_rowify (l : Nat) {xs : List A} (hr : σ[l]? = some (.box xs)) (hb : rowB xs = true) (hm : m ≤ l) (h : TA P n m κ ops fuel listed N E (σ.set l (.row xs))) : TA P n m κ ops fuel listed N E σ :=
  TA_ghost (fun F Λ w tmps hs hf => ⟨F, Λ, hs.rekind (r' := .row xs) hr rfl rfl fun c x hx L hc => hc.rowed (by simp only [rowB, List.all_eq_true] at hb; exact hb x hx), hf, Step.rekind hr rfl rfl hm⟩) h
theorem TA_absorbA (s off l : Nat) {nn k : Nat} {pr cs ys : List A} (hs : σ[s]? = some (.box (pr ++ cs))) (hl : σ[l]? = some (.row ys)) (hx : cs[off]? = some (.m [l] 0 nn k)) (hne : s ≠ l) (hk : 0 < k) (hn : ys.length = nn * k) (hms : m ≤ s) (hml : m ≤ l)
    (hE : nmE (pre s (pr.length + off)) E = false) (hb : nmS (pre s (pr.length + off)) σ = false) (h : TA P n m κ ops fuel listed N E ((σ.set l .dead).set s (.box (pr ++ cs.set off (.o k ys))))) : TA P n m κ ops fuel listed N E σ := by
  have hx' : (pr ++ cs)[pr.length + off]? = some (.m [l] 0 nn k) := by rw [List.getElem?_append_right (by omega)]; simpa using hx
  refine TA_ghost (σ' := abS σ s (pr.length + off) l k (pr ++ cs) ys) (fun F Λ w tmps hs' hf => ⟨F, _, hs'.absorb hs hl hx' hne hk hn hb, fun t => (hf t).relabel (pre s (pr.length + off)) abL_ok (nmE_lk hE t), Step.absorb hs' hs hl hx' hne hms hml⟩) ?_
  unfold abS; rw [set_right]; exact h
theorem TA_rowifyT {α : Type} {T : Ty α} (s : Nat) {xs us : List α} {v : α} {cs : List A} {by_ : Nat} (hs : σ[s]? = some (.box (flat T.own xs ++ cs))) (hv : cs = T.own v) (ha : app by_ xs [v] = some us) (hm : m ≤ s) (h : TA P n m κ ops fuel listed N E (σ.set s (.row (flat T.own us)))) : TA P n m κ ops fuel listed N E σ := by
  obtain ⟨rfl, _⟩ := app_inv ha
  subst hv
  have e : flat T.own xs ++ T.own v = flat T.own (xs ++ [v]) := flat_one _ _ _
  rw [e] at hs
  exact TA_rowify s hs (rowB_own (flat_ownR T _)) hm h
theorem TA_move (l l' : Nat) {zs : List A} (hne : l ≠ l') (hl : l < σ.length) (hr : σ[l']? = some (.row zs)) (hb : noBox σ l = true) (hm : m ≤ l) (h : TA P n m κ ops fuel listed N (mvE l l' E) (mvS l l' σ)) : TA P n m κ ops fuel listed N E σ :=
  TA_ghost (fun F Λ w tmps hs hf => ⟨F, _, hs.move hne hl hr, fun t => by rw [lk_mvE]; exact mvA_ok hne (hf t), Step.move hs hne hl hr hb hm⟩) h
theorem TOp_ghost {E' : Env} {σ' : Store} (hg : Ghost m E σ E' σ') (h : TOp P n m o N E' σ') : TOp P n m o N E σ := fun F Λ w tmps K Q hn hs hf hk => by
  obtain ⟨F1, Λ1, h1, h2, h3⟩ := hg F Λ w tmps hs hf
  exact h F1 Λ1 w tmps K Q hn h1 h2 fun F2 Λ2 σ2 w2 tmps2 E2 hn2 hs2 hf2 hst2 hN2 => hk F2 Λ2 σ2 w2 tmps2 E2 hn2 hs2 hf2 (h3.trans hst2) hN2
theorem TOp_boxify (l : Nat) {xs : List A} (hr : σ[l]? = some (.row xs)) (hm : m ≤ l) (h : TOp P n m o N E (σ.set l (.box xs))) : TOp P n m o N E σ :=
  TOp_ghost (fun F Λ w tmps hs hf => ⟨F, Λ, hs.rekind (r' := .box xs) hr rfl rfl fun c x _ L hc => hc.boxed, hf, Step.rekind hr rfl rfl hm⟩) h
end
end Go.Sep
/- Short forms, for printed walks. -/
set_option linter.unusedVariables false
set_option linter.unusedSimpArgs false
namespace Go.Sep
open Go
theorem lb {n m : Nat} (h : Nat.ble n m = true) : n ≤ m := Nat.le_of_ble_eq_true h
/-- An environment, read off. -/
def pkE (E : Env) : Env → Env
  | [] => []
  | (t, _) :: E' => (t, lk E t) :: pkE E E'
theorem pkE.of {E : Env} : ∀ {E' : Env}, pkE E E' = E' → Pk E E'
  | [], _ => trivial
  | (t, a) :: E', h => by
    simp only [pkE, List.cons.injEq, Prod.mk.injEq, true_and] at h
    exact ⟨h.1, pkE.of h.2⟩
mutual
theorem ren_id {f : Nat → Nat} {p : List Nat → Bool} (hp : ∀ L, p L = false → rh f L = L) : ∀ x : A, x.names p = false → x.ren f = x
  | .m L a n k, h => by simp only [A.names] at h; simp only [A.ren, hp L h]
  | .e L a, h => by simp only [A.names] at h; simp only [A.ren, hp L h]
  | .b l a, h => by
    simp only [A.names] at h
    have := hp [l] h
    simp only [rh, List.cons.injEq, and_true] at this
    simp only [A.ren, this]
  | .g xs, h => by simp only [A.names] at h; simp only [A.ren, renL_id hp xs h]
  | .t xs, h => by simp only [A.names] at h; simp only [A.ren, renL_id hp xs h]
  | .f g xs, h => by simp only [A.names] at h; simp only [A.ren, renL_id hp xs h]
  | .o k xs, _ => rfl
  | .v x, _ => rfl
  | .n, _ => rfl
  | .i k xs, _ => rfl
  | .q xs d, _ => rfl
  | .j, _ => rfl
theorem renL_id {f : Nat → Nat} {p : List Nat → Bool} (hp : ∀ L, p L = false → rh f L = L) : ∀ xs : List A, namesL p xs = false → renL f xs = xs
  | [], _ => rfl
  | x :: xs, h => by
    simp only [namesL, Bool.or_eq_false_iff] at h
    simp only [renL, ren_id hp x h.1, renL_id hp xs h.2]
end
mutual
theorem names_mono {p q : List Nat → Bool} (hq : ∀ L, p L = true → q L = true) : ∀ x : A, x.names p = true → x.names q = true
  | .m L a n k, h => hq L h
  | .e L a, h => hq L h
  | .b l a, h => hq [l] h
  | .g xs, h => namesL_mono hq xs h
  | .t xs, h => namesL_mono hq xs h
  | .f g xs, h => namesL_mono hq xs h
  | .o k xs, h => by cases h
  | .v x, h => by cases h
  | .n, h => by cases h
  | .i k xs, h => by cases h
  | .q xs d, h => by cases h
  | .j, h => by cases h
theorem namesL_mono {p q : List Nat → Bool} (hq : ∀ L, p L = true → q L = true) : ∀ xs : List A, namesL p xs = true → namesL q xs = true
  | [], h => by cases h
  | x :: xs, h => by
    simp only [namesL, Bool.or_eq_true] at h ⊢
    exact h.imp (names_mono hq x) (namesL_mono hq xs)
end
/-- No box names what heads with l or l'. -/
def noNm (l l' : Nat) (σ : Store) : Bool := σ.all fun r => match r with
  | .box xs => !namesL (fun L => L.headD 0 == l || L.headD 0 == l') xs
  | _ => true
theorem mvS_noNm {l l' : Nat} {σ : Store} {zs : List A} (h : noNm l l' σ = true) (hr : σ[l']? = some (.row zs)) : mvS l l' σ = (σ.set l (.row zs)).set l' .dead := by
  have key : σ.map (mvR l l') = σ := by
    rw [List.map_congr_left (g := id), List.map_id]
    intro r hr
    simp only [noNm, List.all_eq_true] at h
    have h1 := h r hr
    cases r with
    | dead => rfl
    | row => rfl
    | box xs =>
      simp only [Bool.not_eq_true'] at h1
      have : xs.map (mvA l l') = xs := by
        rw [List.map_congr_left (g := id), List.map_id]
        intro x hx
        have h2 := namesL_false h1 x hx
        have h3 : x.names (fun L => L.headD 0 == l) = false := by
          cases h3 : x.names (fun L => L.headD 0 == l) with
          | false => rfl
          | true =>
            exfalso
            have := names_mono (q := fun L => L.headD 0 == l || L.headD 0 == l') (fun L hL => by rw [hL]; rfl) x h3
            rw [h2] at this; cases this
        simp only [mvA, h3, id]
        exact ren_id (p := fun L => L.headD 0 == l || L.headD 0 == l') (fun L hL => by
          cases L with
          | nil => rfl
          | cons h0 p0 =>
            simp only [List.headD_cons, Bool.or_eq_false_iff, beq_eq_false_iff_ne] at hL
            simp only [rh, mvH, if_neg hL.2]) x h2
      simp only [mvR, this, id]
  simp only [mvS, key, hr, Option.getD_some]
section
variable {P : Program} {n m : Nat} {K : Exit → Env → Store → Prop} {N : Env → Store → Prop} {E : Env} {σ κ : Store} {ops : Array Oper} {os : List Oper} {o : Oper} {fuel : Nat} {listed : Array Bool}
theorem Tp {os' : List Oper} {o : Oper} {r : A} (ho : os = o :: os') (hg : o.guard = none) (hp : Pur P o E σ r) (hd : dstOK n o.dst = true) (h : TO P n m ops os' N (put E o.dst r) σ) : TO P n m ops os N E σ := by
  subst ho; exact TO_cons hg (TOp_pure hp hd h)
theorem te {c : Code} (E' : Env) (hE : pkE E E' = E') (h : T P n m c K E' σ) : T P n m c K E σ := T_env (pkE.of hE) h
theorem toe (E' : Env) (hE : pkE E E' = E') (h : TO P n m ops os N E' σ) : TO P n m ops os N E σ := TO_env (pkE.of hE) h
theorem tqe (E' : Env) (hE : pkE E E' = E') (h : TQ P n m ops os N E' σ) : TQ P n m ops os N E σ := TQ_env (pkE.of hE) h
theorem tae (E' : Env) (hE : pkE E E' = E') (h : TA P n m κ ops fuel listed N E' σ) : TA P n m κ ops fuel listed N E σ := TA_env (pkE.of hE) h
theorem sr {id : Nat} {l : List Oper} {b : Code} (h : TO P n m l.toArray l ((thenK (T P n m b K) K) .normal) E σ) : T P n m (.seq (.region id l.toArray false) b) K E σ := T_seq (T_region h)
/-- First of all an operation that only looks. -/
theorem tf (i : Nat) {o : Oper} {r : A} (hi : ops[i]? = some o) (hp : Pur P o E (pads κ σ.length) r) (hg : o.guard = none) (hd : dstOK n o.dst = true) (hc : (Region.noSelect ops && (Region.ready .any ops listed).contains i && Region.free .any ops listed i) = true) (h : TA P n m κ ops fuel (listed.setIfInBounds i true) N (put E o.dst r) σ) : TA P n m κ ops (fuel + 1) listed N E σ := by
  simp only [Bool.and_eq_true] at hc
  exact TA_first i _ hi hp (fun F Λ w tmps _ _ => by simp [Region.wanted, hg]) hd rfl hc.1.1 hc.1.2 hc.2 h
/-- The one operation that is ready. -/
theorem t1 (i : Nat) {o : Oper} (hr : Region.ready .any ops listed = [i]) (hi : ops[i]? = some o) (hg : o.guard = none) (h : TOp P n m o (TA P n m κ ops fuel (listed.setIfInBounds i true) N) E σ) : TA P n m κ ops (fuel + 1) listed N E σ :=
  TA_all [i] hr (by simp) ⟨⟨o, hi, hg, h⟩, trivial⟩
theorem tmv (l l' : Nat) {zs : List A} (hne : l ≠ l') (hl : l < σ.length) (hr : σ[l']? = some (.row zs)) (hb : noBox σ l = true) (hm : m ≤ l) (h : TA P n m κ ops fuel listed N (mvE l l' E) (mvS l l' σ)) : TA P n m κ ops fuel listed N E σ :=
  TA_ghost (fun F Λ w tmps hs hf => ⟨F, _, hs.move hne hl hr, fun t => by rw [lk_mvE]; exact mvA_ok hne (hf t), Step.move hs hne hl hr hb hm⟩) h
theorem tmw (l l' : Nat) {zs : List A} (hne : l ≠ l') (hl : l < σ.length) (hr : σ[l']? = some (.row zs)) (hb : noBox σ l = true) (hm : m ≤ l) (hx : noNm l l' σ = true) (h : TA P n m κ ops fuel listed N (mvE l l' E) ((σ.set l (.row zs)).set l' .dead)) : TA P n m κ ops fuel listed N E σ :=
  tmv l l' hne hl hr hb hm (mvS_noNm hx hr ▸ h)
theorem PkL.of : ∀ {E' : Env}, Pk E E' → PkL E E'
  | [], _ => trivial
  | (_, _) :: _, h => ⟨leR h.1, PkL.of h.2⟩
theorem w0 {σ' : Store} {E' : Env} (k : Nat) (hm : m ≤ k := by exact lb rfl) (ha : ascE E' = true := by rfl) (hσ : σ' = σ.take k := by rfl) (h1 : namesE k E' = false := by rfl) (h2 : boxesE k σ' = false := by rfl) (hE : pkE E E' = E' := by rfl) : WeakL m E σ E' σ' := WeakL.to k hm ha hσ h1 h2 (PkL.of (pkE.of hE))
theorem wp {σ' : Store} {E' : Env} (k : Nat) (hm : m ≤ k) (ha : ascE E' = true) (hσ : σ' = σ.take k) (h1 : namesE k E' = false) (h2 : boxesE k σ' = false) (hE : pkE E E' = E') : WeakL m E σ E' σ' := WeakL.to k hm ha hσ h1 h2 (PkL.of (pkE.of hE))
/-- Orders meet. -/
theorem tj {listed2 : Array Bool} {E2 : Env} {σ2 : Store} (h : TA P n m κ ops fuel listed2 N E2 σ2) (hl : listed = listed2) (hw : WeakL m E σ E2 σ2) : TA P n m κ ops fuel listed N E σ := TA_listed _ hl (TA_ghost (Ghost.weak hw) h)
end
end Go.Sep
/- Regions walked by hand, where the labels stand still: what slices.Delete and its like want. -/
set_option linter.unusedVariables false
set_option linter.unusedSimpArgs false
namespace Go.Sep
open Go
section
variable {P : Program} {n m : Nat} {E : Env} {σ : Store} {ops : Array Oper} {fuel : Nat} {listed : Array Bool} {F : Nat → Prop} {Λ : Lbl} {w : World} {tmps : Array Value} {Q : Act → World → Prop}
end
section
variable {P : Program} {E : Env} {o : Oper} {n m : Nat} {σ : Store} {F : Nat → Prop} {Λ : Lbl} {w : World}
end
section
variable {P : Program} {n m : Nat} {E : Env} {ops : Array Oper} {os : List Oper} {F : Nat → Prop} {Λ : Lbl} {w : World} {tmps : Array Value} {Q : Exit → Act → World → Prop} {o : Oper}
end
section
variable {P : Program} {o : Oper} {w : World} {tmps : Array Value}
end
/-! ### a row of plain cells, turned -/
end Go.Sep
/- slices.Delete's own steps. -/
set_option linter.unusedVariables false
set_option linter.unusedSimpArgs false
namespace Go.Sep
open Go
section
variable {P : Program} {n : Nat} {F : Nat → Prop} {Λ : Lbl} {w : World} {tmps : Array Value} {Q : Act → World → Prop}
end
section
variable {P : Program} {n : Nat} {F : Nat → Prop} {Λ : Lbl} {w : World} {tmps : Array Value} {Q : Exit → Act → World → Prop} {ops : Array Oper}
end
section
variable {P : Program} {n m : Nat} {K : Exit → Env → Store → Prop} {E : Env} {σ : Store}
end
end Go.Sep
namespace Go.Sep
open Go
section
variable {P : Program} {E : Env} {σ : Store} {o : Oper}
end
end Go.Sep
/- Runs of operations that look at slots and boxes alone, in one step. -/
set_option linter.unusedVariables false
set_option linter.unusedSimpArgs false
namespace Go.Sep
open Go
/-- What a seat's types tell: fields (struct, field, offset, type), types of one cell, structs of k cells. -/
structure Tab where
  fld : List (Nat × Nat × Nat × Nat)
  one : List Nat
  agg : List (Nat × Nat)
def TabOK (P : Program) (T : Tab) : Prop := (∀ p ∈ T.fld, FldT P p.1 p.2.1 p.2.2.1 p.2.2.2) ∧ (∀ t ∈ T.one, OneT P t) ∧ ∀ p ∈ T.agg, AggT P p.1 p.2
def fldAt : List (Nat × Nat × Nat × Nat) → Nat → Nat → Option (Nat × Nat)
  | [], _, _ => none
  | (t, x, o, ft) :: l, t', x' => if t = t' ∧ x = x' then some (o, ft) else fldAt l t' x'
def aggAt : List (Nat × Nat) → Nat → Option Nat
  | [], _ => none
  | (t, k) :: l, t' => if t = t' then some k else aggAt l t'
theorem tbN {α : Type} {Q : α → Prop} : ∀ p ∈ ([] : List α), Q p := fun _ h => nomatch h
theorem tbC {α : Type} {Q : α → Prop} {a : α} {l : List α} (h : Q a) (hl : ∀ p ∈ l, Q p) : ∀ p ∈ a :: l, Q p := List.forall_mem_cons.2 ⟨h, hl⟩
theorem fldAt_mem : ∀ {l : List (Nat × Nat × Nat × Nat)} {t x o ft}, fldAt l t x = some (o, ft) → (t, x, o, ft) ∈ l
  | (t, x, o, ft) :: l, t', x', o', ft', h => by
    simp only [fldAt] at h
    split at h
    · rename_i e
      obtain ⟨rfl, rfl⟩ := e
      cases h; exact List.mem_cons_self ..
    · exact List.mem_cons_of_mem _ (fldAt_mem h)
theorem aggAt_mem : ∀ {l : List (Nat × Nat)} {t k}, aggAt l t = some k → (t, k) ∈ l
  | (t, k) :: l, t', k', h => by
    simp only [aggAt] at h
    split at h
    · rename_i e
      subst e
      cases h; exact List.mem_cons_self ..
    · exact List.mem_cons_of_mem _ (aggAt_mem h)
def asB : A → Option Bool
  | .v (.bool b) => some b
  | _ => none
def asI : A → Option (IntKind × Int)
  | .v (.int k z) => some (k, z)
  | _ => none
def asT : A → Option (List A)
  | .t xs => some xs
  | _ => none
def asG : A → Option (List A)
  | .g xs => some xs
  | _ => none
theorem asB_of {x : A} {b} (h : asB x = some b) : x = .v (.bool b) := by
  unfold asB at h; split at h <;> cases h; rfl
theorem asI_of {x : A} {b} (h : asI x = some b) : x = .v (.int b.1 b.2) := by
  unfold asI at h; split at h <;> cases h; rfl
theorem asT_of {x : A} {b} (h : asT x = some b) : x = .t b := by
  unfold asT at h; split at h <;> cases h; rfl
theorem asG_of {x : A} {b} (h : asG x = some b) : x = .g b := by
  unfold asG at h; split at h <;> cases h; rfl
def arith (op : BinOp) (k : IntKind) (a b : Int) : Option A := match op with
  | .add => some (.v (.int k (k.wrap (a + b))))
  | .sub => some (.v (.int k (k.wrap (a - b))))
  | .mul => some (.v (.int k (k.wrap (a * b))))
  | .lss => some (.v (.bool (decide (a < b))))
  | .leq => some (.v (.bool (decide (a ≤ b))))
  | .gtr => some (.v (.bool (decide (b < a))))
  | .geq => some (.v (.bool (decide (b ≤ a))))
  | .eql => some (.v (.bool (decide (a = b))))
  | .neq => some (.v (.bool (decide (a ≠ b))))
  | _ => none
def addrA (off : Nat) : A → Option A
  | .b l a => some (.b l (a + off))
  | .q xs d => some (.q xs (d + off))
  | .e L a => some (.e L (a + off))
  | _ => none
def loadA (T : Tab) (σ : Store) (t : Nat) : A → Option A
  | .b l d => match rowAt σ [l] with
    | some xs => if T.one.contains t = true then (xs[d]?).map (cellVal [l, d]) else (aggAt T.agg t).bind fun k => if d + k ≤ xs.length then some (.g (cellVals [l] d ((xs.drop d).take k))) else none
    | none => none
  | .q xs d => if T.one.contains t = true then xs[d]? else (aggAt T.agg t).bind fun k => if d + k ≤ xs.length then some (.g ((xs.drop d).take k)) else none
  | _ => none
/-- What an operation yields that looks at slots and boxes alone. -/
def pv1 (T : Tab) (E : Env) (σ : Store) : Op → Option A
  | .move x => some (val E x)
  | .assign x => some (val E x)
  | .extract x i => (asT (val E x)).bind fun xs => xs[i]?
  | .pick c a b => (asB (val E c)).bind fun t => some (if t then val E a else val E b)
  | .unOp .not _ x => (asB (val E x)).bind fun b => some (.v (.bool (!b)))
  | .binOp op _ x y _ => (asI (val E x)).bind fun p => (asI (val E y)).bind fun q => if p.1 = q.1 then arith op p.1 p.2 q.2 else none
  | .makeFunc (.func fn) f cs => match f.toList with
    | [] => some (.f fn (cs.toList.map (val E)))
    | _ => none
  | .fieldAddr t x f => (fldAt T.fld t f).bind fun p => addrA p.1 (val E x)
  | .field t x f => (fldAt T.fld t f).bind fun p => if T.one.contains p.2 = true then (asG (val E x)).bind fun xs => xs[p.1]? else none
  | .load t x => loadA T σ t (val E x)
  | _ => none
theorem pv1_ok {P : Program} {T : Tab} (hT : TabOK P T) {E : Env} {σ : Store} {o : Oper} {op : Op} (ho : o.op = op) {r : A} (h : pv1 T E σ op = some r) : Pur P o E σ r := by
  obtain ⟨hF, hO, hG⟩ := hT
  unfold pv1 at h
  split at h
  · cases h; exact pur_move ho
  · cases h; exact pur_assign ho
  · simp only [Option.bind_eq_some_iff] at h
    obtain ⟨xs, h1, h2⟩ := h
    exact pur_extract (asT_of h1) h2 ho
  · simp only [Option.bind_eq_some_iff] at h
    obtain ⟨t, h1, h2⟩ := h
    exact pur_pick ho (asB_of h1) (Option.some.inj h2)
  · simp only [Option.bind_eq_some_iff] at h
    obtain ⟨t, h1, h2⟩ := h
    cases h2
    exact pur_not ho (asB_of h1)
  · simp only [Option.bind_eq_some_iff] at h
    obtain ⟨p, h1, q, h2, h3⟩ := h
    obtain ⟨k, a⟩ := p
    obtain ⟨k', b⟩ := q
    split at h3
    · rename_i e
      simp only at e
      subst e
      have h1 := asI_of h1
      have h2 := asI_of h2
      unfold arith at h3
      split at h3 <;> cases h3
      · exact pur_wadd ho h1 h2
      · exact pur_wsub ho h1 h2
      · exact pur_wmul ho h1 h2
      · exact pur_lss ho h1 h2
      · exact pur_leq ho h1 h2
      · exact pur_gtr ho h1 h2
      · exact pur_geq ho h1 h2
      · exact pur_eql ho h1 h2
      · exact pur_neq ho h1 h2
    · cases h3
  · rename_i fn f cs
    split at h
    · rename_i hf
      cases h
      have : f = #[] := by cases f; simpa using hf
      subst this
      exact pur_makeFunc (cs := cs.toList) (by rw [ho])
    · cases h
  · simp only [Option.bind_eq_some_iff] at h
    obtain ⟨p, h1, h2⟩ := h
    have h1 := hF _ (fldAt_mem h1)
    unfold addrA at h2
    split at h2 <;> cases h2
    · exact pur_fa_b h1 ‹_› ho
    · exact pur_fa_q h1 ‹_› ho
    · exact pur_fa_e h1 ‹_› ho
  · simp only [Option.bind_eq_some_iff] at h
    obtain ⟨p, h1, h2⟩ := h
    split at h2
    · rename_i h3
      simp only [Option.bind_eq_some_iff] at h2
      obtain ⟨xs, h4, h5⟩ := h2
      exact pur_field1 (hF _ (fldAt_mem h1)) (hO _ (by simpa using h3)) (asG_of h4) h5 ho
    · cases h2
  · unfold loadA at h
    split at h
    · split at h
      · rename_i xs hr
        split at h
        · rename_i h3
          simp only [Option.map_eq_some_iff] at h
          obtain ⟨y, h4, rfl⟩ := h
          exact pur_ld_b (hO _ (by simpa using h3)) ‹_› hr h4 ho
        · simp only [Option.bind_eq_some_iff] at h
          obtain ⟨k, h4, h5⟩ := h
          split at h5
          · rename_i h6
            cases h5
            exact pur_ldK_b (hG _ (aggAt_mem h4)) ‹_› hr h6 ho
          · cases h5
      · cases h
    · split at h
      · rename_i h3
        exact pur_ld_q (hO _ (by simpa using h3)) ‹_› h ho
      · simp only [Option.bind_eq_some_iff] at h
        obtain ⟨k, h4, h5⟩ := h
        split at h5
        · rename_i h6
          cases h5
          exact pur_ldK_q (hG _ (aggAt_mem h4)) ‹_› h6 ho
        · cases h5
    · cases h
  · cases h
/-- With its guard. -/
def pvG (T : Tab) (n : Nat) (ops : Array Oper) (E : Env) (σ : Store) (o : Oper) : Option A := match o.guard with
  | none => pv1 T E σ o.op
  | some (j, want) => ((ops[j]?).bind (·.dst)).bind fun d => if d < n then (match lk E d with
    | .v (.bool b) => if b = want then pv1 T E σ o.op else some (.v undef)
    | .v x => if offB want x = true then some (.v undef) else none
    | _ => none) else none
inductive PvG (P : Program) (n : Nat) (ops : Array Oper) (E : Env) (σ : Store) (o : Oper) : A → Prop
  | free {r} : o.guard = none → Pur P o E σ r → PvG P n ops E σ o r
  | on {j d want r} : o.guard = some (j, want) → (ops[j]?).bind (·.dst) = some d → d < n → lk E d = .v (.bool want) → Pur P o E σ r → PvG P n ops E σ o r
  | off {j d want v0} : o.guard = some (j, want) → (ops[j]?).bind (·.dst) = some d → d < n → lk E d = .v v0 → offB want v0 = true → PvG P n ops E σ o (.v undef)
theorem pvG_ok {P : Program} {T : Tab} (hT : TabOK P T) {n : Nat} {ops : Array Oper} {E : Env} {σ : Store} {o : Oper} {r : A} (h : pvG T n ops E σ o = some r) : PvG P n ops E σ o r := by
  unfold pvG at h
  split at h
  · rename_i hg; exact .free hg (pv1_ok hT rfl h)
  · rename_i j want hg
    simp only [Option.bind_eq_some_iff] at h
    obtain ⟨d, hd, h⟩ := h
    split at h
    · rename_i hdn
      split at h
      · rename_i b hl
        split at h
        · rename_i e; subst e; exact .on hg (by simpa [Option.bind_eq_some_iff] using hd) hdn hl (pv1_ok hT rfl h)
        · rename_i e; cases h
          exact .off hg (by simpa [Option.bind_eq_some_iff] using hd) hdn hl (by simpa [offB] using e)
      · rename_i x _ hl
        split at h
        · rename_i ho; cases h; exact .off hg (by simpa [Option.bind_eq_some_iff] using hd) hdn hl ho
        · cases h
      · cases h
    · cases h
/-- k operations, one after the other. -/
def pvs (T : Tab) (n : Nat) (ops : Array Oper) (σ : Store) : Nat → List Oper → Env → Option (List Oper × Env)
  | 0, os, E => some (os, E)
  | k + 1, o :: os, E => (pvG T n ops E σ o).bind fun r => if dstOK n o.dst = true then pvs T n ops σ k os (put E o.dst r) else none
  | _ + 1, [], _ => none
section
variable {P : Program} {T : Tab} {n m : Nat} {N : Env → Store → Prop} {E : Env} {σ κ : Store} {ops : Array Oper} {os : List Oper} {o : Oper} {fuel : Nat} {listed : Array Bool}
theorem pv (hT : TabOK P T) : ∀ (k : Nat) {os : List Oper} {E : Env} {os' : List Oper} {E' : Env}, pvs T n ops σ k os E = some (os', E') → TO P n m ops os' N E' σ → TO P n m ops os N E σ
  | 0, _, _, _, _, h, H => by cases h; exact H
  | k + 1, o :: os, E, os', E', h, H => by
    simp only [pvs, Option.bind_eq_some_iff] at h
    obtain ⟨r, h1, h2⟩ := h
    split at h2
    · rename_i hd
      have H := pv hT k h2 H
      cases pvG_ok hT h1 with
      | free hg hp => exact TO_cons hg (TOp_pure hp hd H)
      | on hg hj hdn hl hp => exact TO_on hg hj hdn hl hd (TOp_pure hp hd H)
      | off hg hj hdn hl ho => exact TO_off hg hj hdn hl ho hd H
    · cases h2
  | _ + 1, [], _, _, _, h, _ => by cases h
theorem pq (hT : TabOK P T) : ∀ (k : Nat) {os : List Oper} {E : Env} {os' : List Oper} {E' : Env}, pvs T n ops σ k os E = some (os', E') → TQ P n m ops os' N E' σ → TQ P n m ops os N E σ
  | 0, _, _, _, _, h, H => by cases h; exact H
  | k + 1, o :: os, E, os', E', h, H => by
    simp only [pvs, Option.bind_eq_some_iff] at h
    obtain ⟨r, h1, h2⟩ := h
    split at h2
    · rename_i hd
      have H := pq hT k h2 H
      cases pvG_ok hT h1 with
      | free hg hp => exact TQ_pure hg hp hd H
      | on hg hj hdn hl hp => exact TQ_on hg hj hdn hl hp hd H
      | off hg hj hdn hl ho => exact TQ_off hg hj hdn hl ho hd H
    · cases h2
  | _ + 1, [], _, _, _, h, _ => by cases h
/-- The operations 'is' of a drawn region, first of all. -/
def pvA (T : Tab) (n : Nat) (ops : Array Oper) (σ : Store) : List Nat → Env → Option Env
  | [], E => some E
  | i :: is, E => (ops[i]?).bind fun o => (pvG T n ops E σ o).bind fun r => if dstOK n o.dst = true then pvA T n ops σ is (put E o.dst r) else none
def pvOK (ops : Array Oper) : List Nat → Array Bool → Bool
  | [], _ => true
  | i :: is, l => Region.noSelect ops && (Region.ready .any ops l).contains i && Region.free .any ops l i && pvOK ops is (l.setIfInBounds i true)
def pvL : List Nat → Array Bool → Array Bool
  | [], l => l
  | i :: is, l => pvL is (l.setIfInBounds i true)
theorem pa (hT : TabOK P T) : ∀ (is : List Nat) (f : Nat) {fuel : Nat} {listed : Array Bool} {E : Env} {E' : Env}, fuel = f + is.length → pvOK ops is listed = true → pvA T n ops (pads κ σ.length) is E = some E' → TA P n m κ ops f (pvL is listed) N E' σ → TA P n m κ ops fuel listed N E σ
  | [], f, fuel, l, E, E', hf, hc, h, H => by cases h; subst hf; exact H
  | i :: is, f, fuel, l, E, E', hf, hc, h, H => by
    simp only [pvA, Option.bind_eq_some_iff] at h
    obtain ⟨o, hi, r, h1, h2⟩ := h
    simp only [pvOK, Bool.and_eq_true] at hc
    obtain ⟨⟨⟨c1, c2⟩, c3⟩, c4⟩ := hc
    split at h2
    · rename_i hd
      have H := pa hT is f (fuel := f + is.length) rfl c4 h2 H
      have hf : fuel = f + is.length + 1 := by rw [hf]; simp; omega
      subst hf
      cases pvG_ok hT h1 with
      | free hg hp => exact TA_first i _ hi hp (fun F Λ w tmps _ _ => by simp [Region.wanted, hg]) hd rfl c1 c2 c3 H
      | on hg hj hdn hl hp => exact TA_first i _ hi hp (fun F Λ w tmps hn hf => by simp [Region.wanted, hg, yielded_of hf hn hj hdn hl]) hd rfl c1 c2 c3 H
      | off hg hj hdn hl ho => exact TA_off i _ hi hg hj hdn hl ho hd rfl c1 c2 c3 H
    · cases h2
end
end Go.Sep
/- A row of its own whose elements (with their rows) stand elsewhere: a new root out of an old one. -/
set_option linter.unusedVariables false
set_option linter.unusedSimpArgs false
namespace Go.Sep
open Go
section
variable {F : Nat → Prop} {Λ : Lbl} {σ : Store} {w w' : World} {l : Nat} {xs ys : List A} {π : Nat → Option Nat}
end
section
variable {P : Program} {n m : Nat} {K : Exit → Env → Store → Prop} {E : Env} {σ : Store}
end
end Go.Sep
/- Elements of a row of its own, taken out one by one. -/
set_option linter.unusedVariables false
set_option linter.unusedSimpArgs false
namespace Go.Sep
open Go
section
variable {F : Nat → Prop} {Λ : Lbl} {σ : Store} {w : World} {s j : Nat} {xs : List A} {x : A}
theorem rowAt_ref (hs : σ[s]? = some (.box xs)) (hx : ∀ k us, x ≠ .o k us) {L : List Nat} {zs : List A} (h : rowAt (σ.set s (.box (xs.set j x))) L = some zs) :
    (L = [s] ∧ zs = xs.set j x) ∨ (L ≠ [s] ∧ rowAt σ L = some zs) := by
  have hl : s < σ.length := (List.getElem?_eq_some_iff.1 hs).1
  obtain ⟨a, p, r, us, rfl, h1, h2, h3⟩ := rowAt_some h
  by_cases e : a = s
  · subst e
    rw [List.getElem?_set_self hl] at h1
    cases h1
    simp only [Root.cells, Option.some.injEq] at h2
    subst h2
    cases p with
    | nil => simp only [sub, Option.some.injEq] at h3; exact .inl ⟨rfl, h3.symm⟩
    | cons i q =>
      refine .inr ⟨by simp, ?_⟩
      simp only [rowAt, hs, Root.cells]
      simp only [sub] at h3 ⊢
      by_cases ei : j = i
      · subst ei
        rw [List.getElem?_set] at h3
        rw [if_pos rfl] at h3
        split at h3
        · rename_i k us' hh
          split at hh
          · exact absurd (Option.some.inj hh) (hx k us')
          · cases hh
        · cases h3
      · rw [List.getElem?_set_ne ei] at h3; exact h3
  · rw [List.getElem?_set_ne (Ne.symm e)] at h1
    exact .inr ⟨by simp; intro e2; exact absurd e2 e, by simp only [rowAt, h1, h2]; exact h3⟩
theorem isBox_ref (hs : σ[s]? = some (.box xs)) {ys : List A} (L : List Nat) : isBox (σ.set s (.box ys)) L = isBox σ L := by
  have hl : s < σ.length := (List.getElem?_eq_some_iff.1 hs).1
  match L with
  | [] => rfl
  | [a] =>
    by_cases e : a = s
    · subst e; simp only [isBox, List.getElem?_set_self hl, hs]
    · simp only [isBox, List.getElem?_set_ne (Ne.symm e)]
  | _ :: _ :: _ => rfl
/-- A cell of a box, seen otherwise. -/
theorem St.refine1 (h : St F Λ σ w) (hs : σ[s]? = some (.box xs)) (hx : ∀ k us, x ≠ .o k us) (hc : ∀ b o c, Λ [s] = some (b, o) → j < xs.length → w.cell? ⟨b, o + j, none⟩ = some c → Cell F Λ w true [s, j] c x) : St F Λ (σ.set s (.box (xs.set j x))) w where
  row L zs hz := by
    rw [isBox_ref hs]
    have hrow : rowAt σ [s] = some xs := by simp only [rowAt, hs, Root.cells, Go.Sep.sub]
    rcases rowAt_ref hs hx hz with ⟨rfl, rfl⟩ | ⟨_, h1⟩
    · rcases h.row _ _ hrow with ⟨g1, rfl⟩ | ⟨b, o, cs, t, g1, g2, g3, g4⟩
      · exact .inl ⟨g1, rfl⟩
      · refine .inr ⟨b, o, cs, t, g1, g2, g3, fun i y hi => ?_⟩
        have hb : isBox σ [s] = true := by simp only [isBox, hs]
        rw [List.getElem?_set] at hi
        split at hi
        · rename_i e
          subst e
          split at hi
          · rename_i hj
            cases hi
            obtain ⟨c, g5, _⟩ := g4 j _ (List.getElem?_eq_getElem hj)
            refine ⟨c, g5, ?_⟩
            rw [hb]
            exact hc b o c g1 hj (by simp [World.cell?, g3, g5])
          · cases hi
        · exact g4 i y hi
    · exact h.row _ _ h1
  apart L zs L' zs' b o o' h1 h2 := by
    have key : ∀ L zs, rowAt (σ.set s (.box (xs.set j x))) L = some zs → ∃ zs', rowAt σ L = some zs' := fun L zs h => by
      rcases rowAt_ref hs hx h with ⟨rfl, rfl⟩ | ⟨_, h1⟩
      · exact ⟨xs, by simp only [rowAt, hs, Root.cells, Go.Sep.sub]⟩
      · exact ⟨_, h1⟩
    obtain ⟨_, k1⟩ := key _ _ h1
    obtain ⟨_, k2⟩ := key _ _ h2
    exact h.apart _ _ _ _ _ _ _ k1 k2
  old := h.old
  lab L hL := h.lab L (by simpa using hL)
theorem Step.refine1 {m : Nat} (hs : σ[s]? = some (.box xs)) (hx : ∀ k us, x ≠ .o k us) : Step m F Λ σ w F Λ (σ.set s (.box (xs.set j x))) w :=
  { os := rfl, tape := rfl, output := rfl, size := Nat.le_refl _, sizes := Sizes.refl _, keep := fun _ _ _ => rfl, mono := fun _ h => h, new := fun _ h => .inl h
    own := fun b ⟨L, zs, o, g1, g2⟩ => by
      rcases rowAt_ref hs hx g1 with ⟨rfl, rfl⟩ | ⟨_, h1⟩
      · exact .inl ⟨[s], xs, o, by simp only [rowAt, hs, Root.cells, Go.Sep.sub], g2⟩
      · exact .inl ⟨L, zs, o, h1, g2⟩
    len := by rw [List.length_set]; exact Nat.min_le_right _ _
    boxes := fun a us ha hu => by
      by_cases e : a = s
      · subst e; exact ⟨rfl, _, List.getElem?_set_self (List.getElem?_eq_some_iff.1 hu).1⟩
      · exact ⟨rfl, us, by rw [List.getElem?_set_ne (Ne.symm e)]; exact hu⟩
    kept := fun _ _ _ _ h => h }
/-- A row under a cell of a box as a root, to which the cell refers. -/
theorem Ghost.unab {m nn k : Nat} {ys : List A} {E : Env} (hs : σ[s]? = some (.box xs)) (hx : xs[j]? = some (.o k ys)) (hn : ys.length = nn * k) (hk : 0 < k) (hms : m ≤ s) (hE : nmE (pre s j) E = false) (hb : nmS (pre s j) σ = false) :
    Ghost m E σ E (σ.set s (.box (xs.set j (.m [σ.length] 0 nn k))) ++ [.row ys]) := fun F Λ w tmps hst hf => by
  have hls : s < σ.length := (List.getElem?_eq_some_iff.1 hs).1
  have hjl : j < xs.length := (List.getElem?_eq_some_iff.1 hx).1
  have hrow : rowAt σ [s] = some xs := by simp only [rowAt, hs, Root.cells, Go.Sep.sub]
  have h1 := hst.detach hs hx hb
  have h2 := Step.detach (m := m) hst hs hx hms
  have hs1 : (dtS σ s j xs ys)[s]? = some (.box (xs.set j .j)) := by
    simp only [dtS]; rw [List.getElem?_append_left (by simpa using hls), List.getElem?_set_self hls]
  have e : dtL Λ s j σ.length [s] = Λ [s] := by
    simp only [dtL]; rw [if_neg (by omega)]; simp [pre]
  have e2 : dtL Λ s j σ.length [σ.length] = Λ [s, j] := by simp only [dtL, if_true]
  have h3 := h1.refine1 (j := j) (x := .m [σ.length] 0 nn k) hs1 (fun k us h => by cases h) fun b o c hL hj hc => by
    rw [e] at hL
    obtain ⟨c', k1, k2⟩ := hst.cellAt hrow hL hx
    rw [k1] at hc
    cases hc
    have hbx : isBox σ [s] = true := by simp only [isBox, hs]
    rw [hbx] at k2
    obtain ⟨_, _, n, hn', hsl⟩ := k2
    have hnn : n = nn := Nat.eq_of_mul_eq_mul_right hk (hn'.symm.trans hn)
    subst hnn
    refine ⟨rfl, .m ?_⟩
    rcases hsl with h | ⟨bb, oo, cap, h5, h6⟩
    · exact .inl h
    · exact .inr ⟨bb, oo, cap, e2.trans h5, h6⟩
  have e3 : (dtS σ s j xs ys).set s (.box ((xs.set j .j).set j (.m [σ.length] 0 nn k))) = σ.set s (.box (xs.set j (.m [σ.length] 0 nn k))) ++ [.row ys] := by
    rw [List.set_set]
    simp only [dtS]
    rw [List.set_append_left _ _ (by simpa using hls), List.set_set]
  rw [e3] at h3
  refine ⟨F, _, h3, fun t => ?_, ?_⟩
  · exact (hf t).relabel (pre s j) (dtL_ok hst) (nmE_lk hE t)
  · have h4 := h2.trans (Step.refine1 (m := m) (j := j) (x := .m [σ.length] 0 nn k) (F := F) (Λ := dtL Λ s j σ.length) (w := w) hs1 (fun k us h => by cases h))
    rw [e3] at h4
    exact h4
end
section
variable {P : Program} {n m : Nat} {K : Exit → Env → Store → Prop} {E : Env} {σ : Store}
theorem T_gh {c : Code} {E' : Env} {σ' : Store} (hg : Ghost m E σ E' σ') (h : T P n m c K E' σ') : T P n m c K E σ := fun F Λ w tmps Q hn hs hf hq => by
  obtain ⟨F1, Λ1, h1, h2, h3⟩ := hg F Λ w tmps hs hf
  exact h F1 Λ1 w tmps Q hn h1 h2 fun e F2 Λ2 σ2 w2 tmps2 E2 hn2 hs2 hf2 hst2 hK => hq e F2 Λ2 σ2 w2 tmps2 E2 hn2 hs2 hf2 (h3.trans hst2) hK
/-- Element i of a row is opened: what it leads to becomes a root. Elements are known as (none: whole; some none: gone; some (some r): open, its row is root r). -/
theorem T_take {α : Type} {f : (Option (Option Nat)) × α → List A} {k : Nat} (s i off : Nat) {c : Code} {ys : List ((Option (Option Nat)) × α)} {v : α} {us : List A} {nn kk : Nat} (hf : ∀ x, (f x).length = k) (hs : σ[s]? = some (.row (flat f ys))) (hv : ys[i]? = some (none, v))
    (ho : (f (none, v))[off]? = some (.o kk us)) (hr : f (some (some σ.length), v) = (f (none, v)).set off (.m [σ.length] 0 nn kk)) (hn : us.length = nn * kk) (hk : 0 < kk) (hms : m ≤ s) (hE : nmE (pre s (i * k + off)) E = false) (hb : nmS (pre s (i * k + off)) (σ.set s (.box (flat f ys))) = false)
    (h : T P n m c K E (σ.set s (.box (flat f (ys.set i (some (some σ.length), v)))) ++ [Root.row us])) : T P n m c K E σ := by
  have hls : s < σ.length := (List.getElem?_eq_some_iff.1 hs).1
  have hoff : off < k := by have := (List.getElem?_eq_some_iff.1 ho).1; rwa [hf] at this
  refine T_gh (σ' := σ.set s (.box (flat f ys))) (E' := E) (fun F Λ w tmps h1 h2 => ⟨F, Λ, h1.rekind (r' := .box (flat f ys)) hs rfl rfl fun c x _ L hc => hc.boxed, h2, Step.rekind hs rfl rfl hms⟩) ?_
  refine T_gh (Ghost.unab (s := s) (j := i * k + off) (xs := flat f ys) (ys := us) (nn := nn) (k := kk) (List.getElem?_set_self hls) (flat_at' hf hv ho) hn hk hms hE hb) ?_
  have e := flat_setF hf ys i off (none, v) (some (some σ.length), v) [.m [σ.length] 0 nn kk] hv (by simp; omega) (by rw [hr, spl_one])
  rw [spl_one] at e
  rw [List.length_set, List.set_set, e]
  exact h
/-- Element i, opened before, is gone; the row is a row again. -/
theorem T_gone {α : Type} {f : (Option (Option Nat)) × α → List A} {k : Nat} (s i off : Nat) {c : Code} {ys : List ((Option (Option Nat)) × α)} {v : α} {r : Nat} (hf : ∀ x, (f x).length = k) (hs : σ[s]? = some (.box (flat f (ys.set i (some (some r), v))))) (hi : i < ys.length)
    (hoff : off < k) (hr : f (some none, v) = (f (some (some r), v)).set off .j) (hb : ∀ x ∈ ys.set i (some none, v), rowB (f x) = true) (hms : m ≤ s)
    (h : T P n m c K E (σ.set s (.row (flat f (ys.set i (some none, v)))))) : T P n m c K E σ := by
  have hls : s < σ.length := (List.getElem?_eq_some_iff.1 hs).1
  have e := flat_setF hf (ys.set i (some (some r), v)) i off (some (some r), v) (some none, v) [.j] (List.getElem?_set_self hi) (by simp; omega) (by rw [hr, spl_one])
  rw [spl_one, List.set_set] at e
  refine T_gh (σ' := σ.set s (.box (flat f (ys.set i (some none, v))))) (E' := E) (fun F Λ w tmps h1 h2 => ⟨F, Λ, ?_, h2, ?_⟩) ?_
  · have := h1.refine1 (j := i * k + off) (x := .j) hs (fun k us h => by cases h) fun _ _ _ _ _ _ => trivial
    rwa [e] at this
  · have := Step.refine1 (m := m) (F := F) (Λ := Λ) (w := w) (j := i * k + off) (x := .j) hs (fun k us h => by cases h)
    rwa [e] at this
  · have hB : rowB (flat f (ys.set i (some none, v))) = true := by
      simp only [rowB, List.all_eq_true]
      intro x hx
      obtain ⟨y, h1, h2⟩ := mem_flat hx
      have := hb y h1
      simp only [rowB, List.all_eq_true] at this
      exact this x h2
    refine T_gh (σ' := (σ.set s (.box (flat f (ys.set i (some none, v))))).set s (.row (flat f (ys.set i (some none, v))))) (E' := E) (fun F Λ w tmps h1 h2 => ⟨F, Λ, h1.rekind (r' := .row (flat f (ys.set i (some none, v)))) (List.getElem?_set_self hls) rfl rfl fun c x hx L hc => hc.rowed (by simp only [rowB, List.all_eq_true] at hB; exact hB x hx), h2, Step.rekind (List.getElem?_set_self hls) rfl rfl hms⟩) ?_
    rw [List.set_set]; exact h
end
end Go.Sep
namespace Go.Sep
open Go
theorem namesL_flatF {α : Type} {f : α → List A} {p : List Nat → Bool} : ∀ {ys : List α}, (∀ y ∈ ys, namesL p (f y) = false) → namesL p (flat f ys) = false
  | [], _ => rfl
  | y :: ys, h => by
    have e : flat f (y :: ys) = f y ++ flat f ys := rfl
    rw [e, namesL_append, h y (List.mem_cons_self ..), namesL_flatF fun z hz => h z (List.mem_cons_of_mem _ hz)]
    rfl
theorem noNm_box {l l' : Nat} {xs : List A} {σ : Store} (h : namesL (fun L => L.headD 0 == l || L.headD 0 == l') xs = false) (hs : noNm l l' σ = true) : noNm l l' (.box xs :: σ) = true := by
  simp only [noNm, List.all_cons, h, Bool.not_false, Bool.true_and]; exact hs
theorem noNm_row {l l' : Nat} {xs : List A} {σ : Store} (hs : noNm l l' σ = true) : noNm l l' (.row xs :: σ) = true := hs
theorem noNm_dead {l l' : Nat} {σ : Store} (hs : noNm l l' σ = true) : noNm l l' (.dead :: σ) = true := hs
theorem flat_none {α : Type} {f : (Option (Option Nat)) × α → List A} {g : α → List A} (h : ∀ x, f (none, x) = g x) : ∀ xs : List α, flat f (xs.map fun x => (none, x)) = flat g xs
  | [] => rfl
  | x :: xs => by
    have e1 : flat f ((x :: xs).map fun x => (none, x)) = f (none, x) ++ flat f (xs.map fun x => (none, x)) := rfl
    have e2 : flat g (x :: xs) = g x ++ flat g xs := rfl
    rw [e1, e2, h, flat_none h xs]
/-- A loop over a list that came to its end: no round broke it off. -/
theorem forL_allN {α R : Type} {f : Int → α → Unit → Option (Ctl Unit R)} (hb : ∀ i x s, f i x () ≠ some (.brk s)) : ∀ (xs : List α) (i : Int), forL f xs i () = some (.inl ()) → ∀ (n : Nat) x, xs[n]? = some x → f (i + n) x () = some (.next ())
  | [], i, _, n, x, hx => by simp at hx
  | y :: ys, i, h, n, x, hx => by
    simp only [forL] at h
    cases hf : f i y () with
    | none => rw [hf] at h; cases h
    | some c =>
      rw [hf] at h
      cases c with
      | next s =>
        cases n with
        | zero => simp only [List.getElem?_cons_zero, Option.some.injEq] at hx; subst hx; simpa using hf
        | succ n =>
          have := forL_allN hb ys (i + 1) h n x (by simpa using hx)
          rw [show i + ((n + 1 : Nat) : Int) = i + 1 + (n : Int) by omega]; exact this
      | brk s => exact absurd hf (hb i y s)
      | ret r => simp only [Option.bind_some] at h; cases h
end Go.Sep
/- Contracts of Go's library functions that are proved once in the kit, as contracts of this calculus. -/
set_option linter.unusedVariables false
set_option linter.unusedSimpArgs false
namespace Go.Sep
open Go
theorem flat_int_get (zs : List Int) (j : Nat) : (flat tInt.enc zs)[j]? = (zs[j]?).map intA := by
  induction zs generalizing j with
  | nil => rfl
  | cons z zs ih =>
    have e : flat tInt.enc (z :: zs) = intA z :: flat tInt.enc zs := rfl
    rw [e]
    cases j with
    | zero => rfl
    | succ j => simp only [List.getElem?_cons_succ]; exact ih j
/-- What a row of numbers is in a world, in the words of the kit's sort. -/
theorem St.holds {F Λ σ w} (hs : St F Λ σ w) {l : Nat} {zs : List Int} (hr : σ[l]? = some (.row (flat tInt.enc zs))) {v : Value} (hv : OK F Λ w v (.m [l] 0 zs.length 1)) :
    (zs = [] ∧ ∃ ad, v = .slice ad 0 0) ∨ ∃ b o cap cs t, Λ [l] = some (b, o) ∧ v = .slice (some ⟨b, o, none⟩) zs.length cap ∧ zs.length ≤ cap ∧ b < w.heap.size ∧ w.heap[b]? = some (.cells cs t (0, 0)) ∧ o + zs.length ≤ cs.size ∧ Sort.Holds (Value.int .i64) w b o zs.toArray := by
  rcases hv.m_inv with ⟨h0, ad, h1⟩ | ⟨b, o, cap, hL, h1, h2, h3, cs, t, h4, h5⟩
  · exact .inl ⟨List.eq_nil_of_length_eq_zero h0, ad, h1⟩
  · have hrow : rowAt σ [l] = some (flat tInt.enc zs) := by simp only [rowAt, hr, Root.cells, Go.Sep.sub]
    refine .inr ⟨b, o, cap, cs, t, hL, by rw [Nat.add_zero] at h1; exact h1, h2, (Array.getElem?_eq_some_iff.1 h4).1, h4, by omega, fun j hj => ?_⟩
    have hj' : j < zs.length := by simpa using hj
    obtain ⟨c, g1, g2⟩ := hs.cellAt hrow hL (d := j) (y := intA zs[j]) (by rw [flat_int_get, List.getElem?_eq_getElem hj']; rfl)
    have g3 : c = .int .i64 zs[j] := (g2.2 : OK F Λ w c (intA zs[j])).v_inv
    refine ⟨?_, by simp [World.frozen?, h4]⟩
    rw [g1, g3, getElem!_pos _ j hj]
    simp
end Go.Sep


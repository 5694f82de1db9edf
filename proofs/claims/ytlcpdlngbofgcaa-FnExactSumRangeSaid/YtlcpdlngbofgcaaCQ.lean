/- What the printed walks stand on: typed encodings, partial models, loops over lists and counts, joins. -/
import Derived.Test.YtlcpdlngbofgcaaCP
set_option linter.unusedVariables false
set_option linter.unusedSimpArgs false
namespace Go.Sep
open Go

/-! ### typed encodings -/
mutual
/-- Cells that lead nowhere but to rows of their own. -/
def ownR : A → Bool
  | .v x => sc x
  | .n => true
  | .o k ys => decide (0 < k) && ownRL ys
  | .j => false
  | .i _ _ => false
  | .m _ _ _ _ => false
  | .e _ _ => false
  | .b _ _ => false
  | .q _ _ => false
  | .g _ => false
  | .t _ => false
  | .f _ _ => false
def ownRL : List A → Bool
  | [] => true
  | x :: xs => ownR x && ownRL xs
end
theorem ownRL_app {xs ys : List A} (h : ownRL xs = true) (h2 : ownRL ys = true) : ownRL (xs ++ ys) = true := by
  induction xs with
  | nil => exact h2
  | cons x xs ih => simp only [ownRL, Bool.and_eq_true, List.cons_append] at *; exact ⟨h.1, ih h.2⟩
theorem cellAllB_app {xs ys : List A} (h : cellAllB xs = true) (h2 : cellAllB ys = true) : cellAllB (xs ++ ys) = true := by
  simp only [cellAllB, List.all_append, Bool.and_eq_true] at *; exact ⟨h, h2⟩
theorem firmL_app {xs ys : List A} (h : firmL xs = true) (h2 : firmL ys = true) : firmL (xs ++ ys) = true := by
  induction xs with
  | nil => exact h2
  | cons x xs ih => simp only [firmL, Bool.and_eq_true, List.cons_append] at *; exact ⟨h.1, ih h.2⟩
theorem fzL_app (xs ys : List A) : fzL (xs ++ ys) = fzL xs ++ fzL ys := by simp [fzL_map]

/-- How a Go type's values stand in cells: 'enc' with its slices seen as what nobody writes, 'own' with its slices as rows of their own. -/
structure Ty (α : Type) where
  k : Nat
  enc : α → List A
  own : α → List A
  pos : 0 < k
  len : ∀ x, (enc x).length = k
  lenO : ∀ x, (own x).length = k
  cell : ∀ x, cellAllB (enc x) = true
  loose : ∀ x, looseL (enc x) = true
  firm : ∀ x, firmL (enc x) = true
  fz : ∀ x, fzL (enc x) = enc x
  firmO : ∀ x, firmL (own x) = true
  fzO : ∀ x, fzL (own x) = enc x
  ownR : ∀ x, ownRL (own x) = true

def tI (k : IntKind) : Ty Int := ⟨1, fun z => [.v (.int k z)], fun z => [.v (.int k z)], by decide, fun _ => rfl, fun _ => rfl, fun _ => rfl, fun _ => rfl, fun _ => rfl, fun _ => rfl, fun _ => rfl, fun _ => rfl, fun _ => rfl⟩
abbrev tInt : Ty Int := tI .i64
def tBool : Ty Bool := ⟨1, fun z => [boolA z], fun z => [boolA z], by decide, fun _ => rfl, fun _ => rfl, fun _ => rfl, fun _ => rfl, fun _ => rfl, fun _ => rfl, fun _ => rfl, fun _ => rfl, fun _ => rfl⟩
def tStr : Ty ByteArray := ⟨1, fun z => [strA z], fun z => [strA z], by decide, fun _ => rfl, fun _ => rfl, fun _ => rfl, fun _ => rfl, fun _ => rfl, fun _ => rfl, fun _ => rfl, fun _ => rfl, fun _ => rfl⟩
theorem flat_all {α : Type} {f : α → List A} {p : List A → Prop} (h0 : p []) (ha : ∀ xs ys, p xs → p ys → p (xs ++ ys)) (h : ∀ x, p (f x)) : ∀ xs : List α, p (flat f xs)
  | [] => h0
  | x :: xs => ha _ _ (h x) (flat_all h0 ha h xs)
theorem flat_fz {α : Type} {f g : α → List A} (h : ∀ x, fzL (f x) = g x) : ∀ xs : List α, fzL (flat f xs) = flat g xs
  | [] => rfl
  | x :: xs => by simp only [flat, fzL_app, h, flat_fz h xs]
theorem flat_cell {α : Type} (T : Ty α) (xs : List α) : cellAllB (flat T.enc xs) = true := flat_all (p := fun l => cellAllB l = true) rfl (fun _ _ => cellAllB_app) T.cell xs
theorem flat_loose {α : Type} (T : Ty α) (xs : List α) : looseL (flat T.enc xs) = true := flat_all (p := fun l => looseL l = true) rfl (fun _ _ => looseL_app) T.loose xs
theorem flat_firm {α : Type} (T : Ty α) (xs : List α) : firmL (flat T.enc xs) = true := flat_all (p := fun l => firmL l = true) rfl (fun _ _ => firmL_app) T.firm xs
theorem flat_firmO {α : Type} (T : Ty α) (xs : List α) : firmL (flat T.own xs) = true := flat_all (p := fun l => firmL l = true) rfl (fun _ _ => firmL_app) T.firmO xs
theorem flat_ownR {α : Type} (T : Ty α) (xs : List α) : ownRL (flat T.own xs) = true := flat_all (p := fun l => ownRL l = true) rfl (fun _ _ => ownRL_app) T.ownR xs
theorem dec_pos {k : Nat} (h : 0 < k) : decide (0 < k) = true := decide_eq_true h
/-- Slices. -/
def tSl {α : Type} (T : Ty α) : Ty (List α) :=
  ⟨1, fun xs => [.i T.k (flat T.enc xs)], fun xs => [.o T.k (flat T.own xs)], by decide, fun _ => rfl, fun _ => rfl, fun _ => rfl, fun _ => rfl, fun _ => rfl, fun _ => rfl,
   fun xs => by simp [firmL, Go.Sep.firm, dec_pos T.pos, flat_firmO], fun xs => by simp [fzL, Go.Sep.fz, flat_fz T.fzO], fun xs => by simp [ownRL, Go.Sep.ownR, dec_pos T.pos, flat_ownR]⟩
/-- Two fields. -/
def tP {α β : Type} (T : Ty α) (U : Ty β) : Ty (α × β) :=
  ⟨T.k + U.k, fun x => T.enc x.1 ++ U.enc x.2, fun x => T.own x.1 ++ U.own x.2, Nat.add_pos_left T.pos _, fun x => by simp [T.len, U.len], fun x => by simp [T.lenO, U.lenO],
   fun x => cellAllB_app (T.cell _) (U.cell _), fun x => looseL_app (T.loose _) (U.loose _), fun x => firmL_app (T.firm _) (U.firm _), fun x => by rw [fzL_app, T.fz, U.fz],
   fun x => firmL_app (T.firmO _) (U.firmO _), fun x => by rw [fzL_app, T.fzO, U.fzO], fun x => ownRL_app (T.ownR _) (U.ownR _)⟩
/-- The same cells, read as another type. -/
def tAs {α β : Type} (f : β → α) (T : Ty α) : Ty β :=
  ⟨T.k, fun x => T.enc (f x), fun x => T.own (f x), T.pos, fun _ => T.len _, fun _ => T.lenO _, fun _ => T.cell _, fun _ => T.loose _, fun _ => T.firm _, fun _ => T.fz _, fun _ => T.firmO _, fun _ => T.fzO _, fun _ => T.ownR _⟩
/-- A slice that nobody writes. -/
abbrev sl {α : Type} (T : Ty α) (xs : List α) : A := .i T.k (flat T.enc xs)

theorem flat_at' {α : Type} {f : α → List A} {k : Nat} (hk : ∀ x, (f x).length = k) {xs : List α} {i off : Nat} {v : α} {y : A} (hv : xs[i]? = some v) (hj : (f v)[off]? = some y) : (flat f xs)[i * k + off]? = some y := by
  have hi : i < xs.length := (List.getElem?_eq_some_iff.1 hv).1
  have hof : off < k := by have := (List.getElem?_eq_some_iff.1 hj).1; rwa [hk] at this
  letI : Inhabited α := ⟨v⟩
  have e : xs.getD i default = v := by simp [List.getD, hv]
  rw [flat_get hk xs i off hi hof, e]; exact hj
theorem flat_cut {α : Type} {f : α → List A} {k : Nat} (hk : ∀ x, (f x).length = k) {xs : List α} {i off k' : Nat} {v : α} (hv : xs[i]? = some v) (ho : off + k' ≤ k) : ((flat f xs).drop (i * k + off)).take k' = ((f v).drop off).take k' := by
  apply List.ext_getElem?
  intro j
  rcases Nat.lt_or_ge j k' with hj | hj
  · have hlt : off + j < (f v).length := by rw [hk]; omega
    rw [List.getElem?_take_of_lt hj, List.getElem?_drop, List.getElem?_take_of_lt hj, List.getElem?_drop, Nat.add_assoc]
    rw [flat_at' hk hv (List.getElem?_eq_getElem hlt), List.getElem?_eq_getElem hlt]
  · rw [List.getElem?_eq_none (by simp; omega), List.getElem?_eq_none (by simp; omega)]
theorem flat_n {α : Type} {f : α → List A} {k : Nat} (hk : ∀ x, (f x).length = k) {xs : List α} {i off k' : Nat} {v : α} (hv : xs[i]? = some v) (ho : off + k' ≤ k) : i * k + off + k' ≤ (flat f xs).length := by
  have hi : i < xs.length := (List.getElem?_eq_some_iff.1 hv).1
  rw [flat_len hk]
  have : i * k + k ≤ xs.length * k := by rw [← Nat.succ_mul]; exact Nat.mul_le_mul_right _ hi
  omega

/-! ### the words of the models -/
def w64 (x : Int) : Int := IntKind.i64.wrap x
theorem w64_eq {x : Int} (h1 : -9223372036854775808 ≤ x) (h2 : x ≤ 9223372036854775807) : w64 x = x := (fits64 h1 h2).symm
theorem fits_w {k : IntKind} {x : Int} : Fits k x (k.wrap x) := rfl
/-- xs[i], in Go. -/
def getI {α : Type} (xs : List α) (i : Int) : Option α := if 0 ≤ i then xs[i.toNat]? else none
theorem getI_inv {α : Type} {xs : List α} {i : Int} {v : α} (h : getI xs i = some v) : ∃ n : Nat, i = (n : Int) ∧ xs[n]? = some v := by
  unfold getI at h
  split at h
  · exact ⟨i.toNat, by omega, h⟩
  · cases h
theorem getI_nat {α : Type} (xs : List α) (n : Nat) : getI xs (n : Int) = xs[n]? := by simp [getI]
theorem getI_lt {α : Type} {xs : List α} {n : Nat} (h : n < xs.length) : getI xs (n : Int) = some xs[n] := by rw [getI_nat]; exact List.getElem?_eq_getElem h
/-- append, where there is room in the machine; b: the bytes of an element. -/
def app {α : Type} (b : Nat) (xs ys : List α) : Option (List α) := if (xs.length + ys.length) * b ≤ 140737488355328 then some (xs ++ ys) else none
theorem app_inv {α : Type} {b : Nat} {xs ys zs : List α} (h : app b xs ys = some zs) : zs = xs ++ ys ∧ (xs.length + ys.length) * b ≤ 140737488355328 := by
  unfold app at h
  split at h
  · exact ⟨by simpa using h.symm, by assumption⟩
  · cases h
theorem app_ok {α : Type} {b : Nat} {xs ys : List α} (h : (xs.length + ys.length) * b ≤ 140737488355328) : app b xs ys = some (xs ++ ys) := if_pos h
/-- make, where there is room. -/
def mk {α : Type} (b : Nat) (n : Int) (z : α) : Option (List α) := if 0 ≤ n ∧ b * n.toNat ≤ 281474976710656 ∧ n ≤ 1099511627776 then some (List.replicate n.toNat z) else none
theorem mk_inv {α : Type} {b : Nat} {n : Int} {z : α} {zs : List α} (h : mk b n z = some zs) : ∃ k : Nat, n = (k : Int) ∧ zs = List.replicate k z ∧ b * k ≤ 281474976710656 ∧ k ≤ 1099511627776 := by
  unfold mk at h
  split at h
  · rename_i h1; exact ⟨n.toNat, by omega, by simpa using h.symm, h1.2.1, by omega⟩
  · cases h
theorem mk_ok {α : Type} {b k : Nat} {z : α} (h1 : b * k ≤ 281474976710656) (h2 : k ≤ 1099511627776) : mk b (k : Int) z = some (List.replicate k z) := by
  unfold mk; rw [if_pos (by simp; omega)]; simp
/-- A count that a whole number of Go's can reach. -/
def gN (n : Int) : Option Unit := if n ≤ 9223372036854775807 then some () else none
theorem gN_inv {n : Int} {u} (h : gN n = some u) : n ≤ 9223372036854775807 := by
  unfold gN at h; split at h
  · assumption
  · cases h
theorem gN_ok {n : Int} (h : n ≤ 9223372036854775807) : gN n = some () := if_pos h
/-- A divisor. -/
def gD (b : Int) : Option Unit := if b ≠ 0 then some () else none
theorem gD_inv {b : Int} {u} (h : gD b = some u) : b ≠ 0 := by
  unfold gD at h; split at h
  · assumption
  · cases h
theorem gD_ok {b : Int} (h : b ≠ 0) : gD b = some () := if_pos h
theorem bind_inv {α β : Type} {o : Option α} {f : α → Option β} {r : β} (h : o.bind f = some r) : ∃ v, o = some v ∧ f v = some r := by
  cases o with
  | none => cases h
  | some v => exact ⟨v, rfl, h⟩
theorem cond_t {α : Type} {b : Bool} {x y : α} {r : α} (h : b = true) (H : cond b x y = r) : x = r := by subst h; exact H
theorem cond_f {α : Type} {b : Bool} {x y : α} {r : α} (h : b = false) (H : cond b x y = r) : y = r := by subst h; exact H

/-! ### loops of the models -/
inductive Ctl (S R : Type) where
  | next (s : S)
  | brk (s : S)
  | ret (r : R)
/-- 'for i, x := range xs', with breaks and returns. -/
def forL {α S R : Type} (body : Int → α → S → Option (Ctl S R)) : List α → Int → S → Option (S ⊕ R)
  | [], _, s => some (.inl s)
  | x :: xs, i, s => (body i x s).bind fun c => match c with
    | .next s' => forL body xs (i + 1) s'
    | .brk s' => some (.inl s')
    | .ret r => some (.inr r)
/-- 'for i := range n'. -/
def forN {S R : Type} (body : Int → S → Option (Ctl S R)) : Nat → Int → S → Option (S ⊕ R)
  | 0, _, s => some (.inl s)
  | k + 1, i, s => (body i s).bind fun c => match c with
    | .next s' => forN body k (i + 1) s'
    | .brk s' => some (.inl s')
    | .ret r => some (.inr r)
/-- 'for ..', u rounds at most. -/
def whileF {S R : Type} (body : S → Option (Ctl S R)) : Nat → S → Option (S ⊕ R)
  | 0, _ => none
  | k + 1, s => (body s).bind fun c => match c with
    | .next s' => whileF body k s'
    | .brk s' => some (.inl s')
    | .ret r => some (.inr r)
/-- Neither breaks nor returns. -/
def forS {α S : Type} (body : Int → α → S → Option S) : List α → Int → S → Option S
  | [], _, s => some s
  | x :: xs, i, s => (body i x s).bind fun s' => forS body xs (i + 1) s'
def forM {S : Type} (body : Int → S → Option S) : Nat → Int → S → Option S
  | 0, _, s => some s
  | k + 1, i, s => (body i s).bind fun s' => forM body k (i + 1) s'
def onS {S R X : Type} (o : S ⊕ R) (K : S → Option X) (L : R → Option X) : Option X := match o with
  | .inl s => K s
  | .inr r => L r

section
variable {α S R : Type} {xs : List α} {i : Nat} {s : S}
def forLk (body : Int → α → S → Option (Ctl S R)) (xs : List α) (i : Nat) : Ctl S R → Option (S ⊕ R)
  | .next s' => forL body (xs.drop (i + 1)) ((i + 1 : Nat) : Int) s'
  | .brk s' => some (.inl s')
  | .ret r => some (.inr r)
theorem forL_step {body : Int → α → S → Option (Ctl S R)} {o : S ⊕ R} (h : forL body (xs.drop i) (i : Int) s = some o) {v : α} (hv : xs[i]? = some v) : ∃ c, body i v s = some c ∧ forLk body xs i c = some o := by
  have hi : i < xs.length := (List.getElem?_eq_some_iff.1 hv).1
  have e : xs.drop i = v :: xs.drop (i + 1) := by
    rw [List.drop_eq_getElem_cons hi]; congr 1; rw [List.getElem?_eq_getElem hi] at hv; exact Option.some.inj hv
  rw [e] at h
  obtain ⟨c, h1, h2⟩ := bind_inv h
  refine ⟨c, h1, ?_⟩
  cases c <;> exact h2
theorem forL_end {body : Int → α → S → Option (Ctl S R)} {o : S ⊕ R} (h : forL body (xs.drop i) (i : Int) s = some o) (hi : xs.length ≤ i) : o = .inl s := by
  rw [List.drop_eq_nil_of_le hi] at h; simpa [forL] using h.symm
theorem forS_step {body : Int → α → S → Option S} {o : S} (h : forS body (xs.drop i) (i : Int) s = some o) {v : α} (hv : xs[i]? = some v) : ∃ s', body i v s = some s' ∧ forS body (xs.drop (i + 1)) ((i + 1 : Nat) : Int) s' = some o := by
  have hi : i < xs.length := (List.getElem?_eq_some_iff.1 hv).1
  have e : xs.drop i = v :: xs.drop (i + 1) := by
    rw [List.drop_eq_getElem_cons hi]; congr 1; rw [List.getElem?_eq_getElem hi] at hv; exact Option.some.inj hv
  rw [e] at h
  exact bind_inv h
theorem forS_end {body : Int → α → S → Option S} {o : S} (h : forS body (xs.drop i) (i : Int) s = some o) (hi : xs.length ≤ i) : s = o := by
  rw [List.drop_eq_nil_of_le hi] at h; simpa [forS] using h
def forNk (body : Int → S → Option (Ctl S R)) (k : Nat) (i : Int) : Ctl S R → Option (S ⊕ R)
  | .next s' => forN body k (i + 1) s'
  | .brk s' => some (.inl s')
  | .ret r => some (.inr r)
theorem forN_step {body : Int → S → Option (Ctl S R)} {n i : Int} {o : S ⊕ R} (h : forN body (n - i).toNat i s = some o) (hi : i < n) : ∃ c, body i s = some c ∧ forNk body (n - (i + 1)).toNat i c = some o := by
  have e : (n - i).toNat = (n - (i + 1)).toNat + 1 := by omega
  rw [e] at h
  obtain ⟨c, h1, h2⟩ := bind_inv h
  refine ⟨c, h1, ?_⟩
  cases c <;> exact h2
theorem forN_end {body : Int → S → Option (Ctl S R)} {n i : Int} {o : S ⊕ R} (h : forN body (n - i).toNat i s = some o) (hi : n ≤ i) : o = .inl s := by
  rw [show (n - i).toNat = 0 by omega] at h; simpa [forN] using h.symm
theorem forM_step {body : Int → S → Option S} {n i : Int} {o : S} (h : forM body (n - i).toNat i s = some o) (hi : i < n) : ∃ s', body i s = some s' ∧ forM body (n - (i + 1)).toNat (i + 1) s' = some o := by
  have e : (n - i).toNat = (n - (i + 1)).toNat + 1 := by omega
  rw [e] at h
  exact bind_inv h
theorem forM_end {body : Int → S → Option S} {n i : Int} {o : S} (h : forM body (n - i).toNat i s = some o) (hi : n ≤ i) : s = o := by
  rw [show (n - i).toNat = 0 by omega] at h; simpa [forM] using h
def whileK (body : S → Option (Ctl S R)) (k : Nat) : Ctl S R → Option (S ⊕ R)
  | .next s' => whileF body k s'
  | .brk s' => some (.inl s')
  | .ret r => some (.inr r)
theorem while_step {body : S → Option (Ctl S R)} {k : Nat} {o : S ⊕ R} (h : whileF body k s = some o) : ∃ k', k = k' + 1 ∧ ∃ c, body s = some c ∧ whileK body k' c = some o := by
  cases k with
  | zero => cases h
  | succ k =>
    obtain ⟨c, h1, h2⟩ := bind_inv h
    refine ⟨k, rfl, c, h1, ?_⟩
    cases c <;> exact h2
end

section
variable {P : Program} {n m : Nat} {K : Exit → Env → Store → Prop} {N : Env → Store → Prop} {E : Env} {σ : Store} {ops : Array Oper} {os : List Oper} {o : Oper}
/-- What the state itself tells. -/
theorem T_fact {c : Code} {p : Prop} (hp : ∀ F Λ w tmps, St F Λ σ w → FrOK F Λ w tmps E → p) (h : p → T P n m c K E σ) : T P n m c K E σ := fun F Λ w tmps Q hn hs hf hq => h (hp F Λ w tmps hs hf) F Λ w tmps Q hn hs hf hq
theorem TO_fact {p : Prop} (hp : ∀ F Λ w tmps, St F Λ σ w → FrOK F Λ w tmps E → p) (h : p → TO P n m ops os N E σ) : TO P n m ops os N E σ := fun F Λ w tmps Q hn hs hf hq => h (hp F Λ w tmps hs hf) F Λ w tmps Q hn hs hf hq
theorem TQ_fact {p : Prop} (hp : ∀ F Λ w tmps, St F Λ σ w → FrOK F Λ w tmps E → p) (h : p → TQ P n m ops os N E σ) : TQ P n m ops os N E σ := fun F Λ w tmps Q hn hs hf hq => h (hp F Λ w tmps hs hf) F Λ w tmps Q hn hs hf hq
theorem len_sl {α : Type} {T : Ty α} {xs : List α} (x : Operand) (hx : val E x = sl T xs) : ∀ F Λ w tmps, St F Λ σ w → FrOK F Λ w tmps E → xs.length ≤ 9223372036854775807 := fun F Λ w tmps hs hf => by
  have h1 := val_ok (ds := []) hf x
  rw [hx] at h1
  rcases h1.i_inv T.pos (flat_len T.len xs) with ⟨h0, _⟩ | ⟨_, _, _, _, _, h2, _⟩
  · omega
  · simpa [maxLen] using h2
theorem len_m {L : List Nat} {a k nn : Nat} (x : Operand) (hx : val E x = .m L a nn k) : ∀ F Λ w tmps, St F Λ σ w → FrOK F Λ w tmps E → nn ≤ 9223372036854775807 := fun F Λ w tmps hs hf => by
  have h1 := val_ok (ds := []) hf x
  rw [hx] at h1
  rcases h1.m_inv with ⟨h0, _⟩ | ⟨_, _, cap, _, _, h3, h4, _⟩
  · omega
  · simp only [maxLen] at h4; omega
end
end Go.Sep

/- Handy forms of the rules, for texts that a program prints. -/
import Derived.Test.YtlcpdlngbofgcaaCD
set_option linter.unusedVariables false
set_option linter.unusedSimpArgs false
namespace Go.Sep
open Go

/-! ### keeping slots -/
def pick (ts : List Nat) (E : Env) : Env := ts.map fun t => (t, lk E t)
theorem pick_ok (ts : List Nat) (E : Env) : ∀ p ∈ pick ts E, lk E p.1 = p.2 := by
  intro p hp
  obtain ⟨t, _, rfl⟩ := List.mem_map.1 hp
  rfl
/-- The slots of E' hold in E. -/
def Pk (E : Env) : Env → Prop
  | [] => True
  | (t, a) :: E' => lk E t = a ∧ Pk E E'
theorem Pk.all {E : Env} : ∀ {E' : Env}, Pk E E' → ∀ p ∈ E', lk E p.1 = p.2
  | [], _, p, hp => by cases hp
  | (t, a) :: E', h, p, hp => by
    rcases List.mem_cons.1 hp with rfl | hp
    · exact h.1
    · exact Pk.all h.2 p hp
def namesE (k : Nat) : Env → Bool
  | [] => false
  | (_, a) :: E => a.names (fun L => decide (k ≤ L.headD 0)) || namesE k E
theorem namesE_all {k : Nat} : ∀ {E : Env}, namesE k E = false → ∀ p ∈ E, p.2.names (fun L => decide (k ≤ L.headD 0)) = false
  | [], _, p, hp => by cases hp
  | (t, a) :: E', h, p, hp => by
    simp only [namesE, Bool.or_eq_false_iff] at h
    rcases List.mem_cons.1 hp with rfl | hp
    · exact h.1
    · exact namesE_all h.2 p hp
def boxesE (k : Nat) : Store → Bool
  | [] => false
  | r :: σ => boxNames k r || boxesE k σ
theorem boxesE_all {k : Nat} : ∀ {σ : Store}, boxesE k σ = false → ∀ r ∈ σ, boxNames k r = false
  | [], _, p, hp => by cases hp
  | a :: E', h, p, hp => by
    simp only [boxesE, Bool.or_eq_false_iff] at h
    rcases List.mem_cons.1 hp with rfl | hp
    · exact h.1
    · exact boxesE_all h.2 p hp
theorem Weak.to {m E σ E' σ'} (k : Nat) (hm : m ≤ k) (hσ : σ' = σ.take k) (h1 : namesE k E' = false) (h2 : boxesE k σ' = false) (hE : Pk E E') : Weak m E σ E' σ' :=
  ⟨hE.all, k, hm, hσ, namesE_all h1, boxesE_all h2⟩
/-- Nothing is owned. -/
theorem Weak.to0 {E E'} (h1 : namesE 0 E' = false) (hE : Pk E E') : Weak 0 E [] E' [] := Weak.to 0 (Nat.le_refl _) rfl h1 rfl hE

section
variable {P : Program} {n m : Nat} {K : Exit → Env → Store → Prop} {N : Env → Store → Prop} {E : Env} {σ : Store} {ops : Array Oper} {os : List Oper} {o : Oper}
theorem T_keep (ts : List Nat) {c : Code} (h : T P n m c K (pick ts E) σ) : T P n m c K E σ := fun F Λ w tmps Q hn hs hf hq =>
  h F Λ w tmps Q hn hs (hf.weak (pick_ok ts E)) hq
theorem TO_keep (ts : List Nat) (h : TO P n m ops os N (pick ts E) σ) : TO P n m ops os N E σ := fun F Λ w tmps Q hn hs hf hq =>
  h F Λ w tmps Q hn hs (hf.weak (pick_ok ts E)) hq
/-- The slots that are kept, under given values. -/
theorem T_env {c : Code} {E' : Env} (hE : Pk E E') (h : T P n m c K E' σ) : T P n m c K E σ := fun F Λ w tmps Q hn hs hf hq =>
  h F Λ w tmps Q hn hs (hf.weak hE.all) hq

/-- A test that operations wait for. -/
theorem TO_split (d : Nat) {t : Bool} (hl : lk E d = .v (.bool t)) (h1 : t = true → TO P n m ops os N ((d, .v (.bool true)) :: E) σ) (h2 : t = false → TO P n m ops os N ((d, .v (.bool false)) :: E) σ) : TO P n m ops os N E σ := fun F Λ w tmps Q hn hs hf hq => by
  have hset : ∀ t', t = t' → FrOK F Λ w tmps ((d, .v (.bool t')) :: E) := fun t' ht u => by
    subst ht
    simp only [lk]
    split
    · rename_i e; subst e; rw [← hl]; exact hf d
    · exact hf u
  cases t with
  | true => exact h1 rfl F Λ w tmps Q hn hs (hset _ rfl) hq
  | false => exact h2 rfl F Λ w tmps Q hn hs (hset _ rfl) hq
theorem FrOK.congr {F Λ w tmps} {E E' : Env} (h : ∀ u, lk E' u = lk E u) (hf : FrOK F Λ w tmps E) : FrOK F Λ w tmps E' := fun t => by rw [h]; exact hf t
theorem lk_same {E : Env} {d a} (h : lk E d = a) (u : Nat) : lk E u = lk ((d, a) :: E) u := by
  simp only [lk]
  split
  · rename_i e; subst e; exact h
  · rfl
theorem TO_on {j d : Nat} {want : Bool} (hg : o.guard = some (j, want)) (hd : (ops[j]?).bind (·.dst) = some d) (hdn : d < n) (hl : lk E d = .v (.bool want)) (hdst : dstOK n o.dst = true)
    (h1 : TOp P n m o (TO P n m ops os N) E σ) : TO P n m ops (o :: os) N E σ :=
  TO_guard hg hd hdn hl hdst (fun _ F Λ w tmps K Q hn hs hf hk => h1 F Λ w tmps K Q hn hs (hf.congr (lk_same hl)) hk) (fun h => by cases want <;> cases h)
def offB (want : Bool) : Value → Bool
  | .bool b => b != want
  | _ => true
theorem yielded_off {F Λ w tmps} {j d : Nat} {want : Bool} {v0 : Value} (hf : FrOK F Λ w tmps E) (hn : tmps.size = n) (hd : (ops[j]?).bind (·.dst) = some d) (hdn : d < n) (hl : lk E d = .v v0) (hv : offB want v0 = true) : yielded ops tmps j ≠ some want := by
  have e1 := hf d
  rw [hl] at e1
  have e1 := e1.v_inv
  have h1 : tmps[d]? = some v0 := by
    rw [Array.getD_eq_getD_getElem?, Array.getElem?_eq_getElem (by omega)] at e1
    rw [Array.getElem?_eq_getElem (by omega)]
    simpa using e1
  unfold yielded
  rw [hd]
  simp only [Option.bind_some, h1]
  cases v0 <;> simp_all [offB]
theorem TO_off {j d : Nat} {want : Bool} {v0 : Value} (hg : o.guard = some (j, want)) (hd : (ops[j]?).bind (·.dst) = some d) (hdn : d < n) (hl : lk E d = .v v0) (hv : offB want v0 = true) (hdst : dstOK n o.dst = true)
    (h1 : TO P n m ops os N (put E o.dst (.v undef)) σ) : TO P n m ops (o :: os) N E σ := fun F Λ w tmps Q hn hs hf hq => by
  unfold wpList
  rw [if_neg (by simpa [Region.wanted, hg] using yielded_off hf hn hd hdn hl hv)]
  obtain ⟨tmps', e, hn', hf'⟩ := hf.putO (ds := []) (v := undef) hn hdst (.imm (.v _))
  rw [e]; exact h1 F Λ w tmps' Q hn' hs hf' hq

/-! ### ends -/
theorem then_exit {N : Env → Store → Prop} {id} (h : K (.exit id) E σ) : thenK N K (.exit id) E σ := h
theorem then_ret {N : Env → Store → Prop} (h : K .ret E σ) : thenK N K .ret E σ := h
theorem block_ret {id} (h : K .ret E σ) : blockK id K .ret E σ := h
theorem block_exit {id} (h : K .normal E σ) : blockK id K (.exit id) E σ := by
  show (if id = id then K .normal else K (.exit id)) E σ
  rw [if_pos rfl]; exact h
theorem block_pass {id id'} (hne : id' ≠ id) (h : K (.exit id') E σ) : blockK id K (.exit id') E σ := by
  show (if id' = id then K .normal else K (.exit id')) E σ
  rw [if_neg hne]; exact h
/-- The end of a function that was handed nothing and hands back nothing of its own. -/
theorem end_ret {rs as Q} (h : ResA P E σ rs as) {r} (hr : resA as = r) (hl : r.names (fun _ => true) = false) (hq : Q r []) : EndK P rs 0 Q .ret E σ := by
  subst hr
  exact ⟨as, h, [], [], ⟨by simp, 0, Nat.le_refl _, by simp, by simp, by simp⟩, by simpa using hl, by simp, hq⟩
theorem end_normal {rs as Q} (h : ResA P E σ rs as) {r} (hr : resA as = r) (hl : r.names (fun _ => true) = false) (hq : Q r []) : EndK P rs 0 Q .normal E σ := end_ret h hr hl hq
theorem again0 {Inv : Nat → Env → Store → Prop} {k} (k' : Nat) {E' σ'} (hk : k' < k) (hw : Weak m E σ E' σ') (hI : Inv k' E' σ') : Again m Inv k E σ := ⟨k', E', σ', hk, hw, hI⟩
end

/-! ### data -/
abbrev intA (z : Int) : A := .v (.int .i64 z)
abbrev natA (z : Nat) : A := .v (.int .i64 (z : Int))
abbrev boolA (b : Bool) : A := .v (.bool b)
abbrev strA (s : ByteArray) : A := .v (.string s)
def ints (xs : List Int) : List A := xs.map intA
def bools (xs : List Bool) : List A := xs.map boolA
def strs (xs : List ByteArray) : List A := xs.map strA
/-- Elements of k cells each, in a row. -/
def flat {α : Type} (f : α → List A) : List α → List A
  | [] => []
  | x :: xs => f x ++ flat f xs
/-- The cells of n elements of k cells. -/
class Len (xs : List A) (k : Nat) (n : outParam Nat) : Prop where
  h : xs.length = n * k
instance (xs : List Int) : Len (ints xs) 1 xs.length := ⟨by simp [ints]⟩
instance (xs : List Bool) : Len (bools xs) 1 xs.length := ⟨by simp [bools]⟩
instance (xs : List ByteArray) : Len (strs xs) 1 xs.length := ⟨by simp [strs]⟩
theorem flat_len {α : Type} {f : α → List A} {k : Nat} (h : ∀ x, (f x).length = k) : ∀ xs : List α, (flat f xs).length = xs.length * k
  | [] => by simp [flat]
  | x :: xs => by simp [flat, flat_len h xs, h, Nat.succ_mul, Nat.add_comm]
theorem flat_get {α : Type} [Inhabited α] {f : α → List A} {k : Nat} (h : ∀ x, (f x).length = k) : ∀ (xs : List α) (i j : Nat), i < xs.length → j < k → (flat f xs)[i * k + j]? = (f (xs.getD i default))[j]?
  | [], i, j, hi, _ => by simp at hi
  | x :: xs, 0, j, _, hj => by simp only [flat, Nat.zero_mul, Nat.zero_add, List.getD_cons_zero]; rw [List.getElem?_append_left (by rw [h]; exact hj)]
  | x :: xs, i + 1, j, hi, hj => by
    simp only [flat, List.getD_cons_succ]
    rw [List.getElem?_append_right (by rw [h, Nat.succ_mul]; omega), h, ← flat_get h xs i j (by simpa using hi) hj]
    congr 1
    rw [Nat.succ_mul]; omega
theorem ints_get (xs : List Int) (i : Nat) (h : i < xs.length) : (ints xs)[i * 1]? = some (intA (xs.getD i 0)) := by
  simp [ints, h]
theorem bools_get (xs : List Bool) (i : Nat) (h : i < xs.length) : (bools xs)[i * 1]? = some (boolA (xs.getD i false)) := by
  simp [bools, h]
theorem strs_get (xs : List ByteArray) (i : Nat) (h : i < xs.length) : (strs xs)[i * 1]? = some (strA (xs.getD i default)) := by
  simp [strs, h]

section
variable {P : Program} {E : Env} {σ : Store} {o : Oper}
theorem pur_len {t x e k k'} {xs : List A} {n : Nat} [hn : Len xs k n] (hT : SlT P t e k') (hx : val E x = .i k xs) (hk : 0 < k) (h : o.op = .call { callee := .builtin .len, args := #[x], argTypes := #[t] }) : Pur P o E σ (.v (.int .i64 n)) :=
  pur_len_i n hT hx hk hn.h h
theorem pur_ix {t x y e k kk} {xs : List A} {z : Int} {n : Nat} [hn : Len xs k n] (hT : SlT P t e k) (hx : val E x = .i k xs) (hy : val E y = .v (.int kk z)) (h0 : 0 ≤ z) (h1 : z < n) (h : o.op = .indexAddr t x y) : Pur P o E σ (.q xs (z.toNat * k)) :=
  pur_ix_i n hT hx hy hn.h h0 h1 h
/-- One value of the list. -/
theorem pur_ld_ints {t x} {xs : List Int} {d i : Nat} (h : o.op = .load t x) (hT : OneT P t) (hx : val E x = .q (ints xs) d) (hd : d = i * 1) (hi : i < xs.length) : Pur P o E σ (intA (xs.getD i 0)) :=
  pur_ld_q hT hx (by rw [hd]; exact ints_get xs i hi) h
theorem pur_ld_flat {α : Type} [Inhabited α] {f : α → List A} {k : Nat} {t x} {xs : List α} {d : Nat} (h : o.op = .load t x) (i j : Nat) (hk : ∀ x, (f x).length = k) (hT : OneT P t) (hx : val E x = .q (flat f xs) d) (hd : d = i * k + j) (hi : i < xs.length) {y} (hj : (f (xs.getD i default))[j]? = some y) : Pur P o E σ y :=
  pur_ld_q hT hx (by rw [hd, flat_get hk xs i j hi (by have := (List.getElem?_eq_some_iff.1 hj).1; rw [hk] at this; exact this)]; exact hj) h
end
end Go.Sep

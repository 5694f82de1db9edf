import Derived.Test.YtmecnecfkgneoaaGreatCRA
import Derived.WalkKit
import Derived.ProofKit
import Derived.OpenShut
import Derived.ShutString
import Derived.ChangeOld
import Derived.Below
import Derived.SizedLaws
import Derived.Laws.AppendOwn
import Derived.Laws.Small
set_option linter.unusedVariables false
set_option linter.unusedSimpArgs false
namespace Go.Sep
open Go
structure RdT (P : Program) (t k : Nat) {α : Type} (f : α → List A) (p : α → Prop) : Prop where
  size : P.cellsOf t = k
  rd : ∀ {H : Type} (enc : TypeId × Value → H) (w : World) (base : Nat) (spare : Nat → Bool) (held : Bool) (fuel : Nat) (cs : List Value) (x : DataW H × List MemPlace), DataW.trod enc P w base spare held fuel t cs = some x →
    ∃ y : α, p y ∧ cs.length = k ∧ (f y).length = k ∧ ∀ (j : Nat) c a, cs[j]? = some c → (f y)[j]? = some a → Imm (fun b => b < w.heap.size) w c a
theorem RdT.map {P : Program} {t k : Nat} {α β : Type} {f : α → List A} {p : α → Prop} {g : β → List A} {q : β → Prop} (h : RdT P t k f p) (φ : α → β) (hq : ∀ y, p y → q (φ y) ∧ f y = g (φ y)) : RdT P t k g q :=
 ⟨h.size, fun enc w base spare held fuel cs x hx => by
  obtain ⟨y, h1, h2, h3, h4⟩ := h.rd enc w base spare held fuel cs x hx
  obtain ⟨h5, h6⟩ := hq y h1
  exact ⟨φ y, h5, h2, by rw [← h6]; exact h3, by rw [← h6]; exact h4⟩⟩
theorem one_cell {F : Nat → Prop} {w : World} {v : Value} {a : A} (h : Imm F w v a) : ∀ (j : Nat) c b, [v][j]? = some c → [a][j]? = some b → Imm F w c b := fun j c b hc hb => by
 match j, hc, hb with
 | 0, hc, hb => simp at hc hb; subst hc; subst hb; exact h
 | j + 1, hc, _ => simp at hc
theorem exists_list {α : Type} {Q : Nat → α → Prop} : ∀ (n : Nat), (∀ i, i < n → ∃ y, Q i y) → ∃ ys : List α, ys.length = n ∧ ∀ i y, ys[i]? = some y → Q i y
 | 0, _ => ⟨[], rfl, fun i y h => by simp at h⟩
 | n + 1, h => by
  obtain ⟨ys, h1, h2⟩ := exists_list n fun i hi => h i (by omega)
  obtain ⟨y, hy⟩ := h n (by omega)
  refine ⟨ys ++ [y], by simp [h1], fun i z hz => ?_⟩
  by_cases e : i < n
  ·rw [List.getElem?_append_left (by omega)] at hz; exact h2 i z hz
  ·have hl := (List.getElem?_eq_some_iff.1 hz).1
   simp at hl
   have : i = n := by omega
   subst this
   rw [List.getElem?_append_right (by omega)] at hz
   simp [h1] at hz; subst hz; exact hy
theorem flat_at {α : Type} {f : α → List A} {k : Nat} (hk : 0 < k) : ∀ (ys : List α) (_ : ∀ y ∈ ys, (f y).length = k) (j : Nat) (x : A), (flat f ys)[j]? = some x → ∃ y, ys[j / k]? = some y ∧ (f y)[j % k]? = some x
 | [], _, j, x, h => by simp [flat] at h
 | y :: ys, hf, j, x, h => by
  have hy := hf y (by simp)
  simp only [flat] at h
  by_cases e : j < k
  ·rw [List.getElem?_append_left (by omega)] at h
   exact ⟨y, by rw [Nat.div_eq_of_lt e]; rfl, by rw [Nat.mod_eq_of_lt e]; exact h⟩
  ·rw [List.getElem?_append_right (by omega), hy] at h
   obtain ⟨z, h1, h2⟩ := flat_at hk ys (fun y hy => hf y (by simp [hy])) (j - k) x h
   have e1 : j / k = (j - k) / k + 1 := by rw [Nat.div_eq_sub_div hk (by omega)]
   have e2 : j % k = (j - k) % k := Nat.mod_eq_sub_mod (by omega)
   exact ⟨z, by rw [e1]; exact h1, by rw [e2]; exact h2⟩
theorem flat_len' {α : Type} {f : α → List A} {k : Nat} : ∀ (ys : List α) (_ : ∀ y ∈ ys, (f y).length = k), (flat f ys).length = ys.length * k
 | [], _ => by simp [flat]
 | y :: ys, h => by
  simp only [flat, List.length_append, List.length_cons, h y (by simp), flat_len' ys (fun y hy => h y (by simp [hy])), Nat.succ_mul]; omega
theorem rd_slice {P : Program} {t e k : Nat} {α : Type} {f : α → List A} {p : α → Prop} (ht : P.underlying t = some (.slice e)) (hs : P.cellsOf t = 1) (hk : 0 < k) (h : RdT P e k f p) :
  RdT P t 1 (fun ys : List α => [.i k (flat f ys)]) (fun ys => ys.length ≤ 9223372036854775807 ∧ ∀ y ∈ ys, p y) :=
 ⟨hs, fun enc w base spare held fuel cs x hx => by
  rcases DataW.trod_slice ht hx with ⟨rfl, _⟩ | ⟨a, len, cap, elems, rest, n, _, rfl, _, hb, hl, hm, hlen, hel, _, _⟩
  ·exact ⟨[], ⟨by simp, by simp⟩, rfl, rfl, one_cell (.i0 _ _ _)⟩
  have hb1 : ∀ i, i < len → ∃ y, p y ∧ (f y).length = k ∧ ∀ j, j < k → ∃ c, w.cell? (a.add (i * k + j)) = some c ∧ ∀ z, (f y)[j]? = some z → Imm (fun b => b < w.heap.size) w c z := fun i hi => by
   have h1 := hel i hi
   rw [h.size] at h1
   have h2 : elems[i]? = some (elems[i]'(by omega)) := List.getElem?_eq_getElem _
   rw [h2, Option.bind_eq_some_iff] at h1
   obtain ⟨cs, hcs, hy⟩ := h1
   obtain ⟨_, hl2, hcell⟩ := World.cells?_some hcs
   obtain ⟨y, hp, _, hfl, him⟩ := h.rd enc w base spare held n cs _ hy
   refine ⟨y, hp, hfl, fun j hj => ?_⟩
   have h3 := hcell j hj
   have h4 : cs[j]? = some (cs[j]'(by omega)) := List.getElem?_eq_getElem _
   refine ⟨cs[j]'(by omega), ?_, fun z hz => him j _ z h4 hz⟩
   rw [← h4, ← h3]
   congr 1
   unfold Addr.add
   by_cases e1 : i * k = 0
   ·simp [e1]
   ·by_cases e2 : j = 0
    ·simp [e1, e2]
    ·have : i * k + j ≠ 0 := by omega
     simp [e1, e2, this, Nat.add_assoc]
  obtain ⟨ys, hyl, hys⟩ := exists_list len hb1
  have hfk : ∀ y ∈ ys, (f y).length = k := fun y hy => by
   obtain ⟨i, hi⟩ := List.getElem?_of_mem hy
   exact (hys i y hi).2.1
  have hml : ys.length ≤ 9223372036854775807 := by rw [hyl]; unfold maxLen at hm; omega
  refine ⟨ys, ⟨hml, fun y hy => ?_⟩, rfl, rfl, one_cell ?_⟩
  ·obtain ⟨i, hi⟩ := List.getElem?_of_mem hy
   exact (hys i y hi).1
  ·by_cases hn : len = 0
   ·have : ys = [] := List.eq_nil_of_length_eq_zero (by omega)
    subst this; subst hn
    exact .i0 _ _ _
   ·obtain ⟨bk, of, sp⟩ := a
    have hc0 : ∃ c, w.cell? ⟨bk, of, sp⟩ = some c := by
     have h0 : ys[0]? = some (ys[0]'(by omega)) := List.getElem?_eq_getElem _
     obtain ⟨c, hc, _⟩ := (hys 0 _ h0).2.2 0 hk
     exact ⟨c, by simpa [Addr.add] using hc⟩
    obtain ⟨c0, hc0⟩ := hc0
    have hsp : sp = none := by
     cases sp with
     | none => rfl
     | some q =>
      exfalso
      unfold World.cell? at hc0
      split at hc0 <;> simp at hc0
    subst hsp
    have hblk : bk < w.heap.size := by
     unfold World.cell? at hc0
     split at hc0
     ·rename_i h9
      exact (Array.getElem?_eq_some_iff.1 h9).1
     ·simp at hc0
    have hadd : ∀ q, (⟨bk, of, none⟩ : Addr).add q = ⟨bk, of + q, none⟩ := addr_add bk of
    have key : ∀ j z, (flat f ys)[j]? = some z → ∃ c, w.cell? ⟨bk, of + j, none⟩ = some c ∧ Imm (fun b => b < w.heap.size) w c z := fun j z hz => by
     obtain ⟨y, hy, hz'⟩ := flat_at hk ys hfk j z hz
     obtain ⟨c, hc, him⟩ := (hys _ y hy).2.2 (j % k) (Nat.mod_lt _ hk)
     rw [hadd, Nat.div_add_mod'] at hc
     exact ⟨c, hc, him z hz'⟩
    refine .i bk of len cap k (fun j => (w.cell? ⟨bk, of + j, none⟩).getD undef) _ hblk (by omega) (by omega) (by omega) (by rw [flat_len' ys hfk, hyl]) (fun j z hz => ?_) (fun j z hz => ?_)
    ·obtain ⟨c, hc, _⟩ := key j z hz; rw [hc]; rfl
    ·obtain ⟨c, hc, him⟩ := key j z hz; simp only [hc, Option.getD_some]; exact him⟩
section
variable {H : Type} {enc : TypeId × Value → H} {P : Program} {w : World} {base : Nat} {spare : Nat → Bool} {held : Bool} {t : Nat} {v : Value} {d : DataW H} {ps : List MemPlace}
theorem RdT.arg {α : Type} {f : α → A} {p : α → Prop} (h : RdT P t 1 (fun y => [f y]) p) (hv : v.cells.toList = [v]) (hd : DataW.Trod enc P w base spare held t v d ps) : ∃ y, p y ∧ Imm (fun b => b < w.heap.size) w v (f y) := by
 obtain ⟨fuel, hf⟩ := hd
 rw [hv] at hf
 obtain ⟨y, hp, _, _, h3⟩ := h.rd enc w base spare held fuel _ _ hf
 exact ⟨y, hp, h3 0 v (f y) rfl rfl⟩
end
def ImmL (w : World) : List Value → List A → Prop
 | [], [] => True
 | v :: vs, a :: as => Imm (fun b => b < w.heap.size) w v a ∧ ImmL w vs as
 | _, _ => False
theorem imm_args {w : World} : ∀ (vs : List Value) (as : List A), ImmL w vs as → ArgsOK (fun b => b < w.heap.size) (fun _ => none) w vs as
 | [], [], _ => ⟨rfl, fun j x y h => by simp at h⟩
 | [], _ :: _, h => h.elim
 | _ :: _, [], h => h.elim
 | _ :: _, _ :: _, ⟨h, hs⟩ => by
  obtain ⟨h1, h2⟩ := imm_args _ _ hs
  refine ⟨by simp [h1], fun j x y hx hy => ?_⟩
  match j, hx, hy with
  | 0, hx, hy => simp at hx hy; subst hx; subst hy; exact .imm h
  | j + 1, hx, hy => exact h2 j x y (by simpa using hx) (by simpa using hy)
theorem FnV.rowT {P : Program} {f : Nat} {as : List A} {w : World} {vs : List Value} (h : FnV P f as (boolA true)) (ha : ImmL w vs as) (ht : ∀ t ∈ tables, ∃ te fr, w.heap[t.1]? = some (.cells t.2 te fr)) :
  Calls P f vs.toArray w fun e w' => e = .returned (.bool true) ∧ Go.RowKit.Below w.heap.size w w' :=
 h (fun b => b < w.heap.size) (fun _ => none) w vs _ ⟨fun L xs hr => by simp [rowAt] at hr; cases L <;> simp at hr, fun L xs L' xs' b o o' hr => by simp [rowAt] at hr; cases L <;> simp at hr, fun b h => h, fun t h => ⟨(ht t h).elim fun _ g => g.elim fun _ g => (Array.getElem?_eq_some_iff.1 g).1, ht t h⟩, fun L _ => rfl⟩ (imm_args vs as ha)
  fun F' Λ' σ' w' v r hs hst hv hq => by
   obtain ⟨rfl, rfl⟩ := hq
   refine ⟨by rw [hv.v_inv], hst.os.1, hst.tape, hst.output, hst.size, fun k hk => hst.keep k hk ?_⟩
   rintro ⟨L, xs, o, hr, _⟩
   simp [rowAt] at hr; cases L <;> simp at hr
theorem FnV.row {P : Program} {f : Nat} {as : List A} {w : World} {vs : List Value} (h : FnV P f as (boolA true)) (ha : ImmL w vs as) :
  Calls P f vs.toArray w fun e w' => e = .returned (.bool true) ∧ Go.RowKit.Below w.heap.size w w' := h.rowT ha fun _ h => nomatch h
end Go.Sep
set_option linter.unusedVariables false
set_option linter.unusedSimpArgs false
namespace Go.Sep
open Go
def rh (f : Nat → Nat) : List Nat → List Nat
 | [] => []
 | l :: p => f l :: p
mutual
def A.ren (f : Nat → Nat) : A → A
 | .m L a n k => .m (rh f L) a n k
 | .e L a => .e (rh f L) a
 | .b l a => .b (f l) a
 | .g xs => .g (renL f xs)
 | .t xs => .t (renL f xs)
 | .f g xs => .f g (renL f xs)
 | .o k xs => .o k xs
 | .v x => .v x
 | .n => .n
 | .i k xs => .i k xs
 | .q xs d => .q xs d
 | .j => .j
 | .raw v a => .raw v a
def renL (f : Nat → Nat) : List A → List A
 | [] => []
 | x :: xs => x.ren f :: renL f xs
end
theorem renL_get (f : Nat → Nat) : ∀ (xs : List A) (j : Nat), (renL f xs)[j]? = (xs[j]?).map (A.ren f)
 | [], j => by simp [renL]
 | x :: xs, 0 => by simp [renL]
 | x :: xs, j + 1 => by simp [renL, renL_get f xs j]
theorem renL_len (f : Nat → Nat) : ∀ xs : List A, (renL f xs).length = xs.length
 | [] => rfl
 | x :: xs => by simp [renL, renL_len f xs]
theorem renL_self {f : Nat → Nat} {vs : List Value} {xs : List A} (hl : vs.length = xs.length) (ih : ∀ (j : Nat) (x : A) (y : Value), xs[j]? = some x → vs[j]? = some y → x.ren f = x) : renL f xs = xs := by
 apply List.ext_getElem?
 intro j
 rw [renL_get]
 cases hj : xs[j]? with
 | none => rfl
 | some x =>
  have : j < vs.length := by have := (List.getElem?_eq_some_iff.1 hj).1; omega
  simp [ih j x _ hj (List.getElem?_eq_getElem this)]
theorem Imm.ren {F w v} {f : Nat → Nat} {x : A} (h : Imm F w v x) : x.ren f = x := by
 induction h with
 | g vs xs hl _ ih => simp only [A.ren]; rw [renL_self hl ih]
 | t vs xs hl _ ih => simp only [A.ren]; rw [renL_self hl ih]
 | f fn vs xs hl _ ih => simp only [A.ren]; rw [renL_self hl ih]
 | _ => rfl
theorem OK.ren {F Λ Λ' w v x} (p : List Nat → Bool) (f : Nat → Nat) (h : ∀ L b o, p L = false → Λ L = some (b, o) → Λ' (rh f L) = some (b, o)) (hi : OK F Λ w v x) (hn : x.names p = false) : OK F Λ' w v (x.ren f) := by
 induction hi with
 | imm hi => rw [hi.ren]; exact .imm hi
 | j v => exact .j v
 | m h1 =>
  simp only [A.names] at hn
  refine .m ?_
  rcases h1 with h1 | ⟨b, o, cap, h1, h2⟩
  ·exact .inl h1
  ·exact .inr ⟨b, o, cap, h _ _ _ hn h1, h2⟩
 | e h1 => simp only [A.names] at hn; exact .e (h _ _ _ hn h1)
 | b h1 => simp only [A.names] at hn; exact .b (h _ _ _ hn h1)
 | g vs xs hl _ ih =>
  simp only [A.names] at hn
  refine .g vs _ (by rw [renL_len]; exact hl) fun j x y hx hy => ?_
  rw [renL_get] at hx
  cases hj : xs[j]? with
  | none => simp [hj] at hx
  | some u => simp [hj] at hx; subst hx; exact ih j u y hj hy (namesL_false hn u (List.mem_of_getElem? hj))
 | t vs xs hl _ ih =>
  simp only [A.names] at hn
  refine .t vs _ (by rw [renL_len]; exact hl) fun j x y hx hy => ?_
  rw [renL_get] at hx
  cases hj : xs[j]? with
  | none => simp [hj] at hx
  | some u => simp [hj] at hx; subst hx; exact ih j u y hj hy (namesL_false hn u (List.mem_of_getElem? hj))
 | f fn vs xs hl _ ih =>
  simp only [A.names] at hn
  refine .f fn vs _ (by rw [renL_len]; exact hl) fun j x y hx hy => ?_
  rw [renL_get] at hx
  cases hj : xs[j]? with
  | none => simp [hj] at hx
  | some u => simp [hj] at hx; subst hx; exact ih j u y hj hy (namesL_false hn u (List.mem_of_getElem? hj))
def mvH (l l' h : Nat) : Nat := if h = l' then l else h
def mvA (l l' : Nat) (x : A) : A := if x.names (fun L => L.headD 0 == l) then .j else x.ren (mvH l l')
def mvE (l l' : Nat) : Env → Env
 | [] => []
 | (t, a) :: E => (t, mvA l l' a) :: mvE l l' E
def mvR (l l' : Nat) : Root → Root
 | .box xs => .box (xs.map (mvA l l'))
 | r => r
def mvS (l l' : Nat) (σ : Store) : Store := ((σ.map (mvR l l')).set l ((σ[l']?).getD .dead)).set l' .dead
def mvL (l l' : Nat) (Λ : Lbl) : Lbl := fun L => match L with
 | [] => Λ []
 | h :: p => if h = l then Λ (l' :: p) else Λ (h :: p)
def noBox (σ : Store) (l : Nat) : Bool := match σ[l]? with
 | some (.box _) => false
 | _ => true
theorem mvL_ok {l l' : Nat} {Λ : Lbl} (hne : l ≠ l') : ∀ L b o, (L.headD 0 == l) = false → Λ L = some (b, o) → mvL l l' Λ (rh (mvH l l') L) = some (b, o) := fun L b o hp hL => by
 cases L with
 | nil => exact hL
 | cons h p =>
  simp only [List.headD_cons, beq_eq_false_iff_ne, ne_eq] at hp
  simp only [rh, mvL, mvH]
  by_cases e : h = l'
  ·subst e; rw [if_pos rfl, if_pos rfl]; exact hL
  ·rw [if_neg e, if_neg hp]; exact hL
theorem mvA_ok {F Λ w v x l l'} (hne : l ≠ l') (h : OK F Λ w v x) : OK F (mvL l l' Λ) w v (mvA l l' x) := by
 unfold mvA
 split
 ·exact .j v
 ·rename_i hn
  refine h.ren (fun L => L.headD 0 == l) _ (fun L b o hp hL => mvL_ok hne L b o hp hL) (by simpa using hn)
theorem lk_mvE (l l' : Nat) : ∀ (E : Env) (t : Nat), lk (mvE l l' E) t = mvA l l' (lk E t)
 | [], t => rfl
 | (u, a) :: E, t => by
  simp only [mvE, lk]
  split
  ·rfl
  ·exact lk_mvE l l' E t
theorem names_inBox {x : A} (h : x.inBox = true) (l l' : Nat) : (mvA l l' x).inBox = true ∨ mvA l l' x = .j := by
 unfold mvA
 split
 ·exact .inr rfl
 ·left; cases x <;> first | exact h | rfl
theorem mvR_cells {l l' : Nat} {r : Root} {ys : List A} (h : (mvR l l' r).cells = some ys) : (isB r = false ∧ r.cells = some ys) ∨ (isB r = true ∧ ∃ xs, r.cells = some xs ∧ ys = xs.map (mvA l l')) := by
 cases r with
 | box xs => simp only [mvR, Root.cells, Option.some.injEq] at h; exact .inr ⟨rfl, xs, rfl, h.symm⟩
 | dead => simp [mvR, Root.cells] at h
 | row xs => exact .inl ⟨rfl, h⟩
theorem mvS_get {l l' : Nat} {σ : Store} (hne : l ≠ l') (hl : l < σ.length) (h : Nat) : (mvS l l' σ)[h]? = if h = l' ∧ l' < σ.length then some .dead else if h = l then some ((σ[l']?).getD .dead) else (σ[h]?).map (mvR l l') := by
 unfold mvS
 rw [List.getElem?_set]
 by_cases e : l' = h
 ·subst e
  simp only [List.length_set, List.length_map, if_true, true_and]
  by_cases e2 : l' < σ.length
  ·simp [e2]
  ·rw [if_neg e2, if_neg e2, if_neg (Ne.symm hne)]; simp [List.getElem?_eq_none (Nat.le_of_not_lt e2)]
 ·rw [if_neg e, if_neg (by rintro ⟨rfl, _⟩; exact e rfl), List.getElem?_set]
  by_cases e2 : l = h
  ·subst e2; simp [hl]
  ·rw [if_neg e2, if_neg (Ne.symm e2), List.getElem?_map]
theorem rowAt_mvS {F Λ w} {l l' : Nat} {σ : Store} (hs0 : St F Λ σ w) (hne : l ≠ l') (hl : l < σ.length) (hr : ∃ xs, σ[l']? = some (.row xs)) {L xs} (h : rowAt (mvS l l' σ) L = some xs) :
  ∃ h0 p, L = h0 :: p ∧ h0 ≠ l' ∧ ((h0 = l ∧ rowAt σ (l' :: p) = some xs) ∨ (h0 ≠ l ∧ (((isBox σ [h0] = false ∨ p ≠ []) ∧ rowAt σ L = some xs) ∨ (isBox σ [h0] = true ∧ p = [] ∧ ∃ ys, rowAt σ L = some ys ∧ xs = ys.map (mvA l l'))))) := by
 cases L with
 | nil => simp [rowAt] at h
 | cons h0 p =>
  obtain ⟨zs, hz⟩ := hr
  have hl' : l' < σ.length := (List.getElem?_eq_some_iff.1 hz).1
  simp only [rowAt, mvS_get hne hl] at h
  by_cases e1 : h0 = l'
  ·simp [e1, hl', Root.cells] at h
  ·rw [if_neg (by rintro ⟨rfl, _⟩; exact e1 rfl)] at h
   refine ⟨h0, p, rfl, e1, ?_⟩
   by_cases e2 : h0 = l
   ·subst e2
    simp only [if_true, hz, Option.getD_some] at h
    exact .inl ⟨rfl, by simpa only [rowAt, hz] using h⟩
   ·rw [if_neg e2] at h
    refine .inr ⟨e2, ?_⟩
    cases hs : σ[h0]? with
    | none => simp [hs] at h
    | some r =>
     simp only [hs, Option.map_some] at h
     split at h
     ·rename_i ys hy
      rcases mvR_cells hy with ⟨g1, g2⟩ | ⟨g1, us, g2, rfl⟩
      ·exact .inl ⟨.inl (by simp only [isBox, hs]; cases r <;> simp_all [isB]), by simp only [rowAt, hs, g2]; exact h⟩
      ·by_cases hno : p ≠ [] ∧ rowAt σ (h0 :: p) = some xs
       ·exact .inl ⟨.inr hno.1, hno.2⟩
       right
       have hb : isBox σ [h0] = true := by simp only [isBox, hs]; cases r <;> simp_all [isB]
       cases p with
       | nil => simp only [sub, Option.some.injEq] at h; exact ⟨hb, rfl, us, by simp only [rowAt, hs, g2, sub], h.symm⟩
       | cons j p =>
        exfalso
        simp only [sub] at h
        split at h
        ·rename_i k zs' hj
         simp only [List.getElem?_map] at hj
         cases hu : us[j]? with
         | none => simp [hu] at hj
         | some u =>
          simp only [hu, Option.map_some, Option.some.injEq] at hj
          unfold mvA at hj
          split at hj
          ·cases hj
          ·cases u <;> simp [A.ren] at hj
           obtain ⟨rfl, rfl⟩ := hj
           exact absurd (show rowAt σ (h0 :: j :: p) = some xs by simp only [rowAt, hs, g2, sub, hu]; exact h) (fun hh => hno ⟨by simp, hh⟩)
        ·cases h
     ·cases h
theorem Cell.unbox {F Λ Λ' w L L' c x} (hS : ∀ a n k v, Sl Λ w L a n k v → Sl Λ' w L' a n k v) (h : Cell F Λ w false L c x) : Cell F Λ' w false L' c x := by
 cases x with
 | j => trivial
 | o k ys => exact ⟨h.1, h.2.1, h.2.2.elim fun n hn => ⟨n, hn.1, hS _ _ _ _ hn.2⟩⟩
 | _ => exact ⟨h.1, h.2.relabel (fun _ => true) (fun L b o hp => by simp at hp) (inCell_names (by have h1 := h.1; rwa [if_neg (by simp)] at h1) _)⟩
theorem Cell.box {F Λ w L c x} (h : Cell F Λ w true L c x) : x = .j ∨ (∃ k ys, x = .o k ys) ∨ (x.inBox = true ∧ OK F Λ w c x) := by
 cases x with
 | j => exact .inl rfl
 | o k ys => exact .inr (.inl ⟨k, ys, rfl⟩)
 | _ => exact .inr (.inr ⟨by have h1 := h.1; rwa [if_pos rfl] at h1, h.2⟩)
theorem isBox_row {σ : Store} {l : Nat} {zs} (hr : σ[l]? = some (.row zs)) (p : List Nat) : isBox σ (l :: p) = false := by
 cases p with
 | nil => simp only [isBox, hr]
 | cons j p => rfl
theorem isBox_deep (σ : Store) (l j : Nat) (p : List Nat) : isBox σ (l :: j :: p) = false := rfl
theorem isBox_mvS {l l' : Nat} {σ : Store} (hne : l ≠ l') (hl : l < σ.length) {zs} (hr : σ[l']? = some (.row zs)) {h0 : Nat} (h1 : h0 ≠ l') (p : List Nat) : isBox (mvS l l' σ) (h0 :: p) = if h0 = l then false else isBox σ (h0 :: p) := by
 cases p with
 | cons j p => simp [isBox]
 | nil =>
  simp only [isBox, mvS_get hne hl]
  rw [if_neg (by rintro ⟨rfl, _⟩; exact h1 rfl)]
  by_cases e : h0 = l
  ·rw [if_pos e, if_pos e, hr]; rfl
  ·rw [if_neg e, if_neg e]
   cases hs : σ[h0]? with
   | none => rfl
   | some r => cases r <;> rfl
theorem mvL_len {l l' : Nat} {σ : Store} : (mvS l l' σ).length = σ.length := by simp [mvS]
theorem St.move {F Λ σ w} (hs : St F Λ σ w) {l l' : Nat} (hne : l ≠ l') (hl : l < σ.length) {zs} (hr : σ[l']? = some (.row zs)) : St F (mvL l l' Λ) (mvS l l' σ) w where
 row L xs h := by
  obtain ⟨h0, p, rfl, hn, ⟨rfl, h1⟩ | ⟨h2, h1⟩⟩ := rowAt_mvS hs hne hl ⟨_, hr⟩ h
  ·have e : mvL h0 l' Λ (h0 :: p) = Λ (l' :: p) := by simp [mvL]
   rw [e]
   rcases hs.row _ _ h1 with h4 | ⟨b, o, cs, t, h4, h5, h6, h7⟩
   ·exact .inl h4
   ·refine .inr ⟨b, o, cs, t, h4, h5, h6, fun j x hx => ?_⟩
    obtain ⟨c, h8, h9⟩ := h7 j x hx
    refine ⟨c, h8, ?_⟩
    rw [isBox_mvS hne hl hr hn, if_pos rfl]
    rw [isBox_row hr] at h9
    exact h9.unbox fun a n k v hv => hv.imp id fun ⟨b, o, cap, g1, g2⟩ => ⟨b, o, cap, by simpa [mvL] using g1, g2⟩
  ·have e : mvL l l' Λ (h0 :: p) = Λ (h0 :: p) := by simp [mvL, h2, hn]
   rw [e]
   rcases h1 with ⟨hb, h1⟩ | ⟨hb, rfl, ys, h1, rfl⟩
   ·rcases hs.row _ _ h1 with h4 | ⟨b, o, cs, t, h4, h5, h6, h7⟩
    ·exact .inl h4
    ·refine .inr ⟨b, o, cs, t, h4, h5, h6, fun j x hx => ?_⟩
     obtain ⟨c, h8, h9⟩ := h7 j x hx
     refine ⟨c, h8, ?_⟩
     have hb' : isBox σ (h0 :: p) = false := by
      cases p with
      | nil => exact hb.elim id fun h => absurd rfl h
      | cons _ _ => rfl
     rw [isBox_mvS hne hl hr hn, if_neg h2, hb']
     rw [hb'] at h9
     exact h9.unbox fun a n k v hv => hv.imp id fun ⟨b, o, cap, g1, g2⟩ => ⟨b, o, cap, by simpa [mvL, h2, hn] using g1, g2⟩
   ·rcases hs.row _ _ h1 with ⟨h4, rfl⟩ | ⟨b, o, cs, t, h4, h5, h6, h7⟩
    ·exact .inl ⟨h4, rfl⟩
    ·refine .inr ⟨b, o, cs, t, h4, h5, h6, fun j x hx => ?_⟩
     rw [List.getElem?_map] at hx
     cases hy : ys[j]? with
     | none => simp [hy] at hx
     | some y =>
      simp only [hy, Option.map_some, Option.some.injEq] at hx
      subst hx
      obtain ⟨c, h8, h9⟩ := h7 j y hy
      refine ⟨c, h8, ?_⟩
      rw [isBox_mvS hne hl hr hn, if_neg h2, hb]
      rw [hb] at h9
      rcases h9.box with rfl | ⟨kk, us, rfl⟩ | ⟨g1, g2⟩
      ·exact trivial
      ·have e3 : mvA l l' (.o kk us) = .o kk us := rfl
       rw [e3]
       exact ⟨trivial, h9.2.1, h9.2.2.imp fun nn hh => ⟨hh.1, hh.2.imp id fun ⟨b, o, cap, g1, g2⟩ => ⟨b, o, cap, by simpa [mvL, h2, hn] using g1, g2⟩⟩⟩
      ·rcases names_inBox g1 l l' with g3 | g3
       ·exact .ofBox g3 (mvA_ok hne g2)
       ·rw [g3]; exact trivial
 apart L xs L' xs' b o o' h1 h2 h3 h4 := by
  have key : ∀ L xs, rowAt (mvS l l' σ) L = some xs → ∃ h0 p, L = h0 :: p ∧ h0 ≠ l' ∧ ∃ ys, rowAt σ ((if h0 = l then l' else h0) :: p) = some ys ∧ mvL l l' Λ L = Λ ((if h0 = l then l' else h0) :: p) := fun L xs h => by
   obtain ⟨h0, p, rfl, hn, ⟨k2, k1⟩ | ⟨k2, k1⟩⟩ := rowAt_mvS hs hne hl ⟨_, hr⟩ h
   ·exact ⟨h0, p, rfl, hn, xs, by rw [if_pos k2]; exact k1, by simp [mvL, k2]⟩
   ·refine ⟨h0, p, rfl, hn, ?_⟩
    rw [if_neg k2]
    rcases k1 with ⟨_, k1⟩ | ⟨_, rfl, ys, k1, _⟩
    ·exact ⟨xs, k1, by simp [mvL, k2, hn]⟩
    ·exact ⟨ys, k1, by simp [mvL, k2, hn]⟩
  obtain ⟨a, p, rfl, hn, ys, g1, g2⟩ := key L xs h1
  obtain ⟨a', p', rfl, hn', ys', g1', g2'⟩ := key L' xs' h2
  rw [g2] at h3
  rw [g2'] at h4
  have := hs.apart _ _ _ _ _ _ _ g1 g1' h3 h4
  simp only [List.cons.injEq] at this
  obtain ⟨e1, rfl⟩ := this
  congr 1
  by_cases c1 : a = l <;> by_cases c2 : a' = l <;> simp_all
 old := hs.old
 tab := hs.tab
 lab L hL := by
  rw [mvL_len] at hL
  cases L with
  | nil => simp at hL; subst hL; simp at hl
  | cons h p =>
   simp only [List.headD_cons] at hL
   simp only [mvL]
   rw [if_neg (by omega)]
   exact hs.lab (h :: p) hL
theorem Own.move {F Λ σ w} (hs : St F Λ σ w) {l l' : Nat} (hne : l ≠ l') (hl : l < σ.length) {zs} (hr : σ[l']? = some (.row zs)) {b} (h : Own (mvL l l' Λ) (mvS l l' σ) b) : Own Λ σ b := by
 obtain ⟨L, xs, o, h1, h2⟩ := h
 obtain ⟨h0, p, rfl, hn, ⟨rfl, h3⟩ | ⟨h4, h3⟩⟩ := rowAt_mvS hs hne hl ⟨_, hr⟩ h1
 ·exact ⟨_, _, o, h3, by simpa [mvL] using h2⟩
 ·have e : mvL l l' Λ (h0 :: p) = Λ (h0 :: p) := by simp [mvL, h4, hn]
  rw [e] at h2
  rcases h3 with ⟨_, h3⟩ | ⟨_, rfl, ys, h3, _⟩
  ·exact ⟨_, _, o, h3, h2⟩
  ·exact ⟨_, _, o, h3, h2⟩
theorem Step.move {m F Λ σ w} (hs : St F Λ σ w) {l l' : Nat} (hne : l ≠ l') (hl : l < σ.length) {zs} (hr : σ[l']? = some (.row zs)) (hb : noBox σ l = true) (hm : m ≤ l) : Step m F Λ σ w F (mvL l l' Λ) (mvS l l' σ) w :=
  { os := ⟨rfl, fun _ => by first | exact Nat.le_refl _ | exact Nat.le_succ _⟩, tape := rfl, output := rfl, size := Nat.le_refl _, sizes := Sizes.refl _, keep := fun _ _ _ => rfl, mono := fun _ h => h, new := fun _ h => .inl h
    own := fun b h => .inl (Own.move hs hne hl hr h), len := by rw [mvL_len]; exact Nat.min_le_right _ _
    kept := fun L b o hL h => by
      cases L with
      | nil => exact h
      | cons h0 p =>
        simp only [List.headD_cons] at hL
        have e1 : h0 ≠ l := by omega
        simp only [mvL, if_neg e1]; exact h
    boxes := fun a xs _ hx => by
      have e1 : a ≠ l := by rintro rfl; simp only [noBox, hx] at hb; cases hb
      have e2 : a ≠ l' := by rintro rfl; rw [hr] at hx; cases hx
      refine ⟨by simp [mvL, e1, e2], xs.map (mvA l l'), ?_⟩
      rw [mvS_get hne hl, if_neg (by rintro ⟨rfl, _⟩; exact e2 rfl), if_neg e1, hx]; rfl }
section
variable {P : Program} {n m : Nat} {N : Env → Store → Prop} {K : Exit → Env → Store → Prop} {E : Env} {σ : Store} {o : Oper} {ops : Array Oper} {os : List Oper}
theorem TO_move (l l' : Nat) {zs} (hne : l ≠ l') (hl : l < σ.length) (hr : σ[l']? = some (.row zs)) (hb : noBox σ l = true) (hm : m ≤ l) (h : TO P n m ops os N (mvE l l' E) (mvS l l' σ)) : TO P n m ops os N E σ := fun F Λ w tmps Q hn hs hf hq =>
 h F _ w tmps Q hn (hs.move hne hl hr) (fun t => by rw [lk_mvE]; exact mvA_ok hne (hf t)) fun F' Λ' σ' w' tmps' E' hn' hs' hf' hst hN => hq F' Λ' σ' w' tmps' E' hn' hs' hf' ((Step.move hs hne hl hr hb hm).trans hst) hN
theorem T_move (l l' : Nat) {c : Code} {zs} (hne : l ≠ l') (hl : l < σ.length) (hr : σ[l']? = some (.row zs)) (hb : noBox σ l = true) (hm : m ≤ l) (h : T P n m c K (mvE l l' E) (mvS l l' σ)) : T P n m c K E σ := fun F Λ w tmps Q hn hs hf hq =>
 h F _ w tmps Q hn (hs.move hne hl hr) (fun t => by rw [lk_mvE]; exact mvA_ok hne (hf t)) fun e F' Λ' σ' w' tmps' E' hn' hs' hf' hst hN => hq e F' Λ' σ' w' tmps' E' hn' hs' hf' ((Step.move hs hne hl hr hb hm).trans hst) hN
end
end Go.Sep
set_option linter.unusedVariables false
set_option linter.unusedSimpArgs false
namespace Go.Sep
open Go
section
variable {P : Program} (w : World)
theorem firstCells_zero (size : Nat) (ad : Option Addr) (c : Nat) : (Builtin.firstCells size 0 (.slice ad 0 c)).run P w = .ok #[] w := by
 cases ad with
 | none => exact run_firstCells_none w size 0 0 c
 | some a => exact run_firstCells_some w size 0 a 0 c [] (by simp) (by simp)
theorem run_append_empty (t ty e : TypeId) (i : TypeInfo) (ht : P.underlying t = some (.slice e)) (hi : P.info? e = some i) (ad ax : Option Addr) (c : Nat) :
  (Builtin.append_ #[t, t] ty #[.slice ad 0 0, .slice ax 0 c]).run P w = .ok (.slice ad 0 0) w := by
 have hf := firstCells_zero (P := P) w i.size ax c
 cases ad <;> simp [Builtin.append_, run_underlying ht, sizeOf, typeInfo, hi, Builtin.lenOf, hf, storeCells]
theorem run_append_in (t ty e : TypeId) (i : TypeInfo) (ht : P.underlying t = some (.slice e)) (hi : P.info? e = some i)
  (g o' sLen sCap : Nat) (cur : Array Value) (te : TypeId) (hg : w.heap[g]? = some (.cells cur te (0, 0)))
  (ax : Option Addr) (m c : Nat) (news : List Value) (hnews : (Builtin.firstCells i.size m (.slice ax m c)).run P w = .ok news.toArray w) (h1 : ∀ u ∈ news, u.oneCell' = true)
  (hroom : sLen + m ≤ sCap) (hfit : o' + sLen * i.size + news.length ≤ cur.size) :
  (Builtin.append_ #[t, t] ty #[.slice (some ⟨g, o', none⟩) sLen sCap, .slice ax m c]).run P w =
   .ok (.slice (some ⟨g, o', none⟩) (sLen + m) sCap) (w.setRow g (cur.toList.take (o' + sLen * i.size) ++ news ++ cur.toList.drop (o' + sLen * i.size + news.length)).toArray) := by
 have hst := run_storeCells_at P g (o' + sLen * i.size) te news 0 cur w hg (by simpa using hfit) h1
 simp only [Nat.add_zero] at hst
 simp [Builtin.append_, run_underlying ht, sizeOf, typeInfo, hi, Builtin.lenOf, hroom, hnews, addr_add, hst]
theorem run_append_new (t ty e : TypeId) (i : TypeInfo) (z : Value) (ht : P.underlying t = some (.slice e)) (hi : P.info? e = some i) (hz : i.zero = some z)
  (b : Option Addr) (sLen sCap : Nat) (olds : List Value) (holds : (Builtin.firstCells i.size sLen (.slice b sLen sCap)).run P w.drew = .ok olds.toArray w.drew)
  (a : Option Addr) (n c : Nat) (news : List Value) (hnews : (Builtin.firstCells i.size n (.slice a n c)).run P w.drew = .ok news.toArray w.drew)
  (hg : sCap < sLen + n) (h63 : ((sLen + n : Nat) : Int) ≤ 9223372036854775807) (hfit : Builtin.nextslicecap (sLen + n) sCap * i.bytes ≤ 281474976710656) :
  (Builtin.append_ #[t, t] ty #[.slice b sLen sCap, .slice a n c]).run P w =
   .ok (.slice (some ⟨w.heap.size, 0, none⟩) (sLen + n) (grownCap w (sLen + n) sCap e))
    (w.drew.alloc (.cells (olds.toArray ++ news.toArray ++ Builtin.zeroCells z.cells (grownCap w (sLen + n) sCap e - (sLen + n))) e)) := by
 have hn : ¬ (sLen + n ≤ sCap) := by omega
 have h63' : ¬ (9223372036854775807 < ((sLen : Int) + (n : Int))) := by omega
 have h48' : ¬ (281474976710656 < Builtin.nextslicecap (sLen + n) sCap * i.bytes) := by omega
 simp [Builtin.append_, run_underlying ht, sizeOf, typeInfo, zeroValue, hi, hz, Builtin.lenOf, hn, h63', h48', Question.forced, hnews, holds, newRow, grownCap]
 try (congr 2; apply Array.ext'; simp [List.append_assoc])
end
def apL (Λ : Lbl) (l s : Nat) (lab : Option (Nat × Nat)) : Lbl := fun L => match L with
 | [] => Λ []
 | h :: p => if h = s then (match p with | [] => lab | j :: q => Λ (l :: j :: q)) else Λ (h :: p)
theorem sub_app {xs ys : List A} (hp : ∀ x ∈ ys, x.plain = true) {j q zs} (h : sub (xs ++ ys) (j :: q) = some zs) : sub xs (j :: q) = some zs := by
 simp only [sub] at h ⊢
 by_cases hj : j < xs.length
 ·rw [List.getElem?_append_left hj] at h; exact h
 ·rw [List.getElem?_append_right (by omega)] at h
  split at h
  ·rename_i k u hu
   have := hp _ (List.mem_of_getElem? hu)
   simp [A.plain] at this
  ·cases h
theorem grow_get {σ : Store} {l : Nat} {r : Root} (hl : l < σ.length) (h : Nat) : (σ.set l .dead ++ [r])[h]? = if h = l then some .dead else if h = σ.length then some r else σ[h]? := by
 by_cases e : h = l
 ·subst e; rw [if_pos rfl, List.getElem?_append_left (by simpa using hl)]; simp [hl]
 ·rw [if_neg e]
  by_cases e2 : h = σ.length
  ·subst e2; rw [if_pos rfl, List.getElem?_append_right (by simp)]; simp
  ·rw [if_neg e2]
   rcases Nat.lt_or_ge h σ.length with h3 | h3
   ·rw [List.getElem?_append_left (by simpa using h3), List.getElem?_set_ne (Ne.symm e)]
   ·rw [List.getElem?_eq_none (by simp; omega), List.getElem?_eq_none h3]
theorem rowAt_grow {σ : Store} {l : Nat} {xs ys : List A} (hr : σ[l]? = some (.row xs)) (hp : ∀ x ∈ ys, x.plain = true) {L zs} (h : rowAt (σ.set l .dead ++ [.row (xs ++ ys)]) L = some zs) :
  (L = [σ.length] ∧ zs = xs ++ ys) ∨ (∃ j q, L = σ.length :: j :: q ∧ rowAt σ (l :: j :: q) = some zs) ∨ (∃ h0 p, L = h0 :: p ∧ h0 ≠ l ∧ h0 ≠ σ.length ∧ rowAt σ L = some zs) := by
 have hl : l < σ.length := (List.getElem?_eq_some_iff.1 hr).1
 cases L with
 | nil => simp [rowAt] at h
 | cons h0 p =>
  simp only [rowAt, grow_get hl] at h
  by_cases e : h0 = l
  ·rw [if_pos e] at h; simp [Root.cells] at h
  ·rw [if_neg e] at h
   by_cases e2 : h0 = σ.length
   ·subst e2
    simp only [if_true, Root.cells] at h
    cases p with
    | nil => simp only [sub, Option.some.injEq] at h; exact .inl ⟨rfl, h.symm⟩
    | cons j q => exact .inr (.inl ⟨j, q, rfl, by simp only [rowAt, hr, Root.cells]; exact sub_app hp h⟩)
   ·rw [if_neg e2] at h
    exact .inr (.inr ⟨h0, p, rfl, e, e2, by simpa only [rowAt] using h⟩)
theorem isBox_grow {σ : Store} {l : Nat} {zs : List A} (hl : l < σ.length) {h0 : Nat} (h1 : h0 ≠ l) (p : List Nat) : isBox (σ.set l .dead ++ [.row zs]) (h0 :: p) = if h0 = σ.length then false else isBox σ (h0 :: p) := by
 cases p with
 | cons j p => simp [isBox]
 | nil =>
  simp only [isBox, grow_get hl, if_neg h1]
  by_cases e : h0 = σ.length
  ·rw [if_pos e, if_pos e]
  ·rw [if_neg e, if_neg e]
structure Grows (F : Nat → Prop) (Λ : Lbl) (σ : Store) (w w' : World) (l : Nat) (xs ys : List A) (lab : Option (Nat × Nat)) : Prop where
  row : σ[l]? = some (.row xs)
  plain : ∀ x ∈ ys, x.plain = true
  os : OsLe w w'
  tape : w'.tape = w.tape
  output : w'.output = w.output
  size : w.heap.size ≤ w'.heap.size
  sizes : Sizes w w'
  keep : ∀ b, b < w.heap.size → (∀ o, Λ [l] ≠ some (b, o)) → w'.heap[b]? = w.heap[b]?
  new : (lab = none ∧ xs ++ ys = []) ∨ ∃ b o cs t, lab = some (b, o) ∧ ¬ F b ∧ (w.heap.size ≤ b ∨ Λ [l] = some (b, o)) ∧ w'.heap[b]? = some (.cells cs t (0, 0)) ∧
    ∀ j x, (xs ++ ys)[j]? = some x → ∃ c, cs[o + j]? = some c ∧ Cell F Λ w false [l, j] c x
theorem Grows.ext {F Λ σ w w' l xs ys lab} (hs : St F Λ σ w) (h : Grows F Λ σ w w' l xs ys lab) : ∀ L b o, Λ L = some (b, o) → apL Λ l σ.length lab L = some (b, o) := fun L b o hL => by
 cases L with
 | nil => exact hL
 | cons h0 p =>
  simp only [apL]
  rw [if_neg ?_]
  ·exact hL
  ·rintro rfl
   rw [hs.lab (σ.length :: p) (by simp)] at hL; cases hL
theorem Grows.frozen {F Λ σ w w' l xs ys lab} (hs : St F Λ σ w) (h : Grows F Λ σ w w' l xs ys lab) : ∀ b, F b → F b ∧ w'.heap[b]? = w.heap[b]? := fun b hb => ⟨hb, h.keep b (hs.old b hb) fun o hL => hs.notOwn hb ⟨[l], xs, o, by simp only [rowAt, h.row, Root.cells, sub], hL⟩⟩
theorem Grows.st {F Λ σ w w' l xs ys lab} (hs : St F Λ σ w) (h : Grows F Λ σ w w' l xs ys lab) : St F (apL Λ l σ.length lab) (σ.set l .dead ++ [.row (xs ++ ys)]) w' := by
  have hl : l < σ.length := (List.getElem?_eq_some_iff.1 h.row).1
  have hrow : rowAt σ [l] = some xs := by simp only [rowAt, h.row, Root.cells, sub]
  have hF := h.frozen hs
  have hext := h.ext hs
  have other : ∀ L zs, rowAt σ L = some zs → L ≠ [l] → ∀ b o, Λ L = some (b, o) → w'.heap[b]? = w.heap[b]? := fun L zs hL hne b o hb =>
    h.keep b (hs.owns ⟨L, zs, o, hL, hb⟩) fun o' h' => hne (hs.apart _ _ _ _ _ _ _ hL hrow hb h')
  refine ⟨fun L zs hz => ?_, fun L zs L' zs' b o o' h1 h2 h3 h4 => ?_, fun b hb => Nat.lt_of_lt_of_le (hs.old b hb) h.size, hs.tab.mono hF, fun L hL => ?_⟩
  · rcases rowAt_grow h.row h.plain hz with ⟨rfl, rfl⟩ | ⟨j, q, rfl, h1⟩ | ⟨h0, p, rfl, h1, h2, h3⟩
    · have e : apL Λ l σ.length lab [σ.length] = lab := by simp [apL]
      rw [e]
      rcases h.new with h4 | ⟨b, o, cs, t, h4, h5, _, h6, h7⟩
      · exact .inl h4
      · refine .inr ⟨b, o, cs, t, h4, h5, h6, fun j x hx => ?_⟩
        obtain ⟨c, h8, h9⟩ := h7 j x hx
        refine ⟨c, h8, ?_⟩
        rw [isBox_grow hl (by omega), if_pos rfl]
        have h9 := h9.mono hF h.sizes
        exact h9.unbox fun a n k v hv => hv.imp id fun ⟨b, o, cap, g1, g2⟩ => ⟨b, o, cap, by simpa [apL] using g1, g2⟩
    · have e : apL Λ l σ.length lab (σ.length :: j :: q) = Λ (l :: j :: q) := by simp [apL]
      rw [e]
      rcases hs.row _ _ h1 with h4 | ⟨b, o, cs, t, h4, h5, h6, h7⟩
      · exact .inl h4
      · refine .inr ⟨b, o, cs, t, h4, h5, by rw [other _ _ h1 (by simp) b o h4]; exact h6, fun i x hx => ?_⟩
        obtain ⟨c, h8, h9⟩ := h7 i x hx
        refine ⟨c, h8, ?_⟩
        have h9 := h9.mono hF h.sizes
        exact h9.unbox fun a n k v hv => hv.imp id fun ⟨b, o, cap, g1, g2⟩ => ⟨b, o, cap, by simpa [apL] using g1, g2⟩
    · have e : apL Λ l σ.length lab (h0 :: p) = Λ (h0 :: p) := by simp [apL, h2]
      rw [e]
      rcases hs.row _ _ h3 with h4 | ⟨b, o, cs, t, h4, h5, h6, h7⟩
      · exact .inl h4
      · refine .inr ⟨b, o, cs, t, h4, h5, by rw [other _ _ h3 (by simp [h1]) b o h4]; exact h6, fun i x hx => ?_⟩
        obtain ⟨c, h8, h9⟩ := h7 i x hx
        refine ⟨c, h8, ?_⟩
        rw [isBox_grow hl h1, if_neg h2]
        exact (h9.mono hF h.sizes).ext hext
  · have key : ∀ L zs b o, rowAt (σ.set l .dead ++ [.row (xs ++ ys)]) L = some zs → apL Λ l σ.length lab L = some (b, o) →
        (L = [σ.length] ∧ w.heap.size ≤ b) ∨ ∃ h0 p us, L = (if h0 = l then σ.length else h0) :: p ∧ h0 ≠ σ.length ∧ rowAt σ (h0 :: p) = some us ∧ Λ (h0 :: p) = some (b, o) := fun L zs b o hz hb => by
      rcases rowAt_grow h.row h.plain hz with ⟨rfl, rfl⟩ | ⟨j, q, rfl, h1⟩ | ⟨h0, p, rfl, h1, h2, h3⟩
      · have e : apL Λ l σ.length lab [σ.length] = lab := by simp [apL]
        rw [e] at hb
        rcases h.new with ⟨h4, _⟩ | ⟨b', o', cs, t, h4, h5, h6, _⟩
        · rw [h4] at hb; cases hb
        · rw [h4] at hb; cases hb
          rcases h6 with h6 | h6
          · exact .inl ⟨rfl, h6⟩
          · exact .inr ⟨l, [], xs, by rw [if_pos rfl], by omega, hrow, h6⟩
      · exact .inr ⟨l, j :: q, zs, by rw [if_pos rfl], by omega, h1, by simpa [apL] using hb⟩
      · exact .inr ⟨h0, p, zs, by rw [if_neg h1], h2, h3, by simpa [apL, h2] using hb⟩
    rcases key _ _ _ _ h1 h3 with ⟨g1, g2⟩ | ⟨a, p, us, rfl, ga, g1, g2⟩ <;> rcases key _ _ _ _ h2 h4 with ⟨g3, g4⟩ | ⟨a', p', us', rfl, ga', g3, g4⟩
    · rw [g1, g3]
    · have := hs.owns ⟨_, _, _, g3, g4⟩; omega
    · have := hs.owns ⟨_, _, _, g1, g2⟩; omega
    · have := hs.apart _ _ _ _ _ _ _ g1 g3 g2 g4
      simp only [List.cons.injEq] at this
      obtain ⟨rfl, rfl⟩ := this
      rfl
  · cases L with
    | nil => simp at hL
    | cons h0 p =>
      simp only [List.headD_cons, List.length_append, List.length_set, List.length_cons, List.length_nil] at hL
      simp only [apL]
      rw [if_neg (by omega)]
      exact hs.lab (h0 :: p) (by simp; omega)
theorem Grows.step {m F Λ σ w w' l xs ys lab} (hs : St F Λ σ w) (h : Grows F Λ σ w w' l xs ys lab) : Step m F Λ σ w F (apL Λ l σ.length lab) (σ.set l .dead ++ [.row (xs ++ ys)]) w' := by
  have hl : l < σ.length := (List.getElem?_eq_some_iff.1 h.row).1
  have hrow : rowAt σ [l] = some xs := by simp only [rowAt, h.row, Root.cells, sub]
  exact { os := h.os, tape := h.tape, output := h.output, size := h.size, sizes := h.sizes
          keep := fun b hb hno => h.keep b hb fun o ho => hno ⟨[l], xs, o, hrow, ho⟩
          mono := fun _ h => h, new := fun _ h => .inl h
          own := fun b ⟨L, zs, o, h1, h2⟩ => by
            rcases rowAt_grow h.row h.plain h1 with ⟨rfl, rfl⟩ | ⟨j, q, rfl, h3⟩ | ⟨h0, p, rfl, h3, h4, h5⟩
            · have e : apL Λ l σ.length lab [σ.length] = lab := by simp [apL]
              rw [e] at h2
              rcases h.new with ⟨h4, _⟩ | ⟨b', o', cs, t, h4, h5, h6, _⟩
              · rw [h4] at h2; cases h2
              · rw [h4] at h2; cases h2
                rcases h6 with h6 | h6
                · exact .inr h6
                · exact .inl ⟨[l], xs, _, hrow, h6⟩
            · exact .inl ⟨_, zs, o, h3, by simpa [apL] using h2⟩
            · exact .inl ⟨_, zs, o, h5, by simpa [apL, h4] using h2⟩
          len := by simp; omega
          kept := fun L b o _ hL => h.ext hs L b o hL
          boxes := fun a us _ ha => by
            have e1 : a ≠ l := by rintro rfl; rw [h.row] at ha; cases ha
            have e2 : a ≠ σ.length := by rintro rfl; simp at ha
            exact ⟨by simp [apL, e2], us, by rw [grow_get hl, if_neg e1, if_neg e2]; exact ha⟩ }
theorem Grows.fr {F Λ σ w w' l xs ys lab tmps E} (hs : St F Λ σ w) (h : Grows F Λ σ w w' l xs ys lab) (hf : FrOK F Λ w tmps E) : FrOK F (apL Λ l σ.length lab) w' tmps E :=
 (hf.mono (h.frozen hs) h.sizes).ext (h.ext hs)
def SrcA (P : Program) (E : Env) (σ : Store) (y : Operand) (m k : Nat) (ys : List A) : Prop :=
 ys.length = m * k ∧ ∀ F Λ w tmps, St F Λ σ w → FrOK F Λ w tmps E → ∃ (ax : Option Addr) (c : Nat) (news : List Value), Act.eval ⟨tmps, []⟩ y = .slice ax m c ∧ news.length = m * k ∧
  (∀ w' : World, w'.heap = w.heap → (Builtin.firstCells k m (.slice ax m c)).run P w' = .ok news.toArray w') ∧ ∀ (j : Nat) x, ys[j]? = some x → ∃ u, news[j]? = some u ∧ OK F Λ w u x
theorem cell?_heap {w w' : World} (h : w'.heap = w.heap) (a : Addr) : w'.cell? a = w.cell? a := World.cell?_of_block (w := w) (by rw [h])
theorem cellAt_news {w : World} {b o' q : Nat} {ys : List A} (hc : ∀ (j : Nat) x, ys[j]? = some x → ∃ c, w.cell? ⟨b, o' + j, none⟩ = some c) (hl : ys.length = q) :
  ∃ news : List Value, news.length = q ∧ ∀ (j : Nat), j < q → ∃ c, news[j]? = some c ∧ w.cell? ⟨b, o' + j, none⟩ = some c :=
 ⟨(List.range q).map fun j => (w.cell? ⟨b, o' + j, none⟩).getD undef, by simp, fun j hj => by
  obtain ⟨c, h1⟩ := hc j (ys[j]'(by omega)) (List.getElem?_eq_getElem _)
  exact ⟨c, by simp [hj, h1], h1⟩⟩
theorem run_news {P : Program} {w : World} {b o' m k c : Nat} {news : List Value} (hl : news.length = m * k) (h : ∀ (j : Nat), j < m * k → ∃ c, news[j]? = some c ∧ w.cell? ⟨b, o' + j, none⟩ = some c) (w' : World) (hw : w'.heap = w.heap) :
  (Builtin.firstCells k m (.slice (some ⟨b, o', none⟩) m c)).run P w' = .ok news.toArray w' :=
 run_firstCells_some w' k m ⟨b, o', none⟩ m c news hl fun j v hv => by
  have hj : j < m * k := by have := (List.getElem?_eq_some_iff.1 hv).1; omega
  obtain ⟨c, h1, h2⟩ := h j hj
  rw [addr_add, cell?_heap hw, h2, ← h1, hv]
theorem src_i {P : Program} {E : Env} {σ : Store} {y : Operand} {k : Nat} {ys : List A} (m : Nat) (hk : 0 < k) (hy : val E y = .i k ys) (hl : ys.length = m * k) : SrcA P E σ y m k ys := ⟨hl, fun F Λ w tmps hs hf => by
 have e1 := val_ok (ds := []) hf y
 rw [hy] at e1
 rcases e1.i_inv hk hl with ⟨rfl, rfl, ad, cap, h1⟩ | ⟨b, o', cap, cs, _, _, h2, _, h4, h5⟩
 ·exact ⟨ad, cap, [], h1, by simp, fun w' _ => firstCells_zero w' k ad cap, by simp⟩
 ·obtain ⟨news, h6, h7⟩ := cellAt_news (w := w) (fun j x hx => ⟨_, h4 j x hx⟩) hl
  refine ⟨_, cap, news, h2, h6, run_news h6 h7, fun j x hx => ?_⟩
  obtain ⟨c, h8, h9⟩ := h7 j (by have := (List.getElem?_eq_some_iff.1 hx).1; omega)
  rw [h4 j x hx] at h9
  cases h9
  exact ⟨_, h8, .imm (h5 j x hx)⟩⟩
theorem src_m {P : Program} {E : Env} {σ : Store} {y : Operand} {L : List Nat} {a m k : Nat} {zs ys : List A} (hy : val E y = .m L a m k) (hr : rowAt σ L = some zs) (hl : a + m * k ≤ zs.length) (he : (zs.drop a).take (m * k) = ys) (hb : isBox σ L = false) (hc : cellAllB ys = true) : SrcA P E σ y m k ys := by
 subst he
 have hlen : ((zs.drop a).take (m * k)).length = m * k := by simp; omega
 refine ⟨hlen, fun F Λ w tmps hs hf => ?_⟩
 have e1 := val_ok (ds := []) hf y
 rw [hy] at e1
 rcases e1.m_inv with ⟨rfl, ad, h1⟩ | ⟨b, o', cap, h1, h2, _, _, _⟩
 ·exact ⟨ad, 0, [], h1, by simp, fun w' _ => firstCells_zero w' k ad 0, by simp⟩
 ·have key : ∀ (j : Nat) x, ((zs.drop a).take (m * k))[j]? = some x → ∃ c, w.cell? ⟨b, o' + a + j, none⟩ = some c ∧ OK F Λ w c x := fun j x hx => by
   have hj : j < m * k := by have := (List.getElem?_eq_some_iff.1 hx).1; omega
   have hx' := hx
   rw [List.getElem?_take_of_lt hj, List.getElem?_drop] at hx'
   obtain ⟨c, h3, h4⟩ := hs.cellAt hr h1 hx'
   refine ⟨c, by rw [Nat.add_assoc]; exact h3, ?_⟩
   have hin := cellAll hc x (List.mem_of_getElem? hx)
   rw [hb] at h4
   cases x <;> first | exact h4.2 | (simp [A.inCell] at hin)
  obtain ⟨news, h6, h7⟩ := cellAt_news (w := w) (fun j x hx => (key j x hx).imp fun c h => h.1) hlen
  refine ⟨_, cap, news, h2, h6, run_news h6 h7, fun j x hx => ?_⟩
  obtain ⟨c, h8, h9⟩ := h7 j (by have := (List.getElem?_eq_some_iff.1 hx).1; omega)
  obtain ⟨c', g1, g2⟩ := key j x hx
  rw [g1] at h9; cases h9
  exact ⟨_, h8, g2⟩
theorem inCell_plain {x : A} (h : x.inCell = true) : x.plain = true := inBox_plain (inCell_inBox h)
section
variable {P : Program} {n m : Nat} {N : Env → Store → Prop} {E : Env} {σ : Store} {o : Oper} {ops : Array Oper} {os : List Oper}
theorem TOp_append {t e k l nn mm by_ : Nat} {x y : Operand} {zs : List Value} {xs ys : List A} (hT : SlT P t e k) (hz : ZeroT P e zs) (hzk : zs.length = k) (hby : (P.info? e).map (·.bytes) = some by_)
  (h : o.op = .call { callee := .builtin .append, args := #[x, y], argTypes := #[t, t] }) (hd : dstOK n o.dst = true) (hx : val E x = .m [l] 0 nn k) (hr : σ[l]? = some (.row xs)) (hl : xs.length = nn * k)
  (hsrc : SrcA P E σ y mm k ys) (hc : cellAllB ys = true) (hm : nn + mm ≤ 9223372036854775807) (hb : (nn + mm) * by_ ≤ 140737488355328)
  (hN : N (put E o.dst (.m [σ.length] 0 (nn + mm) k)) (σ.set l .dead ++ [.row (xs ++ ys)])) : TOp P n m o N E σ := fun F Λ w tmps K Q hn hs hf hk => by
 obtain ⟨⟨inf, z, h1, h2, h3⟩, h4⟩ := hz
 have hbytes : inf.bytes = by_ := by simpa [h1] using hby
 have hsize : inf.size = k := by obtain ⟨i2, g1, g2⟩ := hT.i; rw [h1] at g1; cases g1; exact g2
 have hzc : z.cells.size = k := by rw [← hzk, ← h3]; simp
 have hk0 := hT.pos
 obtain ⟨hyl, hsrc⟩ := hsrc
 obtain ⟨ax, c, news, hy, hnl, hrun, hcells⟩ := hsrc F Λ w tmps hs hf
 have hrow : rowAt σ [l] = some xs := by simp only [rowAt, hr, Root.cells, sub]
 have hlt : l < σ.length := (List.getElem?_eq_some_iff.1 hr).1
 have hpl : ∀ x ∈ ys, x.plain = true := fun x hx => inCell_plain (cellAll hc x hx)
 have hcell : ∀ (j : Nat) x, ys[j]? = some x → ∃ u, news[j]? = some u ∧ ∀ L, Cell F Λ w false L u x := fun j x hx => by
  obtain ⟨u, g1, g2⟩ := hcells j x hx
  exact ⟨u, g1, fun L => .ofCell (cellAll hc x (List.mem_of_getElem? hx)) g2⟩
 have h1c : ∀ u ∈ news, u.oneCell' = true := fun u hu => by
  obtain ⟨j, hj⟩ := List.getElem?_of_mem hu
  have hjl : j < ys.length := by have := (List.getElem?_eq_some_iff.1 hj).1; omega
  obtain ⟨u', g1, g2⟩ := hcells j _ (List.getElem?_eq_getElem hjl)
  rw [hj] at g1; cases g1
  exact oneCell_sc (g2.cells1 (inCell_inBox (cellAll hc _ (List.getElem_mem hjl)))).2
 have fin : ∀ (lab : Option (Nat × Nat)) (w' : World) (v : Value), (Builtin.append_ #[t, t] o.type #[Act.eval ⟨tmps, []⟩ x, .slice ax mm c]).run P w = .ok v w' → Grows F Λ σ w w' l xs ys lab → OK F (apL Λ l σ.length lab) w' v (.m [σ.length] 0 (nn + mm) k) → o.wp P ⟨tmps, []⟩ w K Q := fun lab w' v hr' hg hv => by
  obtain ⟨tmps', e', hn', hf'⟩ := (hg.fr hs hf).putO (ds := []) hn hd hv
  unfold Oper.wp execOp
  simp only [h, resolve, invoke, builtin, Sem.run_bind, Sem.run_pure, Result.andThen_ok, List.map_toArray, List.map_cons, List.map_nil, hy, hr']
  show K (Act.put ⟨tmps, []⟩ o.dst v) w'
  rw [e']
  exact hk F _ _ w' tmps' _ hn' (hg.st hs) hf' (hg.step hs) hN
 have grow : ∀ (ad : Option Addr) (cap : Nat) (olds : List Value), Act.eval ⟨tmps, []⟩ x = .slice ad nn cap → olds.length = nn * k → (∀ w' : World, w'.heap = w.heap → (Builtin.firstCells k nn (.slice ad nn cap)).run P w' = .ok olds.toArray w') →
   (∀ (j : Nat) x, xs[j]? = some x → ∃ u, olds[j]? = some u ∧ Cell F Λ w false [l, j] u x) → cap < nn + mm → o.wp P ⟨tmps, []⟩ w K Q := fun ad cap olds hv hol hold hoc hcap => by
  subst hsize hbytes
  have hge := grownCap_ge w (nn + mm) cap e
  have hcm : grownCap w (nn + mm) cap e ≤ maxLen := grownCap_le_maxLen w (nn + mm) cap e (by simp only [maxLen]; omega)
  have hsz : (olds.toArray ++ news.toArray ++ Builtin.zeroCells z.cells (grownCap w (nn + mm) cap e - (nn + mm))).size = grownCap w (nn + mm) cap e * inf.size := by
   simp only [Array.size_append, List.size_toArray, size_zeroCells, hzc, hol, hnl, ← Nat.add_mul]
   congr 1; omega
  refine fin (some (w.heap.size, 0)) _ _ (by rw [hv]; exact run_append_new w t o.type e inf z hT.u h1 h2 ad nn cap olds (hold _ rfl) ax mm c news (hrun _ rfl) hcap (by omega) (growslice_fits hcap hb)) ?_ ?_
  ·refine ⟨hr, hpl, ⟨rfl, fun _ => by first | exact Nat.le_refl _ | exact Nat.le_succ _⟩, rfl, rfl, by simp, Sizes.alloc w.drew _, fun b hb _ => (by first | exact Go.heap_alloc_old w.drew _ b hb | exact Go.heap_alloc_old w.drew _ hb), .inr ⟨w.heap.size, 0, _, e, rfl, fun hb => absurd (hs.old _ hb) (by omega), .inl (Nat.le_refl _), Go.heap_alloc_new w.drew _, fun j x hx => ?_⟩⟩
   rw [Nat.zero_add]
   by_cases hj : j < xs.length
   ·rw [List.getElem?_append_left hj] at hx
    obtain ⟨u, g1, g2⟩ := hoc j x hx
    refine ⟨u, ?_, g2⟩
    rw [Array.getElem?_append_left (by simp; omega), Array.getElem?_append_left (by simp; omega)]
    simpa using g1
   ·rw [List.getElem?_append_right (by omega)] at hx
    obtain ⟨u, g1, g2⟩ := hcell _ x hx
    refine ⟨u, ?_, g2 _⟩
    have := (List.getElem?_eq_some_iff.1 g1).1
    rw [Array.getElem?_append_left (by simp; omega), Array.getElem?_append_right (by simp; omega)]
    simpa [hol, hl] using g1
  ·exact .m (.inr ⟨w.heap.size, 0, _, by simp [apL], by simp, hge, hcm, _, e, heap_alloc_new w.drew _, by rw [hsz]; simp⟩)
 have e1 := val_ok (ds := []) hf x
 rw [hx] at e1
 rcases e1.m_inv with ⟨rfl, ad, g1⟩ | ⟨b, o', cap, g1, g2, g3, g4, cs, te, g5, g6⟩
 ·have hxs : xs = [] := List.eq_nil_of_length_eq_zero (by omega)
  subst hxs
  by_cases hm0 : mm = 0
  ·subst hm0
   have hys : ys = [] := List.eq_nil_of_length_eq_zero (by omega)
   subst hys
   refine fin none w (.slice ad 0 0) (by rw [g1]; exact run_append_empty w t o.type e inf hT.u h1 ad ax c) ⟨hr, hpl, ⟨rfl, fun _ => by first | exact Nat.le_refl _ | exact Nat.le_succ _⟩, rfl, rfl, Nat.le_refl _, Sizes.refl _, fun _ _ _ => rfl, .inl ⟨rfl, rfl⟩⟩ (.m (.inl ⟨rfl, ad, rfl⟩))
  ·exact grow ad 0 [] g1 (by simp) (fun w' _ => firstCells_zero w' k ad 0) (by simp) (by omega)
 ·have hold : ∀ (j : Nat) x, xs[j]? = some x → ∃ u, w.cell? ⟨b, o' + 0 + j, none⟩ = some u ∧ Cell F Λ w false [l, j] u x := fun j x hx => by
   obtain ⟨u, k1, k2⟩ := hs.cellAt hrow g1 hx
   rw [isBox_row hr []] at k2
   exact ⟨u, k1, k2⟩
  by_cases hroom : nn + mm ≤ cap
  ·subst hsize hbytes
   have hfit : o' + 0 + nn * inf.size + news.length ≤ cs.size := by
    have : (nn + mm) * inf.size ≤ cap * inf.size := Nat.mul_le_mul_right _ hroom
    rw [Nat.add_mul] at this; omega
   have hbr := setRow_heap w b cs (cs.toList.take (o' + 0 + nn * inf.size) ++ news ++ cs.toList.drop (o' + 0 + nn * inf.size + news.length)).toArray te (0, 0) g5
   have hsz : (cs.toList.take (o' + 0 + nn * inf.size) ++ news ++ cs.toList.drop (o' + 0 + nn * inf.size + news.length)).length = cs.size := by
    simp only [List.length_append, List.length_take, List.length_drop, Array.length_toList]; omega
   refine fin (some (b, o')) _ _ (by rw [g2]; exact run_append_in w t o.type e inf hT.u h1 b (o' + 0) nn cap cs te g5 ax mm c news (hrun w rfl) h1c hroom hfit) ?_ ?_
   ·refine ⟨hr, hpl, ⟨rfl, fun _ => by first | exact Nat.le_refl _ | exact Nat.le_succ _⟩, rfl, rfl, by simp [World.setRow], fun b2 cs2 t2 hb2 => ?_, fun b2 hb2 hne => setRow_other w b b2 _ (by rintro rfl; exact hne o' g1), .inr ⟨b, o', _, te, rfl, fun hb2 => hs.notOwn hb2 ⟨[l], xs, o', hrow, g1⟩, .inr g1, hbr, fun j x hx => ?_⟩⟩
    ·by_cases e2 : b2 = b
     ·subst e2
      rw [g5] at hb2; cases hb2
      exact ⟨_, hbr, by simpa using hsz⟩
     ·exact ⟨cs2, by rw [setRow_other w b b2 _ e2]; exact hb2, rfl⟩
    ·by_cases hj : j < xs.length
     ·rw [List.getElem?_append_left hj] at hx
      obtain ⟨u, k1, k2⟩ := hold j x hx
      refine ⟨u, ?_, k2⟩
      rw [cell_of_row w b _ cs te (0, 0) g5] at k1
      simp only [List.getElem?_toArray]
      rw [List.append_assoc, List.getElem?_append_left (by simp; omega), List.getElem?_take_of_lt (by omega)]
      simpa using k1
     ·rw [List.getElem?_append_right (by omega)] at hx
      obtain ⟨u, k1, k2⟩ := hcell _ x hx
      refine ⟨u, ?_, k2 _⟩
      have hjj := (List.getElem?_eq_some_iff.1 k1).1
      simp only [List.getElem?_toArray]
      rw [List.append_assoc, List.getElem?_append_right (by simp; omega), List.getElem?_append_left (by simp; omega), ← k1]
      congr 1
      simp only [List.length_take, Array.length_toList]
      omega
   ·exact .m (.inr ⟨b, o', cap, by simp [apL], rfl, hroom, g4, _, te, hbr, by simp only [List.size_toArray, hsz]; exact g6⟩)
  ·obtain ⟨olds, k1, k2⟩ := cellAt_news (w := w) (fun j x hx => (hold j x hx).imp fun c h => h.1) hl
   refine grow _ cap olds g2 k1 (run_news k1 k2) (fun j x hx => ?_) (by omega)
   obtain ⟨u, k3, k4⟩ := hold j x hx
   obtain ⟨u', k5, k6⟩ := k2 j (by have := (List.getElem?_eq_some_iff.1 hx).1; omega)
   rw [k3] at k6; cases k6
   exact ⟨_, k5, k4⟩
end
end Go.Sep
set_option linter.unusedVariables false
set_option linter.unusedSimpArgs false
namespace Go.Sep
open Go
theorem fill_ok2 {F Λ w} {pl : List (Nat × Nat)} {f : Nat → Option (Nat × Nat)} (hfp : ∀ i p, pl[i]? = some p → f i = some p) {tmps : Array Value} {E : Env} (hf : FrOK F Λ w tmps E) : ∀ (parts : List (Nat × Operand)) (cs : Array Value) (as as' : List A), cs.size = as.length → (∀ (j : Nat) y, as[j]? = some y → ∃ c, cs[j]? = some c ∧ OK F Λ w c y) →
  fillA pl as (parts.map fun p => (p.1, val E p.2)) = some as' →
  ∃ cs', Instr.fill f cs (parts.map fun p => (p.1, Act.eval ⟨tmps, []⟩ p.2)) = some cs' ∧ cs'.size = as'.length ∧ (∀ (j : Nat) y, as'[j]? = some y → ∃ c, cs'[j]? = some c ∧ OK F Λ w c y)
 | [], cs, as, as', hl, hc, h => by
  simp only [List.map_nil, fillA, Option.some.injEq] at h
  subst h
  exact ⟨cs, rfl, hl, hc⟩
 | (i, x) :: rest, cs, as, as', hl, hc, h => by
  simp only [List.map_cons, fillA] at h
  split at h
  case h_2 => cases h
  rename_i off k hp
  split at h
  case isFalse => cases h
  rename_i hh
  obtain ⟨h1, h2, h3⟩ := hh
  have hx := val_ok (ds := []) hf x
  have hcs := hx.cellsOf (boxAll h3)
  have hlen : (Act.eval ⟨tmps, []⟩ x).cells.size = k := by
   cases hvx : val E x with
   | g zs =>
    rw [hvx] at hx h1
    obtain ⟨vs, h5, h6, _⟩ := hx.g_inv
    simp only [Sep.cellsOf] at h1
    rw [h5]; simp [Value.cells, h6, h1]
   | _ =>
    rw [hvx] at hx h1 h3
    simp only [Sep.cellsOf] at h1 h3
    obtain ⟨h5, _⟩ := hx.cells1 (boxAll h3 _ (by simp))
    rw [h5, ← h1]; simp
  generalize hvs : Act.eval ⟨tmps, []⟩ x = v at hcs hlen
  simp only [List.map_cons, Instr.fill, hfp i _ hp, hvs]
  rw [if_neg (by simp [hlen]; omega)]
  refine fill_ok2 hfp hf rest _ _ as' ?_ (fun j y hy => ?_) h
  ·rw [← Array.foldl_toList, Array.toList_zipIdx, foldl_size, spl_len]; exact hl
  ·rw [spl_get _ _ _ _ (by rw [h1]; omega)] at hy
   rw [← Array.foldl_toList, Array.toList_zipIdx, foldl_cells _ 0 off cs (by simp [hlen]; omega)]
   simp only [Nat.add_zero, Array.length_toList, hlen]
   rw [h1] at hy
   split at hy
   ·rename_i h6
    rw [if_pos h6]
    obtain ⟨c, h7, h8⟩ := hcs _ y hy
    exact ⟨c, h7, h8⟩
   ·rename_i h6
    rw [if_neg h6]
    exact hc j y hy
def litPl (n k : Nat) : List (Nat × Nat) := (List.range n).map fun i => (i * k, k)
theorem litPl_get {n k i : Nat} {p} (h : (litPl n k)[i]? = some p) : some (i * k, k) = some p := by
 have hi : i < n := by have := (List.getElem?_eq_some_iff.1 h).1; simpa [litPl] using this
 simp [litPl, hi] at h
 rw [h]
section
variable {P : Program} {n m : Nat} {N : Env → Store → Prop} {E : Env} {σ : Store} {o : Oper}
theorem TOp_lit {t e k nn : Nat} {zs : List Value} {parts : List (Nat × Operand)} {as : List A} (hT : SlT P t e k) (hz : ZeroT P e zs) (h : o.op = .buildSlice t nn parts.toArray) (hd : dstOK n o.dst = true)
  (hfill : fillA (litPl nn k) (List.replicate (nn * k) .j) (parts.map fun p => (p.1, val E p.2)) = some as) (hc : cellAllB as = true) (hsz : nn * k ≤ 16777216)
  (hN : N (put E o.dst (.m [σ.length] 0 nn k)) (σ ++ [.row as])) : TOp P n m o N E σ := by
 obtain ⟨⟨inf, z, h1, h2, h3⟩, h4⟩ := hz
 have hsize : inf.size = k := by obtain ⟨i2, g1, g2⟩ := hT.i; rw [h1] at g1; cases g1; exact g2
 refine TOp_new (.row as) as rfl e (fun y hy => inCell_plain (cellAll hc y hy)) _ hd (fun F Λ w tmps hs hf => ?_) hN
 obtain ⟨cs', g1, g2, g3⟩ := fill_ok2 (f := fun i => some (i * k, k)) (fun i p hp => litPl_get hp) hf parts ((Array.range (nn * k)).map ((if nn * k = 0 then #[] else z.cells)[· % (if nn * k = 0 then #[] else z.cells).size]!)) (List.replicate (nn * k) .j) as (by simp) (fun j y hy => by
  have hj : j < nn * k := by have := (List.getElem?_eq_some_iff.1 hy).1; simpa using this
  rw [List.getElem?_replicate, if_pos hj] at hy
  cases hy
  exact ⟨_, Array.getElem?_eq_getElem (by simpa using hj), .j _⟩) hfill
 have hlen : as.length = nn * k := by
  have key : ∀ (parts : List (Nat × A)) (as as' : List A), fillA (litPl nn k) as parts = some as' → as'.length = as.length := fun parts => by
   induction parts with
   | nil => intro as as' h; simp only [fillA, Option.some.injEq] at h; subst h; rfl
   | cons p rest ih =>
    intro as as' h
    obtain ⟨i, a⟩ := p
    simp only [fillA] at h
    split at h
    ·split at h
     ·rw [ih _ _ h, spl_len]
     ·cases h
    ·cases h
  rw [key _ _ _ hfill]; simp
 refine ⟨cs'.toList, .slice (some ⟨w.heap.size, 0, none⟩) nn nn, fun j x hx => ?_, ?_, ?_⟩
 ·obtain ⟨c, g4, g5⟩ := g3 j x hx
  exact ⟨c, by rw [Array.getElem?_toList]; exact g4, .ofCell (cellAll hc x (List.mem_of_getElem? hx)) g5⟩
 ·simp only [execOp, h, Instr.buildSlice, run_underlying hT.u, Sem.run_bind, Result.andThen_ok, run_sizeOf' hT.i]
  rw [if_neg (by omega)]
  have hm : (parts.toArray.map fun (x : Nat × Operand) => match x with | (i, x) => (i, Act.eval ⟨tmps, []⟩ x)).toList = parts.map fun p => (p.1, Act.eval ⟨tmps, []⟩ p.2) := by simp
  have hzr : (zeroValue e).run P w = .ok z w := by simp [zeroValue, typeInfo, h1, h2]
  by_cases h0 : nn * k = 0
  ·rw [if_pos h0] at g1
   simp only [h0, if_true, Sem.run_pure, Result.andThen_ok, Sem.run_bind, hm] at g1 ⊢
   rw [g1]
   simp [newRow]
  ·rw [if_neg h0] at g1
   simp only [h0, if_false, Sem.run_pure, Sem.run_bind, hzr, Result.andThen_ok, hm]
   rw [g1]
   simp [newRow]
 ·exact .m (.inr ⟨w.heap.size, 0, nn, by simp [pushL], by simp, Nat.le_refl _, by
   have := hT.pos
   have : nn ≤ nn * k := Nat.le_mul_of_pos_right _ hT.pos
   simp only [maxLen]; omega, _, e, heap_alloc_new w _, by simp only [Array.toArray_toList, Nat.zero_add]; omega⟩)
end
def isRows (σ : Store) : Bool := σ.all fun r => match r with | .row _ => true | .dead => true | _ => false
def joinL (Λ Λ1 : Lbl) (s : Nat) : Lbl := fun L => match L with
 | [] => Λ []
 | h :: p => if h < s then Λ (h :: p) else Λ1 ((h - s) :: p)
theorem rowAt_join {σ σ1 : Store} {h : Nat} {p : List Nat} : rowAt (σ ++ σ1) (h :: p) = if h < σ.length then rowAt σ (h :: p) else rowAt σ1 ((h - σ.length) :: p) := by
 simp only [rowAt]
 by_cases hh : h < σ.length
 ·rw [List.getElem?_append_left hh, if_pos hh]
 ·rw [List.getElem?_append_right (by omega), if_neg hh]
theorem isBox_rows {σ1 : Store} (h : isRows σ1 = true) (L : List Nat) : isBox σ1 L = false := by
 match L with
 | [] => rfl
 | [l] =>
  simp only [isBox]
  cases hs : σ1[l]? with
  | none => rfl
  | some r =>
   simp only [isRows, List.all_eq_true] at h
   have := h r (List.mem_of_getElem? hs)
   cases r <;> simp_all
 | _ :: _ :: _ => rfl
theorem isBox_join {σ σ1 : Store} (h1 : isRows σ1 = true) (h : Nat) (p : List Nat) : isBox (σ ++ σ1) (h :: p) = if h < σ.length then isBox σ (h :: p) else false := by
 cases p with
 | cons j p => simp [isBox]
 | nil =>
  have h2 := isBox_rows h1 [h - σ.length]
  simp only [isBox] at h2 ⊢
  by_cases hh : h < σ.length
  ·rw [List.getElem?_append_left hh, if_pos hh]
  ·rw [List.getElem?_append_right (by omega), if_neg hh]; exact h2
theorem St.join {F Λ σ w F1 Λ1 σ1 w1} (hs : St F Λ σ w) (h : Step 0 F (fun _ => none) [] w F1 Λ1 σ1 w1) (hs1 : St F1 Λ1 σ1 w1) (hr : isRows σ1 = true) : St F1 (joinL Λ Λ1 σ.length) (σ ++ σ1) w1 := by
 have h0 := hs.callee h hs1
 have hnew : ∀ b, Own Λ1 σ1 b → w.heap.size ≤ b := fun b hb => (h.own b hb).elim (fun ho => ho.empty.elim) id
 refine ⟨fun L xs hx => ?_, fun L xs L' xs' b o o' h1 h2 h3 h4 => ?_, hs1.old, hs1.tab, fun L hL => ?_⟩
 ·cases L with
  | nil => simp [rowAt] at hx
  | cons l p =>
   rw [rowAt_join] at hx
   split at hx
   ·rename_i hh
    have e : joinL Λ Λ1 σ.length (l :: p) = Λ (l :: p) := if_pos hh
    rw [e]
    refine (h0.row _ _ hx).imp id fun ⟨b, o, cs, t, g1, g2, g3, g4⟩ => ⟨b, o, cs, t, g1, g2, g3, fun j x hj => (g4 j x hj).imp fun c hc => ⟨hc.1, ?_⟩⟩
    rw [isBox_join hr, if_pos hh]
    refine hc.2.ext fun L b o hL => ?_
    cases L with
    | nil => exact hL
    | cons h p =>
     simp only [joinL]
     rw [if_pos ?_]
     ·exact hL
     ·refine Nat.lt_of_not_le fun hc => ?_
      rw [hs.lab (h :: p) (by simpa using hc)] at hL; cases hL
   ·rename_i hh
    have e : joinL Λ Λ1 σ.length (l :: p) = Λ1 ((l - σ.length) :: p) := if_neg hh
    rw [e]
    refine (hs1.row _ _ hx).imp id fun ⟨b, o, cs, t, g1, g2, g3, g4⟩ => ⟨b, o, cs, t, g1, g2, g3, fun j x hj => (g4 j x hj).imp fun c hc => ⟨hc.1, ?_⟩⟩
    rw [isBox_join hr, if_neg hh]
    have h5 := hc.2
    rw [isBox_rows hr] at h5
    exact h5.unbox fun a n k v hv => hv.imp id fun ⟨b, o, cap, k1, k2⟩ => ⟨b, o, cap, by simpa [joinL, hh] using k1, k2⟩
 ·cases L with
  | nil => simp [rowAt] at h1
  | cons l p =>
   cases L' with
   | nil => simp [rowAt] at h2
   | cons l' p' =>
    rw [rowAt_join] at h1 h2
    simp only [joinL] at h3 h4
    split at h1 <;> split at h2
    ·rename_i c1 c2
     rw [if_pos c1] at h3
     rw [if_pos c2] at h4
     exact hs.apart _ _ _ _ _ _ _ h1 h2 h3 h4
    ·rename_i c1 c2
     rw [if_pos c1] at h3
     rw [if_neg c2] at h4
     have := hs.owns ⟨_, _, _, h1, h3⟩
     have := hnew b ⟨_, _, _, h2, h4⟩
     omega
    ·rename_i c1 c2
     rw [if_neg c1] at h3
     rw [if_pos c2] at h4
     have := hs.owns ⟨_, _, _, h2, h4⟩
     have := hnew b ⟨_, _, _, h1, h3⟩
     omega
    ·rename_i c1 c2
     rw [if_neg c1] at h3
     rw [if_neg c2] at h4
     have := hs1.apart _ _ _ _ _ _ _ h1 h2 h3 h4
     simp only [List.cons.injEq] at this
     obtain ⟨e1, rfl⟩ := this
     congr 1; omega
 ·cases L with
  | nil => simp only [joinL]; exact hs.lab [] (by simp at hL; simp [hL.1])
  | cons l p =>
   simp only [List.headD_cons, List.length_append] at hL
   simp only [joinL]
   rw [if_neg (by omega)]
   exact hs1.lab _ (by simp; omega)
theorem joinL_ext {F Λ σ w} (hs : St F Λ σ w) (Λ1 : Lbl) : ∀ L b o, Λ L = some (b, o) → joinL Λ Λ1 σ.length L = some (b, o) := fun L b o hL => by
 cases L with
 | nil => exact hL
 | cons h p =>
  simp only [joinL]
  rw [if_pos ?_]
  ·exact hL
  ·refine Nat.lt_of_not_le fun hc => ?_
   rw [hs.lab (h :: p) (by simpa using hc)] at hL; cases hL
theorem Step.join {m F Λ σ w F1 Λ1 σ1 w1} (hs : St F Λ σ w) (h : Step 0 F (fun _ => none) [] w F1 Λ1 σ1 w1) : Step m F Λ σ w F1 (joinL Λ Λ1 σ.length) (σ ++ σ1) w1 :=
  { os := h.os, tape := h.tape, output := h.output, size := h.size, sizes := h.sizes, keep := fun b hb _ => h.keep b hb fun ho => ho.empty, mono := h.mono
    new := fun b hb => (h.new b hb).elim .inl fun h1 => h1.elim (fun ho => ho.empty.elim) fun h1 => .inr (.inr h1)
    own := fun b ⟨L, xs, o, h1, h2⟩ => by
      cases L with
      | nil => simp [rowAt] at h1
      | cons l p =>
        rw [rowAt_join] at h1
        simp only [joinL] at h2
        split at h1
        · rename_i c; rw [if_pos c] at h2; exact .inl ⟨_, _, _, h1, h2⟩
        · rename_i c; rw [if_neg c] at h2; exact .inr ((h.own b ⟨_, _, _, h1, h2⟩).elim (fun ho => ho.empty.elim) id)
    len := by simp; omega
    boxes := fun l xs _ hx => by
      have hl : l < σ.length := (List.getElem?_eq_some_iff.1 hx).1
      exact ⟨if_pos hl, xs, by rw [List.getElem?_append_left hl]; exact hx⟩
    kept := fun L b o _ hL => joinL_ext hs Λ1 L b o hL }
section
variable {P : Program} {n m : Nat} {N : Env → Store → Prop} {E : Env} {σ : Store} {o : Oper}
theorem TOp_callO {g : Nat} {as : List A} (hc : CallOp P o E g as) (hl : looseL as = true) {r0 : A} {σ0 : Store} (hF : Fn P g as [] fun r σ1 => r = r0 ∧ σ1 = σ0) (hr : isRows σ0 = true) (hnn : r0.names (fun L => decide (L = [])) = false) (hd : dstOK n o.dst = true)
  (hN : N (put E o.dst (r0.ren (· + σ.length))) (σ ++ σ0)) : TOp P n m o N E σ := fun F Λ w tmps K Qx hn hs hf hk => by
 obtain ⟨vs, ⟨hvl, hvs⟩, hrun⟩ := hc F Λ w tmps hf
 unfold Oper.wp
 rw [hrun w, Oper.upon_enter]
 refine hF F (fun _ => none) w vs _ hs.empty ⟨hvl, fun j x y hx hy => (hvs j x y hx hy).free (looseL_mem hl x (List.mem_of_getElem? hx))⟩ fun F1 Λ1 σ1 w1 v r hs1 hst hv hq => ?_
 obtain ⟨rfl, rfl⟩ := hq
 have hst' := Step.join (m := m) hs hst
 have hf1 := (hf.mono (hst'.frozen hs) hst.sizes).ext (joinL_ext hs Λ1)
 have hv' : OK F1 (joinL Λ Λ1 σ.length) w1 v (r.ren (· + σ.length)) := hv.ren (fun L => decide (L = [])) _ (fun L b o hp hL => by
  cases L with
  | nil => simp at hp
  | cons h p => simp only [rh, joinL]; rw [if_neg (Nat.not_lt.2 (Nat.le_add_left _ _)), Nat.add_sub_cancel]; exact hL) hnn
 obtain ⟨tmps', e, hn2, hf2⟩ := hf1.putO (ds := []) hn hd hv'
 show K (Act.put ⟨tmps, []⟩ o.dst v) w1
 rw [e]
 exact hk F1 _ _ w1 tmps' _ hn2 (hs.join hst hs1 hr) hf2 hst' hN
end
def offL (l : Nat) (L : List Nat) : Bool := match L with
 | [] => true
 | h :: _ => h != l
def downL (Λ : Lbl) (l : Nat) : Lbl := fun L => match L with
 | [] => none
 | h :: p => if h = 0 then Λ (l :: p) else none
theorem rowAt_one {r : Root} {L xs} (h : rowAt [r] L = some xs) : ∃ p, L = 0 :: p ∧ rowAt [r] (0 :: p) = some xs := by
 cases L with
 | nil => simp [rowAt] at h
 | cons l p =>
  cases l with
  | zero => exact ⟨p, rfl, h⟩
  | succ l => simp [rowAt] at h
theorem rowAt_down {σ : Store} {l : Nat} {xs : List A} (hr : σ[l]? = some (.row xs)) (p : List Nat) : rowAt [.row xs] (0 :: p) = rowAt σ (l :: p) := by simp [rowAt, hr]
theorem St.down {F Λ σ w} (hs : St F Λ σ w) {l : Nat} {xs : List A} (hr : σ[l]? = some (.row xs)) : St F (downL Λ l) [.row xs] w := by
 refine ⟨fun L zs hz => ?_, fun L zs L' zs' b o o' h1 h2 h3 h4 => ?_, hs.old, hs.tab, fun L hL => ?_⟩
 ·obtain ⟨p, rfl, h1⟩ := rowAt_one hz
  rw [rowAt_down hr] at h1
  have e : downL Λ l (0 :: p) = Λ (l :: p) := by simp [downL]
  rw [e]
  refine (hs.row _ _ h1).imp id fun ⟨b, o, cs, t, g1, g2, g3, g4⟩ => ⟨b, o, cs, t, g1, g2, g3, fun j x hj => (g4 j x hj).imp fun c hc => ⟨hc.1, ?_⟩⟩
  rw [isBox_rows rfl]
  have h5 := hc.2
  rw [isBox_row hr] at h5
  exact h5.unbox fun a n k v hv => hv.imp id fun ⟨b, o, cap, k1, k2⟩ => ⟨b, o, cap, by simpa [downL] using k1, k2⟩
 ·obtain ⟨p, rfl, h1⟩ := rowAt_one h1
  obtain ⟨p', rfl, h2⟩ := rowAt_one h2
  rw [rowAt_down hr] at h1 h2
  have := hs.apart _ _ _ _ _ _ _ h1 h2 (by simpa [downL] using h3) (by simpa [downL] using h4)
  simp only [List.cons.injEq] at this
  rw [this.2]
 ·cases L with
  | nil => rfl
  | cons h p =>
   simp only [List.headD_cons, List.length_cons, List.length_nil] at hL
   exact if_neg (by omega)
theorem Own.down {Λ : Lbl} {σ : Store} {l : Nat} {xs : List A} (hr : σ[l]? = some (.row xs)) {b} (h : Own (downL Λ l) [.row xs] b) : ∃ p zs o, rowAt σ (l :: p) = some zs ∧ Λ (l :: p) = some (b, o) := by
 obtain ⟨L, zs, o, h1, h2⟩ := h
 obtain ⟨p, rfl, h1⟩ := rowAt_one h1
 rw [rowAt_down hr] at h1
 exact ⟨p, zs, o, h1, by simpa [downL] using h2⟩
section
variable {P : Program} {n m : Nat} {N : Env → Store → Prop} {E : Env} {σ : Store} {o : Oper}
end
end Go.Sep
set_option linter.unusedVariables false
set_option linter.unusedSimpArgs false
namespace Go.Sep
open Go
section
variable {P : Program} {E : Env} {σ : Store} {o : Oper}
theorem pur_min {x y k ts} {a b : Int} (h : o.op = .call { callee := .builtin .min, args := #[x, y], argTypes := ts }) (hx : val E x = .v (.int k a)) (hy : val E y = .v (.int k b)) : Pur P o E σ (.v (.int k (if b < a then b else a))) := fun F Λ w tmps hs hf => by
 have h1 := val_ok (ds := []) hf x
 have h2 := val_ok (ds := []) hf y
 rw [hx] at h1
 rw [hy] at h2
 refine ⟨_, .imm (.v _), fun w' _ => ?_⟩
 simp only [execOp, h, resolve, Sem.run_bind, Sem.run_pure, invoke, builtin, List.map_toArray, List.map_cons, List.map_nil, h1.v_inv, h2.v_inv, Result.andThen_ok, run_min_int2]
theorem pur_max {x y k ts} {a b : Int} (h : o.op = .call { callee := .builtin .max, args := #[x, y], argTypes := ts }) (hx : val E x = .v (.int k a)) (hy : val E y = .v (.int k b)) : Pur P o E σ (.v (.int k (if a < b then b else a))) := fun F Λ w tmps hs hf => by
 have h1 := val_ok (ds := []) hf x
 have h2 := val_ok (ds := []) hf y
 rw [hx] at h1
 rw [hy] at h2
 refine ⟨_, .imm (.v _), fun w' _ => ?_⟩
 simp only [execOp, h, resolve, Sem.run_bind, Sem.run_pure, invoke, builtin, List.map_toArray, List.map_cons, List.map_nil, h1.v_inv, h2.v_inv, Result.andThen_ok, run_max_int2, gt_iff_lt]
end
theorem flat_app {α : Type} (f : α → List A) (xs ys : List α) : flat f xs ++ flat f ys = flat f (xs ++ ys) := by
 induction xs with
 | nil => rfl
 | cons x xs ih => simp only [flat, List.cons_append, List.append_assoc, ih]
theorem flat_one {α : Type} (f : α → List A) (xs : List α) (y : α) : flat f xs ++ f y = flat f (xs ++ [y]) := by
 rw [← flat_app]; simp [flat]
theorem mvS_grow {σ : Store} {l : Nat} {zs : List A} (hl : l < σ.length) : mvS l σ.length (σ.set l .dead ++ [.row zs]) = (σ.map (mvR l σ.length)).set l (.row zs) ++ [.dead] := by
 apply List.ext_getElem?
 intro h
 rw [mvS_get (by omega) (by simp; omega), grow_get hl, grow_get hl]
 simp only [List.length_append, List.length_set, List.length_cons, List.length_nil]
 by_cases e : h = σ.length
 ·subst e
  rw [if_pos ⟨rfl, by omega⟩, List.getElem?_append_right (by simp)]
  simp
 ·rw [if_neg (by rintro ⟨rfl, _⟩; exact e rfl)]
  by_cases e2 : h = l
  ·subst e2
   have e3 : ¬ σ.length = h := by omega
   rw [if_pos rfl, List.getElem?_append_left (by simpa using hl)]
   simp [hl, e3]
  ·rw [if_neg e2, if_neg e2, if_neg e]
   rcases Nat.lt_or_ge h σ.length with h3 | h3
   ·rw [List.getElem?_append_left (by simpa using h3), List.getElem?_set_ne (Ne.symm e2), List.getElem?_map]
   ·rw [List.getElem?_eq_none h3, List.getElem?_eq_none (by simp; omega)]; rfl
section
variable {P : Program} {n m : Nat} {N : Env → Store → Prop} {E : Env} {σ : Store} {o : Oper} {ops : Array Oper} {os : List Oper}
theorem TOp_app {t e k l nn mm by_ : Nat} {x y : Operand} {zs : List Value} {xs ys us : List A} (hT : SlT P t e k) (hz : ZeroT P e zs) (hzk : zs.length = k) (hby : (P.info? e).map (·.bytes) = some by_)
  (h : o.op = .call { callee := .builtin .append, args := #[x, y], argTypes := #[t, t] }) (hd : dstOK n o.dst = true) (hx : val E x = .m [l] 0 nn k) (hr : σ[l]? = some (.row xs)) (hl : xs.length = nn * k)
  (hsrc : SrcA P E σ y mm k ys) (hc : cellAllB ys = true) (hm : nn + mm ≤ 9223372036854775807) (hb : (nn + mm) * by_ ≤ 140737488355328) (hml : m ≤ l) (hus : xs ++ ys = us)
  (hN : TO P n m ops os N (mvE l σ.length (put E o.dst (.m [σ.length] 0 (nn + mm) k))) ((σ.map (mvR l σ.length)).set l (.row us) ++ [.dead])) : TOp P n m o (TO P n m ops os N) E σ := by
 have hlt : l < σ.length := (List.getElem?_eq_some_iff.1 hr).1
 subst hus
 refine TOp_append hT hz hzk hby h hd hx hr hl hsrc hc hm hb (TO_move l σ.length (by omega) (by simp; omega) (zs := xs ++ ys) (by rw [grow_get hlt, if_neg (by omega), if_pos rfl]) (by unfold noBox; rw [grow_get hlt, if_pos rfl]) hml ?_)
 rw [mvS_grow hlt]
 exact hN
end
def FrzE (σ : Store) (E : Env) : Env → Prop
 | [] => True
 | (t, a) :: E' => (frzOK σ (lk E t) ∧ fzR σ (lk E t) = a) ∧ FrzE σ E E'
theorem FrzE.ok {F Λ σ w tmps} (hs : St F Λ σ w) {E : Env} (hf : FrOK F Λ w tmps E) : ∀ {E' : Env}, FrzE σ E E' → FrOK (FO F Λ σ) (fun _ => none) w tmps E'
 | [], _, t => .j _
 | (u, a) :: E', h, t => by
  simp only [lk]
  split
  ·rename_i e; subst e
   have := (hf u).frz hs h.1.1
   rw [h.1.2] at this; exact this
  ·exact FrzE.ok hs hf h.2 t
theorem Step.frz {F Λ σ w} (hs : St F Λ σ w) : Step 0 F Λ σ w (FO F Λ σ) (fun _ => none) [] w :=
  { os := ⟨rfl, fun _ => by first | exact Nat.le_refl _ | exact Nat.le_succ _⟩, tape := rfl, output := rfl, size := Nat.le_refl _, sizes := Sizes.refl _, keep := fun _ _ _ => rfl, mono := fun _ h => .inl h, new := fun b h => h.elim .inl fun h => .inr (.inl h)
    own := fun b hb => hb.empty.elim, len := Nat.zero_le _, boxes := fun l xs hl _ => by simp at hl, kept := fun L b o hL _ => by simp at hL }
section
variable {P : Program} {n : Nat} {K : Exit → Env → Store → Prop} {N : Env → Store → Prop} {E : Env} {σ : Store} {ops : Array Oper} {os : List Oper}
end
theorem loose_names : ∀ (k : Nat) (p : List Nat → Bool), (∀ x : A, SizeOf.sizeOf x ≤ k → x.loose = true → x.names p = false) ∧ (∀ xs : List A, SizeOf.sizeOf xs ≤ k → looseL xs = true → namesL p xs = false) := by
 intro k p
 induction k with
 | zero =>
  refine ⟨fun x hx _ => ?_, fun xs hx _ => ?_⟩
  ·cases x <;> simp at hx
  ·cases xs <;> simp at hx
 | succ k ih =>
  refine ⟨fun x hx hn => ?_, fun xs hx hn => ?_⟩
  ·cases x <;> simp only [A.names, A.loose] at * <;> first | rfl | (cases hn; done) | exact ih.2 _ (by simp at hx; omega) hn
  ·cases xs with
   | nil => rfl
   | cons y ys =>
    simp only [namesL, looseL, Bool.and_eq_true, Bool.or_eq_false_iff] at *
    exact ⟨ih.1 _ (by simp at hx; omega) hn.1, ih.2 _ (by simp at hx; omega) hn.2⟩
theorem looseL_names {xs : List A} (h : looseL xs = true) (p : List Nat → Bool) : namesL p xs = false := (loose_names _ p).2 xs (Nat.le_refl _) h
section
variable {P : Program} {E : Env} {σ : Store} {o : Oper}
end
end Go.Sep
set_option linter.unusedVariables false
set_option linter.unusedSimpArgs false
namespace Go.Sep
open Go
section
variable {P : Program}
theorem eqGuard_slice {op t x y a n c a' n' c'} (w : World) : (eqGuard op t x y (.slice a n c) (.slice a' n' c')).run P w = .ok () w := by
 unfold eqGuard; split <;> simp
theorem run_eqNil (w : World) (t e : TypeId) (a : Option Addr) (l c : Nat) (h : P.underlying t = some (.slice e)) : (binOp .eql t (.slice a l c) (.slice none 0 0)).run P w = .ok (.bool a.isNone) w := by
 have h1 : ∀ d : Nat, (Op.equalIn (d + 1) t (.slice a l c) (.slice none 0 0)).run P w = .ok a.isNone w := fun d => by
  cases a <;> simp [Op.equalIn, run_underlying h]
 simp only [binOp]
 simp [Op.equal, Op.maxDepth, h1 9999]
variable {n m : Nat} {N : Env → Store → Prop} {K : Exit → Env → Store → Prop} {E : Env} {σ : Store} {o : Oper} {ops : Array Oper} {os : List Oper}
theorem TOp_nilcmp {op : BinOp} (f : Bool → Bool) {t t' e x} (Z : Prop) (ht : P.underlying t = some (.slice e)) (h : o.op = .binOp op t x (.const (.slice none 0 0)) t') (hd : dstOK n o.dst = true)
  (hrun : ∀ w a l c, (binOp op t (.slice a l c) (.slice none 0 0)).run P w = .ok (.bool (f a.isNone)) w)
  (hx : ∀ F Λ w tmps, St F Λ σ w → FrOK F Λ w tmps E → ∃ a l c, Act.eval ⟨tmps, []⟩ x = .slice a l c ∧ (a = none → Z))
  (hN : ∀ b, (b = true → Z) → N (put E o.dst (.v (.bool (f b)))) σ) : TOp P n m o N E σ := fun F Λ w tmps K Q hn hs hf hk => by
 obtain ⟨a, l, c, h1, h2⟩ := hx F Λ w tmps hs hf
 unfold Oper.wp
 have hr : (execOp (Act.eval ⟨tmps, []⟩) o).run P w = .ok (.value (.bool (f a.isNone))) w := by
  simp only [execOp, h, h1, show Act.eval ⟨tmps, []⟩ (.const (.slice none 0 0)) = .slice none 0 0 from rfl, Sem.run_bind, eqGuard_slice, Result.andThen_ok, hrun, Sem.run_pure]
 rw [hr, Oper.upon_value]
 obtain ⟨tmps', e', hn', hf'⟩ := hf.putO (ds := []) hn hd (.imm (.v (.bool (f a.isNone))))
 rw [e']
 exact hk F Λ σ w tmps' _ hn' hs hf' (.refl ..) (hN _ fun hb => h2 (by cases a <;> simp_all))
theorem nil_i {x : Operand} {k : Nat} {xs : List A} (hx : val E x = .i k xs) : ∀ F Λ w tmps, St F Λ σ w → FrOK F Λ w tmps E → ∃ a l c, Act.eval ⟨tmps, []⟩ x = .slice a l c ∧ (a = none → xs = []) := fun F Λ w tmps hs hf => by
 have e1 := val_ok (ds := []) hf x
 rw [hx] at e1
 generalize Act.eval ⟨tmps, []⟩ x = v at e1
 cases e1 with
 | imm h =>
  cases h with
  | i0 ad cap => exact ⟨_, _, _, rfl, fun _ => rfl⟩
  | i => exact ⟨_, _, _, rfl, fun h => by cases h⟩
theorem TOp_isnil_i {t t' e x k} {xs : List A} (ht : P.underlying t = some (.slice e)) (h : o.op = .binOp .eql t x (.const (.slice none 0 0)) t') (hd : dstOK n o.dst = true) (hx : val E x = .i k xs)
  (hN : ∀ b, (b = true → xs = []) → N (put E o.dst (.v (.bool b))) σ) : TOp P n m o N E σ :=
 TOp_nilcmp id (xs = []) ht h hd (fun w a l c => run_eqNil w t e a l c ht) (nil_i hx) hN
theorem rowAt_ghost {L xs} {σ : Store} (h : rowAt (σ ++ [.row []]) L = some xs) : (L.headD 0 < σ.length ∧ rowAt σ L = some xs) ∨ (L = [σ.length] ∧ xs = []) := by
 rcases rowAt_push h with h | ⟨p, ys, rfl, h1, h2⟩
 ·exact .inl h
 ·simp only [Root.cells, Option.some.injEq] at h1
  subst h1
  cases p with
  | nil => simp only [sub, Option.some.injEq] at h2; exact .inr ⟨rfl, h2.symm⟩
  | cons j p => simp [sub] at h2
theorem St.ghost {F Λ σ w} (hs : St F Λ σ w) : St F Λ (σ ++ [.row []]) w where
 row L xs h := by
  rcases rowAt_ghost h with ⟨h1, h2⟩ | ⟨rfl, rfl⟩
  ·exact (hs.row L xs h2).imp id fun ⟨b, o, cs, t, g1, g2, g3, g4⟩ => ⟨b, o, cs, t, g1, g2, g3, by rw [isBox_push h1]; exact g4⟩
  ·exact .inl ⟨hs.lab _ (by simp), rfl⟩
 apart L xs L' xs' b o o' h1 h2 h3 h4 := by
  rcases rowAt_ghost h1 with ⟨_, g1⟩ | ⟨rfl, _⟩
  ·rcases rowAt_ghost h2 with ⟨_, g2⟩ | ⟨rfl, _⟩
   ·exact hs.apart L xs L' xs' b o o' g1 g2 h3 h4
   ·rw [hs.lab _ (by simp)] at h4; cases h4
  ·rw [hs.lab _ (by simp)] at h3; cases h3
 old := hs.old
 tab := hs.tab
 lab L h := hs.lab L (Nat.le_trans (by simp) h)
theorem Step.ghost {m F Λ σ w} (hs : St F Λ σ w) : Step m F Λ σ w F Λ (σ ++ [.row []]) w :=
  { os := ⟨rfl, fun _ => by first | exact Nat.le_refl _ | exact Nat.le_succ _⟩, tape := rfl, output := rfl, size := Nat.le_refl _, sizes := Sizes.refl _, keep := fun _ _ _ => rfl, mono := fun _ h => h, new := fun _ h => .inl h
    own := fun b ⟨L, xs, o, h1, h2⟩ => by
      rcases rowAt_ghost h1 with ⟨_, g1⟩ | ⟨rfl, _⟩
      · exact .inl ⟨L, xs, o, g1, h2⟩
      · rw [hs.lab _ (by simp)] at h2; cases h2
    len := by simp; omega
    boxes := fun l xs _ hx => ⟨rfl, xs, by rw [List.getElem?_append_left (List.getElem?_eq_some_iff.1 hx).1]; exact hx⟩
    kept := fun _ _ _ _ h => h }
theorem FrOK.ghost {F Λ w tmps} {s d k : Nat} (hf : FrOK F Λ w tmps E) (hl : lk E d = .n) : FrOK F Λ w tmps ((d, .m [s] 0 0 k) :: E) := fun t => by
 simp only [lk]
 split
 ·rename_i e; subst e
  have := hf d
  rw [hl] at this
  obtain ⟨ad, h⟩ := this.n_inv
  exact .m (.inl ⟨rfl, ad, h⟩)
 ·exact hf t
end
end Go.Sep
set_option linter.unusedVariables false
set_option linter.unusedSimpArgs false
namespace Go.Sep
open Go
theorem Own.one {F Λ σ w} (hs : St F Λ σ w) {l : Nat} {xs : List A} (hr : σ[l]? = some (.row xs)) {b} (h : Own (downL Λ l) [.row xs] b) : Own Λ σ b := by
 obtain ⟨p, zs, o, h1, h2⟩ := Own.down hr h
 exact ⟨_, _, _, h1, h2⟩
theorem Fn.pick {P : Program} {f : Nat} {as : List A} {Q : A → Store → Prop} {r' : A} {xs : List A} (l : Nat) (h : Fn P f as [] Q) (hq : ∀ r σ, Q r σ → σ[l]? = some (.row xs) ∧ r.names (offL l) = false ∧ r.ren (fun _ => 0) = r') :
    Fn P f as [] fun r σ => r = r' ∧ σ = [.row xs] := fun F Λ w vs R hs ha hR => by
  refine h F Λ w vs R hs ha fun F1 Λ1 σ1 w1 v r hs1 hst hv hqr => ?_
  obtain ⟨h1, h2, h3⟩ := hq r σ1 hqr
  refine hR F1 (downL Λ1 l) [.row xs] w1 v r' (hs1.down h1) ?_ ?_ ⟨rfl, rfl⟩
  · exact { os := hst.os, tape := hst.tape, output := hst.output, size := hst.size, sizes := hst.sizes, keep := hst.keep, mono := hst.mono, new := hst.new
            own := fun b hb => hst.own b (Own.one hs1 h1 hb), len := Nat.zero_le _, boxes := fun l xs hl _ => by simp at hl, kept := fun L b o hL _ => by simp at hL }
  · rw [← h3]
    refine hv.ren (offL l) _ (fun L b o hp hL => ?_) h2
    cases L with
    | nil => simp [offL] at hp
    | cons h p => simp [offL] at hp; subst hp; simpa [rh, downL] using hL
def OwnC (σ : Store) : Prop := ∀ L xs x, rowAt σ L = some xs → x ∈ xs → (∃ v, x = .v v) ∨ x = .n ∨ ∃ k ys, x = .o k ys
theorem St.joinB {F Λ σ w F1 Λ1 σ1 w1} (hs : St F Λ σ w) (h : Step 0 (FO F Λ σ) (fun _ => none) [] w F1 Λ1 σ1 w1) (hs1 : St F1 Λ1 σ1 w1) (hr : isRows σ1 = true) (ho : OwnC σ1) : St F (joinL Λ Λ1 σ.length) (σ ++ σ1) w1 := by
 have hkeep : ∀ b, b < w.heap.size → w1.heap[b]? = w.heap[b]? := fun b hb => h.keep b hb fun ho => ho.empty
 have hF : ∀ b, F b → F b ∧ w1.heap[b]? = w.heap[b]? := fun b hb => ⟨hb, hkeep b (hs.old b hb)⟩
 have hnew : ∀ b, Own Λ1 σ1 b → w.heap.size ≤ b := fun b hb => (h.own b hb).elim (fun ho => ho.empty.elim) id
 refine ⟨fun L xs hx => ?_, fun L xs L' xs' b o o' h1 h2 h3 h4 => ?_, fun b hb => Nat.lt_of_lt_of_le (hs.old b hb) h.size, hs.tab.mono hF, fun L hL => ?_⟩
 ·cases L with
  | nil => simp [rowAt] at hx
  | cons l p =>
   rw [rowAt_join] at hx
   split at hx
   ·rename_i hh
    have e : joinL Λ Λ1 σ.length (l :: p) = Λ (l :: p) := if_pos hh
    rw [e]
    refine (hs.row _ _ hx).imp id fun ⟨b, o, cs, t, g1, g2, g3, g4⟩ => ⟨b, o, cs, t, g1, g2, by rw [hkeep b (Array.getElem?_eq_some_iff.1 g3).1]; exact g3, fun j x hj => (g4 j x hj).imp fun c hc => ⟨hc.1, ?_⟩⟩
    rw [isBox_join hr, if_pos hh]
    exact (hc.2.mono hF h.sizes).ext (joinL_ext hs Λ1)
   ·rename_i hh
    have e : joinL Λ Λ1 σ.length (l :: p) = Λ1 ((l - σ.length) :: p) := if_neg hh
    rw [e]
    rcases hs1.row _ _ hx with h5 | ⟨b, o, cs, t, g1, g2, g3, g4⟩
    ·exact .inl h5
    ·refine .inr ⟨b, o, cs, t, g1, fun hb => ?_, g3, fun j x hj => (g4 j x hj).imp fun c hc => ⟨hc.1, ?_⟩⟩
     ·have := hs.old b hb
      have := hnew b ⟨_, _, _, hx, g1⟩
      omega
     ·rw [isBox_join hr, if_neg hh]
      have h5 := hc.2
      rw [isBox_rows hr] at h5
      rcases ho _ _ x hx (List.mem_of_getElem? hj) with ⟨v, rfl⟩ | rfl | ⟨k, ys, rfl⟩
      ·have h6 := h5.2.v_inv
       subst h6
       exact ⟨h5.1, .imm (.v _)⟩
      ·obtain ⟨ad, h6⟩ := h5.2.n_inv
       subst h6
       exact ⟨h5.1, .imm (.n _)⟩
      ·exact ⟨h5.1, h5.2.1, h5.2.2.elim fun n hn => ⟨n, hn.1, hn.2.imp id fun ⟨b, o, cap, k1, k2⟩ => ⟨b, o, cap, by simpa [joinL, hh] using k1, k2⟩⟩⟩
 ·cases L with
  | nil => simp [rowAt] at h1
  | cons l p =>
   cases L' with
   | nil => simp [rowAt] at h2
   | cons l' p' =>
    rw [rowAt_join] at h1 h2
    simp only [joinL] at h3 h4
    split at h1 <;> split at h2
    ·rename_i c1 c2
     rw [if_pos c1] at h3
     rw [if_pos c2] at h4
     exact hs.apart _ _ _ _ _ _ _ h1 h2 h3 h4
    ·rename_i c1 c2
     rw [if_pos c1] at h3
     rw [if_neg c2] at h4
     have := hs.owns ⟨_, _, _, h1, h3⟩
     have := hnew b ⟨_, _, _, h2, h4⟩
     omega
    ·rename_i c1 c2
     rw [if_neg c1] at h3
     rw [if_pos c2] at h4
     have := hs.owns ⟨_, _, _, h2, h4⟩
     have := hnew b ⟨_, _, _, h1, h3⟩
     omega
    ·rename_i c1 c2
     rw [if_neg c1] at h3
     rw [if_neg c2] at h4
     have := hs1.apart _ _ _ _ _ _ _ h1 h2 h3 h4
     simp only [List.cons.injEq] at this
     obtain ⟨e1, rfl⟩ := this
     congr 1; omega
 ·cases L with
  | nil => simp only [joinL]; exact hs.lab [] (by simp at hL; simp [hL.1])
  | cons l p =>
   simp only [List.headD_cons, List.length_append] at hL
   simp only [joinL]
   rw [if_neg (by omega)]
   exact hs1.lab _ (by simp; omega)
theorem Step.joinB {m F Λ σ w F1 Λ1 σ1 w1} (hs : St F Λ σ w) (h : Step 0 (FO F Λ σ) (fun _ => none) [] w F1 Λ1 σ1 w1) : Step m F Λ σ w F (joinL Λ Λ1 σ.length) (σ ++ σ1) w1 :=
  { os := h.os, tape := h.tape, output := h.output, size := h.size, sizes := h.sizes, keep := fun b hb _ => h.keep b hb fun ho => ho.empty, mono := fun _ h => h
    new := fun b hb => .inl hb
    own := fun b ⟨L, xs, o, h1, h2⟩ => by
      cases L with
      | nil => simp [rowAt] at h1
      | cons l p =>
        rw [rowAt_join] at h1
        simp only [joinL] at h2
        split at h1
        · rename_i c; rw [if_pos c] at h2; exact .inl ⟨_, _, _, h1, h2⟩
        · rename_i c; rw [if_neg c] at h2; exact .inr ((h.own b ⟨_, _, _, h1, h2⟩).elim (fun ho => ho.empty.elim) id)
    len := by simp; omega
    boxes := fun l xs _ hx => by
      have hl : l < σ.length := (List.getElem?_eq_some_iff.1 hx).1
      exact ⟨if_pos hl, xs, by rw [List.getElem?_append_left hl]; exact hx⟩
    kept := fun L b o _ hL => joinL_ext hs Λ1 L b o hL }
section
variable {P : Program} {n m : Nat} {N : Env → Store → Prop} {E : Env} {σ : Store} {o : Oper}
end
section
variable {P : Program} {n m : Nat} {N : Env → Store → Prop} {E : Env} {σ : Store} {o : Oper}
end
end Go.Sep
set_option linter.unusedVariables false
set_option linter.unusedSimpArgs false
namespace Go.Sep
open Go
mutual
def ownR : A → Bool
 | .v x => sc x
 | .n => true
 | .o k ys => decide (0 < k) && ownRL ys
 | .j => false
 | .i _ _ => false
 | .m _ _ _ _ => false
 | .e _ _ => false
 | .b _ _ => false
 | .q _ _ => false
 | .g _ => false
 | .t _ => false
 | .f _ _ => false
 | .raw _ _ => false
def ownRL : List A → Bool
 | [] => true
 | x :: xs => ownR x && ownRL xs
end
theorem ownRL_app {xs ys : List A} (h : ownRL xs = true) (h2 : ownRL ys = true) : ownRL (xs ++ ys) = true := by
 induction xs with
 | nil => exact h2
 | cons x xs ih => simp only [ownRL, Bool.and_eq_true, List.cons_append] at *; exact ⟨h.1, ih h.2⟩
theorem cellAllB_app {xs ys : List A} (h : cellAllB xs = true) (h2 : cellAllB ys = true) : cellAllB (xs ++ ys) = true := by
 simp only [cellAllB, List.all_append, Bool.and_eq_true] at *; exact ⟨h, h2⟩
theorem firmL_app {xs ys : List A} (h : firmL xs = true) (h2 : firmL ys = true) : firmL (xs ++ ys) = true := by
 induction xs with
 | nil => exact h2
 | cons x xs ih => simp only [firmL, Bool.and_eq_true, List.cons_append] at *; exact ⟨h.1, ih h.2⟩
theorem fzL_app (xs ys : List A) : fzL (xs ++ ys) = fzL xs ++ fzL ys := by simp [fzL_map]
structure Ty (α : Type) where
  k : Nat
  enc : α → List A
  own : α → List A
  pos : 0 < k
  len : ∀ x, (enc x).length = k
  lenO : ∀ x, (own x).length = k
  cell : ∀ x, cellAllB (enc x) = true
  loose : ∀ x, looseL (enc x) = true
  firm : ∀ x, firmL (enc x) = true
  fz : ∀ x, fzL (enc x) = enc x
  firmO : ∀ x, firmL (own x) = true
  fzO : ∀ x, fzL (own x) = enc x
  ownR : ∀ x, ownRL (own x) = true
def tI (k : IntKind) : Ty Int := ⟨1, fun z => [.v (.int k z)], fun z => [.v (.int k z)], by decide, fun _ => rfl, fun _ => rfl, fun _ => rfl, fun _ => rfl, fun _ => rfl, fun _ => rfl, fun _ => rfl, fun _ => rfl, fun _ => rfl⟩
abbrev tInt : Ty Int := tI .i64
def tBool : Ty Bool := ⟨1, fun z => [boolA z], fun z => [boolA z], by decide, fun _ => rfl, fun _ => rfl, fun _ => rfl, fun _ => rfl, fun _ => rfl, fun _ => rfl, fun _ => rfl, fun _ => rfl, fun _ => rfl⟩
theorem flat_all {α : Type} {f : α → List A} {p : List A → Prop} (h0 : p []) (ha : ∀ xs ys, p xs → p ys → p (xs ++ ys)) (h : ∀ x, p (f x)) : ∀ xs : List α, p (flat f xs)
 | [] => h0
 | x :: xs => ha _ _ (h x) (flat_all h0 ha h xs)
theorem flat_fz {α : Type} {f g : α → List A} (h : ∀ x, fzL (f x) = g x) : ∀ xs : List α, fzL (flat f xs) = flat g xs
 | [] => rfl
 | x :: xs => by simp only [flat, fzL_app, h, flat_fz h xs]
theorem flat_cell {α : Type} (T : Ty α) (xs : List α) : cellAllB (flat T.enc xs) = true := flat_all (p := fun l => cellAllB l = true) rfl (fun _ _ => cellAllB_app) T.cell xs
theorem flat_firm {α : Type} (T : Ty α) (xs : List α) : firmL (flat T.enc xs) = true := flat_all (p := fun l => firmL l = true) rfl (fun _ _ => firmL_app) T.firm xs
theorem flat_firmO {α : Type} (T : Ty α) (xs : List α) : firmL (flat T.own xs) = true := flat_all (p := fun l => firmL l = true) rfl (fun _ _ => firmL_app) T.firmO xs
theorem flat_ownR {α : Type} (T : Ty α) (xs : List α) : ownRL (flat T.own xs) = true := flat_all (p := fun l => ownRL l = true) rfl (fun _ _ => ownRL_app) T.ownR xs
theorem dec_pos {k : Nat} (h : 0 < k) : decide (0 < k) = true := decide_eq_true h
def tSl {α : Type} (T : Ty α) : Ty (List α) :=
  ⟨1, fun xs => [.i T.k (flat T.enc xs)], fun xs => [.o T.k (flat T.own xs)], by decide, fun _ => rfl, fun _ => rfl, fun _ => rfl, fun _ => rfl, fun _ => rfl, fun _ => rfl,
   fun xs => by simp [firmL, Go.Sep.firm, dec_pos T.pos, flat_firmO], fun xs => by simp [fzL, Go.Sep.fz, flat_fz T.fzO], fun xs => by simp [ownRL, Go.Sep.ownR, dec_pos T.pos, flat_ownR]⟩
def tP {α β : Type} (T : Ty α) (U : Ty β) : Ty (α × β) :=
  ⟨T.k + U.k, fun x => T.enc x.1 ++ U.enc x.2, fun x => T.own x.1 ++ U.own x.2, Nat.add_pos_left T.pos _, fun x => by simp [T.len, U.len], fun x => by simp [T.lenO, U.lenO],
   fun x => cellAllB_app (T.cell _) (U.cell _), fun x => looseL_app (T.loose _) (U.loose _), fun x => firmL_app (T.firm _) (U.firm _), fun x => by rw [fzL_app, T.fz, U.fz],
   fun x => firmL_app (T.firmO _) (U.firmO _), fun x => by rw [fzL_app, T.fzO, U.fzO], fun x => ownRL_app (T.ownR _) (U.ownR _)⟩
def tAs {α β : Type} (f : β → α) (T : Ty α) : Ty β :=
 ⟨T.k, fun x => T.enc (f x), fun x => T.own (f x), T.pos, fun _ => T.len _, fun _ => T.lenO _, fun _ => T.cell _, fun _ => T.loose _, fun _ => T.firm _, fun _ => T.fz _, fun _ => T.firmO _, fun _ => T.fzO _, fun _ => T.ownR _⟩
abbrev sl {α : Type} (T : Ty α) (xs : List α) : A := .i T.k (flat T.enc xs)
theorem flat_at' {α : Type} {f : α → List A} {k : Nat} (hk : ∀ x, (f x).length = k) {xs : List α} {i off : Nat} {v : α} {y : A} (hv : xs[i]? = some v) (hj : (f v)[off]? = some y) : (flat f xs)[i * k + off]? = some y := by
 have hi : i < xs.length := (List.getElem?_eq_some_iff.1 hv).1
 have hof : off < k := by have := (List.getElem?_eq_some_iff.1 hj).1; rwa [hk] at this
 letI : Inhabited α := ⟨v⟩
 have e : xs.getD i default = v := by simp [List.getD, hv]
 rw [flat_get hk xs i off hi hof, e]; exact hj
theorem flat_cut {α : Type} {f : α → List A} {k : Nat} (hk : ∀ x, (f x).length = k) {xs : List α} {i off k' : Nat} {v : α} (hv : xs[i]? = some v) (ho : off + k' ≤ k) : ((flat f xs).drop (i * k + off)).take k' = ((f v).drop off).take k' := by
 apply List.ext_getElem?
 intro j
 rcases Nat.lt_or_ge j k' with hj | hj
 ·have hlt : off + j < (f v).length := by rw [hk]; omega
  rw [List.getElem?_take_of_lt hj, List.getElem?_drop, List.getElem?_take_of_lt hj, List.getElem?_drop, Nat.add_assoc]
  rw [flat_at' hk hv (List.getElem?_eq_getElem hlt), List.getElem?_eq_getElem hlt]
 ·rw [List.getElem?_eq_none (by simp; omega), List.getElem?_eq_none (by simp; omega)]
theorem flat_n {α : Type} {f : α → List A} {k : Nat} (hk : ∀ x, (f x).length = k) {xs : List α} {i off k' : Nat} {v : α} (hv : xs[i]? = some v) (ho : off + k' ≤ k) : i * k + off + k' ≤ (flat f xs).length := by
 have hi : i < xs.length := (List.getElem?_eq_some_iff.1 hv).1
 rw [flat_len hk]
 have : i * k + k ≤ xs.length * k := by rw [← Nat.succ_mul]; exact Nat.mul_le_mul_right _ hi
 omega
def w64 (x : Int) : Int := IntKind.i64.wrap x
theorem w64_eq {x : Int} (h1 : -9223372036854775808 ≤ x) (h2 : x ≤ 9223372036854775807) : w64 x = x := (fits64 h1 h2).symm
def getI {α : Type} (xs : List α) (i : Int) : Option α := if 0 ≤ i then xs[i.toNat]? else none
theorem getI_inv {α : Type} {xs : List α} {i : Int} {v : α} (h : getI xs i = some v) : ∃ n : Nat, i = (n : Int) ∧ xs[n]? = some v := by
 unfold getI at h
 split at h
 ·exact ⟨i.toNat, by omega, h⟩
 ·cases h
theorem getI_nat {α : Type} (xs : List α) (n : Nat) : getI xs (n : Int) = xs[n]? := by simp [getI]
theorem getI_lt {α : Type} {xs : List α} {n : Nat} (h : n < xs.length) : getI xs (n : Int) = some xs[n] := by rw [getI_nat]; exact List.getElem?_eq_getElem h
def app {α : Type} (b : Nat) (xs ys : List α) : Option (List α) := if (xs.length + ys.length) * b ≤ 140737488355328 then some (xs ++ ys) else none
theorem app_inv {α : Type} {b : Nat} {xs ys zs : List α} (h : app b xs ys = some zs) : zs = xs ++ ys ∧ (xs.length + ys.length) * b ≤ 140737488355328 := by
 unfold app at h
 split at h
 ·exact ⟨by simpa using h.symm, by assumption⟩
 ·cases h
theorem app_ok {α : Type} {b : Nat} {xs ys : List α} (h : (xs.length + ys.length) * b ≤ 140737488355328) : app b xs ys = some (xs ++ ys) := if_pos h
def mk {α : Type} (b : Nat) (n : Int) (z : α) : Option (List α) := if 0 ≤ n ∧ b * n.toNat ≤ 281474976710656 ∧ n ≤ 1099511627776 then some (List.replicate n.toNat z) else none
theorem mk_inv {α : Type} {b : Nat} {n : Int} {z : α} {zs : List α} (h : mk b n z = some zs) : ∃ k : Nat, n = (k : Int) ∧ zs = List.replicate k z ∧ b * k ≤ 281474976710656 ∧ k ≤ 1099511627776 := by
 unfold mk at h
 split at h
 ·rename_i h1; exact ⟨n.toNat, by omega, by simpa using h.symm, h1.2.1, by omega⟩
 ·cases h
theorem mk_ok {α : Type} {b k : Nat} {z : α} (h1 : b * k ≤ 281474976710656) (h2 : k ≤ 1099511627776) : mk b (k : Int) z = some (List.replicate k z) := by
 unfold mk; rw [if_pos (by simp; omega)]; simp
def gN (n : Int) : Option Unit := if n ≤ 9223372036854775807 then some () else none
theorem gN_inv {n : Int} {u} (h : gN n = some u) : n ≤ 9223372036854775807 := by
 unfold gN at h; split at h
 ·assumption
 ·cases h
theorem gN_ok {n : Int} (h : n ≤ 9223372036854775807) : gN n = some () := if_pos h
def gD (b : Int) : Option Unit := if b ≠ 0 then some () else none
theorem gD_inv {b : Int} {u} (h : gD b = some u) : b ≠ 0 := by
 unfold gD at h; split at h
 ·assumption
 ·cases h
theorem gD_ok {b : Int} (h : b ≠ 0) : gD b = some () := if_pos h
theorem bind_inv {α β : Type} {o : Option α} {f : α → Option β} {r : β} (h : o.bind f = some r) : ∃ v, o = some v ∧ f v = some r := by
 cases o with
 | none => cases h
 | some v => exact ⟨v, rfl, h⟩
theorem cond_t {α : Type} {b : Bool} {x y : α} {r : α} (h : b = true) (H : cond b x y = r) : x = r := by subst h; exact H
theorem cond_f {α : Type} {b : Bool} {x y : α} {r : α} (h : b = false) (H : cond b x y = r) : y = r := by subst h; exact H
inductive Ctl (S R : Type) where
  | next (s : S)
  | brk (s : S)
  | ret (r : R)
def forL {α S R : Type} (body : Int → α → S → Option (Ctl S R)) : List α → Int → S → Option (S ⊕ R)
 | [], _, s => some (.inl s)
 | x :: xs, i, s => (body i x s).bind fun c => match c with
  | .next s' => forL body xs (i + 1) s'
  | .brk s' => some (.inl s')
  | .ret r => some (.inr r)
def forN {S R : Type} (body : Int → S → Option (Ctl S R)) : Nat → Int → S → Option (S ⊕ R)
 | 0, _, s => some (.inl s)
 | k + 1, i, s => (body i s).bind fun c => match c with
  | .next s' => forN body k (i + 1) s'
  | .brk s' => some (.inl s')
  | .ret r => some (.inr r)
def whileF {S R : Type} (body : S → Option (Ctl S R)) : Nat → S → Option (S ⊕ R)
 | 0, _ => none
 | k + 1, s => (body s).bind fun c => match c with
  | .next s' => whileF body k s'
  | .brk s' => some (.inl s')
  | .ret r => some (.inr r)
def forS {α S : Type} (body : Int → α → S → Option S) : List α → Int → S → Option S
 | [], _, s => some s
 | x :: xs, i, s => (body i x s).bind fun s' => forS body xs (i + 1) s'
def forM {S : Type} (body : Int → S → Option S) : Nat → Int → S → Option S
 | 0, _, s => some s
 | k + 1, i, s => (body i s).bind fun s' => forM body k (i + 1) s'
def onS {S R X : Type} (o : S ⊕ R) (K : S → Option X) (L : R → Option X) : Option X := match o with
 | .inl s => K s
 | .inr r => L r
section
variable {α S R : Type} {xs : List α} {i : Nat} {s : S}
def forLk (body : Int → α → S → Option (Ctl S R)) (xs : List α) (i : Nat) : Ctl S R → Option (S ⊕ R)
 | .next s' => forL body (xs.drop (i + 1)) ((i + 1 : Nat) : Int) s'
 | .brk s' => some (.inl s')
 | .ret r => some (.inr r)
theorem forL_step {body : Int → α → S → Option (Ctl S R)} {o : S ⊕ R} (h : forL body (xs.drop i) (i : Int) s = some o) {v : α} (hv : xs[i]? = some v) : ∃ c, body i v s = some c ∧ forLk body xs i c = some o := by
 have hi : i < xs.length := (List.getElem?_eq_some_iff.1 hv).1
 have e : xs.drop i = v :: xs.drop (i + 1) := by
  rw [List.drop_eq_getElem_cons hi]; congr 1; rw [List.getElem?_eq_getElem hi] at hv; exact Option.some.inj hv
 rw [e] at h
 obtain ⟨c, h1, h2⟩ := bind_inv h
 refine ⟨c, h1, ?_⟩
 cases c <;> exact h2
theorem forL_end {body : Int → α → S → Option (Ctl S R)} {o : S ⊕ R} (h : forL body (xs.drop i) (i : Int) s = some o) (hi : xs.length ≤ i) : o = .inl s := by
 rw [List.drop_eq_nil_of_le hi] at h; simpa [forL] using h.symm
theorem forS_step {body : Int → α → S → Option S} {o : S} (h : forS body (xs.drop i) (i : Int) s = some o) {v : α} (hv : xs[i]? = some v) : ∃ s', body i v s = some s' ∧ forS body (xs.drop (i + 1)) ((i + 1 : Nat) : Int) s' = some o := by
 have hi : i < xs.length := (List.getElem?_eq_some_iff.1 hv).1
 have e : xs.drop i = v :: xs.drop (i + 1) := by
  rw [List.drop_eq_getElem_cons hi]; congr 1; rw [List.getElem?_eq_getElem hi] at hv; exact Option.some.inj hv
 rw [e] at h
 exact bind_inv h
theorem forS_end {body : Int → α → S → Option S} {o : S} (h : forS body (xs.drop i) (i : Int) s = some o) (hi : xs.length ≤ i) : s = o := by
 rw [List.drop_eq_nil_of_le hi] at h; simpa [forS] using h
def forNk (body : Int → S → Option (Ctl S R)) (k : Nat) (i : Int) : Ctl S R → Option (S ⊕ R)
 | .next s' => forN body k (i + 1) s'
 | .brk s' => some (.inl s')
 | .ret r => some (.inr r)
theorem forN_step {body : Int → S → Option (Ctl S R)} {n i : Int} {o : S ⊕ R} (h : forN body (n - i).toNat i s = some o) (hi : i < n) : ∃ c, body i s = some c ∧ forNk body (n - (i + 1)).toNat i c = some o := by
 have e : (n - i).toNat = (n - (i + 1)).toNat + 1 := by omega
 rw [e] at h
 obtain ⟨c, h1, h2⟩ := bind_inv h
 refine ⟨c, h1, ?_⟩
 cases c <;> exact h2
theorem forN_end {body : Int → S → Option (Ctl S R)} {n i : Int} {o : S ⊕ R} (h : forN body (n - i).toNat i s = some o) (hi : n ≤ i) : o = .inl s := by
 rw [show (n - i).toNat = 0 by omega] at h; simpa [forN] using h.symm
theorem forM_step {body : Int → S → Option S} {n i : Int} {o : S} (h : forM body (n - i).toNat i s = some o) (hi : i < n) : ∃ s', body i s = some s' ∧ forM body (n - (i + 1)).toNat (i + 1) s' = some o := by
 have e : (n - i).toNat = (n - (i + 1)).toNat + 1 := by omega
 rw [e] at h
 exact bind_inv h
theorem forM_end {body : Int → S → Option S} {n i : Int} {o : S} (h : forM body (n - i).toNat i s = some o) (hi : n ≤ i) : s = o := by
 rw [show (n - i).toNat = 0 by omega] at h; simpa [forM] using h
def whileK (body : S → Option (Ctl S R)) (k : Nat) : Ctl S R → Option (S ⊕ R)
 | .next s' => whileF body k s'
 | .brk s' => some (.inl s')
 | .ret r => some (.inr r)
theorem while_step {body : S → Option (Ctl S R)} {k : Nat} {o : S ⊕ R} (h : whileF body k s = some o) : ∃ k', k = k' + 1 ∧ ∃ c, body s = some c ∧ whileK body k' c = some o := by
 cases k with
 | zero => cases h
 | succ k =>
  obtain ⟨c, h1, h2⟩ := bind_inv h
  refine ⟨k, rfl, c, h1, ?_⟩
  cases c <;> exact h2
end
section
variable {P : Program} {n m : Nat} {K : Exit → Env → Store → Prop} {N : Env → Store → Prop} {E : Env} {σ : Store} {ops : Array Oper} {os : List Oper} {o : Oper}
theorem T_fact {c : Code} {p : Prop} (hp : ∀ F Λ w tmps, St F Λ σ w → FrOK F Λ w tmps E → p) (h : p → T P n m c K E σ) : T P n m c K E σ := fun F Λ w tmps Q hn hs hf hq => h (hp F Λ w tmps hs hf) F Λ w tmps Q hn hs hf hq
theorem len_sl {α : Type} {T : Ty α} {xs : List α} (x : Operand) (hx : val E x = sl T xs) : ∀ F Λ w tmps, St F Λ σ w → FrOK F Λ w tmps E → xs.length ≤ 9223372036854775807 := fun F Λ w tmps hs hf => by
 have h1 := val_ok (ds := []) hf x
 rw [hx] at h1
 rcases h1.i_inv T.pos (flat_len T.len xs) with ⟨h0, _⟩ | ⟨_, _, _, _, _, h2, _⟩
 ·omega
 ·simpa [maxLen] using h2
theorem len_m {L : List Nat} {a k nn : Nat} (x : Operand) (hx : val E x = .m L a nn k) : ∀ F Λ w tmps, St F Λ σ w → FrOK F Λ w tmps E → nn ≤ 9223372036854775807 := fun F Λ w tmps hs hf => by
 have h1 := val_ok (ds := []) hf x
 rw [hx] at h1
 rcases h1.m_inv with ⟨h0, _⟩ | ⟨_, _, cap, _, _, h3, h4, _⟩
 ·omega
 ·simp only [maxLen] at h4; omega
end
end Go.Sep
set_option linter.unusedVariables false
set_option linter.unusedSimpArgs false
namespace Go.Sep
open Go
section
variable {P : Program} {E : Env} {σ : Store} {o : Oper}
theorem pur_ixT {α : Type} {T : Ty α} {t x y e kk} {xs : List α} {z : Int} {i : Nat} {v : α} (hT : SlT P t e T.k) (hx : val E x = sl T xs) (hy : val E y = .v (.int kk z)) (hz : z = (i : Int)) (hv : xs[i]? = some v) (h : o.op = .indexAddr t x y) : Pur P o E σ (.q (flat T.enc xs) (i * T.k)) := by
 have hi := (List.getElem?_eq_some_iff.1 hv).1
 subst hz
 exact pur_ix_i xs.length hT hx hy (flat_len T.len xs) (by omega) (by omega) h
theorem pur_ixM {α : Type} {T : Ty α} {t x y e kk L} {xs : List α} {z : Int} {i : Nat} {v : α} (hT : SlT P t e T.k) (hx : val E x = .m L 0 xs.length T.k) (hy : val E y = .v (.int kk z)) (hz : z = (i : Int)) (hv : xs[i]? = some v) (h : o.op = .indexAddr t x y) : Pur P o E σ (.e L (i * T.k)) := by
 have hi := (List.getElem?_eq_some_iff.1 hv).1
 subst hz
 have := pur_ix_m (σ := σ) hT hx hy (by omega) (by omega) h
 simpa using this
theorem pur_ldT {α : Type} {T : Ty α} {t x d i off} {xs : List α} {v : α} {y : A} (h : o.op = .load t x) (hT : OneT P t) (hx : val E x = .q (flat T.enc xs) d) (hd : d = i * T.k + off) (hv : xs[i]? = some v) (hy : (T.enc v)[off]? = some y) : Pur P o E σ y := by
 subst hd; exact pur_ld_q hT hx (flat_at' T.len hv hy) h
theorem pur_ldTK {α : Type} {T : Ty α} {t x d i off k'} {xs : List α} {v : α} {ys : List A} (h : o.op = .load t x) (hT : AggT P t k') (hx : val E x = .q (flat T.enc xs) d) (hd : d = i * T.k + off) (hv : xs[i]? = some v) (hk : off + k' ≤ T.k) (hy : ((T.enc v).drop off).take k' = ys) : Pur P o E σ (.g ys) := by
 subst hd hy
 rw [← flat_cut T.len hv hk]
 exact pur_ldK_q hT hx (flat_n T.len hv hk) h
theorem pur_ldE {α : Type} {f : α → List A} {k : Nat} {t x d i off L} {xs : List α} {v : α} {y y' : A} (hf : ∀ x, (f x).length = k) (h : o.op = .load t x) (hT : OneT P t) (hx : val E x = .e L d) (hr : rowAt σ L = some (flat f xs)) (hd : d = i * k + off) (hv : xs[i]? = some v) (hy : (f v)[off]? = some y) (hy' : cellVal (L ++ [d]) y = y') : Pur P o E σ y' := by
 subst hd hy'; exact pur_ld_e hT hx hr (flat_at' hf hv hy) h
theorem pur_ldEK {α : Type} {f : α → List A} {k : Nat} {t x d i off k' L} {xs : List α} {v : α} {ys : List A} (hf : ∀ x, (f x).length = k) (h : o.op = .load t x) (hT : AggT P t k') (hx : val E x = .e L d) (hr : rowAt σ L = some (flat f xs)) (hd : d = i * k + off) (hv : xs[i]? = some v) (hk : off + k' ≤ k) (hy : cellVals L d (((f v).drop off).take k') = ys) : Pur P o E σ (.g ys) := by
 subst hy
 have := pur_ldK_e (σ := σ) hT hx hr (by subst hd; exact flat_n hf hv hk) h
 rw [hd] at this ⊢
 rwa [flat_cut hf hv hk] at this
theorem cellVal_sl {α : Type} {T : Ty α} {xs : List α} {L : List Nat} : cellVal L (.o T.k (flat T.own xs)) = .m L 0 xs.length T.k := by
 simp only [cellVal, flat_len T.lenO]; rw [Nat.mul_div_cancel _ T.pos]
theorem pur_wadd {t x y t' k} {a b : Int} (h : o.op = .binOp .add t x y t') (hx : val E x = .v (.int k a)) (hy : val E y = .v (.int k b)) : Pur P o E σ (.v (.int k (k.wrap (a + b)))) := pur_add h hx hy rfl
theorem pur_wsub {t x y t' k} {a b : Int} (h : o.op = .binOp .sub t x y t') (hx : val E x = .v (.int k a)) (hy : val E y = .v (.int k b)) : Pur P o E σ (.v (.int k (k.wrap (a - b)))) := pur_sub h hx hy rfl
theorem pur_wmul {t x y t' k} {a b : Int} (h : o.op = .binOp .mul t x y t') (hx : val E x = .v (.int k a)) (hy : val E y = .v (.int k b)) : Pur P o E σ (.v (.int k (k.wrap (a * b)))) := pur_mul h hx hy rfl
theorem pur_lenT {α : Type} {T : Ty α} {t x e k'} {xs : List α} (hT : SlT P t e k') (hx : val E x = sl T xs) (h : o.op = .call { callee := .builtin .len, args := #[x], argTypes := #[t] }) : Pur P o E σ (natA xs.length) :=
 pur_len_i xs.length hT hx T.pos (flat_len T.len xs) h
end
mutual
def LeA : A → A → Prop
 | .n, b => b = .n ∨ (∃ k, b = .i k []) ∨ ∃ L a k, b = .m L a 0 k
 | .g xs, b => ∃ ys, b = .g ys ∧ LeL xs ys
 | .t xs, b => ∃ ys, b = .t ys ∧ LeL xs ys
 | .j, b => b = .j
 | .v x, b => b = .v x
 | .i k xs, b => b = .i k xs
 | .o k xs, b => b = .o k xs
 | .m L a n k, b => b = .m L a n k
 | .e L a, b => b = .e L a
 | .b l a, b => b = .b l a
 | .q xs d, b => b = .q xs d
 | .f f xs, b => b = .f f xs
 | .raw v a, b => b = .raw v a
def LeL : List A → List A → Prop
 | [], bs => bs = []
 | a :: as, bs => ∃ b bs', bs = b :: bs' ∧ LeA a b ∧ LeL as bs'
end
theorem LeL.get {as bs : List A} (h : LeL as bs) : as.length = bs.length ∧ ∀ (j : Nat) a b, as[j]? = some a → bs[j]? = some b → LeA a b := by
 induction as generalizing bs with
 | nil => simp only [LeL] at h; subst h; exact ⟨rfl, by simp⟩
 | cons a as ih =>
  simp only [LeL] at h
  obtain ⟨b, bs', rfl, h1, h2⟩ := h
  obtain ⟨h3, h4⟩ := ih h2
  refine ⟨by simp [h3], fun j x y hx hy => ?_⟩
  cases j with
  | zero => simp at hx hy; subst hx; subst hy; exact h1
  | succ j => exact h4 j x y (by simpa using hx) (by simpa using hy)
theorem LeA.ok {F Λ w} : ∀ (N : Nat) (a b : A), SizeOf.sizeOf a < N → LeA a b → ∀ v, OK F Λ w v a → OK F Λ w v b := by
 intro N
 induction N with
 | zero => intro a b h; exact absurd h (Nat.not_lt_zero _)
 | succ N ih =>
  intro a b hN hl v h
  cases a with
  | n =>
   obtain ⟨ad, rfl⟩ := h.n_inv
   rcases hl with rfl | ⟨k, rfl⟩ | ⟨L, a, k, rfl⟩
   ·exact h
   ·exact .imm (.i0 ad 0 k)
   ·exact .m (.inl ⟨rfl, ad, rfl⟩)
  | g xs =>
   obtain ⟨ys, rfl, h1⟩ := hl
   obtain ⟨vs, rfl, h2, h3⟩ := h.g_inv
   obtain ⟨h4, h5⟩ := h1.get
   refine .g vs ys (h2.trans h4) fun j x y hx hy => ?_
   have hj : j < xs.length := by have := (List.getElem?_eq_some_iff.1 hx).1; omega
   have hs : SizeOf.sizeOf xs[j] < SizeOf.sizeOf xs := List.sizeOf_lt_of_mem (List.getElem_mem hj)
   exact ih xs[j] x (by simp at hN; omega) (h5 j _ _ (List.getElem?_eq_getElem hj) hx) y (h3 j _ y (List.getElem?_eq_getElem hj) hy)
  | t xs =>
   obtain ⟨ys, rfl, h1⟩ := hl
   obtain ⟨vs, rfl, h2, h3⟩ := h.t_inv
   obtain ⟨h4, h5⟩ := h1.get
   refine .t vs ys (h2.trans h4) fun j x y hx hy => ?_
   have hj : j < xs.length := by have := (List.getElem?_eq_some_iff.1 hx).1; omega
   have hs : SizeOf.sizeOf xs[j] < SizeOf.sizeOf xs := List.sizeOf_lt_of_mem (List.getElem_mem hj)
   exact ih xs[j] x (by simp at hN; omega) (h5 j _ _ (List.getElem?_eq_getElem hj) hx) y (h3 j _ y (List.getElem?_eq_getElem hj) hy)
  | _ => cases hl; exact h
theorem OK.le {F Λ w v a b} (h : OK F Λ w v a) (hl : LeA a b) : OK F Λ w v b := LeA.ok _ a b (Nat.lt_succ_self _) hl v h
theorem leN {k : Nat} : LeA .n (.i k []) := .inr (.inl ⟨k, rfl⟩)
theorem leM {L : List Nat} {a k : Nat} : LeA .n (.m L a 0 k) := .inr (.inr ⟨L, a, k, rfl⟩)
mutual
theorem LeA.rfl' : ∀ (a : A), LeA a a
 | .n => .inl rfl
 | .g xs => ⟨xs, rfl, LeL.rfl' xs⟩
 | .t xs => ⟨xs, rfl, LeL.rfl' xs⟩
 | .j => rfl
 | .v _ => rfl
 | .i _ _ => rfl
 | .o _ _ => rfl
 | .m _ _ _ _ => rfl
 | .e _ _ => rfl
 | .b _ _ => rfl
 | .q _ _ => rfl
 | .f _ _ => rfl
 | .raw _ _ => rfl
theorem LeL.rfl' : ∀ (as : List A), LeL as as
 | [] => rfl
 | a :: as => ⟨a, as, rfl, LeA.rfl' a, LeL.rfl' as⟩
end
theorem leR {a b : A} (h : a = b) : LeA a b := h ▸ LeA.rfl' a
theorem leNil : LeL [] [] := rfl
theorem leCons {a b : A} {as bs : List A} (h : LeA a b) (hs : LeL as bs) : LeL (a :: as) (b :: bs) := ⟨b, bs, rfl, h, hs⟩
section
variable {P : Program} {n m : Nat} {K : Exit → Env → Store → Prop} {N : Env → Store → Prop} {E : Env} {σ : Store} {ops : Array Oper} {os : List Oper} {o : Oper}
theorem CallOp.le {g : Nat} {as bs : List A} (h : CallOp P o E g as) (hl : LeL as bs) : CallOp P o E g bs := fun F Λ w tmps hf => by
 obtain ⟨vs, ⟨h1, h2⟩, h3⟩ := h F Λ w tmps hf
 obtain ⟨h4, h5⟩ := hl.get
 refine ⟨vs, ⟨h1.trans h4, fun j y v hy hv => ?_⟩, h3⟩
 have hj : j < as.length := by have := (List.getElem?_eq_some_iff.1 hy).1; omega
 exact (h2 j _ v (List.getElem?_eq_getElem hj) hv).le (h5 j _ _ (List.getElem?_eq_getElem hj) hy)
def PkL (E : Env) : Env → Prop
 | [] => True
 | (t, a) :: E' => LeA (lk E t) a ∧ PkL E E'
theorem PkL.fr {F Λ w tmps} (hf : FrOK F Λ w tmps E) : ∀ {E' : Env}, PkL E E' → FrOK F Λ w tmps E'
 | [], _ => fun t => .j _
 | (u, a) :: E', h => fun t => by
  simp only [lk]
  split
  ·rename_i e; subst e; exact (hf u).le h.1
  ·exact PkL.fr hf h.2 t
theorem T_envL {c : Code} {E' : Env} (hE : PkL E E') (h : T P n m c K E' σ) : T P n m c K E σ := fun F Λ w tmps Q hn hs hf hq => h F Λ w tmps Q hn hs (hE.fr hf) hq
theorem TO_env {E' : Env} (hE : Pk E E') (h : TO P n m ops os N E' σ) : TO P n m ops os N E σ := fun F Λ w tmps Q hn hs hf hq => h F Λ w tmps Q hn hs (hf.weak hE.all) hq
theorem TQ_env {E' : Env} (hE : Pk E E') (h : TQ P n m ops os N E' σ) : TQ P n m ops os N E σ := fun F Λ w tmps Q hn hs hf hq => h F Λ w tmps Q hn hs (hf.weak hE.all) hq
theorem T_row0 {c : Code} (h : T P n m c K E (σ ++ [.row []])) : T P n m c K E σ := fun F Λ w tmps Q hn hs hf hq =>
 h F Λ w tmps Q hn hs.ghost hf fun e F' Λ' σ' w' tmps' E' hn' hs' hf' hst hN => hq e F' Λ' σ' w' tmps' E' hn' hs' hf' ((Step.ghost hs).trans hst) hN
theorem TO_st {σ' : Store} (hσ : σ = σ') (h : TO P n m ops os N E σ') : TO P n m ops os N E σ := hσ ▸ h
theorem T_st {c : Code} {σ' : Store} (hσ : σ = σ') (h : T P n m c K E σ') : T P n m c K E σ := hσ ▸ h
end
def WeakL (m : Nat) (E : Env) (σ : Store) (E' : Env) (σ' : Store) : Prop := PkL E E' ∧ Weak m E' σ E' σ'
theorem WeakL.go {m E σ E' σ' F Λ w tmps} (h : WeakL m E σ E' σ') (hs : St F Λ σ w) (hf : FrOK F Λ w tmps E) : ∃ Λ', St F Λ' σ' w ∧ FrOK F Λ' w tmps E' ∧ Step m F Λ σ w F Λ' σ' w := h.2.go hs (h.1.fr hf)
def ascE : Env → Bool
 | [] => true
 | (t, _) :: E => ascE E && E.all fun p => decide (t < p.1)
theorem asc_lk : ∀ {E : Env}, ascE E = true → ∀ p ∈ E, lk E p.1 = p.2
 | [], _, p, h => by cases h
 | (t, a) :: E, hs, p, h => by
  simp only [ascE, Bool.and_eq_true, List.all_eq_true, decide_eq_true_eq] at hs
  rcases List.mem_cons.1 h with rfl | h
  ·simp [lk]
  ·have := hs.2 p h
   simp only [lk]; rw [if_neg (by omega)]; exact asc_lk hs.1 p h
theorem WeakL.to {m E σ E' σ'} (k : Nat) (hm : m ≤ k) (ha : ascE E' = true) (hσ : σ' = σ.take k) (h1 : namesE k E' = false) (h2 : boxesE k σ' = false) (hE : PkL E E') : WeakL m E σ E' σ' :=
 ⟨hE, asc_lk ha, k, hm, hσ, namesE_all h1, boxesE_all h2⟩
section
variable {P : Program} {n m : Nat} {K : Exit → Env → Store → Prop} {N : Env → Store → Prop} {E : Env} {σ : Store} {ops : Array Oper} {os : List Oper} {o : Oper}
theorem T_weakL {c : Code} {E' σ'} (hw : WeakL m E σ E' σ') (h : T P n m c K E' σ') : T P n m c K E σ := fun F Λ w tmps Q hn hs hf hq => by
 obtain ⟨Λ', hs', hf', hst⟩ := hw.go hs hf
 exact h F Λ' w tmps Q hn hs' hf' fun e F2 Λ2 σ2 w2 tmps2 E2 hn2 hs2 hf2 hst2 hK => hq e F2 Λ2 σ2 w2 tmps2 E2 hn2 hs2 hf2 (hst.trans hst2) hK
theorem T_loopX {c : Code} {X : Type} (φ : Nat → X → Prop) (Ex : X → Env) (σx : X → Store) (k0 : Nat) (x0 : X) (hw : WeakL m E σ (Ex x0) (σx x0)) (h0 : φ k0 x0)
  (h : ∀ k x, φ k x → T P n m c (thenK (fun E' σ' => ∃ k' x', k' < k ∧ WeakL m E' σ' (Ex x') (σx x') ∧ φ k' x') K) (Ex x) (σx x)) : T P n m (.loop c) K E σ := T_weakL hw fun F Λ w tmps Q hn hs hf hq => by
 refine wp_loop_ghost (fun k a w' => ∃ F' Λ' tmps' x, a = ⟨tmps', []⟩ ∧ tmps'.size = n ∧ St F' Λ' (σx x) w' ∧ FrOK F' Λ' w' tmps' (Ex x) ∧ Step m F Λ (σx x0) w F' Λ' (σx x) w' ∧ φ k x) k0 ⟨F, Λ, tmps, x0, rfl, hn, hs, hf, .refl .., h0⟩ ?_
 rintro k a w1 ⟨F1, Λ1, tmps1, x1, rfl, hn1, hs1, hf1, hst1, hI⟩
 refine h k x1 hI F1 Λ1 w1 tmps1 _ hn1 hs1 hf1 fun e F2 Λ2 σ2 w2 tmps2 E2 hn2 hs2 hf2 hst2 hK => ?_
 cases e with
 | normal =>
  obtain ⟨k', x', hk, hw3, hI3⟩ := hK
  obtain ⟨Λ3, hs3, hf3, hst3⟩ := hw3.go hs2 hf2
  exact ⟨k', hk, F2, Λ3, tmps2, x', rfl, hn2, hs3, hf3, (hst1.trans hst2).trans hst3, hI3⟩
 | _ => exact hq _ F2 Λ2 σ2 w2 tmps2 E2 hn2 hs2 hf2 (hst1.trans hst2) hK
theorem again {X : Type} {φ : Nat → X → Prop} {Ex : X → Env} {σx : X → Store} {k : Nat} (k' : Nat) (x' : X) (hk : k' < k) (hw : WeakL m E σ (Ex x') (σx x')) (h : φ k' x') : ∃ k' x', k' < k ∧ WeakL m E σ (Ex x') (σx x') ∧ φ k' x' := ⟨k', x', hk, hw, h⟩
theorem T_cutX {a b : Code} {X : Type} (φ : X → Prop) (Ex : X → Env) (σx : X → Store) (h : T P n m a (thenK (fun E' σ' => ∃ x, WeakL m E' σ' (Ex x) (σx x) ∧ φ x) K) E σ)
  (h2 : ∀ x, φ x → T P n m b K (Ex x) (σx x)) : T P n m (.seq a b) K E σ :=
 T_cut (fun E' σ' => ∃ x, WeakL m E' σ' (Ex x) (σx x) ∧ φ x) h fun E' σ' ⟨x, h3, h4⟩ => T_weakL h3 (h2 x h4)
theorem joined {X : Type} {φ : X → Prop} {Ex : X → Env} {σx : X → Store} (x : X) (hw : WeakL m E σ (Ex x) (σx x)) (h : φ x) : ∃ x, WeakL m E σ (Ex x) (σx x) ∧ φ x := ⟨x, hw, h⟩
end
theorem and_T {a b x : Bool} (h : a = true) (hx : x = b) : x = (a && b) := by subst h; simpa using hx
theorem and_F {a b x : Bool} (h : a = false) (hx : x = false) : x = (a && b) := by subst h; simpa using hx
theorem some_inj {α : Type} {a b : α} (h : some a = some b) : a = b := Option.some.inj h
theorem onS_l {S R X : Type} {s : S} {K : S → Option X} {L : R → Option X} {r} (h : onS (.inl s) K L = r) : K s = r := h
theorem onS_r {S R X : Type} {s : R} {K : S → Option X} {L : R → Option X} {r} (h : onS (.inr s) K L = r) : L s = r := h
theorem gen_forL {α S R : Type} {b : Int → α → S → Option (Ctl S R)} {xs i s o} (h : forL b xs i s = some o) : ∃ c, c = b ∧ forL c xs i s = some o := ⟨b, rfl, h⟩
theorem gen_forS {α S : Type} {b : Int → α → S → Option S} {xs i s o} (h : forS b xs i s = some o) : ∃ c, c = b ∧ forS c xs i s = some o := ⟨b, rfl, h⟩
theorem gen_forN {S R : Type} {b : Int → S → Option (Ctl S R)} {k i s o} (h : forN b k i s = some o) : ∃ c, c = b ∧ forN c k i s = some o := ⟨b, rfl, h⟩
theorem gen_forM {S : Type} {b : Int → S → Option S} {k i s o} (h : forM b k i s = some o) : ∃ c, c = b ∧ forM c k i s = some o := ⟨b, rfl, h⟩
theorem gen_whileF {S R : Type} {b : S → Option (Ctl S R)} {k s o} (h : whileF b k s = some o) : ∃ c, c = b ∧ whileF c k s = some o := ⟨b, rfl, h⟩
section
variable {P : Program} {n m : Nat} {N : Env → Store → Prop} {E : Env} {σ : Store} {o : Oper} {ops : Array Oper} {os : List Oper}
theorem TOp_appT {α : Type} {T : Ty α} {f : α → List A} (hf : ∀ x, (f x).length = T.k) {t e l by_ : Nat} {x y : Operand} {zs : List Value} {xs ys : List α} (hT : SlT P t e T.k) (hz : ZeroT P e zs) (hzk : zs.length = T.k) (hby : (P.info? e).map (·.bytes) = some by_) (hb1 : 1 ≤ by_)
  (h : o.op = .call { callee := .builtin .append, args := #[x, y], argTypes := #[t, t] }) (hd : dstOK n o.dst = true) (hx : val E x = .m [l] 0 xs.length T.k) (hr : σ[l]? = some (.row (flat f xs)))
  (hsrc : SrcA P E σ y ys.length T.k (flat f ys)) (hc : cellAllB (flat f ys) = true) (hb : (xs.length + ys.length) * by_ ≤ 140737488355328) (hml : m ≤ l)
  (hN : TO P n m ops os N (mvE l σ.length (put E o.dst (.m [σ.length] 0 (xs ++ ys).length T.k))) ((σ.map (mvR l σ.length)).set l (.row (flat f (xs ++ ys))) ++ [.dead])) : TOp P n m o (TO P n m ops os N) E σ := by
 have h63 : xs.length + ys.length ≤ 9223372036854775807 := by
  have : (xs.length + ys.length) * 1 ≤ (xs.length + ys.length) * by_ := Nat.mul_le_mul_left _ hb1
  omega
 refine TOp_app hT hz hzk hby h hd hx hr (flat_len hf xs) hsrc hc h63 hb hml (flat_app f xs ys) ?_
 rw [← List.length_append]; exact hN
theorem src_T {α : Type} {T : Ty α} {y : Operand} {ys : List α} (hy : val E y = sl T ys) : SrcA P E σ y ys.length T.k (flat T.enc ys) := src_i ys.length T.pos hy (flat_len T.len ys)
theorem src_mT {α : Type} {f : α → List A} {k : Nat} (hf : ∀ x, (f x).length = k) {y : Operand} {ys : List α} {l : Nat} (hy : val E y = .m [l] 0 ys.length k) (hr : σ[l]? = some (.row (flat f ys))) (hc : cellAllB (flat f ys) = true) : SrcA P E σ y ys.length k (flat f ys) := by
 have hl := flat_len hf ys
 refine src_m (zs := flat f ys) hy (by rw [rowAt_cons, hr]; rfl) (by omega) ?_ (by simp [isBox, hr]) hc
 rw [List.drop_zero, ← hl, List.take_length]
end
theorem frzT {α : Type} {T : Ty α} {σ : Store} {l : Nat} {xs : List α} (h : rowAt σ [l] = some (flat T.own xs)) : frzOK σ (.m [l] 0 xs.length T.k) ∧ fzR σ (.m [l] 0 xs.length T.k) = sl T xs := by
 have hl := flat_len T.lenO xs
 refine ⟨⟨T.pos, flat T.own xs, h, by omega, ?_⟩, ?_⟩
 ·rw [List.drop_zero, ← hl, List.take_length]; exact flat_firmO T xs
 ·simp only [fzR, h, Option.getD_some, List.drop_zero]; rw [← hl, List.take_length, flat_fz T.fzO]
theorem frzTE {α : Type} {T : Ty α} {σ : Store} {l : Nat} {xs : List α} (h : rowAt σ [l] = some (flat T.enc xs)) : frzOK σ (.m [l] 0 xs.length T.k) ∧ fzR σ (.m [l] 0 xs.length T.k) = sl T xs := by
 have hl := flat_len T.len xs
 refine ⟨⟨T.pos, flat T.enc xs, h, by omega, ?_⟩, ?_⟩
 ·rw [List.drop_zero, ← hl, List.take_length]; exact flat_firm T xs
 ·simp only [fzR, h, Option.getD_some, List.drop_zero]; rw [← hl, List.take_length, flat_fz T.fz]
theorem ownRL_mem {xs : List A} (h : ownRL xs = true) : ∀ x ∈ xs, ownR x = true := by
 induction xs with
 | nil => simp
 | cons y ys ih =>
  simp only [ownRL, Bool.and_eq_true] at h
  intro x hx
  rcases List.mem_cons.1 hx with rfl | hx
  ·exact h.1
  ·exact ih h.2 x hx
theorem sub_ownR : ∀ (p : List Nat) (xs ys : List A), sub xs p = some ys → ownRL xs = true → ownRL ys = true
 | [], xs, ys, h, ho => by simp only [sub, Option.some.injEq] at h; subst h; exact ho
 | j :: p, xs, ys, h, ho => by
  simp only [sub] at h
  split at h
  ·rename_i k zs hj
   have := ownRL_mem ho _ (List.mem_of_getElem? hj)
   simp only [ownR, Bool.and_eq_true] at this
   exact sub_ownR p zs ys h this.2
  ·cases h
def ownSB (σ : Store) : Prop := ∀ r ∈ σ, ∀ xs, r.cells = some xs → ownRL xs = true
theorem ownSB_nil : ownSB [] := fun r h => by cases h
theorem ownSB_cons {xs : List A} {σ : Store} (h : ownRL xs = true) (hs : ownSB σ) : ownSB (.row xs :: σ) := fun r hr ys hy => by
 rcases List.mem_cons.1 hr with rfl | hr
 ·simp only [Root.cells, Option.some.injEq] at hy; subst hy; exact h
 ·exact hs r hr ys hy
theorem ownC_of {σ : Store} (h : ownSB σ) : OwnC σ := fun L xs x hr hx => by
 cases L with
 | nil => simp [rowAt] at hr
 | cons l p =>
  simp only [rowAt] at hr
  split at hr
  ·rename_i r hl
   split at hr
   ·rename_i ys hy
    have h1 := ownRL_mem (sub_ownR p ys xs hr (h r (List.mem_of_getElem? hl) ys hy)) x hx
    cases x with
    | v y => exact .inl ⟨y, rfl⟩
    | n => exact .inr (.inl rfl)
    | o k ys => exact .inr (.inr ⟨k, ys, rfl⟩)
    | _ => simp [ownR] at h1
   ·cases hr
  ·cases hr
end Go.Sep
set_option linter.unusedVariables false
set_option linter.unusedSimpArgs false
namespace Go.Sep
open Go
def hd (l : Nat) (L : List Nat) : Bool := match L with
 | [] => false
 | h :: _ => h == l
def boxNo (l : Nat) : Store → Bool
 | [] => true
 | .box xs :: σ => !namesL (hd l) xs && boxNo l σ
 | _ :: σ => boxNo l σ
theorem boxNo_all {l : Nat} : ∀ {σ : Store}, boxNo l σ = true → ∀ xs, Root.box xs ∈ σ → namesL (hd l) xs = false
 | [], _, xs, h => by cases h
 | .box ys :: σ, hb, xs, h => by
  simp only [boxNo, Bool.and_eq_true, Bool.not_eq_true'] at hb
  rcases List.mem_cons.1 h with h | h
  ·cases h; exact hb.1
  ·exact boxNo_all hb.2 xs h
 | .row _ :: σ, hb, xs, h => by
  rcases List.mem_cons.1 h with h | h
  ·cases h
  ·exact boxNo_all (σ := σ) hb xs h
 | .dead :: σ, hb, xs, h => by
  rcases List.mem_cons.1 h with h | h
  ·cases h
  ·exact boxNo_all (σ := σ) hb xs h
def dropL (l : Nat) (Λ : Lbl) : Lbl := fun L => if hd l L = true then none else Λ L
theorem dropL_ok {l : Nat} {Λ : Lbl} : ∀ L b o, hd l L = false → Λ L = some (b, o) → dropL l Λ L = some (b, o) := fun L b o h hL => by simp [dropL, h, hL]
theorem rowAt_kill {σ : Store} {l : Nat} {L xs} (h : rowAt (σ.set l .dead) L = some xs) : hd l L = false ∧ rowAt σ L = some xs := by
 cases L with
 | nil => simp [rowAt] at h
 | cons h0 p =>
  simp only [rowAt, List.getElem?_set] at h
  by_cases e : l = h0
  ·subst e
   rw [if_pos rfl] at h
   split at h
   ·rename_i r hr
    split at hr
    ·cases hr; simp [Root.cells] at h
    ·cases hr
   ·cases h
  ·rw [if_neg e] at h
   exact ⟨by simp [hd]; omega, by simpa only [rowAt] using h⟩
theorem isBox_kill {σ : Store} {l : Nat} {L : List Nat} (h : hd l L = false) : isBox (σ.set l .dead) L = isBox σ L := by
 match L with
 | [] => rfl
 | [h0] =>
  simp [hd] at h
  simp only [isBox, List.getElem?_set_ne (Ne.symm h)]
 | _ :: _ :: _ => rfl
abbrev F1 (F : Nat → Prop) (Λ : Lbl) (l : Nat) (xs : List A) : Nat → Prop := FO F (downL Λ l) [.row xs]
section
variable {F : Nat → Prop} {Λ : Lbl} {σ : Store} {w : World} {l : Nat} {xs : List A}
theorem F1_mono : ∀ b, F b → F1 F Λ l xs b ∧ w.heap[b]? = w.heap[b]? := fun b hb => ⟨.inl hb, rfl⟩
theorem not_F1 (hs : St F Λ σ w) (hr : σ[l]? = some (.row xs)) {L ys b o} (hL : rowAt σ L = some ys) (hb : Λ L = some (b, o)) (hn : hd l L = false) (hf : ¬ F b) : ¬ F1 F Λ l xs b := by
 rintro (h | h)
 ·exact hf h
 ·obtain ⟨p, zs, o', h1, h2⟩ := Own.down hr h
  have := hs.apart _ _ _ _ _ _ _ hL h1 hb h2
  subst this
  simp [hd] at hn
theorem St.frz1 (hs : St F Λ σ w) (hr : σ[l]? = some (.row xs)) (hb : boxNo l σ = true) : St (F1 F Λ l xs) (dropL l Λ) (σ.set l .dead) w where
 row L ys h := by
  obtain ⟨hn, h1⟩ := rowAt_kill h
  have e : dropL l Λ L = Λ L := by simp [dropL, hn]
  rw [e, isBox_kill hn]
  rcases hs.row L ys h1 with h2 | ⟨b, o, cs, t, h2, h3, h4, h5⟩
  ·exact .inl h2
  ·refine .inr ⟨b, o, cs, t, h2, not_F1 hs hr h1 h2 hn h3, h4, fun j x hx => ?_⟩
   obtain ⟨c, h6, h7⟩ := h5 j x hx
   refine ⟨c, h6, (h7.mono F1_mono (Sizes.refl w)).relabel (hd l) dropL_ok ?_ fun hbx => ?_⟩
   ·cases L with
    | nil => simp [rowAt] at h1
    | cons h p => exact hn
   ·match L, hbx, h1 with
    | [h0], hbx, h1 =>
     simp only [isBox] at hbx
     split at hbx
     ·rename_i us hu
      simp only [rowAt, hu, Root.cells, sub, Option.some.injEq] at h1
      subst h1
      exact namesL_false (boxNo_all hb us (List.mem_of_getElem? hu)) x (List.mem_of_getElem? hx)
     ·cases hbx
    | [], hbx, _ => cases hbx
    | _ :: _ :: _, hbx, _ => cases hbx
 apart L ys L' ys' b o o' h1 h2 h3 h4 := by
  obtain ⟨g1, g2⟩ := rowAt_kill h1
  obtain ⟨g3, g4⟩ := rowAt_kill h2
  simp only [dropL, g1, g3] at h3 h4
  exact hs.apart _ _ _ _ _ _ _ g2 g4 h3 h4
 old b h := h.elim (hs.old b) fun h => hs.owns (Own.one hs hr h)
 tab := hs.tab.mono fun b h => ⟨.inl h, rfl⟩
 lab L h := by
  rw [List.length_set] at h
  simp only [dropL]; split
  ·rfl
  ·exact hs.lab L h
theorem Step.frz1 {m : Nat} (hs : St F Λ σ w) (hr : σ[l]? = some (.row xs)) (hm : m ≤ l) : Step m F Λ σ w (F1 F Λ l xs) (dropL l Λ) (σ.set l .dead) w where
 os := ⟨rfl, fun _ => by first | exact Nat.le_refl _ | exact Nat.le_succ _⟩
 tape := rfl
 output := rfl
 size := Nat.le_refl _
 sizes := Sizes.refl _
 keep _ _ _ := rfl
 mono b h := .inl h
 new b h := h.elim .inl fun h => .inr (.inl (Own.one hs hr h))
 own b h := by
  obtain ⟨L, ys, o, h1, h2⟩ := h
  obtain ⟨g1, g2⟩ := rowAt_kill h1
  simp only [dropL, g1] at h2
  exact .inl ⟨L, ys, o, g2, h2⟩
 len := by rw [List.length_set]; exact Nat.min_le_right _ _
 boxes l' ys h1 h2 := by
  have hne : l ≠ l' := fun e => by omega
  exact ⟨by simp [dropL, hd]; omega, ys, by rw [List.getElem?_set_ne hne]; exact h2⟩
 kept L b o h1 h2 := by
  cases L with
  | nil => simp [dropL, hd, h2]
  | cons h p => simp only [List.headD_cons] at h1; simp [dropL, hd, h2]; omega
inductive Fz1 (l : Nat) (xs : List A) : A → A → Prop
  | keep {a} : a.names (hd l) = false → Fz1 l xs a a
  | m {n k a0 a} : frzOK [.row xs] (.m [0] a0 n k) → fzR [.row xs] (.m [0] a0 n k) = a → Fz1 l xs (.m [l] a0 n k) a
  | g {as bs : List A} : as.length = bs.length → (∀ (j : Nat) a b, as[j]? = some a → bs[j]? = some b → Fz1 l xs a b) → Fz1 l xs (.g as) (.g bs)
def FzLs (l : Nat) (xs : List A) : List A → List A → Prop
 | [], [] => True
 | a :: as, b :: bs => Fz1 l xs a b ∧ FzLs l xs as bs
 | _, _ => False
theorem FzLs.get {l : Nat} {xs : List A} : ∀ {as bs : List A}, FzLs l xs as bs → as.length = bs.length ∧ ∀ (j : Nat) a b, as[j]? = some a → bs[j]? = some b → Fz1 l xs a b
 | [], [], _ => ⟨rfl, by simp⟩
 | [], _ :: _, h => h.elim
 | _ :: _, [], h => h.elim
 | a :: as, b :: bs, ⟨h, hs⟩ => by
  obtain ⟨h1, h2⟩ := FzLs.get hs
  refine ⟨by simp [h1], fun j x y hx hy => ?_⟩
  cases j with
  | zero => simp at hx hy; subst hx; subst hy; exact h
  | succ j => exact h2 j x y (by simpa using hx) (by simpa using hy)
theorem OK.fz1 (hs : St F Λ σ w) (hr : σ[l]? = some (.row xs)) {a b : A} (hz : Fz1 l xs a b) : ∀ {v}, OK F Λ w v a → OK (F1 F Λ l xs) (dropL l Λ) w v b := by
 induction hz with
 | keep hn => exact fun h => (h.mono F1_mono (Sizes.refl w)).relabel (hd l) dropL_ok hn
 | @m n k a0 a h1 h2 =>
  intro v h
  have h3 : OK F (downL Λ l) w v (.m [0] a0 n k) := by
   refine .m ?_
   rcases h.m_inv with h | ⟨b, o, cap, h4, h5⟩
   ·exact .inl h
   ·exact .inr ⟨b, o, cap, by simpa [downL] using h4, h5⟩
  have h4 := h3.frz (hs.down hr) h1
  rw [h2] at h4
  have : a.loose = true := by rw [← h2]; rfl
  exact h4.free this
 | g hl _ ih =>
  intro v h
  obtain ⟨vs, rfl, h1, h2⟩ := h.g_inv
  refine .g vs _ (h1.trans hl) fun j x y hx hy => ?_
  rename_i as bs _
  have hj : j < as.length := by have := (List.getElem?_eq_some_iff.1 hx).1; omega
  exact ih j _ x (List.getElem?_eq_getElem hj) hx (h2 j _ y (List.getElem?_eq_getElem hj) hy)
def FzE (l : Nat) (xs : List A) (E : Env) : Env → Prop
 | [] => True
 | (t, a) :: E' => Fz1 l xs (lk E t) a ∧ FzE l xs E E'
theorem FzE.fr (hs : St F Λ σ w) (hr : σ[l]? = some (.row xs)) {E tmps} (hf : FrOK F Λ w tmps E) : ∀ {E' : Env}, FzE l xs E E' → FrOK (F1 F Λ l xs) (dropL l Λ) w tmps E'
 | [], _ => fun t => .j _
 | (u, a) :: E', h => fun t => by
  simp only [lk]
  split
  ·rename_i e; subst e; exact OK.fz1 hs hr h.1 (hf u)
  ·exact FzE.fr hs hr hf h.2 t
end
theorem fz1T {α : Type} {T : Ty α} {l : Nat} {xs : List α} : Fz1 l (flat T.own xs) (.m [l] 0 xs.length T.k) (sl T xs) := .m (frzT (σ := [.row (flat T.own xs)]) rfl).1 (frzT (σ := [.row (flat T.own xs)]) rfl).2
theorem fz1E {α : Type} {T : Ty α} {l : Nat} {xs : List α} : Fz1 l (flat T.enc xs) (.m [l] 0 xs.length T.k) (sl T xs) := .m (frzTE (σ := [.row (flat T.enc xs)]) rfl).1 (frzTE (σ := [.row (flat T.enc xs)]) rfl).2
section
variable {P : Program} {n m : Nat} {K : Exit → Env → Store → Prop} {N : Env → Store → Prop} {E : Env} {σ : Store} {ops : Array Oper} {os : List Oper} {o : Oper}
theorem TO_frz1 (l : Nat) {xs : List A} {E' : Env} (hr : σ[l]? = some (.row xs)) (hb : boxNo l σ = true) (hm : m ≤ l) (hE : FzE l xs E E') (h : TO P n m ops os N E' (σ.set l .dead)) : TO P n m ops os N E σ := fun F Λ w tmps Q hn hs hf hq =>
 h _ _ w tmps Q hn (hs.frz1 hr hb) (hE.fr hs hr hf) fun F' Λ' σ' w' tmps' E' hn' hs' hf' hst hN => hq F' Λ' σ' w' tmps' E' hn' hs' hf' ((Step.frz1 hs hr hm).trans hst) hN
theorem TOp_appZ {α : Type} {T : Ty α} {f : α → List A} (hf : ∀ x, (f x).length = T.k) {t e l by_ : Nat} {x y : Operand} {zs : List Value} {xs ys us : List α} (hT : SlT P t e T.k) (hz : ZeroT P e zs) (hzk : zs.length = T.k) (hby : (P.info? e).map (·.bytes) = some by_) (hb1 : 1 ≤ by_)
  (h : o.op = .call { callee := .builtin .append, args := #[x, y], argTypes := #[t, t] }) (hd : dstOK n o.dst = true) (hx : val E x = .m [l] 0 xs.length T.k) (hr : σ[l]? = some (.row (flat f xs)))
  (hsrc : SrcA P E σ y ys.length T.k (flat f ys)) (hc : cellAllB (flat f ys) = true) (ha : app by_ xs ys = some us) (hml : m ≤ l)
  (hN : TO P n m ops os N (mvE l σ.length (put E o.dst (.m [σ.length] 0 us.length T.k))) ((σ.map (mvR l σ.length)).set l (.row (flat f us)) ++ [.dead])) : TOp P n m o (TO P n m ops os N) E σ := by
 obtain ⟨rfl, hb⟩ := app_inv ha
 exact TOp_appT hf hT hz hzk hby hb1 h hd hx hr hsrc hc hb hml hN
theorem TOp_setT {α : Type} {f : α → List A} {k : Nat} (hf : ∀ x, (f x).length = k) (hk0 : 0 < k) {t : Nat} {addr x : Operand} {l d i : Nat} {z : Int} {xs : List α} {v y : α} (hz : z = (i : Int)) (hT : SzT P t k) (h : o.op = .store t addr x) (hdst : o.dst = none) (ha : val E addr = .e [l] d) (hd : d = i * k) (hr : σ[l]? = some (.row (flat f xs)))
  (hv : xs[i]? = some v) (hy : cellsOf (val E x) = f y) (hc : cellAllB (f y) = true) (hN : N E (σ.set l (.row (flat f (xs.set z.toNat y))))) : TOp P n m o N E σ := by
 subst hz; rw [Int.toNat_natCast] at hN
 have hi := (List.getElem?_eq_some_iff.1 hv).1
 subst hd
 have hrow : rowAt σ [l] = some (flat f xs) := by rw [rowAt_cons, hr]; rfl
 refine TOp_storeE hT h hdst ha hrow hy (hf y) hk0 (by rw [flat_len hf, ← Nat.succ_mul]; exact Nat.mul_le_mul_right _ hi) hc ?_
 have := spl_flat hf xs i y hi
 rw [Nat.zero_add] at this
 rw [this]
 simpa [setRow, hr, Root.under, setSub] using hN
theorem flat_setF {α : Type} {f : α → List A} {k : Nat} (hf : ∀ x, (f x).length = k) (xs : List α) (i off : Nat) (v y : α) (ys : List A) (hv : xs[i]? = some v) (ho : off + ys.length ≤ k) (hy : f y = spl (f v) off ys) : spl (flat f xs) (i * k + off) ys = flat f (xs.set i y) := by
 have hi := (List.getElem?_eq_some_iff.1 hv).1
 have e := spl_flat hf xs i y hi
 rw [Nat.zero_add] at e
 rw [← e, hy]
 have hlen : (flat f xs).length = xs.length * k := flat_len hf xs
 have hik : i * k + k ≤ xs.length * k := by rw [← Nat.succ_mul]; exact Nat.mul_le_mul_right _ hi
 apply List.ext_getElem?
 intro j
 have hsl : (spl (f v) off ys).length = k := by rw [spl_len, hf]
 rw [spl_get _ _ _ _ (by omega), spl_get _ _ _ _ (by rw [hsl]; omega), hsl]
 by_cases h1 : i * k ≤ j ∧ j < i * k + k
 ·rw [if_pos h1, spl_get _ _ _ _ (by rw [hf]; omega)]
  by_cases h2 : i * k + off ≤ j ∧ j < i * k + off + ys.length
  ·rw [if_pos h2, if_pos (by omega)]; congr 1; omega
  ·rw [if_neg h2, if_neg (by omega)]
   have hlt : j - i * k < (f v).length := by rw [hf]; omega
   have := flat_at' hf hv (List.getElem?_eq_getElem hlt)
   rw [show i * k + (j - i * k) = j by omega] at this
   rw [this, List.getElem?_eq_getElem hlt]
 ·rw [if_neg h1, if_neg (by omega)]
theorem TOp_setP {α : Type} {f : α → List A} {k : Nat} (hf : ∀ x, (f x).length = k) {t k' : Nat} {addr x : Operand} {l d i off : Nat} {z : Int} {xs : List α} {v : α} {ys : List A} (y : α) (hz : z = (i : Int)) (hT : SzT P t k') (hk0 : 0 < k') (h : o.op = .store t addr x) (hdst : o.dst = none) (ha : val E addr = .e [l] d) (hd : d = i * k + off) (hr : σ[l]? = some (.row (flat f xs)))
  (hv : xs[i]? = some v) (hys : cellsOf (val E x) = ys) (hyl : ys.length = k') (ho : off + k' ≤ k) (hy : f y = spl (f v) off ys) (hc : cellAllB ys = true) (hN : N E (σ.set l (.row (flat f (xs.set z.toNat y))))) : TOp P n m o N E σ := by
 subst hz; rw [Int.toNat_natCast] at hN
 have hi := (List.getElem?_eq_some_iff.1 hv).1
 subst hd
 have hrow : rowAt σ [l] = some (flat f xs) := by rw [rowAt_cons, hr]; rfl
 refine TOp_storeE hT h hdst ha hrow hys hyl hk0 (flat_n hf hv ho) hc ?_
 rw [flat_setF hf xs i off v y ys hv (by omega) hy]
 simpa [setRow, hr, Root.under, setSub] using hN
theorem zeros_T {α : Type} {T : Ty α} {zs : List Value} {z : α} (hz : zs.map constA = T.enc z) (n : Nat) : (List.range (n * T.k)).map (fun j => constA (zs[j % T.k]!)) = flat T.enc (List.replicate n z) := by
 have hl : zs.length = T.k := by have := congrArg List.length hz; rw [T.len] at this; simpa using this
 apply List.ext_getElem?
 intro j
 rcases Nat.lt_or_ge j (n * T.k) with h | h
 ·have hm : j % T.k < T.k := Nat.mod_lt _ T.pos
  have hq : j / T.k < n := Nat.div_lt_of_lt_mul (by rw [Nat.mul_comm]; exact h)
  have e : j = j / T.k * T.k + j % T.k := by rw [Nat.mul_comm]; exact (Nat.div_add_mod j T.k).symm
  have hv : (List.replicate n z)[j / T.k]? = some z := by simp [hq]
  have hy : (T.enc z)[j % T.k]? = some (constA (zs[j % T.k]!)) := by
   rw [← hz, List.getElem?_map]
   rw [List.getElem?_eq_getElem (by omega)]
   simp [List.getElem!_eq_getElem?_getD, List.getElem?_eq_getElem (show j % T.k < zs.length by omega)]
  have := flat_at' T.len hv hy
  rw [← e] at this
  rw [this]; simp [h]
 ·rw [List.getElem?_eq_none (by simpa using h), List.getElem?_eq_none (by rw [flat_len T.len]; simpa using h)]
theorem TOp_makeT {α : Type} {T : Ty α} {t e by_ : Nat} {kk kk' : IntKind} {x y : Operand} {zs : List Value} {z : α} {nz : Int} {us : List α} (hzT : zs.map constA = T.enc z) (hT : SlT P t e T.k) (hz : ZeroT P e zs) (hzk : zs.length = T.k) (hb : (P.info? e).map (·.bytes) = some by_) (h : o.op = .makeSlice t x y) (hd : dstOK n o.dst = true)
  (hx : val E x = .v (.int kk nz)) (hy : val E y = .v (.int kk' nz)) (hm : mk by_ nz z = some us)
  (hN : N (put E o.dst (.m [σ.length] 0 us.length T.k)) (σ ++ [.row (flat T.enc us)])) : TOp P n m o N E σ := by
 obtain ⟨k, rfl, rfl, h1, h2⟩ := mk_inv hm
 refine TOp_makeZ (zeros_T hzT k) hT hz hzk hb h hd hx hy h1 h2 ?_
 simpa using hN
end
theorem frz_loose {σ : Store} {x : A} (h : x.loose = true) : frzOK σ x ∧ fzR σ x = x := by
 have key : ∀ (N : Nat), (∀ x : A, SizeOf.sizeOf x ≤ N → x.loose = true → frzOK σ x ∧ fzR σ x = x) ∧ (∀ xs : List A, SizeOf.sizeOf xs ≤ N → looseL xs = true → frzOKL σ xs ∧ fzRL σ xs = xs) := by
  intro N
  induction N with
  | zero =>
   refine ⟨fun x hx _ => ?_, fun xs hx _ => ?_⟩
   ·cases x <;> simp at hx
   ·cases xs <;> simp at hx
  | succ N ih =>
   refine ⟨fun x hx hl => ?_, fun xs hx hl => ?_⟩
   ·cases x <;> simp only [A.loose] at hl <;> first | (exact ⟨trivial, rfl⟩) | (cases hl; done) | (have h1 := ih.2 _ (by simp at hx; omega) hl; exact ⟨h1.1, by simp only [fzR, h1.2]⟩)
   ·cases xs with
    | nil => exact ⟨trivial, rfl⟩
    | cons y ys =>
     simp only [looseL, Bool.and_eq_true] at hl
     have h1 := ih.1 y (by simp at hx; omega) hl.1
     have h2 := ih.2 ys (by simp at hx; omega) hl.2
     exact ⟨⟨h1.1, h2.1⟩, by simp only [fzRL, h1.2, h2.2]⟩
 exact (key _).1 x (Nat.le_refl _) h
theorem looseC {a : A} {as : List A} (h : a.loose = true) (hs : looseL as = true) : looseL (a :: as) = true := by simp only [looseL, h, hs, Bool.and_self]
theorem namesL_enc {α : Type} {T : Ty α} {x : α} {p : List Nat → Bool} : namesL p (T.enc x) = false := looseL_names (T.loose x) p
theorem flat_nil {α : Type} {T : Ty α} {xs : List α} (h : flat T.enc xs = []) : xs = [] := by
 have := congrArg List.length h
 rw [flat_len T.len] at this
 cases xs with
 | nil => rfl
 | cons x xs => have hp := T.pos; rw [List.length_nil, List.length_cons, Nat.succ_mul] at this; omega
theorem frzOK_t {σ : Store} {xs ys : List A} (h : frzOKL σ xs) (h2 : fzRL σ xs = ys) : frzOK σ (.t xs) ∧ fzR σ (.t xs) = .t ys := ⟨h, by simp only [fzR, h2]⟩
theorem frzOK_f {σ : Store} {f : Nat} {xs ys : List A} (h : frzOKL σ xs) (h2 : fzRL σ xs = ys) : frzOK σ (.f f xs) ∧ fzR σ (.f f xs) = .f f ys := ⟨h, by simp only [fzR, h2]⟩
theorem frzOK_b {σ : Store} {l a : Nat} {xs ys : List A} (h : rowAt σ [l] = some xs) (h1 : firmL xs = true) (h2 : fzL xs = ys) : frzOK σ (.b l a) ∧ fzR σ (.b l a) = .q ys a := ⟨⟨xs, h, h1⟩, by simp only [fzR, h, Option.getD_some, h2]⟩
theorem frz_cons {σ : Store} {a a' : A} {as as' : List A} (h : frzOK σ a ∧ fzR σ a = a') (hs : frzOKL σ as ∧ fzRL σ as = as') : frzOKL σ (a :: as) ∧ fzRL σ (a :: as) = a' :: as' := ⟨⟨h.1, hs.1⟩, by simp only [fzRL, h.2, hs.2]⟩
theorem frz_nil {σ : Store} : frzOKL σ [] ∧ fzRL σ [] = [] := ⟨trivial, rfl⟩
def FnO (P : Program) (f : Nat) (as : List A) (r : A) (σ0 : Store) : Prop := Fn P f as [] fun r' σ => r' = r ∧ σ = σ0
def pickS (σ : Store) (ls : List Nat) : List (Option Root) := ls.map fun l => σ[l]?
def ixOf (ls : List Nat) (h : Nat) : Nat := ls.findIdx (· == h)
def inL (ls : List Nat) (L : List Nat) : Bool := match L with
 | [] => false
 | h :: _ => ls.contains h
def PickQ (r0 : A) (σ0 : Store) (r : A) (σ : Store) : Prop := ∃ ls : List Nat, ls.Nodup ∧ pickS σ ls = σ0.map some ∧ isRows σ0 = true ∧ r.names (fun L => !inL ls L) = false ∧ r.ren (ixOf ls) = r0
def pickL (Λ : Lbl) (ls : List Nat) : Lbl := fun L => match L with
 | [] => none
 | h :: p => match ls[h]? with
  | some l => Λ (l :: p)
  | none => none
theorem rowAt_pick {σ σ0 : Store} {ls : List Nat} (h : pickS σ ls = σ0.map some) {L xs} (hr : rowAt σ0 L = some xs) : ∃ h p l, L = h :: p ∧ ls[h]? = some l ∧ rowAt σ (l :: p) = some xs ∧ σ0[h]? = σ[l]? := by
 cases L with
 | nil => simp [rowAt] at hr
 | cons h0 p =>
  have hlen : ls.length = σ0.length := by have := congrArg List.length h; simpa [pickS] using this
  simp only [rowAt] at hr
  cases hr0 : σ0[h0]? with
  | none => rw [hr0] at hr; cases hr
  | some r =>
   have hlt : h0 < σ0.length := (List.getElem?_eq_some_iff.1 hr0).1
   have h1 := congrArg (fun l => l[h0]?) h
   simp only [pickS, List.getElem?_map, hr0, Option.map_some] at h1
   rw [List.getElem?_eq_getElem (by omega)] at h1
   simp only [Option.map_some, Option.some.injEq] at h1
   refine ⟨h0, p, ls[h0], rfl, List.getElem?_eq_getElem (by omega), ?_, by rw [h1]; exact hr0⟩
   simp only [rowAt, h1]
   rw [hr0] at hr; exact hr
theorem St.pick {F Λ σ w} (hs : St F Λ σ w) {ls : List Nat} {σ0 : Store} (hnd : ls.Nodup) (h : pickS σ ls = σ0.map some) (hR : isRows σ0 = true) : St F (pickL Λ ls) σ0 w where
 row L xs hr := by
  obtain ⟨h0, p, l, rfl, h1, h2, h3⟩ := rowAt_pick h hr
  have e : pickL Λ ls (h0 :: p) = Λ (l :: p) := by simp [pickL, h1]
  rw [e, isBox_rows hR]
  have hb : isBox σ (l :: p) = false := by
   cases p with
   | cons j p => rfl
   | nil =>
    simp only [isBox, ← h3]
    cases hr0 : σ0[h0]? with
    | none => rfl
    | some r =>
     simp only [isRows, List.all_eq_true] at hR
     have := hR r (List.mem_of_getElem? hr0)
     cases r <;> simp_all
  refine (hs.row _ _ h2).imp id fun ⟨b, o, cs, t, g1, g2, g3, g4⟩ => ⟨b, o, cs, t, g1, g2, g3, fun j x hj => (g4 j x hj).imp fun c hc => ⟨hc.1, ?_⟩⟩
  have h5 := hc.2
  rw [hb] at h5
  exact h5.unbox fun a n k v hv => hv.imp id fun ⟨b, o, cap, k1, k2⟩ => ⟨b, o, cap, by simpa [pickL, h1] using k1, k2⟩
 apart L xs L' xs' b o o' hr hr' h3 h4 := by
  obtain ⟨h0, p, l, rfl, g1, g2, _⟩ := rowAt_pick h hr
  obtain ⟨h0', p', l', rfl, g1', g2', _⟩ := rowAt_pick h hr'
  have := hs.apart _ _ _ _ _ _ _ g2 g2' (by simpa [pickL, g1] using h3) (by simpa [pickL, g1'] using h4)
  simp only [List.cons.injEq] at this
  obtain ⟨rfl, rfl⟩ := this
  have e1 := List.getElem?_eq_some_iff.1 g1
  have e2 := List.getElem?_eq_some_iff.1 g1'
  have : h0 = h0' := by
   rcases Nat.lt_trichotomy h0 h0' with g | g | g
   ·exact absurd (e1.2.trans e2.2.symm) (List.pairwise_iff_getElem.1 hnd h0 h0' e1.1 e2.1 g)
   ·exact g
   ·exact absurd (e2.2.trans e1.2.symm) (List.pairwise_iff_getElem.1 hnd h0' h0 e2.1 e1.1 g)
  rw [this]
 old := hs.old
 tab := hs.tab
 lab L hL := by
  have hlen : ls.length = σ0.length := by have := congrArg List.length h; simpa [pickS] using this
  cases L with
  | nil => rfl
  | cons h0 p => simp only [List.headD_cons] at hL; simp [pickL, List.getElem?_eq_none (show ls.length ≤ h0 by omega)]
theorem ixOf_get {ls : List Nat} (hnd : ls.Nodup) {h : Nat} (hm : ls.contains h = true) : ls[ixOf ls h]? = some h := by
 have hm' : h ∈ ls := by simpa using hm
 have hlt : ixOf ls h < ls.length := List.findIdx_lt_length_of_exists ⟨h, hm', by simp⟩
 rw [List.getElem?_eq_getElem hlt]
 have := List.findIdx_getElem (p := (· == h)) (xs := ls) (w := hlt)
 simp at this
 rw [show ls[ixOf ls h] = h from this]
theorem Fn.pickL {P : Program} {f : Nat} {as : List A} {r0 : A} {σ0 : Store} (h : Fn P f as [] (PickQ r0 σ0)) : FnO P f as r0 σ0 := fun F Λ w vs R hs ha hR => by
  refine h F Λ w vs R hs ha fun F1 Λ1 σ1 w1 v r hs1 hst hv hqr => ?_
  obtain ⟨ls, hnd, h1, h2, h3, h4⟩ := hqr
  refine hR F1 (Sep.pickL Λ1 ls) σ0 w1 v r0 (hs1.pick hnd h1 h2) ?_ ?_ ⟨rfl, rfl⟩
  · exact { os := hst.os, tape := hst.tape, output := hst.output, size := hst.size, sizes := hst.sizes, keep := hst.keep, mono := hst.mono, new := hst.new
            own := fun b hb => by
              obtain ⟨L, zs, o, g1, g2⟩ := hb
              obtain ⟨h0, p, l, rfl, k1, k2, _⟩ := rowAt_pick h1 g1
              exact hst.own b ⟨l :: p, zs, o, k2, by simpa [Sep.pickL, k1] using g2⟩
            len := Nat.zero_le _, boxes := fun l xs hl _ => by simp at hl, kept := fun L b o hL _ => by simp at hL }
  · rw [← h4]
    refine hv.ren (fun L => !inL ls L) _ (fun L b o hp hL => ?_) h3
    cases L with
    | nil => simp [inL] at hp
    | cons h p =>
      simp only [inL, Bool.not_eq_false'] at hp
      simp only [rh, Sep.pickL, ixOf_get hnd hp]; exact hL
theorem end_pick {P : Program} {E : Env} {σ : Store} {rs as} {r0 : A} {σ0 : Store} (h : ResA P E σ rs as) {r} (hr : resA as = r) (ls : List Nat) (hnd : ls.Nodup) (hb : boxesE σ.length σ = false)
  (hn : r.names (fun L => decide (σ.length ≤ L.headD 0)) = false) (hp : pickS σ ls = σ0.map some) (hR : isRows σ0 = true) (hnm : r.names (fun L => !inL ls L) = false) (hren : r.ren (ixOf ls) = r0) : EndK P rs 0 (PickQ r0 σ0) .ret E σ :=
 end_own h hr σ.length (Nat.zero_le _) (List.take_length ..).symm hb hn hb ⟨ls, hnd, hp, hR, hnm, hren⟩
theorem fnO_of_T {P f} {fn : Func} {c : Code} {as : List A} {r0 : A} {σ0 : Store} {rs : List ResultVar} (hf : P.funcs[f]? = some fn) (hb : fn.body = some c) (hr : fn.results = rs.toArray) (hn : as.length ≤ fn.ntmps)
  (h : T P fn.ntmps 0 c (EndK P rs 0 (PickQ r0 σ0)) (entry 0 as) []) : FnO P f as r0 σ0 := Fn.pickL (fn_of_T hf hb hr hn h)
theorem FnO.frz {P f as r σ0 r'} (h : FnO P f as r σ0) (hq : frzOK σ0 r ∧ fzR σ0 r = r') : FnV P f as r' := Sep.Fn.frz h fun r1 σ1 h1 => by obtain ⟨rfl, rfl⟩ := h1; exact hq
end Go.Sep

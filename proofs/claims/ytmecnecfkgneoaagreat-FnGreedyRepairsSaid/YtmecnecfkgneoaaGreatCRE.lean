import Derived.Test.YtmecnecfkgneoaaGreatCRD
import Derived.Shelf.SlSortCmp.NoneTotal
set_option linter.unusedVariables false
set_option linter.unusedSimpArgs false
namespace Go.Sep
open Go
structure Near (w : World) (b : Nat) (W : World) : Prop where
  os : W.os = w.os
  tape : W.tape = w.tape
  output : W.output = w.output
  size : w.heap.size ≤ W.heap.size
  drawn : w.drawn ≤ W.drawn
  other : ∀ b', b' < w.heap.size → b' ≠ b → W.heap[b']? = w.heap[b']?
theorem Near.refl (w : World) (b : Nat) : Near w b w := ⟨rfl, rfl, rfl, Nat.le_refl _, Nat.le_refl _, fun _ _ _ => rfl⟩
theorem Near.grow {w W : World} {b : Nat} (h : Near w b W) (q : Nat) (os : Array Obj) : Near w b (Sort.grow (W.drewN q) os) :=
 ⟨h.os, h.tape, h.output, by have := h.size; simp only [Sort.grow, World.drewN, Array.size_append]; omega, Nat.le_trans h.drawn (Nat.le_add_right _ _), fun b' h1 h2 => by
  show (W.heap ++ os)[b']? = _
  rw [Array.getElem?_append_left (Nat.lt_of_lt_of_le h1 h.size)]; exact h.other b' h1 h2⟩
theorem Near.put {α : Type} [Inhabited α] (enc : α → Value) (w : World) (b off m : Nat) (d : Array α) (os : Array Obj) : Near w b (Sort.grow (Sort.putRow enc (Sort.ahead w m) b off d) os) :=
 ⟨rfl, rfl, rfl, by simp only [Sort.grow, Sort.putRow, Sort.mapBlock, Sort.ahead, Array.size_append, Array.size_modify]; omega, Nat.le_add_right _ _, fun b' h1 h2 => by
  show (w.heap.modify b _ ++ os)[b']? = _
  rw [Array.getElem?_append_left (by simpa using h1), Array.getElem?_modify, if_neg (Ne.symm h2)]⟩
theorem put_block {α : Type} [Inhabited α] (enc : α → Value) {w : World} {b off m : Nat} (d : Array α) (os : Array Obj) {cs : Array Value} {t : TypeId} {fr} (h : w.heap[b]? = some (.cells cs t fr)) :
  (Sort.grow (Sort.putRow enc (Sort.ahead w m) b off d) os).heap[b]? = some (.cells (Sort.putCells enc off d cs) t fr) := by
 show (w.heap.modify b _ ++ os)[b]? = _
 have hb := (Array.getElem?_eq_some_iff.1 h).1
 rw [Array.getElem?_append_left (by simpa using hb), Array.getElem?_modify, if_pos rfl, h]; rfl
def wrapV (agg : Bool) (vs : List Value) : Value := if agg then .agg vs.toArray else vs.headD undef
def ElC (P : Program) (g : Nat) (agg : Bool) {N : Nat} (enc : Fin N → List Value) (res : Fin N → Fin N → Value) (w : World) (b : Nat) : Prop :=
 ∀ W, Near w b W → ∀ x y, Calls P g #[wrapV agg (enc x), wrapV agg (enc y)] W fun e w' => e = .returned (res x y) ∧ ∃ q os', w' = Sort.grow (W.drewN q) os'
def SortC (P : Program) (f k : Nat) (agg : Bool) : Prop :=
 (∀ (p : Option Addr) (cap : Nat) (fv : Value) (w : World), Calls P f #[.slice p 0 cap, fv] w fun e w' => e = .returned (.tuple #[]) ∧ w' = w) ∧
 ∀ (M : Nat) (enc : Fin (M + 1) → List Value) (cf : Fin (M + 1) → Fin (M + 1) → Int) (g b o cap : Nat) (cs : Array Value) (t : TypeId) (w : World),
  (∀ i, (enc i).length = k) → (∀ i, ∀ v ∈ enc i, v.oneCell' = true) → Sort.SWO (Proofs.ltOf cf) → EnT P g → ElC P g agg enc (fun x y => .int .i64 (cf x y)) w b →
  w.heap[b]? = some (.cells cs t (0, 0)) → (∀ (i : Fin (M + 1)) j v, (enc i)[j]? = some v → cs[o + (i.val * k + j)]? = some v) → M + 1 < 4611686018427387904 →
  Calls P f #[.slice (some ⟨b, o, none⟩) (M + 1) cap, .func (.func g) #[] #[]] w fun e w' => e = .returned (.tuple #[]) ∧
   ∃ d : List (Fin (M + 1)), d.Perm (List.finRange (M + 1)) ∧ d.Pairwise (fun x y => Proofs.ltOf cf y x = false) ∧ Near w b w' ∧
    ∃ cs' : Array Value, w'.heap[b]? = some (.cells cs' t (0, 0)) ∧ cs'.size = cs.size ∧ ∀ i x, d[i]? = some x → ∀ j v, (enc x)[j]? = some v → cs'[o + (i * k + j)]? = some v
theorem perm_in {N : Nat} [Inhabited (Fin N)] {d : Array (Fin N)} (h : Sort.PermIn 0 (List.finRange N).toArray.size (List.finRange N).toArray d) : d.toList.Perm (List.finRange N) := by
 obtain ⟨h1, _, h2⟩ := h
 rw [← h1] at h2
 rw [Array.extract_size] at h2
 rw [h1, Array.extract_size] at h2
 simpa using h2
theorem sorted_in {N : Nat} [Inhabited (Fin N)] {lt : Fin N → Fin N → Bool} {d : Array (Fin N)} {n : Nat} (hn : d.size = n) (h : Sort.SortedIn lt 0 n d) : d.toList.Pairwise fun x y => lt y x = false := by
 rw [List.pairwise_iff_getElem]
 intro i j hi hj hij
 have := h i j (Nat.zero_le _) hij (by simpa [hn] using hj)
 simp only [Array.length_toList] at hi hj
 rw [getElem!_pos d i hi, getElem!_pos d j hj] at this
 simpa using this
theorem fin_at {M j : Nat} (h : j < (List.finRange (M + 1)).toArray.size) : (List.finRange (M + 1)).toArray[j]! = ⟨j, by simpa using h⟩ := by
 rw [getElem!_pos _ j h]; simp
theorem SortC.one {P : Program} {ρ : Go.Shelf.Ren} (L : Proofs.SlLaysF.n6 P ρ) : SortC P (ρ.f 6) 1 false := by
 refine ⟨fun p cap fv w => Proofs.AnyF.slices_SortFunc_none { L with } p cap fv w, fun M enc cf g b o cap cs t w hk h1 hO hg hC hb hcs hN => ?_⟩
 have hb0 := (Array.getElem?_eq_some_iff.1 hb).1
 obtain ⟨e1, he⟩ : ∃ e1 : Fin (M + 1) → Value, ∀ i, enc i = [e1 i] := ⟨fun i => (enc i).headD undef, fun i => by
  have := hk i
  show enc i = [(enc i).headD undef]
  generalize enc i = l at this
  match l, this with
  | [v], _ => rfl⟩
 have hd : (List.finRange (M + 1)).toArray.size = M + 1 := by simp
 have hc := Proofs.Any.slices_SortFunc L e1 (fun i => h1 i _ (by rw [he]; simp)) cf hO g #[] b o cap (List.finRange (M + 1)).toArray w hg (fun m os dk _ x y => by
   have := hC (Proofs.sortWorld e1 w b o m dk os) (Near.put ..) x y
   simpa [he, wrapV] using this) (fun j hj => by
   rw [hd] at hj
   have := hcs ⟨j, hj⟩ 0 (e1 ⟨j, hj⟩) (by rw [he]; rfl)
   simp only [Nat.mul_one, Nat.add_zero] at this
   rw [fin_at (by simpa using hj)]
   refine ⟨by simpa [World.cell?, hb] using this, by simp [World.frozen?, hb]⟩) hb0 (by simpa using hN)
 rw [hd] at hc
 refine hc.mono fun e w' ⟨h2, d', n, os, hp, hs, hw⟩ => ?_
 subst hw
 refine ⟨h2, d'.toList, perm_in (by rw [hd]; exact hp), sorted_in (hp.1.trans hd) hs, Near.put .., _, put_block e1 d' os hb, by simp [Sort.putCells], fun i x hi j v hj => ?_⟩
 rw [he] at hj
 obtain ⟨rfl, rfl⟩ : j = 0 ∧ v = e1 x := by
  cases j with
  | zero => simp only [List.getElem?_cons_zero, Option.some.injEq] at hj; exact ⟨rfl, hj.symm⟩
  | succ j => simp at hj
 rw [Array.getElem?_toList] at hi
 have hid := (Array.getElem?_eq_some_iff.1 hi).1
 have hds : d'.size = M + 1 := hp.1.trans hd
 have := hcs ⟨i, by omega⟩ 0 (e1 ⟨i, by omega⟩) (by rw [he]; rfl)
 simp only [Nat.mul_one, Nat.add_zero] at this ⊢
 simp only [Sort.putCells, Array.getElem?_mapIdx, this, Option.map_some]
 rw [if_pos (by omega), show o + i - o = i by omega, getElem!_pos d' i hid]
 rw [Array.getElem?_eq_getElem hid] at hi
 cases hi; rfl
theorem div_of {k i j : Nat} (hj : j < k) : (i * k + j) / k = i ∧ (i * k + j) % k = j := by
 refine ⟨?_, ?_⟩
 ·rw [Nat.mul_comm, Nat.mul_add_div (by omega), Nat.div_eq_of_lt hj, Nat.add_zero]
 ·rw [Nat.mul_comm, Nat.mul_add_mod, Nat.mod_eq_of_lt hj]
structure CmpOK {α : Type} (cmp : α → α → Option Int) (xs : List α) : Prop where
  tot : ∀ x ∈ xs, ∀ y ∈ xs, ∃ r, cmp x y = some r ∧ -9223372036854775808 ≤ r ∧ r ≤ 9223372036854775807
  irr : ∀ x ∈ xs, ∀ r, cmp x x = some r → 0 ≤ r
  tr : ∀ x ∈ xs, ∀ y ∈ xs, ∀ z ∈ xs, ∀ r s t, cmp x y = some r → cmp y z = some s → cmp x z = some t → r < 0 → s < 0 → t < 0
  ntr : ∀ x ∈ xs, ∀ y ∈ xs, ∀ z ∈ xs, ∀ r s t, cmp x y = some r → cmp y z = some s → cmp x z = some t → 0 ≤ r → 0 ≤ s → 0 ≤ t
  anti : ∀ x ∈ xs, ∀ y ∈ xs, ∀ r s, cmp x y = some r → cmp y x = some s → 0 ≤ r → 0 ≤ s → x = y
def SortedAs {α : Type} (cmp : α → α → Option Int) (xs ys : List α) : Prop := ys.Perm xs ∧ ys.Pairwise fun x y => ∀ r, cmp y x = some r → 0 ≤ r
open Classical in
noncomputable def sortM {α : Type} (cmp : α → α → Option Int) (xs : List α) : Option (List α) :=
 if h : (xs.length < 4611686018427387904 ∧ CmpOK cmp xs) ∧ ∃ ys, SortedAs cmp xs ys then some h.2.choose else none
theorem sortM_inv {α : Type} {cmp : α → α → Option Int} {xs ys : List α} (h : sortM cmp xs = some ys) : xs.length < 4611686018427387904 ∧ CmpOK cmp xs ∧ SortedAs cmp xs ys := by
 unfold sortM at h
 split at h
 ·rename_i hh
  cases h
  exact ⟨hh.1.1, hh.1.2, hh.2.choose_spec⟩
 ·cases h
theorem SortedAs.unique {α : Type} {cmp : α → α → Option Int} {xs ys zs : List α} (hc : CmpOK cmp xs) (h1 : SortedAs cmp xs ys) (h2 : SortedAs cmp xs zs) : ys = zs := by
 refine List.Perm.eq_of_pairwise (le := fun x y => ∀ r, cmp y x = some r → 0 ≤ r) (fun a b ha hb h3 h4 => ?_) h1.2 h2.2 (h1.1.trans h2.1.symm)
 obtain ⟨r, hr, _⟩ := hc.tot b (h2.1.mem_iff.1 hb) a (h1.1.mem_iff.1 ha)
 obtain ⟨s, hs, _⟩ := hc.tot a (h1.1.mem_iff.1 ha) b (h2.1.mem_iff.1 hb)
 exact hc.anti a (h1.1.mem_iff.1 ha) b (h2.1.mem_iff.1 hb) s r hs hr (h4 s hs) (h3 r hr)
theorem sortM_eq {α : Type} {cmp : α → α → Option Int} {xs ys : List α} (hl : xs.length < 4611686018427387904) (hc : CmpOK cmp xs) (h : SortedAs cmp xs ys) : sortM cmp xs = some ys := by
 unfold sortM
 have hh : (xs.length < 4611686018427387904 ∧ CmpOK cmp xs) ∧ ∃ ys, SortedAs cmp xs ys := ⟨⟨hl, hc⟩, ys, h⟩
 rw [dif_pos hh]
 exact congrArg some (SortedAs.unique hc hh.2.choose_spec h)
theorem cell_immB {F : Nat → Prop} {Λ : Lbl} {σ : Store} {w : World} (hs : St F Λ σ w) {l b0 o0 : Nat} {xs0 : List A} (hr0 : rowAt σ [l] = some xs0) (hL0 : Λ [l] = some (b0, o0)) :
  ∀ (N : Nat) (x : A), SizeOf.sizeOf x < N → ∀ L j bx c xs, L ≠ [] → rowAt σ L = some xs → xs[j]? = some x → firm x = true → Cell F Λ w bx (L ++ [j]) c x → Imm (fun b => FO F Λ σ b ∧ b ≠ b0) w c (fz x) := by
 intro N
 have hF : ∀ b, F b → (FO F Λ σ b ∧ b ≠ b0) ∧ w.heap[b]? = w.heap[b]? := fun b hb => ⟨⟨.inl hb, fun e => hs.notOwn hb (e ▸ ⟨[l], xs0, o0, hr0, hL0⟩)⟩, rfl⟩
 induction N with
 | zero => intro x hx; exact absurd hx (Nat.not_lt_zero _)
 | succ N ih =>
  intro x hx L j bx c xs hne hr hj hf hc
  cases x with
  | o k ys =>
   obtain ⟨_, hk, n, hn, hsl⟩ := hc
   have hr' := rowAt_snoc hr hj
   simp only [firm, Bool.and_eq_true] at hf
   show Imm _ w c (.i k (fzL ys))
   rcases hsl with ⟨rfl, ad, rfl⟩ | ⟨b, o', cap, hL, rfl, hle, hm, cs, t, hb, hcap⟩
   ·have : ys = [] := List.eq_nil_of_length_eq_zero (by omega)
    subst this
    exact .i0 ad 0 k
   ·rcases Nat.eq_zero_or_pos n with h0 | h0
    ·subst h0
     have : ys = [] := List.eq_nil_of_length_eq_zero (by omega)
     subst this
     exact .i0 _ cap k
    ·obtain hrow | ⟨b2, o2, cs2, t2, g1, g2, g3, g4⟩ := hs.row _ ys hr'
     ·rw [hL] at hrow; cases hrow.1
     rw [hL] at g1; cases g1
     have hbb : b ≠ b0 := fun e => by
      subst e
      have := hs.apart _ _ _ _ _ _ _ hr' hr0 hL hL0
      have h2 := congrArg List.length this
      cases L with
      | nil => exact hne rfl
      | cons a p => simp at h2
     refine .i b (o' + 0) n cap k (fun j => (cs2[o' + j]?).getD undef) (fzL ys) ⟨.inr ⟨_, ys, o', hr', hL⟩, hbb⟩ h0 hle (Nat.le_trans hle hm) (by rw [fzL_len]; exact hn) (fun i y hy => ?_) (fun i y hy => ?_)
     ·rw [fzL_get] at hy
      cases hi : ys[i]? with
      | none => simp [hi] at hy
      | some u =>
       obtain ⟨c', g5, _⟩ := g4 i u hi
       simp [World.cell?, g3, g5]
     ·rw [fzL_get] at hy
      cases hi : ys[i]? with
      | none => simp [hi] at hy
      | some u =>
       simp [hi] at hy
       subst hy
       obtain ⟨c', g5, g6⟩ := g4 i u hi
       simp only [g5, Option.getD_some]
       have hsz : SizeOf.sizeOf u < SizeOf.sizeOf ys := List.sizeOf_lt_of_mem (List.mem_of_getElem? hi)
       exact ih u (by simp at hx; omega) _ i _ c' ys (by simp) hr' hi (firmL_mem hf.2 u (List.mem_of_getElem? hi)) g6
  | j => simp [firm] at hf
  | _ => exact (hc.2.imm_of hf).mono hF
def argA (agg : Bool) (xs : List A) : A := if agg then .g xs else xs.headD .j
theorem ElC.of {P : Program} {g b N : Nat} {agg : Bool} {enc : Fin N → List Value} {res : Fin N → Fin N → Value} {F : Nat → Prop} {w : World} {ax : Fin N → List A} (hd : drawnOK) (hF : ∀ x y, FnV P g [argA agg (ax x), argA agg (ax y)] (.v (res x y)))
  (hold : ∀ b', F b' → b' < w.heap.size) (hb : ¬ F b) (ht : Tabs F w) (hl : ∀ x, (enc x).length = (ax x).length) (h1 : agg = false → ∀ x, (enc x).length = 1) (hi : ∀ x (j : Nat) c a, (enc x)[j]? = some c → (ax x)[j]? = some a → Imm F w c a) : ElC P g agg enc res w b := fun W hN x y => by
 have hFW : ∀ b', F b' → F b' ∧ W.heap[b']? = w.heap[b']? := fun b' h => ⟨h, hN.other b' (hold b' h) fun e => hb (e ▸ h)⟩
 have hS : St F (fun _ => none) [] W := ⟨fun L xs h => by cases L <;> simp [rowAt] at h, fun L xs _ _ _ _ _ h => by cases L <;> simp [rowAt] at h, fun b' h => Nat.lt_of_lt_of_le (hold b' h) hN.size, ht.mono hFW, fun _ _ => rfl⟩
 have arg : ∀ x, OK F (fun _ => none) W (wrapV agg (enc x)) (argA agg (ax x)) := fun x => by
  refine .imm (.mono hFW ?_)
  cases agg with
  | true => exact .g (enc x) (ax x) (hl x) fun j a c h2 h3 => hi x j c a h3 h2
  | false =>
   have e1 := h1 rfl x
   have e2 := hl x
   simp only [wrapV, argA, Bool.false_eq_true, if_false]
   have := hi x 0
   revert this e1 e2
   generalize enc x = cc
   generalize ax x = aa
   cases cc with
   | nil => intro e1; simp at e1
   | cons c cs =>
    cases aa with
    | nil => intro e1 e2; simp at e2
    | cons a aa => intro _ _ h; exact h c a rfl rfl
 refine hF x y F (fun _ => none) W [wrapV agg (enc x), wrapV agg (enc y)] _ hS ⟨rfl, fun j a v ha hv => ?_⟩ fun F' Λ' σ' w' v r hS' hst hv hr => ?_
 ·match j, ha, hv with
  | 0, ha, hv => simp only [List.getElem?_cons_zero, Option.some.injEq] at ha hv; subst ha hv; exact arg x
  | 1, ha, hv => simp only [List.getElem?_cons_succ, List.getElem?_cons_zero, Option.some.injEq] at ha hv; subst ha hv; exact arg y
  | j + 2, ha, _ => simp at ha
 ·obtain ⟨rfl, rfl⟩ := hr
  refine ⟨by rw [hv.v_inv], w'.drawn - W.drawn, w'.heap.extract W.heap.size w'.heap.size, ?_⟩
  have h2 := hst.os.2 hd
  have h3 : w'.heap = W.heap ++ w'.heap.extract W.heap.size w'.heap.size := by
   apply Array.ext_getElem?
   intro i
   rcases Nat.lt_or_ge i W.heap.size with h | h
   ·rw [Array.getElem?_append_left h]
    exact hst.keep i h fun ho => ho.empty
   ·rw [Array.getElem?_append_right h, Array.getElem?_extract]
    split
    ·rw [show W.heap.size + (i - W.heap.size) = i by omega]
    ·rw [Array.getElem?_eq_none]; omega
  have h4 := hst.os.1; have h5 := hst.tape; have h6 := hst.output
  cases w' with
  | mk a1 a2 a3 a4 a5 =>
   simp only at h2 h3 h4 h5 h6
   subst h4 h5 h6
   simp only [Sort.grow, World.drewN]
   rw [← h3]
   congr 1
   omega
section
variable {α : Type} {Y : Ty α} {F : Nat → Prop} {Λ : Lbl} {σ : Store} {w : World} {l b o' : Nat} {xs : List α} {cs : Array Value} {t : TypeId}
def rawEl (cs : Array Value) (o' k i : Nat) : List Value := (cs.toList.drop (o' + i * k)).take k
theorem rawEl_get {cs : Array Value} {o' k i j : Nat} (hj : j < k) : (rawEl cs o' k i)[j]? = cs[o' + (i * k + j)]? := by
 rw [rawEl, List.getElem?_take_of_lt hj, List.getElem?_drop, Array.getElem?_toList, Nat.add_assoc]
theorem rawEl_len {cs : Array Value} {o' k i n : Nat} (hi : i < n) (h : o' + n * k ≤ cs.size) : (rawEl cs o' k i).length = k := by
 have := Nat.mul_le_mul_right k (Nat.succ_le_of_lt hi)
 rw [Nat.succ_mul] at this
 simp only [rawEl, List.length_take, List.length_drop, Array.length_toList]; omega
theorem row_cell (hs : St F Λ σ w) (hσ : σ[l]? = some (.row (flat Y.own xs))) (hL : Λ [l] = some (b, o')) (hb : w.heap[b]? = some (.cells cs t (0, 0))) {d : Nat} {y : A} (hy : (flat Y.own xs)[d]? = some y) : ∃ c, cs[o' + d]? = some c ∧ Cell F Λ w false [l, d] c y := by
 obtain ⟨c, k1, k2⟩ := hs.cellAt (L := [l]) (by simp only [rowAt, hσ, Root.cells, sub]) hL hy
 rw [show isBox σ [l] = false by simp only [isBox, hσ]] at k2
 exact ⟨c, by simpa [World.cell?, hb] using k1, k2⟩
theorem ElC.row {P : Program} {g : Nat} {agg : Bool} (hs : St F Λ σ w) (hσ : σ[l]? = some (.row (flat Y.own xs))) (hL : Λ [l] = some (b, o')) (hb : w.heap[b]? = some (.cells cs t (0, 0))) (hsz : o' + xs.length * Y.k ≤ cs.size) (hd : drawnOK) (hk : agg = false → Y.k = 1)
  {N : Nat} (hN : N = xs.length) {res : Fin N → Fin N → Value} (hF : ∀ x y : Fin N, FnV P g [argA agg (Y.enc (xs[x.val]'(hN ▸ x.isLt))), argA agg (Y.enc (xs[y.val]'(hN ▸ y.isLt)))] (.v (res x y))) :
  ElC P g agg (fun i : Fin N => rawEl cs o' Y.k i.val) res w b := by
 have hrow : rowAt σ [l] = some (flat Y.own xs) := by simp only [rowAt, hσ, Root.cells, sub]
 have hlen : ∀ i : Fin N, (rawEl cs o' Y.k i.val).length = Y.k := fun i => rawEl_len (hN ▸ i.isLt) hsz
 have hnb : ¬ F b := fun hf => hs.notOwn hf ⟨[l], _, o', hrow, hL⟩
 refine ElC.of (F := fun b' => FO F Λ σ b' ∧ b' ≠ b) hd hF (fun b' h => ?_) (fun h => h.2 rfl) (hs.tab.mono fun b' hb' => ⟨⟨.inl hb', fun e => hnb (e ▸ hb')⟩, rfl⟩) (fun x => (hlen x).trans (Y.len _).symm) (fun h x => (hlen x).trans (hk h)) fun x j c a hc ha => ?_
 ·rcases h.1 with h1 | h1
  ·exact hs.old b' h1
  ·exact hs.owns h1
 ·have hj : j < Y.k := by rw [← hlen x]; exact (List.getElem?_eq_some_iff.1 hc).1
  rw [rawEl_get hj] at hc
  rw [← Y.fzO, fzL_get] at ha
  cases hy : (Y.own (xs[x.val]'(hN ▸ x.isLt)))[j]? with
  | none => rw [hy] at ha; cases ha
  | some y =>
   rw [hy] at ha
   simp only [Option.map_some, Option.some.injEq] at ha
   subst ha
   have h1 := flat_at' Y.lenO (List.getElem?_eq_getElem (hN ▸ x.isLt)) hy
   obtain ⟨c', h2, h3⟩ := row_cell hs hσ hL hb h1
   rw [hc] at h2; cases h2
   exact cell_immB hs hrow hL _ y (Nat.lt_succ_self _) [l] _ false c _ (by simp) hrow h1 (firmL_mem (Y.firmO _) y (List.mem_of_getElem? hy)) h3
theorem rawEl_one (hs : St F Λ σ w) (hσ : σ[l]? = some (.row (flat Y.own xs))) (hL : Λ [l] = some (b, o')) (hb : w.heap[b]? = some (.cells cs t (0, 0))) (hsz : o' + xs.length * Y.k ≤ cs.size) {i : Nat} (hi : i < xs.length) : ∀ v ∈ rawEl cs o' Y.k i, v.oneCell' = true := fun v hv => by
 obtain ⟨j, hj⟩ := List.getElem?_of_mem hv
 have hjk : j < Y.k := by rw [← rawEl_len (cs := cs) hi hsz]; exact (List.getElem?_eq_some_iff.1 hj).1
 rw [rawEl_get hjk] at hj
 have hy : (Y.own xs[i])[j]? = some ((Y.own xs[i])[j]'(by rw [Y.lenO]; exact hjk)) := List.getElem?_eq_getElem _
 have h1 := flat_at' Y.lenO (List.getElem?_eq_getElem hi) hy
 obtain ⟨c', h2, h3⟩ := row_cell hs hσ hL hb h1
 rw [hj] at h2; cases h2
 exact h3.oneO (ownRL_mem (Y.ownR _) _ (List.mem_of_getElem? hy))
end
section
variable {P : Program} {n m : Nat} {N : Env → Store → Prop} {E : Env} {σ : Store} {o : Oper}
theorem swo_of {α : Type} {cmp : α → α → Option Int} {xs : List α} (h : CmpOK cmp xs) {N : Nat} (hN : N = xs.length) : Sort.SWO (Proofs.ltOf fun i j : Fin N => (cmp (xs[i.val]'(hN ▸ i.isLt)) (xs[j.val]'(hN ▸ j.isLt))).getD 0) := by
 have mem : ∀ i : Fin N, xs[i.val]'(hN ▸ i.isLt) ∈ xs := fun i => List.getElem_mem _
 refine ⟨fun x => ?_, fun x y z h1 h2 => ?_, fun x y z h1 h2 => ?_⟩
 ·obtain ⟨r, hr, _⟩ := h.tot _ (mem x) _ (mem x)
  simp only [Proofs.ltOf, hr, Option.getD_some, decide_eq_false_iff_not, Int.not_lt]
  exact h.irr _ (mem x) r hr
 ·obtain ⟨r, hr, _⟩ := h.tot _ (mem x) _ (mem y)
  obtain ⟨s, hs, _⟩ := h.tot _ (mem y) _ (mem z)
  obtain ⟨t, ht, _⟩ := h.tot _ (mem x) _ (mem z)
  simp only [Proofs.ltOf, hr, hs, ht, Option.getD_some, decide_eq_true_eq] at h1 h2 ⊢
  exact h.tr _ (mem x) _ (mem y) _ (mem z) r s t hr hs ht h1 h2
 ·obtain ⟨r, hr, _⟩ := h.tot _ (mem x) _ (mem y)
  obtain ⟨s, hs, _⟩ := h.tot _ (mem y) _ (mem z)
  obtain ⟨t, ht, _⟩ := h.tot _ (mem x) _ (mem z)
  simp only [Proofs.ltOf, hr, hs, ht, Option.getD_some, decide_eq_false_iff_not, Int.not_lt] at h1 h2 ⊢
  exact h.ntr _ (mem x) _ (mem y) _ (mem z) r s t hr hs ht h1 h2
theorem map_finRange {α : Type} {xs : List α} {N : Nat} (hN : N = xs.length) : (List.finRange N).map (fun i => xs[i.val]'(hN ▸ i.isLt)) = xs := by
 subst hN
 exact List.ext_getElem (by simp) fun i h1 h2 => by simp
theorem TOp_sort {α : Type} {Y : Ty α} {agg : Bool} {l f g : Nat} {xs ys : List α} {cmp : α → α → Option Int} {aa : List A} {fa : A} (hc : CallOp P o E f aa) (has : aa = [.m [l] 0 xs.length Y.k, fa]) (hfa : ∀ F Λ w v, OK F Λ w v fa → v = .func (.func g) #[] #[])
  (hf : SortC P f Y.k agg) (hk : agg = false → Y.k = 1) (hg : EnT P g) (hcmp : ∀ x y r, cmp x y = some r → FnV P g [argA agg (Y.enc x), argA agg (Y.enc y)] (intA r)) (hdr : drawnOK)
  (hM : sortM cmp xs = some ys) (hσ : σ[l]? = some (.row (flat Y.own xs))) (hbn : boxNst l σ = true) (hE : nmE (nst l) E = false) (hm : m ≤ l) (hd : dstOK n o.dst = true)
  (hN : ys.length = xs.length → N (put E o.dst (.v (.tuple #[]))) (σ.set l (.row (flat Y.own ys)))) : TOp P n m o N E σ := fun F Λ w tmps K Qx hn hs hf0 hk0 => by
 subst has
 obtain ⟨h62, hCmp, hperm, hsorted⟩ := sortM_inv hM
 have hlen := hperm.length_eq
 obtain ⟨vs, ⟨hvl, hvs⟩, hrun⟩ := hc F Λ w tmps hf0
 obtain ⟨u, v, rfl⟩ : ∃ u v, vs = [u, v] := by
  match vs, hvl with
  | [u, v], _ => exact ⟨u, v, rfl⟩
 have hv := hfa F Λ w v (hvs 1 _ v rfl rfl)
 have hu := hvs 0 _ u rfl rfl
 have hrow : rowAt σ [l] = some (flat Y.own xs) := by simp only [rowAt, hσ, Root.cells, sub]
 unfold Oper.wp
 rw [hrun w, Oper.upon_enter]
 by_cases h0 : xs.length = 0
 ·obtain ⟨p, c, rfl⟩ : ∃ p c, u = .slice p 0 c := by
   rcases hu.m_inv with ⟨_, ad, rfl⟩ | ⟨b, o', cap, _, h2, _⟩
   ·exact ⟨_, _, rfl⟩
   ·exact ⟨_, _, by rw [h2, h0]⟩
  refine (hf.1 p c v w).mono fun e w' ⟨h1, h2⟩ => ?_
  subst h1 h2
  obtain ⟨tmps', e, hn2, hf2⟩ := hf0.putO (ds := []) hn hd (v := .tuple #[]) (r := .v (.tuple #[])) (.imm (.v _))
  show K (Act.put ⟨tmps, []⟩ o.dst _) w'
  rw [e]
  have hx : xs = [] := List.eq_nil_of_length_eq_zero h0
  have hy : ys = [] := List.eq_nil_of_length_eq_zero (hlen.trans h0)
  have hsame : σ.set l (.row (flat Y.own ys)) = σ := by
   refine List.ext_getElem? fun i => ?_
   rw [List.getElem?_set]
   split
   ·rename_i e; subst e
    rw [if_pos (List.getElem?_eq_some_iff.1 hσ).1, hσ, hx, hy]
   ·rfl
  have := hN hlen
  rw [hsame] at this
  exact hk0 F _ _ _ tmps' _ hn2 hs hf2 (.refl ..) this
 ·obtain ⟨b, o', cap, hL, h2, hle, hmx, cs, t, hb, hsz⟩ : ∃ b o' cap, Λ [l] = some (b, o') ∧ u = .slice (some ⟨b, o', none⟩) xs.length cap ∧ xs.length ≤ cap ∧ cap ≤ maxLen ∧ ∃ cs t, w.heap[b]? = some (.cells cs t (0, 0)) ∧ o' + cap * Y.k ≤ cs.size := by
   rcases hu.m_inv with ⟨h, _⟩ | ⟨b, o', cap, h1, h2, h3, h4, cs, t, h5, h6⟩
   ·exact absurd h h0
   ·exact ⟨b, o', cap, h1, h2, h3, h4, cs, t, h5, by omega⟩
  have hszn : o' + xs.length * Y.k ≤ cs.size := by have := Nat.mul_le_mul_right Y.k hle; omega
  obtain ⟨M, hMl⟩ : ∃ M, M + 1 = xs.length := ⟨xs.length - 1, by omega⟩
  have mem : ∀ i : Fin (M + 1), xs[i.val]'(hMl ▸ i.isLt) ∈ xs := fun i => List.getElem_mem _
  have hC := ElC.row (P := P) (g := g) (agg := agg) hs hσ hL hb hszn hdr hk hMl (res := fun i j => .int .i64 ((cmp (xs[i.val]'(hMl ▸ i.isLt)) (xs[j.val]'(hMl ▸ j.isLt))).getD 0)) fun x y => by
   obtain ⟨r, hr, _⟩ := hCmp.tot _ (mem x) _ (mem y)
   have := hcmp _ _ r hr
   rw [hr]; exact this
  have hcall := hf.2 M (fun i => rawEl cs o' Y.k i.val) (fun i j => (cmp (xs[i.val]'(hMl ▸ i.isLt)) (xs[j.val]'(hMl ▸ j.isLt))).getD 0) g b o' cap cs t w (fun i => rawEl_len (show i.val < xs.length from hMl ▸ i.isLt) hszn) (fun i => rawEl_one hs hσ hL hb hszn (hMl ▸ i.isLt)) (swo_of hCmp hMl) hg hC hb
   (fun i j v hj => by
    have hjk : j < Y.k := by rw [← rawEl_len (cs := cs) (o' := o') (k := Y.k) (show i.val < xs.length from hMl ▸ i.isLt) hszn]; exact (List.getElem?_eq_some_iff.1 hj).1
    rw [rawEl_get hjk] at hj; exact hj) (by omega)
  rw [h2, hv, ← hMl]
  refine hcall.mono fun e w' ⟨he, d, hdp, hds, hnear, cs', hb', hsz', hcells⟩ => ?_
  subst he
  have hdl : d.length = xs.length := by rw [hdp.length_eq]; simpa using hMl
  -- the contents
  have hys : d.map (fun i => xs[i.val]'(hMl ▸ i.isLt)) = ys := by
   refine SortedAs.unique hCmp ⟨?_, ?_⟩ ⟨hperm, hsorted⟩
   ·have := hdp.map (fun i => xs[i.val]'(hMl ▸ i.isLt))
    rwa [map_finRange hMl] at this
   ·rw [List.pairwise_map]
    refine hds.imp fun {x y} h r hr => ?_
    simp only [Proofs.ltOf, hr, Option.getD_some, decide_eq_false_iff_not, Int.not_lt] at h
    exact h
  have hnd : d.Nodup := (hdp.nodup_iff).2 (List.nodup_finRange _)
  have hS : Sizes w w' := fun b' c1 t1 h1 => by
   by_cases e : b' = b
   ·subst e; rw [hb] at h1; cases h1; exact ⟨cs', hb', hsz'⟩
   ·exact ⟨c1, by rw [hnear.other b' (Array.getElem?_eq_some_iff.1 h1).1 e]; exact h1, rfl⟩
  have hk1 := Y.pos
  have turn := St.permute (m := m) (w' := w') (ys := flat Y.own ys) (π := fun q => (d[q / Y.k]?).map fun i => i.val * Y.k + q % Y.k) hs hσ hL hbn hm hb' (fun b' h1 h3 => hnear.other b' h1 h3) hS hnear.size ⟨hnear.os, fun _ => hnear.drawn⟩ hnear.tape hnear.output
   (fun p q e _ _ h1 h3 => by
    simp only [Option.map_eq_some_iff] at h1 h3
    obtain ⟨i, hi, h1⟩ := h1
    obtain ⟨j, hj, h3⟩ := h3
    have e1 := div_of (i := i.val) (Nat.mod_lt p hk1)
    have e2 := div_of (i := j.val) (Nat.mod_lt q hk1)
    rw [h1] at e1; rw [h3] at e2
    have e3 : i = j := Fin.ext (e1.1.symm.trans e2.1)
    subst e3
    have e4 : p / Y.k = q / Y.k := by
     have h5 := (List.getElem?_eq_some_iff.1 hi)
     have h6 := (List.getElem?_eq_some_iff.1 hj)
     exact (List.getElem_inj hnd).1 (h5.2.trans h6.2.symm)
    have e5 : p % Y.k = q % Y.k := e1.2.symm.trans e2.2
    rw [← Nat.div_add_mod' p Y.k, ← Nat.div_add_mod' q Y.k, e4, e5]) fun q y hq => by
   obtain ⟨z, hz, hy⟩ := flat_at hk1 ys (fun y _ => Y.lenO y) q y hq
   rw [← hys, List.getElem?_map] at hz
   simp only [Option.map_eq_some_iff] at hz
   obtain ⟨i, hi, rfl⟩ := hz
   have hjk := Nat.mod_lt q hk1
   have h1 := flat_at' Y.lenO (List.getElem?_eq_getElem (show i.val < xs.length from hMl ▸ i.isLt)) hy
   obtain ⟨c, h3, h4⟩ := row_cell hs hσ hL hb h1
   refine ⟨c, ?_, _, by simp only [hi, Option.map_some], h1, h4⟩
   have := hcells _ i hi (q % Y.k) c (by rw [rawEl_get hjk]; exact h3)
   rwa [Nat.div_add_mod'] at this
  have hF : ∀ b', F b' → F b' ∧ w'.heap[b']? = w.heap[b']? := fun b' h => ⟨h, hnear.other b' (hs.old b' h) fun e => hs.notOwn h (e ▸ ⟨[l], _, o', hrow, hL⟩)⟩
  have hf1 : FrOK F (permL Λ l (fun q => (d[q / Y.k]?).map fun i => i.val * Y.k + q % Y.k)) w' tmps E := fun t => ((hf0 t).relabel (nst l) permL_ok (nmE_lk hE t)).mono hF hS
  obtain ⟨tmps', e, hn2, hf2⟩ := hf1.putO (ds := []) hn hd (v := .tuple #[]) (r := .v (.tuple #[])) (.imm (.v _))
  show K (Act.put ⟨tmps, []⟩ o.dst _) w'
  rw [e]
  exact hk0 F _ _ _ tmps' _ hn2 turn.1 hf2 turn.2 (hN hlen)
end
end Go.Sep
set_option linter.unusedVariables false
set_option linter.unusedSimpArgs false
namespace Go.Sep
open Go
structure Rw (α : Type) where
  val : α
  vals : List Value
def oneV (v : Value) : Value := if sc v then v else .bool false
theorem sc_oneV (v : Value) : sc (oneV v) = true := by unfold oneV; split <;> first | assumption | rfl
def rawC : List A → List Value → List A
 | [], _ => []
 | a :: us, vs => .raw (oneV (vs.headD undef)) a :: rawC us vs.tail
theorem rawC_len : ∀ (us : List A) (vs : List Value), (rawC us vs).length = us.length
 | [], _ => rfl
 | a :: us, vs => by simp [rawC, rawC_len us]
theorem rawC_get : ∀ (us : List A) (vs : List Value) (j : Nat), (rawC us vs)[j]? = (us[j]?).map fun a => .raw (oneV (vs.getD j undef)) a
 | [], _, j => by simp [rawC]
 | a :: us, vs, 0 => by cases vs <;> simp [rawC]
 | a :: us, vs, j + 1 => by cases vs <;> simp [rawC, rawC_get us]
theorem rawC_cell (us : List A) (vs : List Value) : cellAllB (rawC us vs) = true := by
 induction us generalizing vs with
 | nil => rfl
 | cons a us ih =>
  have := ih vs.tail
  simp only [cellAllB, rawC, List.all_cons, Bool.and_eq_true, A.inCell] at this ⊢
  exact ⟨sc_oneV _, this⟩
section
variable {α : Type}
def Ty.raw (T : Ty α) (x : Rw α) : List A := rawC (T.enc x.val) x.vals
theorem Ty.lenR (T : Ty α) (x : Rw α) : (T.raw x).length = T.k := by rw [Ty.raw, rawC_len, T.len]
def argR (agg : Bool) (T : Ty α) (x : Rw α) : A := argA agg (T.raw x)
theorem raw_imm {F : Nat → Prop} {w : World} {v u : Value} {a : A} (h : Imm F w v (.raw u a)) : v = u ∧ Imm F w v a := by
 cases h with | raw h => exact ⟨rfl, h⟩
theorem ok_raw {F : Nat → Prop} {Λ : Lbl} {w : World} {v u : Value} {a : A} (h : OK F Λ w v (.raw u a)) : v = u ∧ Imm F w v a := by
 cases h with | imm h => exact raw_imm h
theorem ok_argR {F : Nat → Prop} {Λ : Lbl} {w : World} {agg : Bool} {T : Ty α} (hk : agg = false → T.k = 1) {x : Rw α} {v : Value} (h : OK F Λ w v (argR agg T x)) : OK F Λ w v (argA agg (T.enc x.val)) := by
 cases agg with
 | true =>
  simp only [argR, argA, if_true] at h ⊢
  obtain ⟨vs, rfl, h1, h2⟩ := h.g_inv
  refine .g vs _ (by rw [h1, T.lenR, T.len]) fun j a y ha hy => ?_
  have h3 : (T.raw x)[j]? = some (.raw (oneV (x.vals.getD j undef)) a) := by rw [Ty.raw, rawC_get, ha]; rfl
  exact .imm (ok_raw (h2 j _ y h3 hy)).2
 | false =>
  have hl := T.len x.val
  rw [hk rfl] at hl
  simp only [argR, argA, Bool.false_eq_true, if_false, Ty.raw] at h ⊢
  match hx : T.enc x.val, hl with
  | [a], _ => rw [hx] at h; exact .imm (ok_raw h).2
theorem FnV.unraw {P : Program} {g : Nat} {agg : Bool} {T : Ty α} (hk : agg = false → T.k = 1) {x y : Rw α} {cs : List A} {r : A} (h : FnV P g ([argA agg (T.enc x.val), argA agg (T.enc y.val)] ++ cs) r) : FnV P g ([argR agg T x, argR agg T y] ++ cs) r := fun F Λ w vs R hs ha hr => by
 refine h F Λ w vs R hs ⟨ha.1, fun j a v hj hv => ?_⟩ hr
 match j, hj with
 | 0, hj => simp only [List.cons_append, List.nil_append, List.getElem?_cons_zero, Option.some.injEq] at hj; subst hj; exact ok_argR hk (ha.2 0 _ v rfl hv)
 | 1, hj => simp only [List.cons_append, List.nil_append, List.getElem?_cons_succ, List.getElem?_cons_zero, Option.some.injEq] at hj; subst hj; exact ok_argR hk (ha.2 1 _ v rfl hv)
 | j + 2, hj => exact ha.2 (j + 2) a v (by simpa using hj) hv
end
section
variable {α β : Type}
def compG (e : α → α → Bool) : α → List α → List α
 | _, [] => []
 | p, y :: ys => if e y p then compG e y ys else y :: compG e y ys
def compF (e : α → α → Bool) : List α → List α
 | [] => []
 | x :: xs => x :: compG e x xs
theorem compG_snoc (e : α → α → Bool) : ∀ (p : α) (xs : List α) (y : α), compG e p (xs ++ [y]) = compG e p xs ++ if e y ((p :: xs).getLast (by simp)) then [] else [y]
 | p, [], y => by by_cases h : e y p = true <;> simp [compG, h]
 | p, x :: xs, y => by
  have h := compG_snoc e x xs y
  have e2 : (p :: x :: xs).getLast (by simp) = (x :: xs).getLast (by simp) := List.getLast_cons (by simp)
  rw [e2]
  simp only [List.cons_append, compG, h]
  split <;> simp
theorem compF_take {e : α → α → Bool} {xs : List α} {m : Nat} {x y : α} (h0 : 0 < m) (hx : xs[m - 1]? = some x) (hy : xs[m]? = some y) : compF e (xs.take (m + 1)) = compF e (xs.take m) ++ if e y x then [] else [y] := by
 have hm := (List.getElem?_eq_some_iff.1 hy).1
 rw [List.take_add_one, hy]
 cases xs with
 | nil => simp at hm
 | cons z zs =>
  obtain ⟨m, rfl⟩ : ∃ q, m = q + 1 := ⟨m - 1, by omega⟩
  simp only [List.take_succ_cons, Option.toList_some, List.cons_append, compF, compG_snoc, List.cons_append]
  congr 3
  have : (z :: zs.take m).getLast (by simp) = x := by
   rw [List.getLast_eq_getElem]
   have hl : (z :: zs.take m).length - 1 = m := by simp only [List.length_cons, List.length_take] at hm ⊢; omega
   have h3 : (z :: zs.take m)[m]? = some x := by
    rw [← List.take_succ_cons, List.getElem?_take_of_lt (by omega)]
    simpa using hx
   exact (List.getElem?_eq_some_iff.1 (by rw [hl]; exact h3)).2
  rw [this]
theorem compG_map (f : β → α) (e : α → α → Bool) : ∀ (p : β) (xs : List β), (compG (fun x y => e (f x) (f y)) p xs).map f = compG e (f p) (xs.map f)
 | p, [] => rfl
 | p, x :: xs => by
  simp only [compG, List.map_cons]
  split <;> simp [compG_map f e x xs]
theorem compF_map (f : β → α) (e : α → α → Bool) (xs : List β) : (compF (fun x y => e (f x) (f y)) xs).map f = compF e (xs.map f) := by
 cases xs with
 | nil => rfl
 | cons x xs => simp only [compF, List.map_cons, compG_map f e]
theorem compG_sub (e : α → α → Bool) : ∀ (p : α) (xs : List α), (compG e p xs).Sublist xs
 | p, [] => .slnil
 | p, x :: xs => by
  simp only [compG]
  split
  ·exact (compG_sub e x xs).cons _
  ·exact (compG_sub e x xs).cons_cons _
theorem compF_sub (e : α → α → Bool) (xs : List α) : (compF e xs).Sublist xs := by
 cases xs with
 | nil => exact .slnil
 | cons x xs => exact (compG_sub e x xs).cons_cons _
theorem sub_at {xs ys : List α} (h : ys.Sublist xs) : ∃ f : Nat → Nat, (∀ i j, i < j → j < ys.length → f i < f j) ∧ ∀ i, i < ys.length → xs[f i]? = ys[i]? := by
 induction h with
 | slnil => exact ⟨id, fun _ _ h _ => h, fun _ h => by simp at h⟩
 | @cons l1 l2 a h ih =>
  obtain ⟨f, h1, h2⟩ := ih
  exact ⟨fun i => f i + 1, fun i j h3 h4 => Nat.succ_lt_succ (h1 i j h3 h4), fun i h3 => by simpa using h2 i h3⟩
 | @cons_cons l1 l2 a h ih =>
  obtain ⟨f, h1, h2⟩ := ih
  refine ⟨fun i => match i with | 0 => 0 | i + 1 => f i + 1, fun i j h3 h4 => ?_, fun i h3 => ?_⟩
  ·match i, j, h3, h4 with
   | 0, j + 1, _, _ => exact Nat.succ_pos _
   | i + 1, j + 1, h3, h4 => exact Nat.succ_lt_succ (h1 i j (by omega) (by simpa using h4))
  ·match i, h3 with
   | 0, _ => rfl
   | i + 1, h3 => simpa using h2 i (by simpa using h3)
def compM (e : α → α → Option Bool) (xs : List α) : Option (List α) := if (xs.all fun x => xs.all fun y => (e x y).isSome) = true ∧ xs.length < 4611686018427387904 then some (compF (fun x y => (e x y).getD false) xs) else none
theorem compM_inv {e : α → α → Option Bool} {xs ys : List α} (h : compM e xs = some ys) : (∀ x ∈ xs, ∀ y ∈ xs, ∃ b, e x y = some b) ∧ xs.length < 4611686018427387904 ∧ ys = compF (fun x y => (e x y).getD false) xs := by
 unfold compM at h
 split at h
 ·rename_i h1
  refine ⟨fun x hx y hy => ?_, h1.2, by simpa using h.symm⟩
  have := List.all_eq_true.1 (List.all_eq_true.1 h1.1 x hx) y hy
  exact Option.isSome_iff_exists.1 this
 ·cases h
theorem compM_eq {e : α → α → Option Bool} {e' : α → α → Bool} {xs : List α} (h : ∀ x ∈ xs, ∀ y ∈ xs, e x y = some (e' x y)) (hl : xs.length < 4611686018427387904) : compM e xs = some (compF e' xs) := by
 have key : ∀ (p : α) (l : List α), p ∈ xs → (∀ y ∈ l, y ∈ xs) → compG (fun x y => (e x y).getD false) p l = compG e' p l := fun p l => by
  induction l generalizing p with
  | nil => intro _ _; rfl
  | cons y l ih =>
   intro hp hl
   have hy := hl y (List.mem_cons_self ..)
   simp only [compG, h y hy p hp, Option.getD_some, ih y hy fun z hz => hl z (List.mem_cons_of_mem _ hz)]
 unfold compM
 rw [if_pos ⟨List.all_eq_true.2 fun x hx => List.all_eq_true.2 fun y hy => by rw [h x hx y hy]; rfl, hl⟩]
 cases xs with
 | nil => rfl
 | cons x xs => simp only [compF, key x xs (List.mem_cons_self ..) fun y hy => List.mem_cons_of_mem _ hy]
structure CompI (e : α → α → Bool) (xs : List α) (m k : Nat) (ds : List α) : Prop where
  size : ds.length = xs.length
  lt : k < m
  le : m ≤ xs.length
  low : ds.take k = compF e (xs.take m)
  high : ∀ j, k ≤ j → ds[j]? = xs[j]?
theorem CompI.start {e : α → α → Bool} {xs : List α} {m : Nat} {x y : α} (h : compF e (xs.take m) = xs.take m) (h0 : 0 < m) (hx : xs[m - 1]? = some x) (hy : xs[m]? = some y) (he : e y x = true) : CompI e xs (m + 1) m xs :=
 ⟨rfl, Nat.lt_succ_self _, (List.getElem?_eq_some_iff.1 hy).1, by rw [compF_take h0 hx hy, he, h]; simp, fun _ _ => rfl⟩
theorem CompI.keep {e : α → α → Bool} {xs ds : List α} {m k : Nat} {x y : α} (h : CompI e xs m k ds) (hx : xs[m - 1]? = some x) (hy : xs[m]? = some y) (he : e y x = false) : CompI e xs (m + 1) (k + 1) (ds.set k y) := by
 have hlt := h.lt
 have hm := (List.getElem?_eq_some_iff.1 hy).1
 have hsz := h.size
 refine ⟨by simp [hsz], by omega, hm, ?_, fun j hj => ?_⟩
 ·rw [compF_take (by omega) hx hy, he, ← h.low, List.take_add_one, List.getElem?_set_self (by omega), List.take_set_of_le (Nat.le_refl k)]
  rfl
 ·rw [List.getElem?_set_ne (by omega), h.high j (by omega)]
theorem CompI.skip {e : α → α → Bool} {xs ds : List α} {m k : Nat} {x y : α} (h : CompI e xs m k ds) (hx : xs[m - 1]? = some x) (hy : xs[m]? = some y) (he : e y x = true) : CompI e xs (m + 1) k ds := by
 have hlt := h.lt
 exact ⟨h.size, by omega, (List.getElem?_eq_some_iff.1 hy).1, by rw [compF_take (by omega) hx hy, he, h.low]; simp, h.high⟩
theorem CompI.done {e : α → α → Bool} {xs ds : List α} {m k : Nat} (h : CompI e xs m k ds) (hm : m = xs.length) : ds.take k = compF e xs := by rw [h.low, hm, List.take_length]
theorem compF_one {e : α → α → Bool} {xs : List α} (h : xs.length ≤ 1) : compF e xs = xs := by
 match xs, h with
 | [], _ => rfl
 | [x], _ => rfl
end
section
variable {P : Program} {n m : Nat} {N : Env → Store → Prop} {E : Env} {σ : Store} {o : Oper}
theorem TOp_clear {t e k l i q : Nat} {zs : List Value} {xs : List A} {x : Operand} (hT : SlT P t e k) (hz : ZeroT P e zs) (hzk : zs.length = k) (h : o.op = .call { callee := .builtin .clear, args := #[x], argTypes := #[t] }) (hdst : o.dst = none)
  (hx : val E x = .m [l] i q k) (hq : 0 < q) (hr : σ[l]? = some (.row xs)) (hp : ∀ y ∈ xs, y.plain = true) (hN : N E (σ.set l (.row (xs.take i)))) : TOp P n m o N E σ := fun F Λ w tmps K Qx hn hs hf hk => by
 obtain ⟨⟨inf, z, z1, z2, z3⟩, z4⟩ := hz
 have hk1 : inf.size = k := by obtain ⟨i2, g1, g2⟩ := hT.i; rw [z1] at g1; cases g1; exact g2
 have hk0 := hT.pos
 have h1 := val_ok (ds := []) hf x
 rw [hx] at h1
 rcases h1.m_inv with ⟨h0, _⟩ | ⟨b, o', cap, hL, g2, hN', hcap, cs, te, g5, g6⟩
 ·omega
 have hrow : rowAt σ [l] = some xs := by simp only [rowAt, hr, Root.cells, sub]
 have hO : ¬ F b := fun hb => hs.notOwn hb ⟨[l], _, o', hrow, hL⟩
 have hzc : z.cells.size = k := by rw [← hzk, ← z3]; simp
 have hzl : (Builtin.zeroCells z.cells q).toList.length = q * k := by rw [Array.length_toList, size_zeroCells, hzc]
 have hzone : ∀ u ∈ (Builtin.zeroCells z.cells q).toList, u.oneCell' = true := fun u hu => by
  simp only [Builtin.zeroCells, Array.toList_map, List.mem_map] at hu
  obtain ⟨j, _, rfl⟩ := hu
  have hj : j % z.cells.size < z.cells.size := Nat.mod_lt _ (by omega)
  refine oneCell_sc (z4 _ ?_)
  rw [← z3, getElem!_pos z.cells _ hj]
  simp
 have hqk := Nat.mul_le_mul_right k hN'
 have hfit : o' + i + (Builtin.zeroCells z.cells q).toList.length ≤ cs.size := by rw [hzl]; omega
 have hrun := run_clearX (P := P) (o := o) (w := w) (tmps := tmps) hT.u z1 z2 h g2 hq hzone g5 hfit
 obtain ⟨cs', hcs'⟩ : ∃ cs', cs' = (cs.toList.take (o' + i) ++ (Builtin.zeroCells z.cells q).toList ++ cs.toList.drop (o' + i + (Builtin.zeroCells z.cells q).toList.length)).toArray := ⟨_, rfl⟩
 rw [← hcs'] at hrun
 have hsz : cs'.size = cs.size := by
  rw [hcs']
  simp only [List.size_toArray, List.length_append, List.length_take, List.length_drop, Array.length_toList] at hfit ⊢
  omega
 have hb2 := setRow_heap w b cs cs' te (0, 0) g5
 have hturn := St.turn (m := m) (w' := w.setRow b cs') (ys := xs.take i) hs hr (fun y hy => hp y (List.mem_of_mem_take hy)) hL g5 hb2 hsz (fun b' hb' => setRow_other _ b b' _ hb') (by simp [World.setRow]) (OsLe.refl _) rfl rfl fun j y hy => by
  have hj : j < i := by have := (List.getElem?_eq_some_iff.1 hy).1; simp only [List.length_take] at this; omega
  rw [List.getElem?_take_of_lt hj] at hy
  obtain ⟨c, k1, k2⟩ := hs.cellAt hrow hL hy
  rw [show isBox σ [l] = false by simp only [isBox, hr]] at k2
  refine ⟨c, ?_, k2⟩
  rw [hcs', List.getElem?_toArray, List.append_assoc, List.getElem?_append_left (by simp only [List.length_take, Array.length_toList]; omega), List.getElem?_take_of_lt (by omega), Array.getElem?_toList]
  simpa [World.cell?, g5] using k1
 unfold Oper.wp
 rw [hrun, Oper.upon_value]
 have e : (Act.put ⟨tmps, []⟩ o.dst (.tuple #[])) = ⟨tmps, []⟩ := by rw [hdst]; rfl
 rw [e]
 exact hk F Λ _ _ tmps E hn hturn.1 (hf.mono (hturn.2.frozen hs) hturn.2.sizes) hturn.2 hN
end
end Go.Sep
set_option linter.unusedVariables false
set_option linter.unusedSimpArgs false
namespace Go.Sep
open Go
section
variable {α : Type} {P : Program} {f g : Nat} {agg : Bool} {Y : Ty α} {xs ys : List α} {cmp : α → α → Option Bool}
def rawsOf (cs : Array Value) (o' k : Nat) (xs : List α) : List (Rw α) := xs.mapIdx fun i x => ⟨x, rawEl cs o' k i⟩
theorem rawsOf_get {cs : Array Value} {o' k : Nat} {i : Nat} : (rawsOf cs o' k xs)[i]? = (xs[i]?).map fun x => ⟨x, rawEl cs o' k i⟩ := by simp [rawsOf]
theorem rawsOf_len {cs : Array Value} {o' k : Nat} : (rawsOf cs o' k xs).length = xs.length := by simp [rawsOf]
theorem rawsOf_map {cs : Array Value} {o' k : Nat} : (rawsOf cs o' k xs).map Rw.val = xs := by
 apply List.ext_getElem?
 intro i
 rw [List.getElem?_map, rawsOf_get]
 cases xs[i]? <;> rfl
theorem oneV_id {v : Value} (h : v.oneCell' = true) : oneV v = v := by
 have : sc v = true := by cases v <;> simp_all [sc, Value.oneCell']
 unfold oneV; rw [if_pos this]
theorem raw_plain {T : Ty α} {rs : List (Rw α)} : ∀ y ∈ flat T.raw rs, y.plain = true := fun y hy => by
 have h : cellAllB (flat T.raw rs) = true := flat_all (f := T.raw) (p := fun l => cellAllB l = true) rfl (fun _ _ => cellAllB_app) (fun x => rawC_cell _ _) rs
 exact inCell_plain (cellAll h y hy)
theorem ok_f0 {g : Nat} (F : Nat → Prop) (Λ : Lbl) (w : World) (v : Value) (h : OK F Λ w v (.f g [])) : v = .func (.func g) #[] #[] := by
 obtain ⟨us, h1, h2, _⟩ := h.f_inv
 rw [h1, List.eq_nil_of_length_eq_zero h2]
theorem pur_ixC {α : Type} {P : Program} {E : Env} {σ : Store} {o : Oper} {T : Ty α} {t e l a k0 q : Nat} {xo yo : Operand} {K : IntKind} {z : Int} {i : Nat} (hT : SlT P t e T.k) (hx : val E xo = .m [l] a q T.k) (ha : a = k0 * T.k) (hy : val E yo = .v (.int K z)) (hz : (k0 : Int) + z = (i : Int)) (h0 : 0 ≤ z) (h1 : z < (q : Int)) (h : o.op = .indexAddr t xo yo) : Pur P o E σ (.e [l] (i * T.k)) := by
 subst ha
 have := pur_ix_m (σ := σ) hT hx hy h0 h1 h
 rw [← Nat.add_mul, show k0 + z.toNat = i by omega] at this
 exact this
theorem FnS.ofRaw0 (hone : ∀ (p : Option Addr) (cap : Nat) (fv : Value) (w : World), Calls P f #[.slice p 0 cap, fv] w fun e w' => e = .returned (.slice p 0 cap) ∧ w' = w) {a : A} :
    FnS P f [.m [0] 0 0 Y.k, a] [.row []] (.m [1] 0 0 Y.k) [.dead, .row []] := fun F Λ w vs R hs ha hr => by
  obtain ⟨u, v, rfl⟩ : ∃ u v, vs = [u, v] := by
    match vs, ha.1 with
    | [u, v], _ => exact ⟨u, v, rfl⟩
  have hu : Sl Λ w [0] 0 0 Y.k u := OK.m_inv (ha.2 0 _ u rfl rfl)
  obtain ⟨p, cap, rfl⟩ : ∃ p c, u = .slice p 0 c := by
    rcases hu with ⟨_, ad, rfl⟩ | ⟨b, o', cap, _, h2, _⟩
    · exact ⟨_, _, rfl⟩
    · exact ⟨_, _, h2⟩
  refine (hone p cap v w).mono fun e w' ⟨h1, h2⟩ => ?_
  subst h1 h2
  have rows : ∀ L xs', rowAt [Root.dead, .row []] L = some xs' → L = [1] ∧ xs' = [] := fun L xs' h => by
    match L, h with
    | [1], h => simp [rowAt, Root.cells, sub] at h; exact ⟨rfl, h⟩
    | 1 :: a :: q, h => simp [rowAt, Root.cells, sub] at h
    | 0 :: q, h => simp [rowAt, Root.cells] at h
    | (k + 2) :: q, h => simp [rowAt] at h
  cases hL : Λ [0] with
  | none =>
    have hn : Λ [1] = none := hs.lab [1] (by simp)
    refine hr F Λ [.dead, .row []] w' (.slice p 0 cap) _ ⟨fun L xs' h => ?_, fun L x1 L' x2 b o o' h1 h2 h3 h4 => ?_, hs.old, hs.tab, fun L hL' => hs.lab L (by simp only [List.length_cons, List.length_nil] at hL' ⊢; omega)⟩ ?_ (.m ?_) ⟨rfl, rfl⟩
    · obtain ⟨rfl, rfl⟩ := rows L xs' h
      exact .inl ⟨hn, rfl⟩
    · obtain ⟨rfl, rfl⟩ := rows L x1 h1
      rw [hn] at h3; cases h3
    · exact { os := OsLe.refl _, tape := rfl, output := rfl, size := Nat.le_refl _, sizes := Sizes.refl _, keep := fun _ _ _ => rfl, mono := fun _ h => h, new := fun _ h => .inl h
              own := fun b ⟨L, zs, o, h1, h2⟩ => by obtain ⟨rfl, rfl⟩ := rows L zs h1; rw [hn] at h2; cases h2
              len := by simp, boxes := fun l us hl hx => by
                have : l = 0 := by simp at hl; exact hl
                subst this; simp at hx
              kept := fun _ _ _ _ h => h }
    · rcases hu with ⟨h0, ad, h1⟩ | ⟨b, o', cap', h1, _⟩
      · exact .inl ⟨rfl, ad, h1⟩
      · rw [hL] at h1; cases h1
  | some bo =>
    obtain ⟨b, o'⟩ := bo
    obtain hrow | ⟨b2, o2, cs, t, g1, g2, g3, _⟩ := hs.row [0] [] (by simp [rowAt, Root.cells, sub])
    · rw [hL] at hrow; cases hrow.1
    rw [hL] at g1; cases g1
    have turn := St.regroup (m := 1) (ys := []) (π := fun _ => none) hs (b2 := b) (o2 := o') (by rfl) hL (.inl rfl) g3 (fun _ _ _ => rfl) (Sizes.refl _) (Nat.le_refl _) (OsLe.refl _) rfl rfl (fun _ _ _ h _ _ _ => by simp at h) fun d y h => by simp at h
    refine hr F _ _ w' (.slice p 0 cap) _ turn.1 turn.2 (.m ?_) ⟨rfl, rfl⟩
    rcases hu with ⟨_, ad, h1⟩ | ⟨b', o2, cap', h1, h2, h3, h4, cs', t', h5, h6⟩
    · exact .inl ⟨rfl, ad, h1⟩
    · rw [hL] at h1; cases h1
      exact .inr ⟨b, o', cap', by simp [regL], h2, h3, h4, cs', t', h5, h6⟩
theorem FnS.ofRaw (hk : agg = false → Y.k = 1)
  (hraw : ∀ (rs : List (Rw α)) (e : Rw α → Rw α → Bool), 0 < rs.length → rs.length < 4611686018427387904 → (∀ x ∈ rs, ∀ y ∈ rs, FnV P g [argR agg Y x, argR agg Y y] (boolA (e x y))) → FnS P f [.m [0] 0 rs.length Y.k, .f g []] [.row (flat Y.raw rs)] (.m [1] 0 (compF e rs).length Y.k) [.dead, .row (flat Y.raw (compF e rs))])
  (hone : ∀ (p : Option Addr) (cap : Nat) (fv : Value) (w : World), Calls P f #[.slice p 0 cap, fv] w fun e w' => e = .returned (.slice p 0 cap) ∧ w' = w)
  (hcmp : ∀ x y r, cmp x y = some r → FnV P g [argA agg (Y.enc x), argA agg (Y.enc y)] (boolA r)) (hM : compM cmp xs = some ys) :
  FnS P f [.m [0] 0 xs.length Y.k, .f g []] [.row (flat Y.own xs)] (.m [1] 0 ys.length Y.k) [.dead, .row (flat Y.own ys)] := by
 obtain ⟨htot, h62, hys⟩ := compM_inv hM
 by_cases hn0 : xs.length = 0
 ·obtain rfl := List.eq_nil_of_length_eq_zero hn0
  subst hys
  exact FnS.ofRaw0 hone
 intro F Λ w vs R hs ha hr
 obtain ⟨u, v, rfl⟩ : ∃ u v, vs = [u, v] := by
  match vs, ha.1 with
  | [u, v], _ => exact ⟨u, v, rfl⟩
 have hu : Sl Λ w [0] 0 xs.length Y.k u := OK.m_inv (ha.2 0 _ u rfl rfl)
 have hv : v = .func (.func g) #[] #[] := by
  obtain ⟨us, h1, h2, _⟩ := OK.f_inv (ha.2 1 _ v rfl rfl)
  rw [h1, List.eq_nil_of_length_eq_zero h2]
 have hσ : [Root.row (flat Y.own xs)][0]? = some (.row (flat Y.own xs)) := rfl
 have hrow : rowAt [Root.row (flat Y.own xs)] [0] = some (flat Y.own xs) := rfl
 obtain ⟨b, o', cap, hL, h2, hle, hmx, cs, t, hb, hsz⟩ : ∃ b o' cap, Λ [0] = some (b, o') ∧ u = .slice (some ⟨b, o', none⟩) xs.length cap ∧ xs.length ≤ cap ∧ cap ≤ maxLen ∧ ∃ cs t, w.heap[b]? = some (.cells cs t (0, 0)) ∧ o' + cap * Y.k ≤ cs.size := by
  rcases hu with ⟨h, _⟩ | ⟨b, o', cap, h1, h2, h3, h4, cs, t, h5, h6⟩
  ·exact absurd h hn0
  ·exact ⟨b, o', cap, h1, h2, h3, h4, cs, t, h5, by omega⟩
 have hszn : o' + xs.length * Y.k ≤ cs.size := by have := Nat.mul_le_mul_right Y.k hle; omega
 have hk1 := Y.pos
 -- what lies in the cells
 have hcell : ∀ (i j : Nat) x y, xs[i]? = some x → (Y.own x)[j]? = some y → ∃ c, cs[o' + (i * Y.k + j)]? = some c ∧ (rawEl cs o' Y.k i)[j]? = some c ∧ oneV c = c ∧ sc c = true ∧ Cell F Λ w false [0, i * Y.k + j] c y := fun i j x y hx hy => by
  have hi := (List.getElem?_eq_some_iff.1 hx).1
  have hj : j < Y.k := by have := (List.getElem?_eq_some_iff.1 hy).1; rwa [Y.lenO] at this
  obtain ⟨c, h3, h4⟩ := row_cell hs hσ hL hb (flat_at' Y.lenO hx hy)
  have h5 := h4.oneO (ownRL_mem (Y.ownR _) _ (List.mem_of_getElem? hy))
  have h6 := oneV_id h5
  exact ⟨c, h3, by rw [rawEl_get hj]; exact h3, h6, by rw [← h6]; exact sc_oneV _, h4⟩
 let F0 : Nat → Prop := fun b' => FO F Λ [.row (flat Y.own xs)] b' ∧ b' ≠ b
 let Λ0 : Lbl := fun L => if L = [0] then some (b, o') else none
 let rs := rawsOf cs o' Y.k xs
 have hrl : rs.length = xs.length := rawsOf_len
 have hF0 : ∀ b', F b' → F0 b' ∧ w.heap[b']? = w.heap[b']? := fun b' h => ⟨⟨.inl h, fun e => hs.notOwn h (e ▸ ⟨[0], _, o', hrow, hL⟩)⟩, rfl⟩
 have row0 : ∀ (zs : List (Rw α)) L us, rowAt [Root.row (flat Y.raw zs)] L = some us → L = [0] ∧ us = flat Y.raw zs := fun zs L us h => by
  match L, h with
  | [], h => cases h
  | 0 :: q, h =>
   simp only [rowAt, List.getElem?_cons_zero, Root.cells] at h
   obtain ⟨rfl, rfl⟩ := sub_plain raw_plain h
   exact ⟨rfl, rfl⟩
  | (j + 1) :: q, h => simp [rowAt] at h
 have hs0 : St F0 Λ0 [.row (flat Y.raw rs)] w := by
  refine ⟨fun L us h => ?_, fun L x1 L' x2 b1 o1 o2 h1 h2 h3 h4 => (row0 _ _ _ h1).1.trans (row0 _ _ _ h2).1.symm, fun b' h => ?_, hs.tab.mono hF0, fun L hL' => ?_⟩
  ·obtain ⟨rfl, rfl⟩ := row0 _ _ _ h
   refine .inr ⟨b, o', cs, t, if_pos rfl, fun h => h.2 rfl, hb, fun d y hy => ?_⟩
   obtain ⟨ρ, hρ, hy⟩ := flat_at hk1 rs (fun y _ => Y.lenR y) d y hy
   have hjk := Nat.mod_lt d hk1
   have hρ' := hρ
   rw [show rs = rawsOf cs o' Y.k xs from rfl, rawsOf_get] at hρ
   simp only [Option.map_eq_some_iff] at hρ
   obtain ⟨x, hx, rfl⟩ := hρ
   rw [Ty.raw, rawC_get] at hy
   simp only [Option.map_eq_some_iff] at hy
   obtain ⟨a, ha', rfl⟩ := hy
   have hyo : (Y.own x)[d % Y.k]? = some ((Y.own x)[d % Y.k]'(by rw [Y.lenO]; exact hjk)) := List.getElem?_eq_getElem _
   obtain ⟨c, g1, g2, g3, g4, g5⟩ := hcell _ _ x _ hx hyo
   rw [Nat.div_add_mod'] at g1
   have e1 : (rawEl cs o' Y.k (d / Y.k)).getD (d % Y.k) undef = c := by rw [List.getD_eq_getElem?_getD, g2]; rfl
   refine ⟨c, g1, ?_⟩
   rw [show isBox [Root.row (flat Y.raw rs)] [0] = false from rfl]
   simp only [e1, g3]
   refine ⟨g4, .imm (.raw ?_)⟩
   have e2 : fz ((Y.own x)[d % Y.k]'(by rw [Y.lenO]; exact hjk)) = a := by
    rw [← Y.fzO, fzL_get, hyo] at ha'
    simpa using ha'
   rw [← e2]
   exact cell_immB hs hrow hL _ _ (Nat.lt_succ_self _) [0] (d / Y.k * Y.k + d % Y.k) false c (flat Y.own xs) (by simp) hrow (flat_at' Y.lenO hx hyo) (firmL_mem (Y.firmO _) _ (List.mem_of_getElem? hyo)) g5
  ·rcases h.1 with h1 | h1
   ·exact hs.old b' h1
   ·exact hs.owns h1
  ·show (if L = [0] then _ else _) = _
   rw [if_neg]
   rintro rfl
   simp at hL'
 let e : Rw α → Rw α → Bool := fun x y => (cmp x.val y.val).getD false
 have hmem : ∀ x ∈ rs, x.val ∈ xs := fun x hx => by
  rw [← rawsOf_map (xs := xs) (cs := cs) (o' := o') (k := Y.k)]
  exact List.mem_map_of_mem hx
 have hcall := hraw rs e (by omega) (by omega) fun x hx y hy => by
  obtain ⟨r, hr⟩ := htot _ (hmem x hx) _ (hmem y hy)
  have := FnV.unraw (T := Y) (x := x) (y := y) (cs := []) hk (hcmp _ _ r hr)
  simpa [e, hr] using this
 have hys2 : ys = (compF e rs).map Rw.val := by rw [compF_map Rw.val fun x y => (cmp x y).getD false, rawsOf_map, hys]
 have hylen : (compF e rs).length = ys.length := by rw [hys2, List.length_map]
 have hypos : 0 < (compF e rs).length := by
  cases hc : rs with
  | nil => rw [hc] at hrl; exact absurd hrl.symm hn0
  | cons a l => simp [compF]
 rw [hylen, hrl] at hcall
 refine hcall F0 Λ0 w [u, v] R hs0 ⟨rfl, fun j a y hj hy => ?_⟩ fun F1 Λ1 σ1 w' v' r hs1 hst hv' hq => ?_
 ·match j, hj, hy with
  | 0, hj, hy =>
   simp only [List.getElem?_cons_zero, Option.some.injEq] at hj hy
   subst hj hy
   exact .m (.inr ⟨b, o', cap, if_pos rfl, by rw [h2, Nat.add_zero], hle, hmx, cs, t, hb, by omega⟩)
  | 1, hj, hy =>
   simp only [List.getElem?_cons_succ, List.getElem?_cons_zero, Option.some.injEq] at hj hy
   subst hj hy
   rw [hv]
   exact .imm (.f g [] [] rfl (by simp))
  | j + 2, hj, _ => simp at hj
 obtain ⟨rfl, rfl⟩ := hq
 have hrow1 : rowAt [Root.dead, .row (flat Y.raw (compF e rs))] [1] = some (flat Y.raw (compF e rs)) := rfl
 obtain hnone | ⟨b2, o2, cs2, t2, g1, g2, g3, g4⟩ := hs1.row [1] _ hrow1
 ·have := congrArg List.length hnone.2
  rw [flat_len Y.lenR, List.length_nil] at this
  rcases Nat.mul_eq_zero.1 this with h | h <;> omega
 have own0 : ∀ b', Own Λ0 [.row (flat Y.raw rs)] b' → b' = b := fun b' ⟨L, us, o1, h1, h3⟩ => by
  obtain ⟨rfl, _⟩ := row0 _ _ _ h1
  have h3 : (if ([0] : List Nat) = [0] then some (b, o') else none) = some (b', o1) := h3
  rw [if_pos rfl] at h3
  simp only [Option.some.injEq, Prod.mk.injEq] at h3
  exact h3.1.symm
 have hb2 : b2 = b ∨ w.heap.size ≤ b2 := (hst.own b2 ⟨[1], _, o2, hrow1, g1⟩).imp (own0 b2) id
 obtain ⟨π, hmono, hπ⟩ := sub_at (compF_sub e rs)
 have hinj : ∀ i j, i < (compF e rs).length → j < (compF e rs).length → π i = π j → i = j := fun i j hi hj h => by
  rcases Nat.lt_trichotomy i j with h1 | h1 | h1
  ·have := hmono i j h1 hj; omega
  ·exact h1
  ·have := hmono j i h1 hi; omega
 have hfl : (flat Y.own ys).length = ys.length * Y.k := flat_len Y.lenO ys
 have turn := St.regroup (m := 1) (w' := w') (ys := flat Y.own ys) (π := fun d => some (π (d / Y.k) * Y.k + d % Y.k)) hs hσ hL hb2 g3 (fun b' h1 h3 => hst.keep b' h1 fun ho => h3 (own0 b' ho)) hst.sizes hst.size hst.os hst.tape hst.output
  (fun d d' q h1 h3 h4 h5 => by
   simp only [Option.some.injEq] at h4 h5
   have e1 := div_of (i := π (d / Y.k)) (Nat.mod_lt d hk1)
   have e2 := div_of (i := π (d' / Y.k)) (Nat.mod_lt d' hk1)
   rw [h4] at e1; rw [h5] at e2
   have h6 : d / Y.k < (compF e rs).length := Nat.div_lt_of_lt_mul (by rw [hylen, Nat.mul_comm, ← hfl]; exact h1)
   have h7 : d' / Y.k < (compF e rs).length := Nat.div_lt_of_lt_mul (by rw [hylen, Nat.mul_comm, ← hfl]; exact h3)
   have e3 := hinj _ _ h6 h7 (e1.1.symm.trans e2.1)
   have e4 : d % Y.k = d' % Y.k := e1.2.symm.trans e2.2
   rw [← Nat.div_add_mod' d Y.k, ← Nat.div_add_mod' d' Y.k, e3, e4]) fun d y hy => by
  obtain ⟨z, hz, hyz⟩ := flat_at hk1 ys (fun y _ => Y.lenO y) d y hy
  have hjk := Nat.mod_lt d hk1
  rw [hys2, List.getElem?_map] at hz
  simp only [Option.map_eq_some_iff] at hz
  obtain ⟨ρ, hρ, rfl⟩ := hz
  have hi := (List.getElem?_eq_some_iff.1 hρ).1
  have h3 := hπ _ hi
  rw [hρ, show rs = rawsOf cs o' Y.k xs from rfl, rawsOf_get] at h3
  simp only [Option.map_eq_some_iff] at h3
  obtain ⟨x, hx, hxρ⟩ := h3
  subst hxρ
  obtain ⟨c, k1, k2, k3, k4, k5⟩ := hcell _ _ x y hx hyz
  have e1 : (rawEl cs o' Y.k (π (d / Y.k))).getD (d % Y.k) undef = c := by rw [List.getD_eq_getElem?_getD, k2]; rfl
  have hae : (Y.enc x)[d % Y.k]? = some ((Y.enc x)[d % Y.k]'(by rw [Y.len]; exact hjk)) := List.getElem?_eq_getElem _
  have h5 : (Y.raw ⟨x, rawEl cs o' Y.k (π (d / Y.k))⟩)[d % Y.k]? = some (.raw c ((Y.enc x)[d % Y.k]'(by rw [Y.len]; exact hjk))) := by
   rw [Ty.raw, rawC_get, hae]
   simp only [Option.map_some, e1, k3]
  have h6 := flat_at' Y.lenR hρ h5
  rw [Nat.div_add_mod'] at h6
  obtain ⟨c2, g5, g6⟩ := g4 d _ h6
  have h7 := (ok_raw g6.2).1
  subst h7
  exact ⟨c2, g5, .inl ⟨_, rfl, flat_at' Y.lenO hx hyz, k5⟩⟩
 refine hr F _ _ w' v' _ turn.1 turn.2 (.m ?_) ⟨rfl, rfl⟩
 rcases hv'.m_inv with ⟨h0, _⟩ | ⟨b3, o3, cap3, k1, k2, k3, k4, cs3, t3, k5, k6⟩
 ·omega
 ·rw [g1] at k1; cases k1
  exact .inr ⟨b2, o2, cap3, by simp [regL], k2, k3, k4, cs3, t3, k5, k6⟩
end
end Go.Sep

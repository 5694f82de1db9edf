import Derived.Test.YtaadmoaanhdboaaDoorCRA
import Derived.WalkKit
import Derived.ProofKit
import Derived.OpenShut
import Derived.ShutString
import Derived.ChangeOld
import Derived.Below
import Derived.SizedLaws
import Derived.Laws.AppendOwn
import Derived.Laws.Small
set_option linter.unusedVariables false
set_option linter.unusedSimpArgs false
namespace Go.Sep
open Go
structure RdT (P : Program) (t k : Nat) {α : Type} (f : α → List A) (p : α → Prop) : Prop where
  size : P.cellsOf t = k
  rd : ∀ {H : Type} (enc : TypeId × Value → H) (w : World) (base : Nat) (spare : Nat → Bool) (held : Bool) (fuel : Nat) (cs : List Value) (x : DataW H × List MemPlace), DataW.trod enc P w base spare held fuel t cs = some x →
    ∃ y : α, p y ∧ cs.length = k ∧ (f y).length = k ∧ ∀ (j : Nat) c a, cs[j]? = some c → (f y)[j]? = some a → Imm (fun b => b < w.heap.size) w c a
theorem RdT.map {P : Program} {t k : Nat} {α β : Type} {f : α → List A} {p : α → Prop} {g : β → List A} {q : β → Prop} (h : RdT P t k f p) (φ : α → β) (hq : ∀ y, p y → q (φ y) ∧ f y = g (φ y)) : RdT P t k g q :=
 ⟨h.size, fun enc w base spare held fuel cs x hx => by
  obtain ⟨y, h1, h2, h3, h4⟩ := h.rd enc w base spare held fuel cs x hx
  obtain ⟨h5, h6⟩ := hq y h1
  exact ⟨φ y, h5, h2, by rw [← h6]; exact h3, by rw [← h6]; exact h4⟩⟩
theorem one_cell {F : Nat → Prop} {w : World} {v : Value} {a : A} (h : Imm F w v a) : ∀ (j : Nat) c b, [v][j]? = some c → [a][j]? = some b → Imm F w c b := fun j c b hc hb => by
 match j, hc, hb with
 | 0, hc, hb => simp at hc hb; subst hc; subst hb; exact h
 | j + 1, hc, _ => simp at hc
theorem rd_int {P : Program} {t : Nat} (ht : P.underlying t = some (.int .i64)) (hs : P.cellsOf t = 1) : RdT P t 1 (fun z => [intA z]) (fun z => -9223372036854775808 ≤ z ∧ z ≤ 9223372036854775807) :=
 ⟨hs, fun enc w base spare held fuel cs x hx => by
  obtain ⟨n, rfl, _, hw⟩ := DataW.trod_int ht hx
  refine ⟨n, ?_, rfl, rfl, one_cell (.v _)⟩
  have h1 : IntKind.i64.max = 9223372036854775807 := rfl
  have h2 : IntKind.i64.min = -9223372036854775808 := rfl
  simp only [Lit.wf, Bool.and_eq_true, decide_eq_true_eq] at hw
  omega⟩
def RdFs (P : Program) (fs : List Field) (o k : Nat) {α : Type} (f : α → List A) (p : α → Prop) : Prop :=
 ∀ {H : Type} (enc : TypeId × Value → H) (w : World) (base : Nat) (spare : Nat → Bool) (held : Bool) (n : Nat) (cs : List Value) (xs : List (DataW H × List MemPlace)), xs.length = fs.length → o + k ≤ cs.length →
  (∀ (i : Nat) (fl : Field), fs[i]? = some fl → DataW.trod enc P w base spare held n fl.type ((cs.drop fl.offset).take (P.cellsOf fl.type)) = xs[i]?) →
  ∃ y : α, p y ∧ (f y).length = k ∧ ∀ (j : Nat) c a, cs[o + j]? = some c → (f y)[j]? = some a → Imm (fun b => b < w.heap.size) w c a
theorem rf_one {P : Program} {o k : Nat} {fl : Field} {α : Type} {f : α → List A} {p : α → Prop} (ho : fl.offset = o) (h : RdT P fl.type k f p) : RdFs P [fl] o k f p :=
 fun enc w base spare held n cs xs hx hl ht => by
  have h0 := ht 0 fl rfl
  have hx0 : xs[0]? = some (xs[0]'(by simp at hx; omega)) := List.getElem?_eq_getElem _
  rw [hx0] at h0
  obtain ⟨y, hp, h1, h2, h3⟩ := h.rd enc w base spare held n _ _ h0
  refine ⟨y, hp, h2, fun j c a hc ha => h3 j c a ?_ ha⟩
  have hj : j < k := by have := (List.getElem?_eq_some_iff.1 ha).1; omega
  rw [h.size, List.getElem?_take_of_lt hj, List.getElem?_drop, ho]
  exact hc
theorem rf_cons {P : Program} {o k1 k2 : Nat} {fl : Field} {fs : List Field} {α β : Type} {f : α → List A} {p : α → Prop} {g : β → List A} {q : β → Prop} (ho : fl.offset = o) (h : RdT P fl.type k1 f p) (hs : RdFs P fs (o + k1) k2 g q) :
  RdFs P (fl :: fs) o (k1 + k2) (fun y : α × β => f y.1 ++ g y.2) (fun y => p y.1 ∧ q y.2) :=
 fun enc w base spare held n cs xs hx hl ht => by
  cases xs with
  | nil => simp at hx
  | cons x xs =>
   have h0 := ht 0 fl rfl
   obtain ⟨y, hp, h1, h2, h3⟩ := h.rd enc w base spare held n _ x h0
   obtain ⟨z, hq, h4, h5⟩ := hs enc w base spare held n cs xs (by simpa using hx) (by omega) fun i fl hi => by simpa using ht (i + 1) fl (by simpa using hi)
   refine ⟨(y, z), ⟨hp, hq⟩, by simp [h2, h4], fun j c a hc ha => ?_⟩
   by_cases hj : j < k1
   ·simp only [List.getElem?_append_left (show j < (f y).length by omega)] at ha
    refine h3 j c a ?_ ha
    rw [h.size, List.getElem?_take_of_lt hj, List.getElem?_drop, ho]
    exact hc
   ·simp only [List.getElem?_append_right (show (f y).length ≤ j by omega), h2] at ha
    exact h5 (j - k1) c a (by rw [show o + k1 + (j - k1) = o + j by omega]; exact hc) ha
theorem rd_struct {P : Program} {t k : Nat} {fs : List Field} {α : Type} {f : α → List A} {p : α → Prop} (ht : P.underlying t = some (.struct fs.toArray)) (hs : P.cellsOf t = k) (h : RdFs P fs 0 k f p) : RdT P t k f p :=
 ⟨hs, fun enc w base spare held fuel cs x hx => by
  obtain ⟨xs, n, _, _, hl, hxl, hf⟩ := DataW.trod_struct ht hx
  obtain ⟨y, h1, h2, h3⟩ := h enc w base spare held n cs xs (by simpa using hxl) (by omega) fun i fl hi => hf i fl (by simpa using hi)
  exact ⟨y, h1, by omega, h2, fun j c a hc ha => h3 j c a (by rw [Nat.zero_add]; exact hc) ha⟩⟩
section
variable {H : Type} {enc : TypeId × Value → H} {P : Program} {w : World} {base : Nat} {spare : Nat → Bool} {held : Bool} {t : Nat} {v : Value} {d : DataW H} {ps : List MemPlace}
theorem RdT.argK {α : Type} {f : α → List A} {p : α → Prop} {k : Nat} {cs : Array Value} (h : RdT P t k f p) (hd : DataW.Trod enc P w base spare held t (.agg cs) d ps) : ∃ y, p y ∧ Imm (fun b => b < w.heap.size) w (.agg cs) (.g (f y)) := by
 obtain ⟨fuel, hf⟩ := hd
 obtain ⟨y, hp, h1, h2, h3⟩ := h.rd enc w base spare held fuel _ _ hf
 obtain ⟨l⟩ := cs
 exact ⟨y, hp, .g l _ (Eq.trans (b := k) h1 h2.symm) fun j x y hx hy => h3 j y x hy hx⟩
end
def ImmL (w : World) : List Value → List A → Prop
 | [], [] => True
 | v :: vs, a :: as => Imm (fun b => b < w.heap.size) w v a ∧ ImmL w vs as
 | _, _ => False
theorem imm_args {w : World} : ∀ (vs : List Value) (as : List A), ImmL w vs as → ArgsOK (fun b => b < w.heap.size) (fun _ => none) w vs as
 | [], [], _ => ⟨rfl, fun j x y h => by simp at h⟩
 | [], _ :: _, h => h.elim
 | _ :: _, [], h => h.elim
 | _ :: _, _ :: _, ⟨h, hs⟩ => by
  obtain ⟨h1, h2⟩ := imm_args _ _ hs
  refine ⟨by simp [h1], fun j x y hx hy => ?_⟩
  match j, hx, hy with
  | 0, hx, hy => simp at hx hy; subst hx; subst hy; exact .imm h
  | j + 1, hx, hy => exact h2 j x y (by simpa using hx) (by simpa using hy)
theorem FnV.rowT {P : Program} {f : Nat} {as : List A} {w : World} {vs : List Value} (h : FnV P f as (boolA true)) (ha : ImmL w vs as) (ht : ∀ t ∈ tables, ∃ te fr, w.heap[t.1]? = some (.cells t.2 te fr)) :
  Calls P f vs.toArray w fun e w' => e = .returned (.bool true) ∧ Go.RowKit.Below w.heap.size w w' :=
 h (fun b => b < w.heap.size) (fun _ => none) w vs _ ⟨fun L xs hr => by simp [rowAt] at hr; cases L <;> simp at hr, fun L xs L' xs' b o o' hr => by simp [rowAt] at hr; cases L <;> simp at hr, fun b h => h, fun t h => ⟨(ht t h).elim fun _ g => g.elim fun _ g => (Array.getElem?_eq_some_iff.1 g).1, ht t h⟩, fun L _ => rfl⟩ (imm_args vs as ha)
  fun F' Λ' σ' w' v r hs hst hv hq => by
   obtain ⟨rfl, rfl⟩ := hq
   refine ⟨by rw [hv.v_inv], hst.os, hst.tape, hst.output, hst.size, fun k hk => hst.keep k hk ?_⟩
   rintro ⟨L, xs, o, hr, _⟩
   simp [rowAt] at hr; cases L <;> simp at hr
end Go.Sep
set_option linter.unusedVariables false
set_option linter.unusedSimpArgs false
namespace Go.Sep
open Go
def rh (f : Nat → Nat) : List Nat → List Nat
 | [] => []
 | l :: p => f l :: p
mutual
def A.ren (f : Nat → Nat) : A → A
 | .m L a n k => .m (rh f L) a n k
 | .e L a => .e (rh f L) a
 | .b l a => .b (f l) a
 | .g xs => .g (renL f xs)
 | .t xs => .t (renL f xs)
 | .f g xs => .f g (renL f xs)
 | .o k xs => .o k xs
 | .v x => .v x
 | .n => .n
 | .i k xs => .i k xs
 | .q xs d => .q xs d
 | .j => .j
def renL (f : Nat → Nat) : List A → List A
 | [] => []
 | x :: xs => x.ren f :: renL f xs
end
theorem renL_get (f : Nat → Nat) : ∀ (xs : List A) (j : Nat), (renL f xs)[j]? = (xs[j]?).map (A.ren f)
 | [], j => by simp [renL]
 | x :: xs, 0 => by simp [renL]
 | x :: xs, j + 1 => by simp [renL, renL_get f xs j]
theorem renL_len (f : Nat → Nat) : ∀ xs : List A, (renL f xs).length = xs.length
 | [] => rfl
 | x :: xs => by simp [renL, renL_len f xs]
theorem renL_self {f : Nat → Nat} {vs : List Value} {xs : List A} (hl : vs.length = xs.length) (ih : ∀ (j : Nat) (x : A) (y : Value), xs[j]? = some x → vs[j]? = some y → x.ren f = x) : renL f xs = xs := by
 apply List.ext_getElem?
 intro j
 rw [renL_get]
 cases hj : xs[j]? with
 | none => rfl
 | some x =>
  have : j < vs.length := by have := (List.getElem?_eq_some_iff.1 hj).1; omega
  simp [ih j x _ hj (List.getElem?_eq_getElem this)]
theorem Imm.ren {F w v} {f : Nat → Nat} {x : A} (h : Imm F w v x) : x.ren f = x := by
 induction h with
 | g vs xs hl _ ih => simp only [A.ren]; rw [renL_self hl ih]
 | t vs xs hl _ ih => simp only [A.ren]; rw [renL_self hl ih]
 | f fn vs xs hl _ ih => simp only [A.ren]; rw [renL_self hl ih]
 | _ => rfl
theorem OK.ren {F Λ Λ' w v x} (p : List Nat → Bool) (f : Nat → Nat) (h : ∀ L b o, p L = false → Λ L = some (b, o) → Λ' (rh f L) = some (b, o)) (hi : OK F Λ w v x) (hn : x.names p = false) : OK F Λ' w v (x.ren f) := by
 induction hi with
 | imm hi => rw [hi.ren]; exact .imm hi
 | j v => exact .j v
 | m h1 =>
  simp only [A.names] at hn
  refine .m ?_
  rcases h1 with h1 | ⟨b, o, cap, h1, h2⟩
  ·exact .inl h1
  ·exact .inr ⟨b, o, cap, h _ _ _ hn h1, h2⟩
 | e h1 => simp only [A.names] at hn; exact .e (h _ _ _ hn h1)
 | b h1 => simp only [A.names] at hn; exact .b (h _ _ _ hn h1)
 | g vs xs hl _ ih =>
  simp only [A.names] at hn
  refine .g vs _ (by rw [renL_len]; exact hl) fun j x y hx hy => ?_
  rw [renL_get] at hx
  cases hj : xs[j]? with
  | none => simp [hj] at hx
  | some u => simp [hj] at hx; subst hx; exact ih j u y hj hy (namesL_false hn u (List.mem_of_getElem? hj))
 | t vs xs hl _ ih =>
  simp only [A.names] at hn
  refine .t vs _ (by rw [renL_len]; exact hl) fun j x y hx hy => ?_
  rw [renL_get] at hx
  cases hj : xs[j]? with
  | none => simp [hj] at hx
  | some u => simp [hj] at hx; subst hx; exact ih j u y hj hy (namesL_false hn u (List.mem_of_getElem? hj))
 | f fn vs xs hl _ ih =>
  simp only [A.names] at hn
  refine .f fn vs _ (by rw [renL_len]; exact hl) fun j x y hx hy => ?_
  rw [renL_get] at hx
  cases hj : xs[j]? with
  | none => simp [hj] at hx
  | some u => simp [hj] at hx; subst hx; exact ih j u y hj hy (namesL_false hn u (List.mem_of_getElem? hj))
def mvH (l l' h : Nat) : Nat := if h = l' then l else h
def mvA (l l' : Nat) (x : A) : A := if x.names (fun L => L.headD 0 == l) then .j else x.ren (mvH l l')
def mvE (l l' : Nat) : Env → Env
 | [] => []
 | (t, a) :: E => (t, mvA l l' a) :: mvE l l' E
def mvR (l l' : Nat) : Root → Root
 | .box xs => .box (xs.map (mvA l l'))
 | r => r
def mvS (l l' : Nat) (σ : Store) : Store := ((σ.map (mvR l l')).set l ((σ[l']?).getD .dead)).set l' .dead
def mvL (l l' : Nat) (Λ : Lbl) : Lbl := fun L => match L with
 | [] => Λ []
 | h :: p => if h = l then Λ (l' :: p) else Λ (h :: p)
def noBox (σ : Store) (l : Nat) : Bool := match σ[l]? with
 | some (.box _) => false
 | _ => true
theorem mvL_ok {l l' : Nat} {Λ : Lbl} (hne : l ≠ l') : ∀ L b o, (L.headD 0 == l) = false → Λ L = some (b, o) → mvL l l' Λ (rh (mvH l l') L) = some (b, o) := fun L b o hp hL => by
 cases L with
 | nil => exact hL
 | cons h p =>
  simp only [List.headD_cons, beq_eq_false_iff_ne, ne_eq] at hp
  simp only [rh, mvL, mvH]
  by_cases e : h = l'
  ·subst e; rw [if_pos rfl, if_pos rfl]; exact hL
  ·rw [if_neg e, if_neg hp]; exact hL
theorem mvA_ok {F Λ w v x l l'} (hne : l ≠ l') (h : OK F Λ w v x) : OK F (mvL l l' Λ) w v (mvA l l' x) := by
 unfold mvA
 split
 ·exact .j v
 ·rename_i hn
  refine h.ren (fun L => L.headD 0 == l) _ (fun L b o hp hL => mvL_ok hne L b o hp hL) (by simpa using hn)
theorem lk_mvE (l l' : Nat) : ∀ (E : Env) (t : Nat), lk (mvE l l' E) t = mvA l l' (lk E t)
 | [], t => rfl
 | (u, a) :: E, t => by
  simp only [mvE, lk]
  split
  ·rfl
  ·exact lk_mvE l l' E t
theorem names_inBox {x : A} (h : x.inBox = true) (l l' : Nat) : (mvA l l' x).inBox = true ∨ mvA l l' x = .j := by
 unfold mvA
 split
 ·exact .inr rfl
 ·left; cases x <;> first | exact h | rfl
theorem mvR_cells {l l' : Nat} {r : Root} {ys : List A} (h : (mvR l l' r).cells = some ys) : (isB r = false ∧ r.cells = some ys) ∨ (isB r = true ∧ ∃ xs, r.cells = some xs ∧ ys = xs.map (mvA l l')) := by
 cases r with
 | box xs => simp only [mvR, Root.cells, Option.some.injEq] at h; exact .inr ⟨rfl, xs, rfl, h.symm⟩
 | dead => simp [mvR, Root.cells] at h
 | row xs => exact .inl ⟨rfl, h⟩
theorem mvS_get {l l' : Nat} {σ : Store} (hne : l ≠ l') (hl : l < σ.length) (h : Nat) : (mvS l l' σ)[h]? = if h = l' ∧ l' < σ.length then some .dead else if h = l then some ((σ[l']?).getD .dead) else (σ[h]?).map (mvR l l') := by
 unfold mvS
 rw [List.getElem?_set]
 by_cases e : l' = h
 ·subst e
  simp only [List.length_set, List.length_map, if_true, true_and]
  by_cases e2 : l' < σ.length
  ·simp [e2]
  ·rw [if_neg e2, if_neg e2, if_neg (Ne.symm hne)]; simp [List.getElem?_eq_none (Nat.le_of_not_lt e2)]
 ·rw [if_neg e, if_neg (by rintro ⟨rfl, _⟩; exact e rfl), List.getElem?_set]
  by_cases e2 : l = h
  ·subst e2; simp [hl]
  ·rw [if_neg e2, if_neg (Ne.symm e2), List.getElem?_map]
theorem rowAt_mvS {F Λ w} {l l' : Nat} {σ : Store} (hs0 : St F Λ σ w) (hne : l ≠ l') (hl : l < σ.length) (hr : ∃ xs, σ[l']? = some (.row xs)) {L xs} (h : rowAt (mvS l l' σ) L = some xs) :
  ∃ h0 p, L = h0 :: p ∧ h0 ≠ l' ∧ ((h0 = l ∧ rowAt σ (l' :: p) = some xs) ∨ (h0 ≠ l ∧ (((isBox σ [h0] = false ∨ p ≠ []) ∧ rowAt σ L = some xs) ∨ (isBox σ [h0] = true ∧ p = [] ∧ ∃ ys, rowAt σ L = some ys ∧ xs = ys.map (mvA l l'))))) := by
 cases L with
 | nil => simp [rowAt] at h
 | cons h0 p =>
  obtain ⟨zs, hz⟩ := hr
  have hl' : l' < σ.length := (List.getElem?_eq_some_iff.1 hz).1
  simp only [rowAt, mvS_get hne hl] at h
  by_cases e1 : h0 = l'
  ·simp [e1, hl', Root.cells] at h
  ·rw [if_neg (by rintro ⟨rfl, _⟩; exact e1 rfl)] at h
   refine ⟨h0, p, rfl, e1, ?_⟩
   by_cases e2 : h0 = l
   ·subst e2
    simp only [if_true, hz, Option.getD_some] at h
    exact .inl ⟨rfl, by simpa only [rowAt, hz] using h⟩
   ·rw [if_neg e2] at h
    refine .inr ⟨e2, ?_⟩
    cases hs : σ[h0]? with
    | none => simp [hs] at h
    | some r =>
     simp only [hs, Option.map_some] at h
     split at h
     ·rename_i ys hy
      rcases mvR_cells hy with ⟨g1, g2⟩ | ⟨g1, us, g2, rfl⟩
      ·exact .inl ⟨.inl (by simp only [isBox, hs]; cases r <;> simp_all [isB]), by simp only [rowAt, hs, g2]; exact h⟩
      ·by_cases hno : p ≠ [] ∧ rowAt σ (h0 :: p) = some xs
       ·exact .inl ⟨.inr hno.1, hno.2⟩
       right
       have hb : isBox σ [h0] = true := by simp only [isBox, hs]; cases r <;> simp_all [isB]
       cases p with
       | nil => simp only [sub, Option.some.injEq] at h; exact ⟨hb, rfl, us, by simp only [rowAt, hs, g2, sub], h.symm⟩
       | cons j p =>
        exfalso
        simp only [sub] at h
        split at h
        ·rename_i k zs' hj
         simp only [List.getElem?_map] at hj
         cases hu : us[j]? with
         | none => simp [hu] at hj
         | some u =>
          simp only [hu, Option.map_some, Option.some.injEq] at hj
          unfold mvA at hj
          split at hj
          ·cases hj
          ·cases u <;> simp [A.ren] at hj
           obtain ⟨rfl, rfl⟩ := hj
           exact absurd (show rowAt σ (h0 :: j :: p) = some xs by simp only [rowAt, hs, g2, sub, hu]; exact h) (fun hh => hno ⟨by simp, hh⟩)
        ·cases h
     ·cases h
theorem Cell.unbox {F Λ Λ' w L L' c x} (hS : ∀ a n k v, Sl Λ w L a n k v → Sl Λ' w L' a n k v) (h : Cell F Λ w false L c x) : Cell F Λ' w false L' c x := by
 cases x with
 | j => trivial
 | o k ys => exact ⟨h.1, h.2.1, h.2.2.elim fun n hn => ⟨n, hn.1, hS _ _ _ _ hn.2⟩⟩
 | _ => exact ⟨h.1, h.2.relabel (fun _ => true) (fun L b o hp => by simp at hp) (inCell_names (by have h1 := h.1; rwa [if_neg (by simp)] at h1) _)⟩
theorem Cell.box {F Λ w L c x} (h : Cell F Λ w true L c x) : x = .j ∨ (∃ k ys, x = .o k ys) ∨ (x.inBox = true ∧ OK F Λ w c x) := by
 cases x with
 | j => exact .inl rfl
 | o k ys => exact .inr (.inl ⟨k, ys, rfl⟩)
 | _ => exact .inr (.inr ⟨by have h1 := h.1; rwa [if_pos rfl] at h1, h.2⟩)
theorem isBox_row {σ : Store} {l : Nat} {zs} (hr : σ[l]? = some (.row zs)) (p : List Nat) : isBox σ (l :: p) = false := by
 cases p with
 | nil => simp only [isBox, hr]
 | cons j p => rfl
theorem isBox_mvS {l l' : Nat} {σ : Store} (hne : l ≠ l') (hl : l < σ.length) {zs} (hr : σ[l']? = some (.row zs)) {h0 : Nat} (h1 : h0 ≠ l') (p : List Nat) : isBox (mvS l l' σ) (h0 :: p) = if h0 = l then false else isBox σ (h0 :: p) := by
 cases p with
 | cons j p => simp [isBox]
 | nil =>
  simp only [isBox, mvS_get hne hl]
  rw [if_neg (by rintro ⟨rfl, _⟩; exact h1 rfl)]
  by_cases e : h0 = l
  ·rw [if_pos e, if_pos e, hr]; rfl
  ·rw [if_neg e, if_neg e]
   cases hs : σ[h0]? with
   | none => rfl
   | some r => cases r <;> rfl
theorem mvL_len {l l' : Nat} {σ : Store} : (mvS l l' σ).length = σ.length := by simp [mvS]
theorem St.move {F Λ σ w} (hs : St F Λ σ w) {l l' : Nat} (hne : l ≠ l') (hl : l < σ.length) {zs} (hr : σ[l']? = some (.row zs)) : St F (mvL l l' Λ) (mvS l l' σ) w where
 row L xs h := by
  obtain ⟨h0, p, rfl, hn, ⟨rfl, h1⟩ | ⟨h2, h1⟩⟩ := rowAt_mvS hs hne hl ⟨_, hr⟩ h
  ·have e : mvL h0 l' Λ (h0 :: p) = Λ (l' :: p) := by simp [mvL]
   rw [e]
   rcases hs.row _ _ h1 with h4 | ⟨b, o, cs, t, h4, h5, h6, h7⟩
   ·exact .inl h4
   ·refine .inr ⟨b, o, cs, t, h4, h5, h6, fun j x hx => ?_⟩
    obtain ⟨c, h8, h9⟩ := h7 j x hx
    refine ⟨c, h8, ?_⟩
    rw [isBox_mvS hne hl hr hn, if_pos rfl]
    rw [isBox_row hr] at h9
    exact h9.unbox fun a n k v hv => hv.imp id fun ⟨b, o, cap, g1, g2⟩ => ⟨b, o, cap, by simpa [mvL] using g1, g2⟩
  ·have e : mvL l l' Λ (h0 :: p) = Λ (h0 :: p) := by simp [mvL, h2, hn]
   rw [e]
   rcases h1 with ⟨hb, h1⟩ | ⟨hb, rfl, ys, h1, rfl⟩
   ·rcases hs.row _ _ h1 with h4 | ⟨b, o, cs, t, h4, h5, h6, h7⟩
    ·exact .inl h4
    ·refine .inr ⟨b, o, cs, t, h4, h5, h6, fun j x hx => ?_⟩
     obtain ⟨c, h8, h9⟩ := h7 j x hx
     refine ⟨c, h8, ?_⟩
     have hb' : isBox σ (h0 :: p) = false := by
      cases p with
      | nil => exact hb.elim id fun h => absurd rfl h
      | cons _ _ => rfl
     rw [isBox_mvS hne hl hr hn, if_neg h2, hb']
     rw [hb'] at h9
     exact h9.unbox fun a n k v hv => hv.imp id fun ⟨b, o, cap, g1, g2⟩ => ⟨b, o, cap, by simpa [mvL, h2, hn] using g1, g2⟩
   ·rcases hs.row _ _ h1 with ⟨h4, rfl⟩ | ⟨b, o, cs, t, h4, h5, h6, h7⟩
    ·exact .inl ⟨h4, rfl⟩
    ·refine .inr ⟨b, o, cs, t, h4, h5, h6, fun j x hx => ?_⟩
     rw [List.getElem?_map] at hx
     cases hy : ys[j]? with
     | none => simp [hy] at hx
     | some y =>
      simp only [hy, Option.map_some, Option.some.injEq] at hx
      subst hx
      obtain ⟨c, h8, h9⟩ := h7 j y hy
      refine ⟨c, h8, ?_⟩
      rw [isBox_mvS hne hl hr hn, if_neg h2, hb]
      rw [hb] at h9
      rcases h9.box with rfl | ⟨kk, us, rfl⟩ | ⟨g1, g2⟩
      ·exact trivial
      ·have e3 : mvA l l' (.o kk us) = .o kk us := rfl
       rw [e3]
       exact ⟨trivial, h9.2.1, h9.2.2.imp fun nn hh => ⟨hh.1, hh.2.imp id fun ⟨b, o, cap, g1, g2⟩ => ⟨b, o, cap, by simpa [mvL, h2, hn] using g1, g2⟩⟩⟩
      ·rcases names_inBox g1 l l' with g3 | g3
       ·exact .ofBox g3 (mvA_ok hne g2)
       ·rw [g3]; exact trivial
 apart L xs L' xs' b o o' h1 h2 h3 h4 := by
  have key : ∀ L xs, rowAt (mvS l l' σ) L = some xs → ∃ h0 p, L = h0 :: p ∧ h0 ≠ l' ∧ ∃ ys, rowAt σ ((if h0 = l then l' else h0) :: p) = some ys ∧ mvL l l' Λ L = Λ ((if h0 = l then l' else h0) :: p) := fun L xs h => by
   obtain ⟨h0, p, rfl, hn, ⟨k2, k1⟩ | ⟨k2, k1⟩⟩ := rowAt_mvS hs hne hl ⟨_, hr⟩ h
   ·exact ⟨h0, p, rfl, hn, xs, by rw [if_pos k2]; exact k1, by simp [mvL, k2]⟩
   ·refine ⟨h0, p, rfl, hn, ?_⟩
    rw [if_neg k2]
    rcases k1 with ⟨_, k1⟩ | ⟨_, rfl, ys, k1, _⟩
    ·exact ⟨xs, k1, by simp [mvL, k2, hn]⟩
    ·exact ⟨ys, k1, by simp [mvL, k2, hn]⟩
  obtain ⟨a, p, rfl, hn, ys, g1, g2⟩ := key L xs h1
  obtain ⟨a', p', rfl, hn', ys', g1', g2'⟩ := key L' xs' h2
  rw [g2] at h3
  rw [g2'] at h4
  have := hs.apart _ _ _ _ _ _ _ g1 g1' h3 h4
  simp only [List.cons.injEq] at this
  obtain ⟨e1, rfl⟩ := this
  congr 1
  by_cases c1 : a = l <;> by_cases c2 : a' = l <;> simp_all
 old := hs.old
 tab := hs.tab
 lab L hL := by
  rw [mvL_len] at hL
  cases L with
  | nil => simp at hL; subst hL; simp at hl
  | cons h p =>
   simp only [List.headD_cons] at hL
   simp only [mvL]
   rw [if_neg (by omega)]
   exact hs.lab (h :: p) hL
theorem Own.move {F Λ σ w} (hs : St F Λ σ w) {l l' : Nat} (hne : l ≠ l') (hl : l < σ.length) {zs} (hr : σ[l']? = some (.row zs)) {b} (h : Own (mvL l l' Λ) (mvS l l' σ) b) : Own Λ σ b := by
 obtain ⟨L, xs, o, h1, h2⟩ := h
 obtain ⟨h0, p, rfl, hn, ⟨rfl, h3⟩ | ⟨h4, h3⟩⟩ := rowAt_mvS hs hne hl ⟨_, hr⟩ h1
 ·exact ⟨_, _, o, h3, by simpa [mvL] using h2⟩
 ·have e : mvL l l' Λ (h0 :: p) = Λ (h0 :: p) := by simp [mvL, h4, hn]
  rw [e] at h2
  rcases h3 with ⟨_, h3⟩ | ⟨_, rfl, ys, h3, _⟩
  ·exact ⟨_, _, o, h3, h2⟩
  ·exact ⟨_, _, o, h3, h2⟩
theorem Step.move {m F Λ σ w} (hs : St F Λ σ w) {l l' : Nat} (hne : l ≠ l') (hl : l < σ.length) {zs} (hr : σ[l']? = some (.row zs)) (hb : noBox σ l = true) (hm : m ≤ l) : Step m F Λ σ w F (mvL l l' Λ) (mvS l l' σ) w :=
  { os := rfl, tape := rfl, output := rfl, size := Nat.le_refl _, sizes := Sizes.refl _, keep := fun _ _ _ => rfl, mono := fun _ h => h, new := fun _ h => .inl h
    own := fun b h => .inl (Own.move hs hne hl hr h), len := by rw [mvL_len]; exact Nat.min_le_right _ _
    kept := fun L b o hL h => by
      cases L with
      | nil => exact h
      | cons h0 p =>
        simp only [List.headD_cons] at hL
        have e1 : h0 ≠ l := by omega
        simp only [mvL, if_neg e1]; exact h
    boxes := fun a xs _ hx => by
      have e1 : a ≠ l := by rintro rfl; simp only [noBox, hx] at hb; cases hb
      have e2 : a ≠ l' := by rintro rfl; rw [hr] at hx; cases hx
      refine ⟨by simp [mvL, e1, e2], xs.map (mvA l l'), ?_⟩
      rw [mvS_get hne hl, if_neg (by rintro ⟨rfl, _⟩; exact e2 rfl), if_neg e1, hx]; rfl }
section
variable {P : Program} {n m : Nat} {N : Env → Store → Prop} {K : Exit → Env → Store → Prop} {E : Env} {σ : Store} {o : Oper} {ops : Array Oper} {os : List Oper}
end
end Go.Sep
set_option linter.unusedVariables false
set_option linter.unusedSimpArgs false
namespace Go.Sep
open Go
section
variable {P : Program} (w : World)
end
def apL (Λ : Lbl) (l s : Nat) (lab : Option (Nat × Nat)) : Lbl := fun L => match L with
 | [] => Λ []
 | h :: p => if h = s then (match p with | [] => lab | j :: q => Λ (l :: j :: q)) else Λ (h :: p)
theorem sub_app {xs ys : List A} (hp : ∀ x ∈ ys, x.plain = true) {j q zs} (h : sub (xs ++ ys) (j :: q) = some zs) : sub xs (j :: q) = some zs := by
 simp only [sub] at h ⊢
 by_cases hj : j < xs.length
 ·rw [List.getElem?_append_left hj] at h; exact h
 ·rw [List.getElem?_append_right (by omega)] at h
  split at h
  ·rename_i k u hu
   have := hp _ (List.mem_of_getElem? hu)
   simp [A.plain] at this
  ·cases h
theorem grow_get {σ : Store} {l : Nat} {r : Root} (hl : l < σ.length) (h : Nat) : (σ.set l .dead ++ [r])[h]? = if h = l then some .dead else if h = σ.length then some r else σ[h]? := by
 by_cases e : h = l
 ·subst e; rw [if_pos rfl, List.getElem?_append_left (by simpa using hl)]; simp [hl]
 ·rw [if_neg e]
  by_cases e2 : h = σ.length
  ·subst e2; rw [if_pos rfl, List.getElem?_append_right (by simp)]; simp
  ·rw [if_neg e2]
   rcases Nat.lt_or_ge h σ.length with h3 | h3
   ·rw [List.getElem?_append_left (by simpa using h3), List.getElem?_set_ne (Ne.symm e)]
   ·rw [List.getElem?_eq_none (by simp; omega), List.getElem?_eq_none h3]
theorem rowAt_grow {σ : Store} {l : Nat} {xs ys : List A} (hr : σ[l]? = some (.row xs)) (hp : ∀ x ∈ ys, x.plain = true) {L zs} (h : rowAt (σ.set l .dead ++ [.row (xs ++ ys)]) L = some zs) :
  (L = [σ.length] ∧ zs = xs ++ ys) ∨ (∃ j q, L = σ.length :: j :: q ∧ rowAt σ (l :: j :: q) = some zs) ∨ (∃ h0 p, L = h0 :: p ∧ h0 ≠ l ∧ h0 ≠ σ.length ∧ rowAt σ L = some zs) := by
 have hl : l < σ.length := (List.getElem?_eq_some_iff.1 hr).1
 cases L with
 | nil => simp [rowAt] at h
 | cons h0 p =>
  simp only [rowAt, grow_get hl] at h
  by_cases e : h0 = l
  ·rw [if_pos e] at h; simp [Root.cells] at h
  ·rw [if_neg e] at h
   by_cases e2 : h0 = σ.length
   ·subst e2
    simp only [if_true, Root.cells] at h
    cases p with
    | nil => simp only [sub, Option.some.injEq] at h; exact .inl ⟨rfl, h.symm⟩
    | cons j q => exact .inr (.inl ⟨j, q, rfl, by simp only [rowAt, hr, Root.cells]; exact sub_app hp h⟩)
   ·rw [if_neg e2] at h
    exact .inr (.inr ⟨h0, p, rfl, e, e2, by simpa only [rowAt] using h⟩)
structure Grows (F : Nat → Prop) (Λ : Lbl) (σ : Store) (w w' : World) (l : Nat) (xs ys : List A) (lab : Option (Nat × Nat)) : Prop where
  row : σ[l]? = some (.row xs)
  plain : ∀ x ∈ ys, x.plain = true
  os : w'.os = w.os
  tape : w'.tape = w.tape
  output : w'.output = w.output
  size : w.heap.size ≤ w'.heap.size
  sizes : Sizes w w'
  keep : ∀ b, b < w.heap.size → (∀ o, Λ [l] ≠ some (b, o)) → w'.heap[b]? = w.heap[b]?
  new : (lab = none ∧ xs ++ ys = []) ∨ ∃ b o cs t, lab = some (b, o) ∧ ¬ F b ∧ (w.heap.size ≤ b ∨ Λ [l] = some (b, o)) ∧ w'.heap[b]? = some (.cells cs t (0, 0)) ∧
    ∀ j x, (xs ++ ys)[j]? = some x → ∃ c, cs[o + j]? = some c ∧ Cell F Λ w false [l, j] c x
theorem Grows.ext {F Λ σ w w' l xs ys lab} (hs : St F Λ σ w) (h : Grows F Λ σ w w' l xs ys lab) : ∀ L b o, Λ L = some (b, o) → apL Λ l σ.length lab L = some (b, o) := fun L b o hL => by
 cases L with
 | nil => exact hL
 | cons h0 p =>
  simp only [apL]
  rw [if_neg ?_]
  ·exact hL
  ·rintro rfl
   rw [hs.lab (σ.length :: p) (by simp)] at hL; cases hL
theorem Grows.frozen {F Λ σ w w' l xs ys lab} (hs : St F Λ σ w) (h : Grows F Λ σ w w' l xs ys lab) : ∀ b, F b → F b ∧ w'.heap[b]? = w.heap[b]? := fun b hb => ⟨hb, h.keep b (hs.old b hb) fun o hL => hs.notOwn hb ⟨[l], xs, o, by simp only [rowAt, h.row, Root.cells, sub], hL⟩⟩
theorem Grows.step {m F Λ σ w w' l xs ys lab} (hs : St F Λ σ w) (h : Grows F Λ σ w w' l xs ys lab) : Step m F Λ σ w F (apL Λ l σ.length lab) (σ.set l .dead ++ [.row (xs ++ ys)]) w' := by
  have hl : l < σ.length := (List.getElem?_eq_some_iff.1 h.row).1
  have hrow : rowAt σ [l] = some xs := by simp only [rowAt, h.row, Root.cells, sub]
  exact { os := h.os, tape := h.tape, output := h.output, size := h.size, sizes := h.sizes
          keep := fun b hb hno => h.keep b hb fun o ho => hno ⟨[l], xs, o, hrow, ho⟩
          mono := fun _ h => h, new := fun _ h => .inl h
          own := fun b ⟨L, zs, o, h1, h2⟩ => by
            rcases rowAt_grow h.row h.plain h1 with ⟨rfl, rfl⟩ | ⟨j, q, rfl, h3⟩ | ⟨h0, p, rfl, h3, h4, h5⟩
            · have e : apL Λ l σ.length lab [σ.length] = lab := by simp [apL]
              rw [e] at h2
              rcases h.new with ⟨h4, _⟩ | ⟨b', o', cs, t, h4, h5, h6, _⟩
              · rw [h4] at h2; cases h2
              · rw [h4] at h2; cases h2
                rcases h6 with h6 | h6
                · exact .inr h6
                · exact .inl ⟨[l], xs, _, hrow, h6⟩
            · exact .inl ⟨_, zs, o, h3, by simpa [apL] using h2⟩
            · exact .inl ⟨_, zs, o, h5, by simpa [apL, h4] using h2⟩
          len := by simp; omega
          kept := fun L b o _ hL => h.ext hs L b o hL
          boxes := fun a us _ ha => by
            have e1 : a ≠ l := by rintro rfl; rw [h.row] at ha; cases ha
            have e2 : a ≠ σ.length := by rintro rfl; simp at ha
            exact ⟨by simp [apL, e2], us, by rw [grow_get hl, if_neg e1, if_neg e2]; exact ha⟩ }
theorem Grows.fr {F Λ σ w w' l xs ys lab tmps E} (hs : St F Λ σ w) (h : Grows F Λ σ w w' l xs ys lab) (hf : FrOK F Λ w tmps E) : FrOK F (apL Λ l σ.length lab) w' tmps E :=
 (hf.mono (h.frozen hs) h.sizes).ext (h.ext hs)
theorem inCell_plain {x : A} (h : x.inCell = true) : x.plain = true := inBox_plain (inCell_inBox h)
section
variable {P : Program} {n m : Nat} {N : Env → Store → Prop} {E : Env} {σ : Store} {o : Oper} {ops : Array Oper} {os : List Oper}
end
end Go.Sep
set_option linter.unusedVariables false
set_option linter.unusedSimpArgs false
namespace Go.Sep
open Go
theorem fill_ok2 {F Λ w} {pl : List (Nat × Nat)} {f : Nat → Option (Nat × Nat)} (hfp : ∀ i p, pl[i]? = some p → f i = some p) {tmps : Array Value} {E : Env} (hf : FrOK F Λ w tmps E) : ∀ (parts : List (Nat × Operand)) (cs : Array Value) (as as' : List A), cs.size = as.length → (∀ (j : Nat) y, as[j]? = some y → ∃ c, cs[j]? = some c ∧ OK F Λ w c y) →
  fillA pl as (parts.map fun p => (p.1, val E p.2)) = some as' →
  ∃ cs', Instr.fill f cs (parts.map fun p => (p.1, Act.eval ⟨tmps, []⟩ p.2)) = some cs' ∧ cs'.size = as'.length ∧ (∀ (j : Nat) y, as'[j]? = some y → ∃ c, cs'[j]? = some c ∧ OK F Λ w c y)
 | [], cs, as, as', hl, hc, h => by
  simp only [List.map_nil, fillA, Option.some.injEq] at h
  subst h
  exact ⟨cs, rfl, hl, hc⟩
 | (i, x) :: rest, cs, as, as', hl, hc, h => by
  simp only [List.map_cons, fillA] at h
  split at h
  case h_2 => cases h
  rename_i off k hp
  split at h
  case isFalse => cases h
  rename_i hh
  obtain ⟨h1, h2, h3⟩ := hh
  have hx := val_ok (ds := []) hf x
  have hcs := hx.cellsOf (boxAll h3)
  have hlen : (Act.eval ⟨tmps, []⟩ x).cells.size = k := by
   cases hvx : val E x with
   | g zs =>
    rw [hvx] at hx h1
    obtain ⟨vs, h5, h6, _⟩ := hx.g_inv
    simp only [Sep.cellsOf] at h1
    rw [h5]; simp [Value.cells, h6, h1]
   | _ =>
    rw [hvx] at hx h1 h3
    simp only [Sep.cellsOf] at h1 h3
    obtain ⟨h5, _⟩ := hx.cells1 (boxAll h3 _ (by simp))
    rw [h5, ← h1]; simp
  generalize hvs : Act.eval ⟨tmps, []⟩ x = v at hcs hlen
  simp only [List.map_cons, Instr.fill, hfp i _ hp, hvs]
  rw [if_neg (by simp [hlen]; omega)]
  refine fill_ok2 hfp hf rest _ _ as' ?_ (fun j y hy => ?_) h
  ·rw [← Array.foldl_toList, Array.toList_zipIdx, foldl_size, spl_len]; exact hl
  ·rw [spl_get _ _ _ _ (by rw [h1]; omega)] at hy
   rw [← Array.foldl_toList, Array.toList_zipIdx, foldl_cells _ 0 off cs (by simp [hlen]; omega)]
   simp only [Nat.add_zero, Array.length_toList, hlen]
   rw [h1] at hy
   split at hy
   ·rename_i h6
    rw [if_pos h6]
    obtain ⟨c, h7, h8⟩ := hcs _ y hy
    exact ⟨c, h7, h8⟩
   ·rename_i h6
    rw [if_neg h6]
    exact hc j y hy
def litPl (n k : Nat) : List (Nat × Nat) := (List.range n).map fun i => (i * k, k)
theorem litPl_get {n k i : Nat} {p} (h : (litPl n k)[i]? = some p) : some (i * k, k) = some p := by
 have hi : i < n := by have := (List.getElem?_eq_some_iff.1 h).1; simpa [litPl] using this
 simp [litPl, hi] at h
 rw [h]
section
variable {P : Program} {n m : Nat} {N : Env → Store → Prop} {E : Env} {σ : Store} {o : Oper}
theorem TOp_lit {t e k nn : Nat} {zs : List Value} {parts : List (Nat × Operand)} {as : List A} (hT : SlT P t e k) (hz : ZeroT P e zs) (h : o.op = .buildSlice t nn parts.toArray) (hd : dstOK n o.dst = true)
  (hfill : fillA (litPl nn k) (List.replicate (nn * k) .j) (parts.map fun p => (p.1, val E p.2)) = some as) (hc : cellAllB as = true) (hsz : nn * k ≤ 16777216)
  (hN : N (put E o.dst (.m [σ.length] 0 nn k)) (σ ++ [.row as])) : TOp P n m o N E σ := by
 obtain ⟨⟨inf, z, h1, h2, h3⟩, h4⟩ := hz
 have hsize : inf.size = k := by obtain ⟨i2, g1, g2⟩ := hT.i; rw [h1] at g1; cases g1; exact g2
 refine TOp_new (.row as) as rfl e (fun y hy => inCell_plain (cellAll hc y hy)) _ hd (fun F Λ w tmps hs hf => ?_) hN
 obtain ⟨cs', g1, g2, g3⟩ := fill_ok2 (f := fun i => some (i * k, k)) (fun i p hp => litPl_get hp) hf parts ((Array.range (nn * k)).map ((if nn * k = 0 then #[] else z.cells)[· % (if nn * k = 0 then #[] else z.cells).size]!)) (List.replicate (nn * k) .j) as (by simp) (fun j y hy => by
  have hj : j < nn * k := by have := (List.getElem?_eq_some_iff.1 hy).1; simpa using this
  rw [List.getElem?_replicate, if_pos hj] at hy
  cases hy
  exact ⟨_, Array.getElem?_eq_getElem (by simpa using hj), .j _⟩) hfill
 have hlen : as.length = nn * k := by
  have key : ∀ (parts : List (Nat × A)) (as as' : List A), fillA (litPl nn k) as parts = some as' → as'.length = as.length := fun parts => by
   induction parts with
   | nil => intro as as' h; simp only [fillA, Option.some.injEq] at h; subst h; rfl
   | cons p rest ih =>
    intro as as' h
    obtain ⟨i, a⟩ := p
    simp only [fillA] at h
    split at h
    ·split at h
     ·rw [ih _ _ h, spl_len]
     ·cases h
    ·cases h
  rw [key _ _ _ hfill]; simp
 refine ⟨cs'.toList, .slice (some ⟨w.heap.size, 0, none⟩) nn nn, fun j x hx => ?_, ?_, ?_⟩
 ·obtain ⟨c, g4, g5⟩ := g3 j x hx
  exact ⟨c, by rw [Array.getElem?_toList]; exact g4, .ofCell (cellAll hc x (List.mem_of_getElem? hx)) g5⟩
 ·simp only [execOp, h, Instr.buildSlice, run_underlying hT.u, Sem.run_bind, Result.andThen_ok, run_sizeOf' hT.i]
  rw [if_neg (by omega)]
  have hm : (parts.toArray.map fun (x : Nat × Operand) => match x with | (i, x) => (i, Act.eval ⟨tmps, []⟩ x)).toList = parts.map fun p => (p.1, Act.eval ⟨tmps, []⟩ p.2) := by simp
  have hzr : (zeroValue e).run P w = .ok z w := by simp [zeroValue, typeInfo, h1, h2]
  by_cases h0 : nn * k = 0
  ·rw [if_pos h0] at g1
   simp only [h0, if_true, Sem.run_pure, Result.andThen_ok, Sem.run_bind, hm] at g1 ⊢
   rw [g1]
   simp [newRow]
  ·rw [if_neg h0] at g1
   simp only [h0, if_false, Sem.run_pure, Sem.run_bind, hzr, Result.andThen_ok, hm]
   rw [g1]
   simp [newRow]
 ·exact .m (.inr ⟨w.heap.size, 0, nn, by simp [pushL], by simp, Nat.le_refl _, by
   have := hT.pos
   have : nn ≤ nn * k := Nat.le_mul_of_pos_right _ hT.pos
   simp only [maxLen]; omega, _, e, heap_alloc_new w _, by simp only [Array.toArray_toList, Nat.zero_add]; omega⟩)
end
def isRows (σ : Store) : Bool := σ.all fun r => match r with | .row _ => true | .dead => true | _ => false
theorem isBox_rows {σ1 : Store} (h : isRows σ1 = true) (L : List Nat) : isBox σ1 L = false := by
 match L with
 | [] => rfl
 | [l] =>
  simp only [isBox]
  cases hs : σ1[l]? with
  | none => rfl
  | some r =>
   simp only [isRows, List.all_eq_true] at h
   have := h r (List.mem_of_getElem? hs)
   cases r <;> simp_all
 | _ :: _ :: _ => rfl
section
variable {P : Program} {n m : Nat} {N : Env → Store → Prop} {E : Env} {σ : Store} {o : Oper}
end
def offL (l : Nat) (L : List Nat) : Bool := match L with
 | [] => true
 | h :: _ => h != l
def downL (Λ : Lbl) (l : Nat) : Lbl := fun L => match L with
 | [] => none
 | h :: p => if h = 0 then Λ (l :: p) else none
theorem rowAt_one {r : Root} {L xs} (h : rowAt [r] L = some xs) : ∃ p, L = 0 :: p ∧ rowAt [r] (0 :: p) = some xs := by
 cases L with
 | nil => simp [rowAt] at h
 | cons l p =>
  cases l with
  | zero => exact ⟨p, rfl, h⟩
  | succ l => simp [rowAt] at h
theorem rowAt_down {σ : Store} {l : Nat} {xs : List A} (hr : σ[l]? = some (.row xs)) (p : List Nat) : rowAt [.row xs] (0 :: p) = rowAt σ (l :: p) := by simp [rowAt, hr]
theorem St.down {F Λ σ w} (hs : St F Λ σ w) {l : Nat} {xs : List A} (hr : σ[l]? = some (.row xs)) : St F (downL Λ l) [.row xs] w := by
 refine ⟨fun L zs hz => ?_, fun L zs L' zs' b o o' h1 h2 h3 h4 => ?_, hs.old, hs.tab, fun L hL => ?_⟩
 ·obtain ⟨p, rfl, h1⟩ := rowAt_one hz
  rw [rowAt_down hr] at h1
  have e : downL Λ l (0 :: p) = Λ (l :: p) := by simp [downL]
  rw [e]
  refine (hs.row _ _ h1).imp id fun ⟨b, o, cs, t, g1, g2, g3, g4⟩ => ⟨b, o, cs, t, g1, g2, g3, fun j x hj => (g4 j x hj).imp fun c hc => ⟨hc.1, ?_⟩⟩
  rw [isBox_rows rfl]
  have h5 := hc.2
  rw [isBox_row hr] at h5
  exact h5.unbox fun a n k v hv => hv.imp id fun ⟨b, o, cap, k1, k2⟩ => ⟨b, o, cap, by simpa [downL] using k1, k2⟩
 ·obtain ⟨p, rfl, h1⟩ := rowAt_one h1
  obtain ⟨p', rfl, h2⟩ := rowAt_one h2
  rw [rowAt_down hr] at h1 h2
  have := hs.apart _ _ _ _ _ _ _ h1 h2 (by simpa [downL] using h3) (by simpa [downL] using h4)
  simp only [List.cons.injEq] at this
  rw [this.2]
 ·cases L with
  | nil => rfl
  | cons h p =>
   simp only [List.headD_cons, List.length_cons, List.length_nil] at hL
   exact if_neg (by omega)
theorem Own.down {Λ : Lbl} {σ : Store} {l : Nat} {xs : List A} (hr : σ[l]? = some (.row xs)) {b} (h : Own (downL Λ l) [.row xs] b) : ∃ p zs o, rowAt σ (l :: p) = some zs ∧ Λ (l :: p) = some (b, o) := by
 obtain ⟨L, zs, o, h1, h2⟩ := h
 obtain ⟨p, rfl, h1⟩ := rowAt_one h1
 rw [rowAt_down hr] at h1
 exact ⟨p, zs, o, h1, by simpa [downL] using h2⟩
section
variable {P : Program} {n m : Nat} {N : Env → Store → Prop} {E : Env} {σ : Store} {o : Oper}
end
end Go.Sep
set_option linter.unusedVariables false
set_option linter.unusedSimpArgs false
namespace Go.Sep
open Go
section
variable {P : Program} {E : Env} {σ : Store} {o : Oper}
end
section
variable {P : Program} {n m : Nat} {N : Env → Store → Prop} {E : Env} {σ : Store} {o : Oper} {ops : Array Oper} {os : List Oper}
end
def FrzE (σ : Store) (E : Env) : Env → Prop
 | [] => True
 | (t, a) :: E' => (frzOK σ (lk E t) ∧ fzR σ (lk E t) = a) ∧ FrzE σ E E'
theorem FrzE.ok {F Λ σ w tmps} (hs : St F Λ σ w) {E : Env} (hf : FrOK F Λ w tmps E) : ∀ {E' : Env}, FrzE σ E E' → FrOK (FO F Λ σ) (fun _ => none) w tmps E'
 | [], _, t => .j _
 | (u, a) :: E', h, t => by
  simp only [lk]
  split
  ·rename_i e; subst e
   have := (hf u).frz hs h.1.1
   rw [h.1.2] at this; exact this
  ·exact FrzE.ok hs hf h.2 t
theorem Step.frz {F Λ σ w} (hs : St F Λ σ w) : Step 0 F Λ σ w (FO F Λ σ) (fun _ => none) [] w :=
  { os := rfl, tape := rfl, output := rfl, size := Nat.le_refl _, sizes := Sizes.refl _, keep := fun _ _ _ => rfl, mono := fun _ h => .inl h, new := fun b h => h.elim .inl fun h => .inr (.inl h)
    own := fun b hb => hb.empty.elim, len := Nat.zero_le _, boxes := fun l xs hl _ => by simp at hl, kept := fun L b o hL _ => by simp at hL }
section
variable {P : Program} {n : Nat} {K : Exit → Env → Store → Prop} {N : Env → Store → Prop} {E : Env} {σ : Store} {ops : Array Oper} {os : List Oper}
end
section
variable {P : Program} {E : Env} {σ : Store} {o : Oper}
end
end Go.Sep
set_option linter.unusedVariables false
set_option linter.unusedSimpArgs false
namespace Go.Sep
open Go
section
variable {P : Program}
variable {n m : Nat} {N : Env → Store → Prop} {K : Exit → Env → Store → Prop} {E : Env} {σ : Store} {o : Oper} {ops : Array Oper} {os : List Oper}
end
end Go.Sep
set_option linter.unusedVariables false
set_option linter.unusedSimpArgs false
namespace Go.Sep
open Go
theorem Own.one {F Λ σ w} (hs : St F Λ σ w) {l : Nat} {xs : List A} (hr : σ[l]? = some (.row xs)) {b} (h : Own (downL Λ l) [.row xs] b) : Own Λ σ b := by
 obtain ⟨p, zs, o, h1, h2⟩ := Own.down hr h
 exact ⟨_, _, _, h1, h2⟩
theorem Fn.pick {P : Program} {f : Nat} {as : List A} {Q : A → Store → Prop} {r' : A} {xs : List A} (l : Nat) (h : Fn P f as [] Q) (hq : ∀ r σ, Q r σ → σ[l]? = some (.row xs) ∧ r.names (offL l) = false ∧ r.ren (fun _ => 0) = r') :
    Fn P f as [] fun r σ => r = r' ∧ σ = [.row xs] := fun F Λ w vs R hs ha hR => by
  refine h F Λ w vs R hs ha fun F1 Λ1 σ1 w1 v r hs1 hst hv hqr => ?_
  obtain ⟨h1, h2, h3⟩ := hq r σ1 hqr
  refine hR F1 (downL Λ1 l) [.row xs] w1 v r' (hs1.down h1) ?_ ?_ ⟨rfl, rfl⟩
  · exact { os := hst.os, tape := hst.tape, output := hst.output, size := hst.size, sizes := hst.sizes, keep := hst.keep, mono := hst.mono, new := hst.new
            own := fun b hb => hst.own b (Own.one hs1 h1 hb), len := Nat.zero_le _, boxes := fun l xs hl _ => by simp at hl, kept := fun L b o hL _ => by simp at hL }
  · rw [← h3]
    refine hv.ren (offL l) _ (fun L b o hp hL => ?_) h2
    cases L with
    | nil => simp [offL] at hp
    | cons h p => simp [offL] at hp; subst hp; simpa [rh, downL] using hL
section
variable {P : Program} {n m : Nat} {N : Env → Store → Prop} {E : Env} {σ : Store} {o : Oper}
end
section
variable {P : Program} {n m : Nat} {N : Env → Store → Prop} {E : Env} {σ : Store} {o : Oper}
end
end Go.Sep
set_option linter.unusedVariables false
set_option linter.unusedSimpArgs false
namespace Go.Sep
open Go
mutual
def ownR : A → Bool
 | .v x => sc x
 | .n => true
 | .o k ys => decide (0 < k) && ownRL ys
 | .j => false
 | .i _ _ => false
 | .m _ _ _ _ => false
 | .e _ _ => false
 | .b _ _ => false
 | .q _ _ => false
 | .g _ => false
 | .t _ => false
 | .f _ _ => false
def ownRL : List A → Bool
 | [] => true
 | x :: xs => ownR x && ownRL xs
end
theorem ownRL_app {xs ys : List A} (h : ownRL xs = true) (h2 : ownRL ys = true) : ownRL (xs ++ ys) = true := by
 induction xs with
 | nil => exact h2
 | cons x xs ih => simp only [ownRL, Bool.and_eq_true, List.cons_append] at *; exact ⟨h.1, ih h.2⟩
theorem cellAllB_app {xs ys : List A} (h : cellAllB xs = true) (h2 : cellAllB ys = true) : cellAllB (xs ++ ys) = true := by
 simp only [cellAllB, List.all_append, Bool.and_eq_true] at *; exact ⟨h, h2⟩
theorem firmL_app {xs ys : List A} (h : firmL xs = true) (h2 : firmL ys = true) : firmL (xs ++ ys) = true := by
 induction xs with
 | nil => exact h2
 | cons x xs ih => simp only [firmL, Bool.and_eq_true, List.cons_append] at *; exact ⟨h.1, ih h.2⟩
theorem fzL_app (xs ys : List A) : fzL (xs ++ ys) = fzL xs ++ fzL ys := by simp [fzL_map]
structure Ty (α : Type) where
  k : Nat
  enc : α → List A
  own : α → List A
  pos : 0 < k
  len : ∀ x, (enc x).length = k
  lenO : ∀ x, (own x).length = k
  cell : ∀ x, cellAllB (enc x) = true
  loose : ∀ x, looseL (enc x) = true
  firm : ∀ x, firmL (enc x) = true
  fz : ∀ x, fzL (enc x) = enc x
  firmO : ∀ x, firmL (own x) = true
  fzO : ∀ x, fzL (own x) = enc x
  ownR : ∀ x, ownRL (own x) = true
def tI (k : IntKind) : Ty Int := ⟨1, fun z => [.v (.int k z)], fun z => [.v (.int k z)], by decide, fun _ => rfl, fun _ => rfl, fun _ => rfl, fun _ => rfl, fun _ => rfl, fun _ => rfl, fun _ => rfl, fun _ => rfl, fun _ => rfl⟩
abbrev tInt : Ty Int := tI .i64
theorem flat_all {α : Type} {f : α → List A} {p : List A → Prop} (h0 : p []) (ha : ∀ xs ys, p xs → p ys → p (xs ++ ys)) (h : ∀ x, p (f x)) : ∀ xs : List α, p (flat f xs)
 | [] => h0
 | x :: xs => ha _ _ (h x) (flat_all h0 ha h xs)
theorem flat_ownR {α : Type} (T : Ty α) (xs : List α) : ownRL (flat T.own xs) = true := flat_all (p := fun l => ownRL l = true) rfl (fun _ _ => ownRL_app) T.ownR xs
def tP {α β : Type} (T : Ty α) (U : Ty β) : Ty (α × β) :=
  ⟨T.k + U.k, fun x => T.enc x.1 ++ U.enc x.2, fun x => T.own x.1 ++ U.own x.2, Nat.add_pos_left T.pos _, fun x => by simp [T.len, U.len], fun x => by simp [T.lenO, U.lenO],
   fun x => cellAllB_app (T.cell _) (U.cell _), fun x => looseL_app (T.loose _) (U.loose _), fun x => firmL_app (T.firm _) (U.firm _), fun x => by rw [fzL_app, T.fz, U.fz],
   fun x => firmL_app (T.firmO _) (U.firmO _), fun x => by rw [fzL_app, T.fzO, U.fzO], fun x => ownRL_app (T.ownR _) (U.ownR _)⟩
def tAs {α β : Type} (f : β → α) (T : Ty α) : Ty β :=
 ⟨T.k, fun x => T.enc (f x), fun x => T.own (f x), T.pos, fun _ => T.len _, fun _ => T.lenO _, fun _ => T.cell _, fun _ => T.loose _, fun _ => T.firm _, fun _ => T.fz _, fun _ => T.firmO _, fun _ => T.fzO _, fun _ => T.ownR _⟩
def w64 (x : Int) : Int := IntKind.i64.wrap x
theorem w64_eq {x : Int} (h1 : -9223372036854775808 ≤ x) (h2 : x ≤ 9223372036854775807) : w64 x = x := (fits64 h1 h2).symm
def getI {α : Type} (xs : List α) (i : Int) : Option α := if 0 ≤ i then xs[i.toNat]? else none
theorem getI_nat {α : Type} (xs : List α) (n : Nat) : getI xs (n : Int) = xs[n]? := by simp [getI]
theorem getI_lt {α : Type} {xs : List α} {n : Nat} (h : n < xs.length) : getI xs (n : Int) = some xs[n] := by rw [getI_nat]; exact List.getElem?_eq_getElem h
def mk {α : Type} (b : Nat) (n : Int) (z : α) : Option (List α) := if 0 ≤ n ∧ b * n.toNat ≤ 281474976710656 ∧ n ≤ 1099511627776 then some (List.replicate n.toNat z) else none
theorem mk_ok {α : Type} {b k : Nat} {z : α} (h1 : b * k ≤ 281474976710656) (h2 : k ≤ 1099511627776) : mk b (k : Int) z = some (List.replicate k z) := by
 unfold mk; rw [if_pos (by simp; omega)]; simp
theorem bind_inv {α β : Type} {o : Option α} {f : α → Option β} {r : β} (h : o.bind f = some r) : ∃ v, o = some v ∧ f v = some r := by
 cases o with
 | none => cases h
 | some v => exact ⟨v, rfl, h⟩
theorem cond_t {α : Type} {b : Bool} {x y : α} {r : α} (h : b = true) (H : cond b x y = r) : x = r := by subst h; exact H
theorem cond_f {α : Type} {b : Bool} {x y : α} {r : α} (h : b = false) (H : cond b x y = r) : y = r := by subst h; exact H
inductive Ctl (S R : Type) where
  | next (s : S)
  | brk (s : S)
  | ret (r : R)
def whileF {S R : Type} (body : S → Option (Ctl S R)) : Nat → S → Option (S ⊕ R)
 | 0, _ => none
 | k + 1, s => (body s).bind fun c => match c with
  | .next s' => whileF body k s'
  | .brk s' => some (.inl s')
  | .ret r => some (.inr r)
def onS {S R X : Type} (o : S ⊕ R) (K : S → Option X) (L : R → Option X) : Option X := match o with
 | .inl s => K s
 | .inr r => L r
section
variable {α S R : Type} {xs : List α} {i : Nat} {s : S}
def whileK (body : S → Option (Ctl S R)) (k : Nat) : Ctl S R → Option (S ⊕ R)
 | .next s' => whileF body k s'
 | .brk s' => some (.inl s')
 | .ret r => some (.inr r)
theorem while_step {body : S → Option (Ctl S R)} {k : Nat} {o : S ⊕ R} (h : whileF body k s = some o) : ∃ k', k = k' + 1 ∧ ∃ c, body s = some c ∧ whileK body k' c = some o := by
 cases k with
 | zero => cases h
 | succ k =>
  obtain ⟨c, h1, h2⟩ := bind_inv h
  refine ⟨k, rfl, c, h1, ?_⟩
  cases c <;> exact h2
end
section
variable {P : Program} {n m : Nat} {K : Exit → Env → Store → Prop} {N : Env → Store → Prop} {E : Env} {σ : Store} {ops : Array Oper} {os : List Oper} {o : Oper}
end
end Go.Sep
set_option linter.unusedVariables false
set_option linter.unusedSimpArgs false
namespace Go.Sep
open Go
section
variable {P : Program} {E : Env} {σ : Store} {o : Oper}
theorem pur_wadd {t x y t' k} {a b : Int} (h : o.op = .binOp .add t x y t') (hx : val E x = .v (.int k a)) (hy : val E y = .v (.int k b)) : Pur P o E σ (.v (.int k (k.wrap (a + b)))) := pur_add h hx hy rfl
theorem pur_wsub {t x y t' k} {a b : Int} (h : o.op = .binOp .sub t x y t') (hx : val E x = .v (.int k a)) (hy : val E y = .v (.int k b)) : Pur P o E σ (.v (.int k (k.wrap (a - b)))) := pur_sub h hx hy rfl
theorem pur_wmul {t x y t' k} {a b : Int} (h : o.op = .binOp .mul t x y t') (hx : val E x = .v (.int k a)) (hy : val E y = .v (.int k b)) : Pur P o E σ (.v (.int k (k.wrap (a * b)))) := pur_mul h hx hy rfl
theorem pur_wquo {t x y t' k} {a b : Int} (h : o.op = .binOp .quo t x y t') (hx : val E x = .v (.int k a)) (hy : val E y = .v (.int k b)) (h0 : b ≠ 0) : Pur P o E σ (.v (.int k (k.wrap (a.tdiv b)))) := pur_quo h hx hy h0 rfl
theorem pur_wneg {t x k} {a : Int} (h : o.op = .unOp .neg t x) (hx : val E x = .v (.int k a)) : Pur P o E σ (.v (.int k (k.wrap (-a)))) := pur_neg h hx rfl
end
mutual
def LeA : A → A → Prop
 | .n, b => b = .n ∨ (∃ k, b = .i k []) ∨ ∃ L a k, b = .m L a 0 k
 | .g xs, b => ∃ ys, b = .g ys ∧ LeL xs ys
 | .t xs, b => ∃ ys, b = .t ys ∧ LeL xs ys
 | .j, b => b = .j
 | .v x, b => b = .v x
 | .i k xs, b => b = .i k xs
 | .o k xs, b => b = .o k xs
 | .m L a n k, b => b = .m L a n k
 | .e L a, b => b = .e L a
 | .b l a, b => b = .b l a
 | .q xs d, b => b = .q xs d
 | .f f xs, b => b = .f f xs
def LeL : List A → List A → Prop
 | [], bs => bs = []
 | a :: as, bs => ∃ b bs', bs = b :: bs' ∧ LeA a b ∧ LeL as bs'
end
theorem LeL.get {as bs : List A} (h : LeL as bs) : as.length = bs.length ∧ ∀ (j : Nat) a b, as[j]? = some a → bs[j]? = some b → LeA a b := by
 induction as generalizing bs with
 | nil => simp only [LeL] at h; subst h; exact ⟨rfl, by simp⟩
 | cons a as ih =>
  simp only [LeL] at h
  obtain ⟨b, bs', rfl, h1, h2⟩ := h
  obtain ⟨h3, h4⟩ := ih h2
  refine ⟨by simp [h3], fun j x y hx hy => ?_⟩
  cases j with
  | zero => simp at hx hy; subst hx; subst hy; exact h1
  | succ j => exact h4 j x y (by simpa using hx) (by simpa using hy)
theorem LeA.ok {F Λ w} : ∀ (N : Nat) (a b : A), SizeOf.sizeOf a < N → LeA a b → ∀ v, OK F Λ w v a → OK F Λ w v b := by
 intro N
 induction N with
 | zero => intro a b h; exact absurd h (Nat.not_lt_zero _)
 | succ N ih =>
  intro a b hN hl v h
  cases a with
  | n =>
   obtain ⟨ad, rfl⟩ := h.n_inv
   rcases hl with rfl | ⟨k, rfl⟩ | ⟨L, a, k, rfl⟩
   ·exact h
   ·exact .imm (.i0 ad 0 k)
   ·exact .m (.inl ⟨rfl, ad, rfl⟩)
  | g xs =>
   obtain ⟨ys, rfl, h1⟩ := hl
   obtain ⟨vs, rfl, h2, h3⟩ := h.g_inv
   obtain ⟨h4, h5⟩ := h1.get
   refine .g vs ys (h2.trans h4) fun j x y hx hy => ?_
   have hj : j < xs.length := by have := (List.getElem?_eq_some_iff.1 hx).1; omega
   have hs : SizeOf.sizeOf xs[j] < SizeOf.sizeOf xs := List.sizeOf_lt_of_mem (List.getElem_mem hj)
   exact ih xs[j] x (by simp at hN; omega) (h5 j _ _ (List.getElem?_eq_getElem hj) hx) y (h3 j _ y (List.getElem?_eq_getElem hj) hy)
  | t xs =>
   obtain ⟨ys, rfl, h1⟩ := hl
   obtain ⟨vs, rfl, h2, h3⟩ := h.t_inv
   obtain ⟨h4, h5⟩ := h1.get
   refine .t vs ys (h2.trans h4) fun j x y hx hy => ?_
   have hj : j < xs.length := by have := (List.getElem?_eq_some_iff.1 hx).1; omega
   have hs : SizeOf.sizeOf xs[j] < SizeOf.sizeOf xs := List.sizeOf_lt_of_mem (List.getElem_mem hj)
   exact ih xs[j] x (by simp at hN; omega) (h5 j _ _ (List.getElem?_eq_getElem hj) hx) y (h3 j _ y (List.getElem?_eq_getElem hj) hy)
  | _ => cases hl; exact h
theorem OK.le {F Λ w v a b} (h : OK F Λ w v a) (hl : LeA a b) : OK F Λ w v b := LeA.ok _ a b (Nat.lt_succ_self _) hl v h
mutual
theorem LeA.rfl' : ∀ (a : A), LeA a a
 | .n => .inl rfl
 | .g xs => ⟨xs, rfl, LeL.rfl' xs⟩
 | .t xs => ⟨xs, rfl, LeL.rfl' xs⟩
 | .j => rfl
 | .v _ => rfl
 | .i _ _ => rfl
 | .o _ _ => rfl
 | .m _ _ _ _ => rfl
 | .e _ _ => rfl
 | .b _ _ => rfl
 | .q _ _ => rfl
 | .f _ _ => rfl
theorem LeL.rfl' : ∀ (as : List A), LeL as as
 | [] => rfl
 | a :: as => ⟨a, as, rfl, LeA.rfl' a, LeL.rfl' as⟩
end
theorem leR {a b : A} (h : a = b) : LeA a b := h ▸ LeA.rfl' a
section
variable {P : Program} {n m : Nat} {K : Exit → Env → Store → Prop} {N : Env → Store → Prop} {E : Env} {σ : Store} {ops : Array Oper} {os : List Oper} {o : Oper}
theorem CallOp.le {g : Nat} {as bs : List A} (h : CallOp P o E g as) (hl : LeL as bs) : CallOp P o E g bs := fun F Λ w tmps hf => by
 obtain ⟨vs, ⟨h1, h2⟩, h3⟩ := h F Λ w tmps hf
 obtain ⟨h4, h5⟩ := hl.get
 refine ⟨vs, ⟨h1.trans h4, fun j y v hy hv => ?_⟩, h3⟩
 have hj : j < as.length := by have := (List.getElem?_eq_some_iff.1 hy).1; omega
 exact (h2 j _ v (List.getElem?_eq_getElem hj) hv).le (h5 j _ _ (List.getElem?_eq_getElem hj) hy)
def PkL (E : Env) : Env → Prop
 | [] => True
 | (t, a) :: E' => LeA (lk E t) a ∧ PkL E E'
theorem PkL.fr {F Λ w tmps} (hf : FrOK F Λ w tmps E) : ∀ {E' : Env}, PkL E E' → FrOK F Λ w tmps E'
 | [], _ => fun t => .j _
 | (u, a) :: E', h => fun t => by
  simp only [lk]
  split
  ·rename_i e; subst e; exact (hf u).le h.1
  ·exact PkL.fr hf h.2 t
theorem TO_st {σ' : Store} (hσ : σ = σ') (h : TO P n m ops os N E σ') : TO P n m ops os N E σ := hσ ▸ h
end
def WeakL (m : Nat) (E : Env) (σ : Store) (E' : Env) (σ' : Store) : Prop := PkL E E' ∧ Weak m E' σ E' σ'
theorem WeakL.go {m E σ E' σ' F Λ w tmps} (h : WeakL m E σ E' σ') (hs : St F Λ σ w) (hf : FrOK F Λ w tmps E) : ∃ Λ', St F Λ' σ' w ∧ FrOK F Λ' w tmps E' ∧ Step m F Λ σ w F Λ' σ' w := h.2.go hs (h.1.fr hf)
def ascE : Env → Bool
 | [] => true
 | (t, _) :: E => ascE E && E.all fun p => decide (t < p.1)
theorem asc_lk : ∀ {E : Env}, ascE E = true → ∀ p ∈ E, lk E p.1 = p.2
 | [], _, p, h => by cases h
 | (t, a) :: E, hs, p, h => by
  simp only [ascE, Bool.and_eq_true, List.all_eq_true, decide_eq_true_eq] at hs
  rcases List.mem_cons.1 h with rfl | h
  ·simp [lk]
  ·have := hs.2 p h
   simp only [lk]; rw [if_neg (by omega)]; exact asc_lk hs.1 p h
theorem WeakL.to {m E σ E' σ'} (k : Nat) (hm : m ≤ k) (ha : ascE E' = true) (hσ : σ' = σ.take k) (h1 : namesE k E' = false) (h2 : boxesE k σ' = false) (hE : PkL E E') : WeakL m E σ E' σ' :=
 ⟨hE, asc_lk ha, k, hm, hσ, namesE_all h1, boxesE_all h2⟩
section
variable {P : Program} {n m : Nat} {K : Exit → Env → Store → Prop} {N : Env → Store → Prop} {E : Env} {σ : Store} {ops : Array Oper} {os : List Oper} {o : Oper}
theorem T_weakL {c : Code} {E' σ'} (hw : WeakL m E σ E' σ') (h : T P n m c K E' σ') : T P n m c K E σ := fun F Λ w tmps Q hn hs hf hq => by
 obtain ⟨Λ', hs', hf', hst⟩ := hw.go hs hf
 exact h F Λ' w tmps Q hn hs' hf' fun e F2 Λ2 σ2 w2 tmps2 E2 hn2 hs2 hf2 hst2 hK => hq e F2 Λ2 σ2 w2 tmps2 E2 hn2 hs2 hf2 (hst.trans hst2) hK
theorem T_loopX {c : Code} {X : Type} (φ : Nat → X → Prop) (Ex : X → Env) (σx : X → Store) (k0 : Nat) (x0 : X) (hw : WeakL m E σ (Ex x0) (σx x0)) (h0 : φ k0 x0)
  (h : ∀ k x, φ k x → T P n m c (thenK (fun E' σ' => ∃ k' x', k' < k ∧ WeakL m E' σ' (Ex x') (σx x') ∧ φ k' x') K) (Ex x) (σx x)) : T P n m (.loop c) K E σ := T_weakL hw fun F Λ w tmps Q hn hs hf hq => by
 refine wp_loop_ghost (fun k a w' => ∃ F' Λ' tmps' x, a = ⟨tmps', []⟩ ∧ tmps'.size = n ∧ St F' Λ' (σx x) w' ∧ FrOK F' Λ' w' tmps' (Ex x) ∧ Step m F Λ (σx x0) w F' Λ' (σx x) w' ∧ φ k x) k0 ⟨F, Λ, tmps, x0, rfl, hn, hs, hf, .refl .., h0⟩ ?_
 rintro k a w1 ⟨F1, Λ1, tmps1, x1, rfl, hn1, hs1, hf1, hst1, hI⟩
 refine h k x1 hI F1 Λ1 w1 tmps1 _ hn1 hs1 hf1 fun e F2 Λ2 σ2 w2 tmps2 E2 hn2 hs2 hf2 hst2 hK => ?_
 cases e with
 | normal =>
  obtain ⟨k', x', hk, hw3, hI3⟩ := hK
  obtain ⟨Λ3, hs3, hf3, hst3⟩ := hw3.go hs2 hf2
  exact ⟨k', hk, F2, Λ3, tmps2, x', rfl, hn2, hs3, hf3, (hst1.trans hst2).trans hst3, hI3⟩
 | _ => exact hq _ F2 Λ2 σ2 w2 tmps2 E2 hn2 hs2 hf2 (hst1.trans hst2) hK
theorem again {X : Type} {φ : Nat → X → Prop} {Ex : X → Env} {σx : X → Store} {k : Nat} (k' : Nat) (x' : X) (hk : k' < k) (hw : WeakL m E σ (Ex x') (σx x')) (h : φ k' x') : ∃ k' x', k' < k ∧ WeakL m E σ (Ex x') (σx x') ∧ φ k' x' := ⟨k', x', hk, hw, h⟩
theorem T_cutX {a b : Code} {X : Type} (φ : X → Prop) (Ex : X → Env) (σx : X → Store) (h : T P n m a (thenK (fun E' σ' => ∃ x, WeakL m E' σ' (Ex x) (σx x) ∧ φ x) K) E σ)
  (h2 : ∀ x, φ x → T P n m b K (Ex x) (σx x)) : T P n m (.seq a b) K E σ :=
 T_cut (fun E' σ' => ∃ x, WeakL m E' σ' (Ex x) (σx x) ∧ φ x) h fun E' σ' ⟨x, h3, h4⟩ => T_weakL h3 (h2 x h4)
theorem joined {X : Type} {φ : X → Prop} {Ex : X → Env} {σx : X → Store} (x : X) (hw : WeakL m E σ (Ex x) (σx x)) (h : φ x) : ∃ x, WeakL m E σ (Ex x) (σx x) ∧ φ x := ⟨x, hw, h⟩
end
theorem some_inj {α : Type} {a b : α} (h : some a = some b) : a = b := Option.some.inj h
theorem onS_l {S R X : Type} {s : S} {K : S → Option X} {L : R → Option X} {r} (h : onS (.inl s) K L = r) : K s = r := h
theorem gen_whileF {S R : Type} {b : S → Option (Ctl S R)} {k s o} (h : whileF b k s = some o) : ∃ c, c = b ∧ whileF c k s = some o := ⟨b, rfl, h⟩
section
variable {P : Program} {n m : Nat} {N : Env → Store → Prop} {E : Env} {σ : Store} {o : Oper} {ops : Array Oper} {os : List Oper}
end
theorem ownRL_mem {xs : List A} (h : ownRL xs = true) : ∀ x ∈ xs, ownR x = true := by
 induction xs with
 | nil => simp
 | cons y ys ih =>
  simp only [ownRL, Bool.and_eq_true] at h
  intro x hx
  rcases List.mem_cons.1 hx with rfl | hx
  ·exact h.1
  ·exact ih h.2 x hx
end Go.Sep
set_option linter.unusedVariables false
set_option linter.unusedSimpArgs false
namespace Go.Sep
open Go
def hd (l : Nat) (L : List Nat) : Bool := match L with
 | [] => false
 | h :: _ => h == l
def dropL (l : Nat) (Λ : Lbl) : Lbl := fun L => if hd l L = true then none else Λ L
theorem dropL_ok {l : Nat} {Λ : Lbl} : ∀ L b o, hd l L = false → Λ L = some (b, o) → dropL l Λ L = some (b, o) := fun L b o h hL => by simp [dropL, h, hL]
abbrev F1 (F : Nat → Prop) (Λ : Lbl) (l : Nat) (xs : List A) : Nat → Prop := FO F (downL Λ l) [.row xs]
section
variable {F : Nat → Prop} {Λ : Lbl} {σ : Store} {w : World} {l : Nat} {xs : List A}
theorem F1_mono : ∀ b, F b → F1 F Λ l xs b ∧ w.heap[b]? = w.heap[b]? := fun b hb => ⟨.inl hb, rfl⟩
inductive Fz1 (l : Nat) (xs : List A) : A → A → Prop
  | keep {a} : a.names (hd l) = false → Fz1 l xs a a
  | m {n k a0 a} : frzOK [.row xs] (.m [0] a0 n k) → fzR [.row xs] (.m [0] a0 n k) = a → Fz1 l xs (.m [l] a0 n k) a
  | g {as bs : List A} : as.length = bs.length → (∀ (j : Nat) a b, as[j]? = some a → bs[j]? = some b → Fz1 l xs a b) → Fz1 l xs (.g as) (.g bs)
def FzLs (l : Nat) (xs : List A) : List A → List A → Prop
 | [], [] => True
 | a :: as, b :: bs => Fz1 l xs a b ∧ FzLs l xs as bs
 | _, _ => False
theorem FzLs.get {l : Nat} {xs : List A} : ∀ {as bs : List A}, FzLs l xs as bs → as.length = bs.length ∧ ∀ (j : Nat) a b, as[j]? = some a → bs[j]? = some b → Fz1 l xs a b
 | [], [], _ => ⟨rfl, by simp⟩
 | [], _ :: _, h => h.elim
 | _ :: _, [], h => h.elim
 | a :: as, b :: bs, ⟨h, hs⟩ => by
  obtain ⟨h1, h2⟩ := FzLs.get hs
  refine ⟨by simp [h1], fun j x y hx hy => ?_⟩
  cases j with
  | zero => simp at hx hy; subst hx; subst hy; exact h
  | succ j => exact h2 j x y (by simpa using hx) (by simpa using hy)
theorem OK.fz1 (hs : St F Λ σ w) (hr : σ[l]? = some (.row xs)) {a b : A} (hz : Fz1 l xs a b) : ∀ {v}, OK F Λ w v a → OK (F1 F Λ l xs) (dropL l Λ) w v b := by
 induction hz with
 | keep hn => exact fun h => (h.mono F1_mono (Sizes.refl w)).relabel (hd l) dropL_ok hn
 | @m n k a0 a h1 h2 =>
  intro v h
  have h3 : OK F (downL Λ l) w v (.m [0] a0 n k) := by
   refine .m ?_
   rcases h.m_inv with h | ⟨b, o, cap, h4, h5⟩
   ·exact .inl h
   ·exact .inr ⟨b, o, cap, by simpa [downL] using h4, h5⟩
  have h4 := h3.frz (hs.down hr) h1
  rw [h2] at h4
  have : a.loose = true := by rw [← h2]; rfl
  exact h4.free this
 | g hl _ ih =>
  intro v h
  obtain ⟨vs, rfl, h1, h2⟩ := h.g_inv
  refine .g vs _ (h1.trans hl) fun j x y hx hy => ?_
  rename_i as bs _
  have hj : j < as.length := by have := (List.getElem?_eq_some_iff.1 hx).1; omega
  exact ih j _ x (List.getElem?_eq_getElem hj) hx (h2 j _ y (List.getElem?_eq_getElem hj) hy)
def FzE (l : Nat) (xs : List A) (E : Env) : Env → Prop
 | [] => True
 | (t, a) :: E' => Fz1 l xs (lk E t) a ∧ FzE l xs E E'
theorem FzE.fr (hs : St F Λ σ w) (hr : σ[l]? = some (.row xs)) {E tmps} (hf : FrOK F Λ w tmps E) : ∀ {E' : Env}, FzE l xs E E' → FrOK (F1 F Λ l xs) (dropL l Λ) w tmps E'
 | [], _ => fun t => .j _
 | (u, a) :: E', h => fun t => by
  simp only [lk]
  split
  ·rename_i e; subst e; exact OK.fz1 hs hr h.1 (hf u)
  ·exact FzE.fr hs hr hf h.2 t
end
section
variable {P : Program} {n m : Nat} {K : Exit → Env → Store → Prop} {N : Env → Store → Prop} {E : Env} {σ : Store} {ops : Array Oper} {os : List Oper} {o : Oper}
end
def FnO (P : Program) (f : Nat) (as : List A) (r : A) (σ0 : Store) : Prop := Fn P f as [] fun r' σ => r' = r ∧ σ = σ0
def pickS (σ : Store) (ls : List Nat) : List (Option Root) := ls.map fun l => σ[l]?
def ixOf (ls : List Nat) (h : Nat) : Nat := ls.findIdx (· == h)
def inL (ls : List Nat) (L : List Nat) : Bool := match L with
 | [] => false
 | h :: _ => ls.contains h
def pickL (Λ : Lbl) (ls : List Nat) : Lbl := fun L => match L with
 | [] => none
 | h :: p => match ls[h]? with
  | some l => Λ (l :: p)
  | none => none
theorem rowAt_pick {σ σ0 : Store} {ls : List Nat} (h : pickS σ ls = σ0.map some) {L xs} (hr : rowAt σ0 L = some xs) : ∃ h p l, L = h :: p ∧ ls[h]? = some l ∧ rowAt σ (l :: p) = some xs ∧ σ0[h]? = σ[l]? := by
 cases L with
 | nil => simp [rowAt] at hr
 | cons h0 p =>
  have hlen : ls.length = σ0.length := by have := congrArg List.length h; simpa [pickS] using this
  simp only [rowAt] at hr
  cases hr0 : σ0[h0]? with
  | none => rw [hr0] at hr; cases hr
  | some r =>
   have hlt : h0 < σ0.length := (List.getElem?_eq_some_iff.1 hr0).1
   have h1 := congrArg (fun l => l[h0]?) h
   simp only [pickS, List.getElem?_map, hr0, Option.map_some] at h1
   rw [List.getElem?_eq_getElem (by omega)] at h1
   simp only [Option.map_some, Option.some.injEq] at h1
   refine ⟨h0, p, ls[h0], rfl, List.getElem?_eq_getElem (by omega), ?_, by rw [h1]; exact hr0⟩
   simp only [rowAt, h1]
   rw [hr0] at hr; exact hr
theorem St.pick {F Λ σ w} (hs : St F Λ σ w) {ls : List Nat} {σ0 : Store} (hnd : ls.Nodup) (h : pickS σ ls = σ0.map some) (hR : isRows σ0 = true) : St F (pickL Λ ls) σ0 w where
 row L xs hr := by
  obtain ⟨h0, p, l, rfl, h1, h2, h3⟩ := rowAt_pick h hr
  have e : pickL Λ ls (h0 :: p) = Λ (l :: p) := by simp [pickL, h1]
  rw [e, isBox_rows hR]
  have hb : isBox σ (l :: p) = false := by
   cases p with
   | cons j p => rfl
   | nil =>
    simp only [isBox, ← h3]
    cases hr0 : σ0[h0]? with
    | none => rfl
    | some r =>
     simp only [isRows, List.all_eq_true] at hR
     have := hR r (List.mem_of_getElem? hr0)
     cases r <;> simp_all
  refine (hs.row _ _ h2).imp id fun ⟨b, o, cs, t, g1, g2, g3, g4⟩ => ⟨b, o, cs, t, g1, g2, g3, fun j x hj => (g4 j x hj).imp fun c hc => ⟨hc.1, ?_⟩⟩
  have h5 := hc.2
  rw [hb] at h5
  exact h5.unbox fun a n k v hv => hv.imp id fun ⟨b, o, cap, k1, k2⟩ => ⟨b, o, cap, by simpa [pickL, h1] using k1, k2⟩
 apart L xs L' xs' b o o' hr hr' h3 h4 := by
  obtain ⟨h0, p, l, rfl, g1, g2, _⟩ := rowAt_pick h hr
  obtain ⟨h0', p', l', rfl, g1', g2', _⟩ := rowAt_pick h hr'
  have := hs.apart _ _ _ _ _ _ _ g2 g2' (by simpa [pickL, g1] using h3) (by simpa [pickL, g1'] using h4)
  simp only [List.cons.injEq] at this
  obtain ⟨rfl, rfl⟩ := this
  have e1 := List.getElem?_eq_some_iff.1 g1
  have e2 := List.getElem?_eq_some_iff.1 g1'
  have : h0 = h0' := by
   rcases Nat.lt_trichotomy h0 h0' with g | g | g
   ·exact absurd (e1.2.trans e2.2.symm) (List.pairwise_iff_getElem.1 hnd h0 h0' e1.1 e2.1 g)
   ·exact g
   ·exact absurd (e2.2.trans e1.2.symm) (List.pairwise_iff_getElem.1 hnd h0' h0 e2.1 e1.1 g)
  rw [this]
 old := hs.old
 tab := hs.tab
 lab L hL := by
  have hlen : ls.length = σ0.length := by have := congrArg List.length h; simpa [pickS] using this
  cases L with
  | nil => rfl
  | cons h0 p => simp only [List.headD_cons] at hL; simp [pickL, List.getElem?_eq_none (show ls.length ≤ h0 by omega)]
theorem ixOf_get {ls : List Nat} (hnd : ls.Nodup) {h : Nat} (hm : ls.contains h = true) : ls[ixOf ls h]? = some h := by
 have hm' : h ∈ ls := by simpa using hm
 have hlt : ixOf ls h < ls.length := List.findIdx_lt_length_of_exists ⟨h, hm', by simp⟩
 rw [List.getElem?_eq_getElem hlt]
 have := List.findIdx_getElem (p := (· == h)) (xs := ls) (w := hlt)
 simp at this
 rw [show ls[ixOf ls h] = h from this]
theorem FnO.frz {P f as r σ0 r'} (h : FnO P f as r σ0) (hq : frzOK σ0 r ∧ fzR σ0 r = r') : FnV P f as r' := Sep.Fn.frz h fun r1 σ1 h1 => by obtain ⟨rfl, rfl⟩ := h1; exact hq
end Go.Sep

/- How the arguments of a call are read as cells, and what a call of a law says to its row. -/
import Derived.Test.YtlcpdlngbofgcaaCI
import Derived.WalkKit
import Derived.ProofKit
import Derived.OpenShut
import Derived.ShutString
import Derived.ChangeOld
import Derived.Below
import Derived.SizedLaws
set_option linter.unusedVariables false
set_option linter.unusedSimpArgs false
namespace Go.Sep
open Go

/-- Whatever is read at type t: the cells of some y. -/
structure RdT (P : Program) (t k : Nat) {α : Type} (f : α → List A) (p : α → Prop) : Prop where
  size : P.cellsOf t = k
  rd : ∀ {H : Type} (enc : TypeId × Value → H) (w : World) (base : Nat) (spare : Nat → Bool) (held : Bool) (fuel : Nat) (cs : List Value) (x : DataW H × List MemPlace), DataW.trod enc P w base spare held fuel t cs = some x →
    ∃ y : α, p y ∧ cs.length = k ∧ (f y).length = k ∧ ∀ (j : Nat) c a, cs[j]? = some c → (f y)[j]? = some a → Imm (fun b => b < w.heap.size) w c a
theorem RdT.map {P : Program} {t k : Nat} {α β : Type} {f : α → List A} {p : α → Prop} {g : β → List A} {q : β → Prop} (h : RdT P t k f p) (φ : α → β) (hq : ∀ y, p y → q (φ y) ∧ f y = g (φ y)) : RdT P t k g q :=
  ⟨h.size, fun enc w base spare held fuel cs x hx => by
    obtain ⟨y, h1, h2, h3, h4⟩ := h.rd enc w base spare held fuel cs x hx
    obtain ⟨h5, h6⟩ := hq y h1
    exact ⟨φ y, h5, h2, by rw [← h6]; exact h3, by rw [← h6]; exact h4⟩⟩
theorem one_cell {F : Nat → Prop} {w : World} {v : Value} {a : A} (h : Imm F w v a) : ∀ (j : Nat) c b, [v][j]? = some c → [a][j]? = some b → Imm F w c b := fun j c b hc hb => by
  match j, hc, hb with
  | 0, hc, hb => simp at hc hb; subst hc; subst hb; exact h
  | j + 1, hc, _ => simp at hc
theorem rd_int {P : Program} {t : Nat} (ht : P.underlying t = some (.int .i64)) (hs : P.cellsOf t = 1) : RdT P t 1 (fun z => [intA z]) (fun z => -9223372036854775808 ≤ z ∧ z ≤ 9223372036854775807) :=
  ⟨hs, fun enc w base spare held fuel cs x hx => by
    obtain ⟨n, rfl, _, hw⟩ := DataW.trod_int ht hx
    refine ⟨n, ?_, rfl, rfl, one_cell (.v _)⟩
    have h1 : IntKind.i64.max = 9223372036854775807 := rfl
    have h2 : IntKind.i64.min = -9223372036854775808 := rfl
    simp only [Lit.wf, Bool.and_eq_true, decide_eq_true_eq] at hw
    omega⟩
theorem rd_bool {P : Program} {t : Nat} (ht : P.underlying t = some .bool) (hs : P.cellsOf t = 1) : RdT P t 1 (fun z => [boolA z]) (fun _ => True) :=
  ⟨hs, fun enc w base spare held fuel cs x hx => by
    obtain ⟨n, rfl, _⟩ := DataW.trod_bool ht hx
    exact ⟨n, trivial, rfl, rfl, one_cell (.v _)⟩⟩
theorem rd_str {P : Program} {t : Nat} (ht : P.underlying t = some .string) (hs : P.cellsOf t = 1) : RdT P t 1 (fun z => [strA z]) (fun s => s.size ≤ 9223372036854775807) :=
  ⟨hs, fun enc w base spare held fuel cs x hx => by
    obtain ⟨n, rfl, _, h⟩ := DataW.trod_string ht hx
    exact ⟨n, h, rfl, rfl, one_cell (.v _)⟩⟩
theorem exists_list {α : Type} {Q : Nat → α → Prop} : ∀ (n : Nat), (∀ i, i < n → ∃ y, Q i y) → ∃ ys : List α, ys.length = n ∧ ∀ i y, ys[i]? = some y → Q i y
  | 0, _ => ⟨[], rfl, fun i y h => by simp at h⟩
  | n + 1, h => by
    obtain ⟨ys, h1, h2⟩ := exists_list n fun i hi => h i (by omega)
    obtain ⟨y, hy⟩ := h n (by omega)
    refine ⟨ys ++ [y], by simp [h1], fun i z hz => ?_⟩
    by_cases e : i < n
    · rw [List.getElem?_append_left (by omega)] at hz; exact h2 i z hz
    · have hl := (List.getElem?_eq_some_iff.1 hz).1
      simp at hl
      have : i = n := by omega
      subst this
      rw [List.getElem?_append_right (by omega)] at hz
      simp [h1] at hz; subst hz; exact hy
theorem flat_at {α : Type} {f : α → List A} {k : Nat} (hk : 0 < k) : ∀ (ys : List α) (_ : ∀ y ∈ ys, (f y).length = k) (j : Nat) (x : A), (flat f ys)[j]? = some x → ∃ y, ys[j / k]? = some y ∧ (f y)[j % k]? = some x
  | [], _, j, x, h => by simp [flat] at h
  | y :: ys, hf, j, x, h => by
    have hy := hf y (by simp)
    simp only [flat] at h
    by_cases e : j < k
    · rw [List.getElem?_append_left (by omega)] at h
      exact ⟨y, by rw [Nat.div_eq_of_lt e]; rfl, by rw [Nat.mod_eq_of_lt e]; exact h⟩
    · rw [List.getElem?_append_right (by omega), hy] at h
      obtain ⟨z, h1, h2⟩ := flat_at hk ys (fun y hy => hf y (by simp [hy])) (j - k) x h
      have e1 : j / k = (j - k) / k + 1 := by rw [Nat.div_eq_sub_div hk (by omega)]
      have e2 : j % k = (j - k) % k := Nat.mod_eq_sub_mod (by omega)
      exact ⟨z, by rw [e1]; exact h1, by rw [e2]; exact h2⟩
theorem flat_len' {α : Type} {f : α → List A} {k : Nat} : ∀ (ys : List α) (_ : ∀ y ∈ ys, (f y).length = k), (flat f ys).length = ys.length * k
  | [], _ => by simp [flat]
  | y :: ys, h => by
    simp only [flat, List.length_append, List.length_cons, h y (by simp), flat_len' ys (fun y hy => h y (by simp [hy])), Nat.succ_mul]; omega
theorem rd_slice {P : Program} {t e k : Nat} {α : Type} {f : α → List A} {p : α → Prop} (ht : P.underlying t = some (.slice e)) (hs : P.cellsOf t = 1) (hk : 0 < k) (h : RdT P e k f p) :
    RdT P t 1 (fun ys : List α => [.i k (flat f ys)]) (fun ys => ys.length ≤ 9223372036854775807 ∧ ∀ y ∈ ys, p y) :=
  ⟨hs, fun enc w base spare held fuel cs x hx => by
    rcases DataW.trod_slice ht hx with ⟨rfl, _⟩ | ⟨a, len, cap, elems, rest, n, _, rfl, _, hb, hl, hm, hlen, hel, _, _⟩
    · exact ⟨[], ⟨by simp, by simp⟩, rfl, rfl, one_cell (.i0 _ _ _)⟩
    have hb1 : ∀ i, i < len → ∃ y, p y ∧ (f y).length = k ∧ ∀ j, j < k → ∃ c, w.cell? (a.add (i * k + j)) = some c ∧ ∀ z, (f y)[j]? = some z → Imm (fun b => b < w.heap.size) w c z := fun i hi => by
      have h1 := hel i hi
      rw [h.size] at h1
      have h2 : elems[i]? = some (elems[i]'(by omega)) := List.getElem?_eq_getElem _
      rw [h2, Option.bind_eq_some_iff] at h1
      obtain ⟨cs, hcs, hy⟩ := h1
      obtain ⟨_, hl2, hcell⟩ := World.cells?_some hcs
      obtain ⟨y, hp, _, hfl, him⟩ := h.rd enc w base spare held n cs _ hy
      refine ⟨y, hp, hfl, fun j hj => ?_⟩
      have h3 := hcell j hj
      have h4 : cs[j]? = some (cs[j]'(by omega)) := List.getElem?_eq_getElem _
      refine ⟨cs[j]'(by omega), ?_, fun z hz => him j _ z h4 hz⟩
      rw [← h4, ← h3]
      congr 1
      unfold Addr.add
      by_cases e1 : i * k = 0
      · simp [e1]
      · by_cases e2 : j = 0
        · simp [e1, e2]
        · have : i * k + j ≠ 0 := by omega
          simp [e1, e2, this, Nat.add_assoc]
    obtain ⟨ys, hyl, hys⟩ := exists_list len hb1
    have hfk : ∀ y ∈ ys, (f y).length = k := fun y hy => by
      obtain ⟨i, hi⟩ := List.getElem?_of_mem hy
      exact (hys i y hi).2.1
    have hml : ys.length ≤ 9223372036854775807 := by rw [hyl]; unfold maxLen at hm; omega
    refine ⟨ys, ⟨hml, fun y hy => ?_⟩, rfl, rfl, one_cell ?_⟩
    · obtain ⟨i, hi⟩ := List.getElem?_of_mem hy
      exact (hys i y hi).1
    · by_cases hn : len = 0
      · have : ys = [] := List.eq_nil_of_length_eq_zero (by omega)
        subst this; subst hn
        exact .i0 _ _ _
      · obtain ⟨bk, of, sp⟩ := a
        have hc0 : ∃ c, w.cell? ⟨bk, of, sp⟩ = some c := by
          have h0 : ys[0]? = some (ys[0]'(by omega)) := List.getElem?_eq_getElem _
          obtain ⟨c, hc, _⟩ := (hys 0 _ h0).2.2 0 hk
          exact ⟨c, by simpa [Addr.add] using hc⟩
        obtain ⟨c0, hc0⟩ := hc0
        have hsp : sp = none := by
          cases sp with
          | none => rfl
          | some q =>
            exfalso
            unfold World.cell? at hc0
            split at hc0 <;> simp at hc0
        subst hsp
        have hblk : bk < w.heap.size := by
          unfold World.cell? at hc0
          split at hc0
          · rename_i h9
            exact (Array.getElem?_eq_some_iff.1 h9).1
          · simp at hc0
        have hadd : ∀ q, (⟨bk, of, none⟩ : Addr).add q = ⟨bk, of + q, none⟩ := addr_add bk of
        have key : ∀ j z, (flat f ys)[j]? = some z → ∃ c, w.cell? ⟨bk, of + j, none⟩ = some c ∧ Imm (fun b => b < w.heap.size) w c z := fun j z hz => by
          obtain ⟨y, hy, hz'⟩ := flat_at hk ys hfk j z hz
          obtain ⟨c, hc, him⟩ := (hys _ y hy).2.2 (j % k) (Nat.mod_lt _ hk)
          rw [hadd, Nat.div_add_mod'] at hc
          exact ⟨c, hc, him z hz'⟩
        refine .i bk of len cap k (fun j => (w.cell? ⟨bk, of + j, none⟩).getD undef) _ hblk (by omega) (by omega) (by omega) (by rw [flat_len' ys hfk, hyl]) (fun j z hz => ?_) (fun j z hz => ?_)
        · obtain ⟨c, hc, _⟩ := key j z hz; rw [hc]; rfl
        · obtain ⟨c, hc, him⟩ := key j z hz; simp only [hc, Option.getD_some]; exact him⟩
theorem rd_ints {P : Program} {t e : Nat} (ht : P.underlying t = some (.slice e)) (hs : P.cellsOf t = 1) (he : P.underlying e = some (.int .i64)) (hes : P.cellsOf e = 1) :
    RdT P t 1 (fun ys => [.i 1 (ints ys)]) (fun ys => ys.length ≤ 9223372036854775807 ∧ ∀ y ∈ ys, -9223372036854775808 ≤ y ∧ y ≤ 9223372036854775807) :=
  (rd_slice ht hs (by decide) (rd_int he hes)).map id fun y hy => ⟨hy, by
    have : ∀ zs : List Int, flat (fun z => [intA z]) zs = ints zs := fun zs => by
      induction zs with
      | nil => rfl
      | cons z zs ih => simp [flat, ih, ints]
    rw [this]; rfl⟩
/-- The fields of a struct, from offset o on. -/
def RdFs (P : Program) (fs : List Field) (o k : Nat) {α : Type} (f : α → List A) (p : α → Prop) : Prop :=
  ∀ {H : Type} (enc : TypeId × Value → H) (w : World) (base : Nat) (spare : Nat → Bool) (held : Bool) (n : Nat) (cs : List Value) (xs : List (DataW H × List MemPlace)), xs.length = fs.length → o + k ≤ cs.length →
    (∀ (i : Nat) (fl : Field), fs[i]? = some fl → DataW.trod enc P w base spare held n fl.type ((cs.drop fl.offset).take (P.cellsOf fl.type)) = xs[i]?) →
    ∃ y : α, p y ∧ (f y).length = k ∧ ∀ (j : Nat) c a, cs[o + j]? = some c → (f y)[j]? = some a → Imm (fun b => b < w.heap.size) w c a
theorem rf_one {P : Program} {o k : Nat} {fl : Field} {α : Type} {f : α → List A} {p : α → Prop} (ho : fl.offset = o) (h : RdT P fl.type k f p) : RdFs P [fl] o k f p :=
  fun enc w base spare held n cs xs hx hl ht => by
    have h0 := ht 0 fl rfl
    have hx0 : xs[0]? = some (xs[0]'(by simp at hx; omega)) := List.getElem?_eq_getElem _
    rw [hx0] at h0
    obtain ⟨y, hp, h1, h2, h3⟩ := h.rd enc w base spare held n _ _ h0
    refine ⟨y, hp, h2, fun j c a hc ha => h3 j c a ?_ ha⟩
    have hj : j < k := by have := (List.getElem?_eq_some_iff.1 ha).1; omega
    rw [h.size, List.getElem?_take_of_lt hj, List.getElem?_drop, ho]
    exact hc
theorem rf_cons {P : Program} {o k1 k2 : Nat} {fl : Field} {fs : List Field} {α β : Type} {f : α → List A} {p : α → Prop} {g : β → List A} {q : β → Prop} (ho : fl.offset = o) (h : RdT P fl.type k1 f p) (hs : RdFs P fs (o + k1) k2 g q) :
    RdFs P (fl :: fs) o (k1 + k2) (fun y : α × β => f y.1 ++ g y.2) (fun y => p y.1 ∧ q y.2) :=
  fun enc w base spare held n cs xs hx hl ht => by
    cases xs with
    | nil => simp at hx
    | cons x xs =>
      have h0 := ht 0 fl rfl
      obtain ⟨y, hp, h1, h2, h3⟩ := h.rd enc w base spare held n _ x h0
      obtain ⟨z, hq, h4, h5⟩ := hs enc w base spare held n cs xs (by simpa using hx) (by omega) fun i fl hi => by simpa using ht (i + 1) fl (by simpa using hi)
      refine ⟨(y, z), ⟨hp, hq⟩, by simp [h2, h4], fun j c a hc ha => ?_⟩
      by_cases hj : j < k1
      · simp only [List.getElem?_append_left (show j < (f y).length by omega)] at ha
        refine h3 j c a ?_ ha
        rw [h.size, List.getElem?_take_of_lt hj, List.getElem?_drop, ho]
        exact hc
      · simp only [List.getElem?_append_right (show (f y).length ≤ j by omega), h2] at ha
        exact h5 (j - k1) c a (by rw [show o + k1 + (j - k1) = o + j by omega]; exact hc) ha
theorem rd_struct {P : Program} {t k : Nat} {fs : List Field} {α : Type} {f : α → List A} {p : α → Prop} (ht : P.underlying t = some (.struct fs.toArray)) (hs : P.cellsOf t = k) (h : RdFs P fs 0 k f p) : RdT P t k f p :=
  ⟨hs, fun enc w base spare held fuel cs x hx => by
    obtain ⟨xs, n, _, _, hl, hxl, hf⟩ := DataW.trod_struct ht hx
    obtain ⟨y, h1, h2, h3⟩ := h enc w base spare held n cs xs (by simpa using hxl) (by omega) fun i fl hi => hf i fl (by simpa using hi)
    exact ⟨y, h1, by omega, h2, fun j c a hc ha => h3 j c a (by rw [Nat.zero_add]; exact hc) ha⟩⟩
theorem rd_edge {P : Program} {t : Nat} {fa fb : Field} (ht : P.underlying t = some (.struct #[fa, fb])) (ho : fa.offset = 0) (ho' : fb.offset = 1) (hs : P.cellsOf t = 2) (he : P.underlying fa.type = some (.int .i64)) (hes : P.cellsOf fa.type = 1) (he' : P.underlying fb.type = some (.int .i64)) (hes' : P.cellsOf fb.type = 1) :
    RdT P t 2 edge (fun y => (-9223372036854775808 ≤ y.1 ∧ y.1 ≤ 9223372036854775807) ∧ (-9223372036854775808 ≤ y.2 ∧ y.2 ≤ 9223372036854775807)) :=
  rd_struct (fs := [fa, fb]) ht hs (rf_cons ho (rd_int he hes) (rf_one ho' (rd_int he' hes')))

section
variable {H : Type} {enc : TypeId × Value → H} {P : Program} {w : World} {base : Nat} {spare : Nat → Bool} {held : Bool} {t : Nat} {v : Value} {d : DataW H} {ps : List MemPlace}
/-- An argument of one cell. -/
theorem RdT.arg {α : Type} {f : α → A} {p : α → Prop} (h : RdT P t 1 (fun y => [f y]) p) (hv : v.cells.toList = [v]) (hd : DataW.Trod enc P w base spare held t v d ps) : ∃ y, p y ∧ Imm (fun b => b < w.heap.size) w v (f y) := by
  obtain ⟨fuel, hf⟩ := hd
  rw [hv] at hf
  obtain ⟨y, hp, _, _, h3⟩ := h.rd enc w base spare held fuel _ _ hf
  exact ⟨y, hp, h3 0 v (f y) rfl rfl⟩
theorem RdT.argK {α : Type} {f : α → List A} {p : α → Prop} {k : Nat} {cs : Array Value} (h : RdT P t k f p) (hd : DataW.Trod enc P w base spare held t (.agg cs) d ps) : ∃ y, p y ∧ Imm (fun b => b < w.heap.size) w (.agg cs) (.g (f y)) := by
  obtain ⟨fuel, hf⟩ := hd
  obtain ⟨y, hp, h1, h2, h3⟩ := h.rd enc w base spare held fuel _ _ hf
  obtain ⟨l⟩ := cs
  exact ⟨y, hp, .g l _ (Eq.trans (b := k) h1 h2.symm) fun j x y hx hy => h3 j y x hy hx⟩
end
def ImmL (w : World) : List Value → List A → Prop
  | [], [] => True
  | v :: vs, a :: as => Imm (fun b => b < w.heap.size) w v a ∧ ImmL w vs as
  | _, _ => False
theorem imm_args {w : World} : ∀ (vs : List Value) (as : List A), ImmL w vs as → ArgsOK (fun b => b < w.heap.size) (fun _ => none) w vs as
  | [], [], _ => ⟨rfl, fun j x y h => by simp at h⟩
  | [], _ :: _, h => h.elim
  | _ :: _, [], h => h.elim
  | _ :: _, _ :: _, ⟨h, hs⟩ => by
    obtain ⟨h1, h2⟩ := imm_args _ _ hs
    refine ⟨by simp [h1], fun j x y hx hy => ?_⟩
    match j, hx, hy with
    | 0, hx, hy => simp at hx hy; subst hx; subst hy; exact .imm h
    | j + 1, hx, hy => exact h2 j x y (by simpa using hx) (by simpa using hy)
/-- A law that gives true: what its row asks of the run. -/
theorem FnV.row {P : Program} {f : Nat} {as : List A} {w : World} {vs : List Value} (h : FnV P f as (boolA true)) (ha : ImmL w vs as) :
    Calls P f vs.toArray w fun e w' => e = .returned (.bool true) ∧ Go.RowKit.Below w.heap.size w w' :=
  h (fun b => b < w.heap.size) (fun _ => none) w vs _ ⟨fun L xs hr => by simp [rowAt] at hr; cases L <;> simp at hr, fun L xs L' xs' b o o' hr => by simp [rowAt] at hr; cases L <;> simp at hr, fun b h => h, fun L _ => rfl⟩ (imm_args vs as ha)
    fun F' Λ' σ' w' v r hs hst hv hq => by
      obtain ⟨rfl, rfl⟩ := hq
      refine ⟨by rw [hv.v_inv], hst.os, hst.tape, hst.output, hst.size, fun k hk => hst.keep k hk ?_⟩
      rintro ⟨L, xs, o, hr, _⟩
      simp [rowAt] at hr; cases L <;> simp at hr
end Go.Sep

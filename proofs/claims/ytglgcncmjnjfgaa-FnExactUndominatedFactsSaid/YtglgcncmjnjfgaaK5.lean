/- Contracts of functions of the program (vprefs), each walked once. -/
import Derived.Test.YtglgcncmjnjfgaaProg
import Derived.Test.YtglgcncmjnjfgaaK4
set_option linter.unusedVariables false
set_option linter.unusedSimpArgs false
set_option maxRecDepth 4000
namespace Go.Proofs.Ytglgcncmjnjfgaa
open Go Go.Proofs Go.Sep
theorem bytes4 : (prg.info? 4).map (·.bytes) = some 1 := by kernel_rfl
theorem ent45 : EnT prg 45 := fun args w => by
  have h := Try.func45
  simp [callFunc, h, Try.f45]
theorem ent46 : EnT prg 46 := fun args w => by
  have h := Try.func46
  simp [callFunc, h, Try.f46]
theorem one4 : OneT prg 4 := .of (by kernel_rfl)
theorem sl58 : SlT prg 58 4 1 := .of (by kernel_rfl) (by kernel_rfl) (by decide)
theorem sz4 : SzT prg 4 1 := .of (by kernel_rfl)
theorem zero4 : ZeroT prg 4 [.bool false] := .of (by kernel_rfl) (by decide)

/-! Which facts are gone: round after round. -/
def cnt (g : List Bool) : Nat := g.count true
def Blocked (p : List (Int × Int)) (g : List Bool) (y : Nat) : Prop := ∃ a : Nat, a < g.length ∧ ((a : Int), (y : Int)) ∈ p ∧ g.getD a false = false
def Stable (p : List (Int × Int)) (g : List Bool) : Prop := ∀ y, y < g.length → g.getD y false = false → Blocked p g y
def freeA (p : List (Int × Int)) (g : List Bool) (x : Int) (i : Nat) : Bool := (p.take i).all (fun e => decide (e.2 ≠ x) || g.getD e.1.toNat false)
def Sound (n : Int) (p : List (Int × Int)) (g : List Bool) : Prop := ∀ S, Closed n p S → ∀ x ∈ S, g.getD x.toNat false = false
def RX (p : List (Int × Int)) (g0 g : List Bool) (x : Nat) : Prop := (g = g0 ∧ ∀ y, y < x → g0.getD y false = false → Blocked p g0 y) ∨ (cnt g0 < cnt g ∧ ¬ Stable p g0)
def PK (p : List (Int × Int)) (k : Nat) (g : List Bool) : Prop := k ≤ cnt g ∨ Stable p g
theorem freeA_succ (p : List (Int × Int)) (g : List Bool) (x : Int) (i : Nat) (h : i < p.length) : freeA p g x (i + 1) = (freeA p g x i && (decide ((p.getD i default).2 ≠ x) || g.getD (p.getD i default).1.toNat false)) := by
  unfold freeA; rw [take_succ_getD p default i h, List.all_append]; simp
theorem getD_set_self (g : List Bool) (x : Nat) (h : x < g.length) : (g.set x true).getD x false = true := by simp [List.getD, h]
theorem getD_set_ne (g : List Bool) (x y : Nat) (h : x ≠ y) : (g.set x true).getD y false = g.getD y false := by simp [List.getD, List.getElem?_set_ne h]
theorem cnt_set : ∀ (g : List Bool) (x : Nat), x < g.length → g.getD x false = false → cnt (g.set x true) = cnt g + 1
  | [], x, h, _ => by simp at h
  | b :: g, 0, h, e => by simp at e; subst e; simp [cnt]
  | b :: g, x + 1, h, e => by
    have := cnt_set g x (by simpa using h) (by simpa using e)
    unfold cnt at *
    simp only [List.set_cons_succ, List.count_cons, this]; omega
theorem set_same (g : List Bool) (x : Nat) (h : x < g.length) (e : g.getD x false = true) : g.set x true = g := by
  apply List.ext_getElem (by simp)
  intro j h1 h2
  rw [List.getElem_set]
  split
  · rename_i hx; subst hx; simp [List.getD, h2] at e; exact e.symm
  · rfl
theorem cnt_lt {g : List Bool} {x : Nat} (h : x < g.length) (e : g.getD x false = false) : cnt g < g.length := by
  have h1 := cnt_set g x h e
  have h2 : cnt (g.set x true) ≤ (g.set x true).length := List.count_le_length
  rw [List.length_set] at h2; omega
theorem free_false {p : List (Int × Int)} {g : List Bool} {x : Nat} (hin : ∀ j, j < p.length → 0 ≤ (p.getD j default).1 ∧ (p.getD j default).1 < g.length) (h : freeA p g x p.length = false) : Blocked p g x := by
  unfold freeA at h
  rw [List.take_length, List.all_eq_false] at h
  obtain ⟨e, he, h1⟩ := h
  obtain ⟨j, hj, rfl⟩ := List.getElem_of_mem he
  have h2 := hin j hj
  simp only [List.getD, List.getElem?_eq_getElem hj, Option.getD_some] at h2
  simp only [ne_eq, decide_not, Bool.or_eq_true, Bool.not_eq_true', decide_eq_false_iff_not, not_or, Decidable.not_not, Bool.not_eq_true] at h1
  refine ⟨p[j].1.toNat, by omega, ?_, h1.2⟩
  have e1 : ((p[j].1.toNat : Nat) : Int) = p[j].1 := by omega
  rw [e1, ← h1.1]; exact he
theorem free_true {p : List (Int × Int)} {g : List Bool} {x a : Int} (h : freeA p g x p.length = true) (hp : (a, x) ∈ p) : g.getD a.toNat false = true := by
  unfold freeA at h
  rw [List.take_length, List.all_eq_true] at h
  have := h _ hp
  simpa using this
theorem Sound.set {n p g} {x : Nat} (h : Sound n p g) (hx : x < g.length) (hf : freeA p g x p.length = true) : Sound n p (g.set x true) := fun S hS y hy => by
  obtain ⟨h1, a, ha, hp⟩ := hS y hy
  by_cases e : x = y.toNat
  · have e2 : y = (x : Int) := by omega
    rw [e2] at hp
    have h2 := free_true hf hp
    rw [h S hS a ha] at h2; cases h2
  · rw [getD_set_ne _ _ _ e]; exact h S hS y hy
theorem RX.free {p g0 g} {x : Nat} (h : RX p g0 g x) (hx : x < g.length) (hf : freeA p g x p.length = true) : RX p g0 (g.set x true) (x + 1) := by
  cases hb : g.getD x false with
  | true =>
    rw [set_same g x hx hb]
    rcases h with ⟨rfl, h⟩ | h
    · refine .inl ⟨rfl, fun y hy hg => ?_⟩
      rcases Nat.lt_or_eq_of_le (Nat.le_of_lt_succ hy) with h1 | rfl
      · exact h y h1 hg
      · rw [hb] at hg; cases hg
    · exact .inr h
  | false =>
    right
    rw [cnt_set g x hx hb]
    rcases h with ⟨rfl, h⟩ | h
    · refine ⟨by omega, fun hs => ?_⟩
      obtain ⟨a, h1, h2, h3⟩ := hs x hx hb
      have := free_true hf h2
      simp only [Int.toNat_natCast] at this
      rw [h3] at this; cases this
    · exact ⟨by omega, h.2⟩
theorem RX.stuck {p g0 g} {x : Nat} (hin : ∀ j, j < p.length → 0 ≤ (p.getD j default).1 ∧ (p.getD j default).1 < g.length) (h : RX p g0 g x) (hf : freeA p g x p.length = false) : RX p g0 g (x + 1) := by
  rcases h with ⟨rfl, h⟩ | h
  · refine .inl ⟨rfl, fun y hy hg => ?_⟩
    rcases Nat.lt_or_eq_of_le (Nat.le_of_lt_succ hy) with h1 | rfl
    · exact h y h1 hg
    · exact free_false hin hf
  · exact .inr h
theorem PK.next {p g0 g} {k x : Nat} (h : RX p g0 g x) (hx : g0.length ≤ x) (hk : PK p k g0) : PK p (k + 1) g := by
  rcases h with ⟨rfl, h⟩ | h
  · exact .inr fun y hy hg => h y (by omega) hg
  · rcases hk with hk | hk
    · exact .inl (by omega)
    · exact absurd hk h.2
theorem PK.end {p g} {k x : Nat} (hk : PK p k g) (hl : g.length ≤ k) (hx : x < g.length) (hb : g.getD x false = false) : Cyc g.length p := by
  rcases hk with hk | hs
  · have := cnt_lt hx hb; omega
  · refine ⟨((List.range g.length).filter fun y => !g.getD y false).map Int.ofNat, fun e => ?_, fun y hy => ?_⟩
    · have : (x : Int) ∈ ((List.range g.length).filter fun y => !g.getD y false).map Int.ofNat := List.mem_map.2 ⟨x, List.mem_filter.2 ⟨List.mem_range.2 hx, by rw [hb]; rfl⟩, rfl⟩
      rw [e] at this; cases this
    · obtain ⟨z, hz, rfl⟩ := List.mem_map.1 hy
      obtain ⟨hz1, hz2⟩ := List.mem_filter.1 hz
      have hz1 := List.mem_range.1 hz1
      obtain ⟨a, h1, h2, h3⟩ := hs z hz1 (by simpa using hz2)
      exact ⟨⟨by simp, by simp; omega⟩, (a : Int), List.mem_map.2 ⟨a, List.mem_filter.2 ⟨List.mem_range.2 h1, by rw [h3]; rfl⟩, rfl⟩, h2⟩
theorem sound_start (n : Int) (p : List (Int × Int)) (N : Nat) : Sound n p (List.replicate N false) := fun S hS x hx => by
  simp only [List.getD, List.getElem?_replicate]; split <;> rfl
theorem sound_end {N : Nat} {p g} (h : Sound N p g) (hl : g.length = N) (hall : ∀ x, x < N → g.getD x false = true) : ¬ Cyc N p := fun ⟨S, hne, hS⟩ => by
  obtain ⟨x, hx⟩ := List.exists_mem_of_ne_nil S hne
  have h1 := h S hS x hx
  have h2 := (hS x hx).1
  rw [hall x.toNat (by omega)] at h1; cases h1

set_option maxHeartbeats 1000000 in
/-- spec.IsValidPreference -/
theorem spec_IsValidPreference (n : Int) (es p : List (Int × Int)) (he : es.length ≤ 1048576) (hr : R64 es) (hn : -9223372036854775808 ≤ n ∧ n ≤ 9223372036854775807) (hp : p.length ≤ 1048576) : FnV prg 16 [intA n, edgesI es, edgesI p] (boolA (tr (VP n es p))) := by
  refine fnV_of_T Try.func16 rfl rfl (Nat.le_of_ble_eq_true rfl) ?_
  simp only [entry, Nat.reduceAdd]
  refine T_seq ?_
  refine T_region ?_
  refine TO_cons rfl (TOp_pure (pur_assign rfl) rfl ?_)
  refine TO_nil ?_
  refine T_keep [0, 1, 2] ?_
  simp only [pick, List.map, lk, put, val, constA, entry, cellsOf, cellVal, cellVals, List.drop, List.take, List.append_assoc, List.nil_append, List.cons_append, List.singleton_append, List.length_cons, List.length_nil, List.set_cons_zero, List.set_cons_succ, setRow, setSub, spl, Root.under, List.getElem?_cons_zero, List.getElem?_cons_succ, List.map_cons, List.map_nil, reduceIte, Nat.reduceEqDiff, Nat.reduceAdd, Nat.reduceSub, Int.toNat_natCast, Nat.succ_ne_zero, Nat.zero_ne_one, Nat.one_ne_zero]
  refine T_seq ?_
  refine T_seq ?_
  refine T_region ?_
  refine TO_cons rfl (TOp_pure (pur_move rfl) rfl ?_)
  refine TO_cons rfl (TOp_pure (pur_move rfl) rfl ?_)
  refine TO_cons rfl (TOp_callV (call_static ent45 rfl) (spec_AreValidEdges n es (by omega) hr hn) rfl rfl rfl ?_)
  refine TO_cons rfl (TOp_pure (pur_not rfl rfl) rfl ?_)
  refine TO_nil ?_
  refine T_keep [0, 1, 2, 17] ?_
  simp only [pick, List.map, lk, put, val, constA, entry, cellsOf, cellVal, cellVals, List.drop, List.take, List.append_assoc, List.nil_append, List.cons_append, List.singleton_append, List.length_cons, List.length_nil, List.set_cons_zero, List.set_cons_succ, setRow, setSub, spl, Root.under, List.getElem?_cons_zero, List.getElem?_cons_succ, List.map_cons, List.map_nil, reduceIte, Nat.reduceEqDiff, Nat.reduceAdd, Nat.reduceSub, Int.toNat_natCast, Nat.succ_ne_zero, Nat.zero_ne_one, Nat.one_ne_zero]
  refine T_cond rfl (fun c1 => ?_) (fun c1 => ?_)
  · try simp only [decide_eq_true_eq, decide_eq_false_iff_not, Bool.not_eq_true', Bool.not_eq_false', Int.not_lt, Int.not_le, Int.ofNat_lt, Int.ofNat_le, Int.ofNat_inj, ne_eq, Decidable.not_not] at c1
    refine T_seq ?_
    refine T_region ?_
    refine TO_cons rfl (TOp_pure (pur_assign rfl) rfl ?_)
    refine TO_nil ?_
    refine T_keep [6] ?_
    simp only [pick, List.map, lk, put, val, constA, entry, cellsOf, cellVal, cellVals, List.drop, List.take, List.append_assoc, List.nil_append, List.cons_append, List.singleton_append, List.length_cons, List.length_nil, List.set_cons_zero, List.set_cons_succ, setRow, setSub, spl, Root.under, List.getElem?_cons_zero, List.getElem?_cons_succ, List.map_cons, List.map_nil, reduceIte, Nat.reduceEqDiff, Nat.reduceAdd, Nat.reduceSub, Int.toNat_natCast, Nat.succ_ne_zero, Nat.zero_ne_one, Nat.one_ne_zero]
    refine T_ret ?_
    refine then_ret ?_
    refine end_ret (.tmp .nil) rfl rfl ⟨?_, rfl⟩
    simp only [resA, lk, reduceIte, Nat.reduceEqDiff]
    refine congrArg boolA ?_
    first | (rw [tr_false]; intro h; exact tr_not.1 c1 h.1) | (rw [tr_false]; rintro ⟨h1, h2, h3⟩; have h4 := (pref_iff hve _ _).2 (h2 _ (getD_mem (d := default) (i := i) (by omega))); simp_all; done) | (rw [tr_false]; rintro ⟨h1, h2, h3⟩; have := PK.end hpk (by omega) (x := y) (by omega) (by simp_all); rw [hgl] at this; exact h3 this) | (rw [tr_true]; exact ⟨hve, hq, sound_end hso hgl fun z hz => hally z (by omega)⟩)
  · try simp only [decide_eq_true_eq, decide_eq_false_iff_not, Bool.not_eq_true', Bool.not_eq_false', Int.not_lt, Int.not_le, Int.ofNat_lt, Int.ofNat_le, Int.ofNat_inj, ne_eq, Decidable.not_not] at c1
    have hve := tr_iff.1 c1
    refine T_skip ?_
    refine T_seq ?_
    refine T_seq ?_
    refine T_region ?_
    refine TO_cons rfl (TOp_pure (pur_assign rfl) rfl ?_)
    refine TO_nil ?_
    refine T_keep [0, 1, 2, 7] ?_
    simp only [pick, List.map, lk, put, val, constA, entry, cellsOf, cellVal, cellVals, List.drop, List.take, List.append_assoc, List.nil_append, List.cons_append, List.singleton_append, List.length_cons, List.length_nil, List.set_cons_zero, List.set_cons_succ, setRow, setSub, spl, Root.under, List.getElem?_cons_zero, List.getElem?_cons_succ, List.map_cons, List.map_nil, reduceIte, Nat.reduceEqDiff, Nat.reduceAdd, Nat.reduceSub, Int.toNat_natCast, Nat.succ_ne_zero, Nat.zero_ne_one, Nat.one_ne_zero]
    refine T_block ?_
    refine T_loop (fun k E σ => ∃ (i : Nat), (i ≤ p.length) ∧ (∀ j, j < i → (p.getD j default) ∈ es ∨ ((p.getD j default).2, (p.getD j default).1) ∈ es) ∧ k = p.length - i ∧ E = [(0, intA n), (1, edgesI es), (2, edgesI p), (7, natA i)] ∧ σ = []) _ (E0 := [(0, intA n), (1, edgesI es), (2, edgesI p), (7, natA (0))]) (σ0 := []) (Weak.to0 rfl ⟨rfl, rfl, rfl, rfl, trivial⟩) ⟨(0), ?_, ?_, rfl, rfl, rfl⟩ ?_
    · (first | omega | (simp_all; done) | (simp_all; omega))
    · (first | omega | (simp_all; done) | (simp_all; omega))
    rintro k E σ ⟨i, hi, hall, rfl, rfl, rfl⟩
    refine T_seq ?_
    refine T_seq ?_
    refine T_region ?_
    refine TO_cons rfl (TOp_pure (pur_move rfl) rfl ?_)
    refine TO_cons rfl (TOp_pure (pur_move rfl) rfl ?_)
    refine TO_cons rfl (TOp_pure (by first | exact pur_len sl25 rfl (by decide) rfl | exact pur_len_m sl25 rfl rfl | exact pur_len_n sl25 rfl rfl) rfl ?_)
    refine TO_cons rfl (TOp_pure (pur_lss rfl rfl rfl) rfl ?_)
    refine TO_nil ?_
    refine T_keep [0, 1, 2, 7, 21] ?_
    simp only [pick, List.map, lk, put, val, constA, entry, cellsOf, cellVal, cellVals, List.drop, List.take, List.append_assoc, List.nil_append, List.cons_append, List.singleton_append, List.length_cons, List.length_nil, List.set_cons_zero, List.set_cons_succ, setRow, setSub, spl, Root.under, List.getElem?_cons_zero, List.getElem?_cons_succ, List.map_cons, List.map_nil, reduceIte, Nat.reduceEqDiff, Nat.reduceAdd, Nat.reduceSub, Int.toNat_natCast, Nat.succ_ne_zero, Nat.zero_ne_one, Nat.one_ne_zero]
    refine T_cond rfl (fun c2 => ?_) (fun c2 => ?_)
    · try simp only [decide_eq_true_eq, decide_eq_false_iff_not, Bool.not_eq_true', Bool.not_eq_false', Int.not_lt, Int.not_le, Int.ofNat_lt, Int.ofNat_le, Int.ofNat_inj, ne_eq, Decidable.not_not] at c2
      refine T_skip ?_
      refine T_seq ?_
      refine T_block ?_
      refine T_seq ?_
      refine T_regionD mixed (by kernel_rfl) ?_
      refine TQ_pure rfl (pur_move rfl) rfl ?_
      refine TQ_pure rfl (pur_move rfl) rfl ?_
      refine TQ_pure rfl (by first | exact pur_ixN sl25 rfl rfl (by omega) rfl | exact pur_ixN_m sl25 rfl rfl (by omega) rfl | exact pur_ix sl25 rfl rfl (by omega) (by omega) rfl | exact pur_ix_m sl25 rfl rfl (by omega) (by omega) rfl) rfl ?_
      refine TQ_pure rfl (by first | exact pur_fa_q fld52_0 rfl rfl | exact pur_fa_b fld52_0 rfl rfl | exact pur_fa_e fld52_0 rfl rfl) rfl ?_
      refine TQ_pure rfl (by first | exact pur_ld_b one3 rfl rfl rfl rfl | exact pur_ld_flat rfl _ 0 len_edge one3 rfl rfl (by omega) rfl | exact pur_ld_q one3 rfl rfl rfl | exact pur_ld_e one3 rfl rfl rfl rfl) rfl ?_
      refine TQ_pure rfl (pur_move rfl) rfl ?_
      refine TQ_pure rfl (pur_move rfl) rfl ?_
      refine TQ_pure rfl (by first | exact pur_ixN sl25 rfl rfl (by omega) rfl | exact pur_ixN_m sl25 rfl rfl (by omega) rfl | exact pur_ix sl25 rfl rfl (by omega) (by omega) rfl | exact pur_ix_m sl25 rfl rfl (by omega) (by omega) rfl) rfl ?_
      refine TQ_pure rfl (by first | exact pur_fa_q fld52_1 rfl rfl | exact pur_fa_b fld52_1 rfl rfl | exact pur_fa_e fld52_1 rfl rfl) rfl ?_
      refine TQ_pure rfl (by first | exact pur_ld_b one3 rfl rfl rfl rfl | exact pur_ld_flat rfl _ 1 len_edge one3 rfl rfl (by omega) rfl | exact pur_ld_q one3 rfl rfl rfl | exact pur_ld_e one3 rfl rfl rfl rfl) rfl ?_
      refine TQ_pure rfl (pur_eql rfl rfl rfl) rfl ?_
      refine TQ_pure rfl (pur_move rfl) rfl ?_
      refine TQ_split 35 rfl (fun g3 => ?_) (fun g3 => ?_)
      · try simp only [decide_eq_true_eq, decide_eq_false_iff_not, Bool.not_eq_true', Bool.not_eq_false', Int.not_lt, Int.not_le, Int.ofNat_lt, Int.ofNat_le, Int.ofNat_inj, ne_eq, Decidable.not_not] at g3
        refine TQ_off rfl rfl (by decide) rfl rfl rfl ?_
        refine TQ_off rfl rfl (by decide) rfl rfl rfl ?_
        refine TQ_off rfl rfl (by decide) rfl rfl rfl ?_
        refine TQ_off rfl rfl (by decide) rfl rfl rfl ?_
        refine TQ_off rfl rfl (by decide) rfl rfl rfl ?_
        refine TQ_off rfl rfl (by decide) rfl rfl rfl ?_
        refine TQ_off rfl rfl (by decide) rfl rfl rfl ?_
        refine TQ_off rfl rfl (by decide) rfl rfl rfl ?_
        refine TQ_off rfl rfl (by decide) rfl rfl rfl ?_
        refine TQ_off rfl rfl (by decide) rfl rfl rfl ?_
        refine TQ_off rfl rfl (by decide) rfl rfl rfl ?_
        refine TQ_off rfl rfl (by decide) rfl rfl rfl ?_
        refine TQ_off rfl rfl (by decide) rfl rfl rfl ?_
        refine TQ_pure rfl (pur_pick rfl rfl rfl) rfl ?_
        refine TQ_nil ?_
        refine T_keep [0, 1, 2, 7, 49] ?_
        simp only [pick, List.map, lk, put, val, constA, entry, cellsOf, cellVal, cellVals, List.drop, List.take, List.append_assoc, List.nil_append, List.cons_append, List.singleton_append, List.length_cons, List.length_nil, List.set_cons_zero, List.set_cons_succ, setRow, setSub, spl, Root.under, List.getElem?_cons_zero, List.getElem?_cons_succ, List.map_cons, List.map_nil, reduceIte, Nat.reduceEqDiff, Nat.reduceAdd, Nat.reduceSub, Int.toNat_natCast, Nat.succ_ne_zero, Nat.zero_ne_one, Nat.one_ne_zero]
        refine T_cond (t := true) rfl (fun _ => ?_) (fun h => nomatch h)
        refine T_seq ?_
        refine T_region ?_
        refine TO_cons rfl (TOp_pure (pur_assign rfl) rfl ?_)
        refine TO_nil ?_
        refine T_keep [6] ?_
        simp only [pick, List.map, lk, put, val, constA, entry, cellsOf, cellVal, cellVals, List.drop, List.take, List.append_assoc, List.nil_append, List.cons_append, List.singleton_append, List.length_cons, List.length_nil, List.set_cons_zero, List.set_cons_succ, setRow, setSub, spl, Root.under, List.getElem?_cons_zero, List.getElem?_cons_succ, List.map_cons, List.map_nil, reduceIte, Nat.reduceEqDiff, Nat.reduceAdd, Nat.reduceSub, Int.toNat_natCast, Nat.succ_ne_zero, Nat.zero_ne_one, Nat.one_ne_zero]
        refine T_ret ?_
        refine block_ret ?_
        refine then_ret ?_
        refine then_ret ?_
        refine block_ret ?_
        refine then_ret ?_
        refine end_ret (.tmp .nil) rfl rfl ⟨?_, rfl⟩
        simp only [resA, lk, reduceIte, Nat.reduceEqDiff]
        refine congrArg boolA ?_
        first | (rw [tr_false]; intro h; exact tr_not.1 c1 h.1) | (rw [tr_false]; rintro ⟨h1, h2, h3⟩; have h4 := (pref_iff hve _ _).2 (h2 _ (getD_mem (d := default) (i := i) (by omega))); simp_all; done) | (rw [tr_false]; rintro ⟨h1, h2, h3⟩; have := PK.end hpk (by omega) (x := y) (by omega) (by simp_all); rw [hgl] at this; exact h3 this) | (rw [tr_true]; exact ⟨hve, hq, sound_end hso hgl fun z hz => hally z (by omega)⟩)
      · try simp only [decide_eq_true_eq, decide_eq_false_iff_not, Bool.not_eq_true', Bool.not_eq_false', Int.not_lt, Int.not_le, Int.ofNat_lt, Int.ofNat_le, Int.ofNat_inj, ne_eq, Decidable.not_not] at g3
        refine TQ_on rfl rfl (by decide) rfl (pur_move rfl) rfl ?_
        refine TQ_on rfl rfl (by decide) rfl (pur_move rfl) rfl ?_
        refine TQ_on rfl rfl (by decide) rfl (pur_move rfl) rfl ?_
        refine TQ_on rfl rfl (by decide) rfl (by first | exact pur_ixN sl25 rfl rfl (by omega) rfl | exact pur_ixN_m sl25 rfl rfl (by omega) rfl | exact pur_ix sl25 rfl rfl (by omega) (by omega) rfl | exact pur_ix_m sl25 rfl rfl (by omega) (by omega) rfl) rfl ?_
        refine TQ_on rfl rfl (by decide) rfl (by first | exact pur_fa_q fld52_0 rfl rfl | exact pur_fa_b fld52_0 rfl rfl | exact pur_fa_e fld52_0 rfl rfl) rfl ?_
        refine TQ_on rfl rfl (by decide) rfl (by first | exact pur_ld_b one3 rfl rfl rfl rfl | exact pur_ld_flat rfl _ 0 len_edge one3 rfl rfl (by omega) rfl | exact pur_ld_q one3 rfl rfl rfl | exact pur_ld_e one3 rfl rfl rfl rfl) rfl ?_
        refine TQ_on rfl rfl (by decide) rfl (pur_move rfl) rfl ?_
        refine TQ_on rfl rfl (by decide) rfl (pur_move rfl) rfl ?_
        refine TQ_on rfl rfl (by decide) rfl (by first | exact pur_ixN sl25 rfl rfl (by omega) rfl | exact pur_ixN_m sl25 rfl rfl (by omega) rfl | exact pur_ix sl25 rfl rfl (by omega) (by omega) rfl | exact pur_ix_m sl25 rfl rfl (by omega) (by omega) rfl) rfl ?_
        refine TQ_on rfl rfl (by decide) rfl (by first | exact pur_fa_q fld52_1 rfl rfl | exact pur_fa_b fld52_1 rfl rfl | exact pur_fa_e fld52_1 rfl rfl) rfl ?_
        refine TQ_on rfl rfl (by decide) rfl (by first | exact pur_ld_b one3 rfl rfl rfl rfl | exact pur_ld_flat rfl _ 1 len_edge one3 rfl rfl (by omega) rfl | exact pur_ld_q one3 rfl rfl rfl | exact pur_ld_e one3 rfl rfl rfl rfl) rfl ?_
        refine TQ_onV rfl rfl (by decide) rfl (call_static ent46 rfl) (spec_l28Edge _ _ _ (by first | assumption | omega | (simp_all; done) | (simp_all; omega))) rfl rfl ?_
        refine TQ_on rfl rfl (by decide) rfl (pur_not rfl rfl) rfl ?_
        refine TQ_pure rfl (pur_pick rfl rfl rfl) rfl ?_
        refine TQ_nil ?_
        refine T_keep [0, 1, 2, 7, 49] ?_
        simp only [pick, List.map, lk, put, val, constA, entry, cellsOf, cellVal, cellVals, List.drop, List.take, List.append_assoc, List.nil_append, List.cons_append, List.singleton_append, List.length_cons, List.length_nil, List.set_cons_zero, List.set_cons_succ, setRow, setSub, spl, Root.under, List.getElem?_cons_zero, List.getElem?_cons_succ, List.map_cons, List.map_nil, reduceIte, Nat.reduceEqDiff, Nat.reduceAdd, Nat.reduceSub, Int.toNat_natCast, Nat.succ_ne_zero, Nat.zero_ne_one, Nat.one_ne_zero]
        refine T_cond rfl (fun c4 => ?_) (fun c4 => ?_)
        · try simp only [decide_eq_true_eq, decide_eq_false_iff_not, Bool.not_eq_true', Bool.not_eq_false', Int.not_lt, Int.not_le, Int.ofNat_lt, Int.ofNat_le, Int.ofNat_inj, ne_eq, Decidable.not_not] at c4
          refine T_seq ?_
          refine T_region ?_
          refine TO_cons rfl (TOp_pure (pur_assign rfl) rfl ?_)
          refine TO_nil ?_
          refine T_keep [6] ?_
          simp only [pick, List.map, lk, put, val, constA, entry, cellsOf, cellVal, cellVals, List.drop, List.take, List.append_assoc, List.nil_append, List.cons_append, List.singleton_append, List.length_cons, List.length_nil, List.set_cons_zero, List.set_cons_succ, setRow, setSub, spl, Root.under, List.getElem?_cons_zero, List.getElem?_cons_succ, List.map_cons, List.map_nil, reduceIte, Nat.reduceEqDiff, Nat.reduceAdd, Nat.reduceSub, Int.toNat_natCast, Nat.succ_ne_zero, Nat.zero_ne_one, Nat.one_ne_zero]
          refine T_ret ?_
          refine block_ret ?_
          refine then_ret ?_
          refine then_ret ?_
          refine block_ret ?_
          refine then_ret ?_
          refine end_ret (.tmp .nil) rfl rfl ⟨?_, rfl⟩
          simp only [resA, lk, reduceIte, Nat.reduceEqDiff]
          refine congrArg boolA ?_
          first | (rw [tr_false]; intro h; exact tr_not.1 c1 h.1) | (rw [tr_false]; rintro ⟨h1, h2, h3⟩; have h4 := (pref_iff hve _ _).2 (h2 _ (getD_mem (d := default) (i := i) (by omega))); simp_all; done) | (rw [tr_false]; rintro ⟨h1, h2, h3⟩; have := PK.end hpk (by omega) (x := y) (by omega) (by simp_all); rw [hgl] at this; exact h3 this) | (rw [tr_true]; exact ⟨hve, hq, sound_end hso hgl fun z hz => hally z (by omega)⟩)
        · try simp only [decide_eq_true_eq, decide_eq_false_iff_not, Bool.not_eq_true', Bool.not_eq_false', Int.not_lt, Int.not_le, Int.ofNat_lt, Int.ofNat_le, Int.ofNat_inj, ne_eq, Decidable.not_not] at c4
          refine T_skip ?_
          refine T_region ?_
          refine TO_cons rfl (TOp_pure (pur_move rfl) rfl ?_)
          refine TO_cons rfl (TOp_pure (pur_add rfl rfl rfl (fits64 (by omega) (by omega))) rfl ?_)
          refine TO_cons rfl (TOp_pure (pur_assign rfl) rfl ?_)
          refine TO_nil ?_
          refine again0 (E' := [(0, intA n), (1, edgesI es), (2, edgesI p), (7, natA (i + 1))]) (σ' := []) _ ?_ (Weak.to0 rfl ⟨rfl, rfl, rfl, rfl, trivial⟩) ⟨(i + 1), ?_, ?_, rfl, rfl, rfl⟩
          · omega
          · omega
          · exact all_succ hall ((pref_iff hve _ _).1 (by simp_all))
    · try simp only [decide_eq_true_eq, decide_eq_false_iff_not, Bool.not_eq_true', Bool.not_eq_false', Int.not_lt, Int.not_le, Int.ofNat_lt, Int.ofNat_le, Int.ofNat_inj, ne_eq, Decidable.not_not] at c2
      have hq := all_of (es := es) fun j hj => hall j (by omega)
      have hpin := fun j (hj : j < p.length) => pref_in hve hq hj
      obtain ⟨N, rfl⟩ := Int.eq_ofNat_of_zero_le hve.1.1
      have hN14 := hve.1.2
      refine T_exit ?_
      refine then_exit ?_
      refine then_exit ?_
      refine block_exit ?_
      refine T_seq ?_
      refine T_region ?_
      refine TO_cons rfl (TOp_pure (pur_move rfl) rfl ?_)
      refine TO_cons rfl (TOp_makeZ (zeros_bool _) sl58 zero4 rfl bytes4 rfl rfl rfl rfl (by omega) (by omega) ?_)
      refine TO_cons rfl (TOp_pure (pur_assign rfl) rfl ?_)
      refine TO_nil ?_
      refine T_keep [0, 2, 8] ?_
      simp only [pick, List.map, lk, put, val, constA, entry, cellsOf, cellVal, cellVals, List.drop, List.take, List.append_assoc, List.nil_append, List.cons_append, List.singleton_append, List.length_cons, List.length_nil, List.set_cons_zero, List.set_cons_succ, setRow, setSub, spl, Root.under, List.getElem?_cons_zero, List.getElem?_cons_succ, List.map_cons, List.map_nil, reduceIte, Nat.reduceEqDiff, Nat.reduceAdd, Nat.reduceSub, Int.toNat_natCast, Nat.succ_ne_zero, Nat.zero_ne_one, Nat.one_ne_zero]
      refine T_seq ?_
      refine T_seq ?_
      refine T_region ?_
      refine TO_cons rfl (TOp_pure (pur_assign rfl) rfl ?_)
      refine TO_nil ?_
      refine T_keep [0, 2, 8, 9] ?_
      simp only [pick, List.map, lk, put, val, constA, entry, cellsOf, cellVal, cellVals, List.drop, List.take, List.append_assoc, List.nil_append, List.cons_append, List.singleton_append, List.length_cons, List.length_nil, List.set_cons_zero, List.set_cons_succ, setRow, setSub, spl, Root.under, List.getElem?_cons_zero, List.getElem?_cons_succ, List.map_cons, List.map_nil, reduceIte, Nat.reduceEqDiff, Nat.reduceAdd, Nat.reduceSub, Int.toNat_natCast, Nat.succ_ne_zero, Nat.zero_ne_one, Nat.one_ne_zero]
      refine T_block ?_
      refine T_loop (fun k E σ => ∃ (r : Nat) (gone : List Bool), (r ≤ N) ∧ (gone.length = N) ∧ (Sound N p gone) ∧ (PK p r gone) ∧ k = N - r ∧ E = [(0, natA N), (2, edgesI p), (8, .m [0] 0 N 1), (9, natA r)] ∧ σ = [.row (bools gone)]) _ (E0 := [(0, natA N), (2, edgesI p), (8, .m [0] 0 N 1), (9, natA (0))]) (σ0 := [.row (bools (List.replicate N false))]) (Weak.to 1 (by decide) rfl rfl rfl ⟨rfl, rfl, rfl, rfl, trivial⟩) ⟨(0), (List.replicate N false), ?_, ?_, ?_, ?_, rfl, rfl, rfl⟩ ?_
      · omega
      · simp
      · exact sound_start _ _ _
      · exact .inl (Nat.zero_le _)
      rintro k E σ ⟨r, gone, hr1, hgl, hso, hpk, rfl, rfl, rfl⟩
      refine T_seq ?_
      refine T_seq ?_
      refine T_region ?_
      refine TO_cons rfl (TOp_pure (pur_move rfl) rfl ?_)
      refine TO_cons rfl (TOp_pure (pur_move rfl) rfl ?_)
      refine TO_cons rfl (TOp_pure (pur_lss rfl rfl rfl) rfl ?_)
      refine TO_nil ?_
      refine T_keep [0, 2, 8, 9, 54] ?_
      simp only [pick, List.map, lk, put, val, constA, entry, cellsOf, cellVal, cellVals, List.drop, List.take, List.append_assoc, List.nil_append, List.cons_append, List.singleton_append, List.length_cons, List.length_nil, List.set_cons_zero, List.set_cons_succ, setRow, setSub, spl, Root.under, List.getElem?_cons_zero, List.getElem?_cons_succ, List.map_cons, List.map_nil, reduceIte, Nat.reduceEqDiff, Nat.reduceAdd, Nat.reduceSub, Int.toNat_natCast, Nat.succ_ne_zero, Nat.zero_ne_one, Nat.one_ne_zero]
      refine T_cond rfl (fun c5 => ?_) (fun c5 => ?_)
      · try simp only [decide_eq_true_eq, decide_eq_false_iff_not, Bool.not_eq_true', Bool.not_eq_false', Int.not_lt, Int.not_le, Int.ofNat_lt, Int.ofNat_le, Int.ofNat_inj, ne_eq, Decidable.not_not] at c5
        refine T_skip ?_
        refine T_seq ?_
        refine T_block ?_
        refine T_seq ?_
        refine T_region ?_
        refine TO_cons rfl (TOp_pure (pur_assign rfl) rfl ?_)
        refine TO_nil ?_
        refine T_keep [0, 2, 8, 9, 10] ?_
        simp only [pick, List.map, lk, put, val, constA, entry, cellsOf, cellVal, cellVals, List.drop, List.take, List.append_assoc, List.nil_append, List.cons_append, List.singleton_append, List.length_cons, List.length_nil, List.set_cons_zero, List.set_cons_succ, setRow, setSub, spl, Root.under, List.getElem?_cons_zero, List.getElem?_cons_succ, List.map_cons, List.map_nil, reduceIte, Nat.reduceEqDiff, Nat.reduceAdd, Nat.reduceSub, Int.toNat_natCast, Nat.succ_ne_zero, Nat.zero_ne_one, Nat.one_ne_zero]
        refine T_block ?_
        refine T_loop (fun k E σ => ∃ (x : Nat) (g : List Bool), (x ≤ N) ∧ (g.length = N) ∧ (Sound N p g) ∧ (RX p gone g x) ∧ k = N - x ∧ E = [(0, natA N), (2, edgesI p), (8, .m [0] 0 N 1), (9, natA r), (10, natA x)] ∧ σ = [.row (bools g)]) _ (E0 := [(0, natA N), (2, edgesI p), (8, .m [0] 0 N 1), (9, natA r), (10, natA (0))]) (σ0 := [.row (bools (gone))]) (Weak.to 1 (by decide) rfl rfl rfl ⟨rfl, rfl, rfl, rfl, rfl, trivial⟩) ⟨(0), (gone), ?_, ?_, ?_, ?_, rfl, rfl, rfl⟩ ?_
        · omega
        · exact hgl
        · exact hso
        · exact .inl ⟨rfl, fun y hy => absurd hy (by omega)⟩
        rintro k E σ ⟨x, g, hx, hgl2, hso2, hrx, rfl, rfl, rfl⟩
        refine T_seq ?_
        refine T_seq ?_
        refine T_region ?_
        refine TO_cons rfl (TOp_pure (pur_move rfl) rfl ?_)
        refine TO_cons rfl (TOp_pure (pur_move rfl) rfl ?_)
        refine TO_cons rfl (TOp_pure (pur_lss rfl rfl rfl) rfl ?_)
        refine TO_nil ?_
        refine T_keep [0, 2, 8, 9, 10, 59] ?_
        simp only [pick, List.map, lk, put, val, constA, entry, cellsOf, cellVal, cellVals, List.drop, List.take, List.append_assoc, List.nil_append, List.cons_append, List.singleton_append, List.length_cons, List.length_nil, List.set_cons_zero, List.set_cons_succ, setRow, setSub, spl, Root.under, List.getElem?_cons_zero, List.getElem?_cons_succ, List.map_cons, List.map_nil, reduceIte, Nat.reduceEqDiff, Nat.reduceAdd, Nat.reduceSub, Int.toNat_natCast, Nat.succ_ne_zero, Nat.zero_ne_one, Nat.one_ne_zero]
        refine T_cond rfl (fun c6 => ?_) (fun c6 => ?_)
        · try simp only [decide_eq_true_eq, decide_eq_false_iff_not, Bool.not_eq_true', Bool.not_eq_false', Int.not_lt, Int.not_le, Int.ofNat_lt, Int.ofNat_le, Int.ofNat_inj, ne_eq, Decidable.not_not] at c6
          refine T_skip ?_
          refine T_seq ?_
          refine T_block ?_
          refine T_seq ?_
          refine T_region ?_
          refine TO_cons rfl (TOp_pure (pur_assign rfl) rfl ?_)
          refine TO_nil ?_
          refine T_keep [0, 2, 8, 9, 10, 11] ?_
          simp only [pick, List.map, lk, put, val, constA, entry, cellsOf, cellVal, cellVals, List.drop, List.take, List.append_assoc, List.nil_append, List.cons_append, List.singleton_append, List.length_cons, List.length_nil, List.set_cons_zero, List.set_cons_succ, setRow, setSub, spl, Root.under, List.getElem?_cons_zero, List.getElem?_cons_succ, List.map_cons, List.map_nil, reduceIte, Nat.reduceEqDiff, Nat.reduceAdd, Nat.reduceSub, Int.toNat_natCast, Nat.succ_ne_zero, Nat.zero_ne_one, Nat.one_ne_zero]
          refine T_seq ?_
          refine T_seq ?_
          refine T_region ?_
          refine TO_cons rfl (TOp_pure (pur_assign rfl) rfl ?_)
          refine TO_nil ?_
          refine T_keep [0, 2, 8, 9, 10, 11, 12] ?_
          simp only [pick, List.map, lk, put, val, constA, entry, cellsOf, cellVal, cellVals, List.drop, List.take, List.append_assoc, List.nil_append, List.cons_append, List.singleton_append, List.length_cons, List.length_nil, List.set_cons_zero, List.set_cons_succ, setRow, setSub, spl, Root.under, List.getElem?_cons_zero, List.getElem?_cons_succ, List.map_cons, List.map_nil, reduceIte, Nat.reduceEqDiff, Nat.reduceAdd, Nat.reduceSub, Int.toNat_natCast, Nat.succ_ne_zero, Nat.zero_ne_one, Nat.one_ne_zero]
          refine T_block ?_
          refine T_loop (fun k E σ => ∃ (j : Nat) (fr : Bool), (j ≤ p.length) ∧ (freeA p g x j = fr) ∧ k = p.length - j ∧ E = [(0, natA N), (2, edgesI p), (8, .m [0] 0 N 1), (9, natA r), (10, natA x), (11, boolA fr), (12, natA j)] ∧ σ = [.row (bools g)]) _ (E0 := [(0, natA N), (2, edgesI p), (8, .m [0] 0 N 1), (9, natA r), (10, natA x), (11, boolA (true)), (12, natA (0))]) (σ0 := [.row (bools g)]) (Weak.to 1 (by decide) rfl rfl rfl ⟨rfl, rfl, rfl, rfl, rfl, rfl, rfl, trivial⟩) ⟨(0), (true), ?_, ?_, rfl, rfl, rfl⟩ ?_
          · omega
          · rfl
          rintro k E σ ⟨j, fr, hj, hfr, rfl, rfl, rfl⟩
          refine T_seq ?_
          refine T_seq ?_
          refine T_region ?_
          refine TO_cons rfl (TOp_pure (pur_move rfl) rfl ?_)
          refine TO_cons rfl (TOp_pure (pur_move rfl) rfl ?_)
          refine TO_cons rfl (TOp_pure (by first | exact pur_len sl25 rfl (by decide) rfl | exact pur_len_m sl25 rfl rfl | exact pur_len_n sl25 rfl rfl) rfl ?_)
          refine TO_cons rfl (TOp_pure (pur_lss rfl rfl rfl) rfl ?_)
          refine TO_nil ?_
          refine T_keep [0, 2, 8, 9, 10, 11, 12, 65] ?_
          simp only [pick, List.map, lk, put, val, constA, entry, cellsOf, cellVal, cellVals, List.drop, List.take, List.append_assoc, List.nil_append, List.cons_append, List.singleton_append, List.length_cons, List.length_nil, List.set_cons_zero, List.set_cons_succ, setRow, setSub, spl, Root.under, List.getElem?_cons_zero, List.getElem?_cons_succ, List.map_cons, List.map_nil, reduceIte, Nat.reduceEqDiff, Nat.reduceAdd, Nat.reduceSub, Int.toNat_natCast, Nat.succ_ne_zero, Nat.zero_ne_one, Nat.one_ne_zero]
          refine T_cond rfl (fun c7 => ?_) (fun c7 => ?_)
          · try simp only [decide_eq_true_eq, decide_eq_false_iff_not, Bool.not_eq_true', Bool.not_eq_false', Int.not_lt, Int.not_le, Int.ofNat_lt, Int.ofNat_le, Int.ofNat_inj, ne_eq, Decidable.not_not] at c7
            have hpj := hpin j (by omega)
            refine T_skip ?_
            refine T_seq ?_
            refine T_block ?_
            refine T_region ?_
            refine TO_cons rfl (TOp_pure (pur_move rfl) rfl ?_)
            refine TO_cons rfl (TOp_pure (pur_move rfl) rfl ?_)
            refine TO_split 69 rfl (fun g8 => ?_) (fun g8 => ?_)
            · try simp only [decide_eq_true_eq, decide_eq_false_iff_not, Bool.not_eq_true', Bool.not_eq_false', Int.not_lt, Int.not_le, Int.ofNat_lt, Int.ofNat_le, Int.ofNat_inj, ne_eq, Decidable.not_not] at g8
              refine TO_on rfl rfl (by decide) rfl rfl (TOp_pure (pur_move rfl) rfl ?_)
              refine TO_on rfl rfl (by decide) rfl rfl (TOp_pure (pur_move rfl) rfl ?_)
              refine TO_on rfl rfl (by decide) rfl rfl (TOp_pure (by first | exact pur_ixN sl25 rfl rfl (by omega) rfl | exact pur_ixN_m sl25 rfl rfl (by omega) rfl | exact pur_ix sl25 rfl rfl (by omega) (by omega) rfl | exact pur_ix_m sl25 rfl rfl (by omega) (by omega) rfl) rfl ?_)
              refine TO_on rfl rfl (by decide) rfl rfl (TOp_pure (by first | exact pur_fa_q fld52_1 rfl rfl | exact pur_fa_b fld52_1 rfl rfl | exact pur_fa_e fld52_1 rfl rfl) rfl ?_)
              refine TO_on rfl rfl (by decide) rfl rfl (TOp_pure (by first | exact pur_ld_b one3 rfl rfl rfl rfl | exact pur_ld_flat rfl _ 1 len_edge one3 rfl rfl (by omega) rfl | exact pur_ld_q one3 rfl rfl rfl | exact pur_ld_e one3 rfl rfl rfl rfl) rfl ?_)
              refine TO_on rfl rfl (by decide) rfl rfl (TOp_pure (pur_move rfl) rfl ?_)
              refine TO_on rfl rfl (by decide) rfl rfl (TOp_pure (pur_neq rfl rfl rfl) rfl ?_)
              refine TO_on rfl rfl (by decide) rfl rfl (TOp_pure (pur_move rfl) rfl ?_)
              refine TO_split 77 rfl (fun g9 => ?_) (fun g9 => ?_)
              · try simp only [decide_eq_true_eq, decide_eq_false_iff_not, Bool.not_eq_true', Bool.not_eq_false', Int.not_lt, Int.not_le, Int.ofNat_lt, Int.ofNat_le, Int.ofNat_inj, ne_eq, Decidable.not_not] at g9
                refine TO_off rfl rfl (by decide) rfl rfl rfl ?_
                refine TO_off rfl rfl (by decide) rfl rfl rfl ?_
                refine TO_off rfl rfl (by decide) rfl rfl rfl ?_
                refine TO_off rfl rfl (by decide) rfl rfl rfl ?_
                refine TO_off rfl rfl (by decide) rfl rfl rfl ?_
                refine TO_off rfl rfl (by decide) rfl rfl rfl ?_
                refine TO_off rfl rfl (by decide) rfl rfl rfl ?_
                refine TO_off rfl rfl (by decide) rfl rfl rfl ?_
                refine TO_on rfl rfl (by decide) rfl rfl (TOp_pure (pur_pick rfl rfl rfl) rfl ?_)
                refine TO_cons rfl (TOp_pure (pur_pick rfl rfl rfl) rfl ?_)
                refine TO_cons rfl (TOp_pure (pur_assign rfl) rfl ?_)
                refine TO_nil ?_
                refine T_region ?_
                refine TO_cons rfl (TOp_pure (pur_move rfl) rfl ?_)
                refine TO_cons rfl (TOp_pure (pur_add rfl rfl rfl (fits64 (by omega) (by omega))) rfl ?_)
                refine TO_cons rfl (TOp_pure (pur_assign rfl) rfl ?_)
                refine TO_nil ?_
                first
                | (refine again0 (E' := [(0, natA N), (2, edgesI p), (8, .m [0] 0 N 1), (9, natA r), (10, natA x), (11, boolA (false)), (12, natA (j + 1))]) (σ' := [.row (bools g)]) _ ?_ (Weak.to 1 (by decide) rfl rfl rfl ⟨rfl, rfl, rfl, rfl, rfl, rfl, rfl, trivial⟩) ⟨(j + 1), (false), ?_, ?_, rfl, rfl, rfl⟩
                   · omega
                   · omega
                   · rw [freeA_succ _ _ _ _ (by omega)]; simp_all)
                | (refine again0 (E' := [(0, natA N), (2, edgesI p), (8, .m [0] 0 N 1), (9, natA r), (10, natA x), (11, boolA (true)), (12, natA (j + 1))]) (σ' := [.row (bools g)]) _ ?_ (Weak.to 1 (by decide) rfl rfl rfl ⟨rfl, rfl, rfl, rfl, rfl, rfl, rfl, trivial⟩) ⟨(j + 1), (true), ?_, ?_, rfl, rfl, rfl⟩
                   · omega
                   · omega
                   · rw [freeA_succ _ _ _ _ (by omega)]; simp_all)
                | (refine again0 (E' := [(0, natA N), (2, edgesI p), (8, .m [0] 0 N 1), (9, natA r), (10, natA x), (11, boolA ((g.getD (p.getD j default).1.toNat false))), (12, natA (j + 1))]) (σ' := [.row (bools g)]) _ ?_ (Weak.to 1 (by decide) rfl rfl rfl ⟨rfl, rfl, rfl, rfl, rfl, rfl, rfl, trivial⟩) ⟨(j + 1), ((g.getD (p.getD j default).1.toNat false)), ?_, ?_, rfl, rfl, rfl⟩
                   · omega
                   · omega
                   · rw [freeA_succ _ _ _ _ (by omega)]; simp_all)
              · try simp only [decide_eq_true_eq, decide_eq_false_iff_not, Bool.not_eq_true', Bool.not_eq_false', Int.not_lt, Int.not_le, Int.ofNat_lt, Int.ofNat_le, Int.ofNat_inj, ne_eq, Decidable.not_not] at g9
                refine TO_on rfl rfl (by decide) rfl rfl (TOp_pure (pur_move rfl) rfl ?_)
                refine TO_on rfl rfl (by decide) rfl rfl (TOp_pure (pur_move rfl) rfl ?_)
                refine TO_on rfl rfl (by decide) rfl rfl (TOp_pure (pur_move rfl) rfl ?_)
                refine TO_on rfl rfl (by decide) rfl rfl (TOp_pure (by first | exact pur_ixN sl25 rfl rfl (by omega) rfl | exact pur_ixN_m sl25 rfl rfl (by omega) rfl | exact pur_ix sl25 rfl rfl (by omega) (by omega) rfl | exact pur_ix_m sl25 rfl rfl (by omega) (by omega) rfl) rfl ?_)
                refine TO_on rfl rfl (by decide) rfl rfl (TOp_pure (by first | exact pur_fa_q fld52_0 rfl rfl | exact pur_fa_b fld52_0 rfl rfl | exact pur_fa_e fld52_0 rfl rfl) rfl ?_)
                refine TO_on rfl rfl (by decide) rfl rfl (TOp_pure (by first | exact pur_ld_b one3 rfl rfl rfl rfl | exact pur_ld_flat rfl _ 0 len_edge one3 rfl rfl (by omega) rfl | exact pur_ld_q one3 rfl rfl rfl | exact pur_ld_e one3 rfl rfl rfl rfl) rfl ?_)
                refine TO_on rfl rfl (by decide) rfl rfl (TOp_pure (by first | exact pur_ixN sl58 rfl rfl (by omega) rfl | exact pur_ixN_m sl58 rfl rfl (by omega) rfl | exact pur_ix sl58 rfl rfl (by omega) (by omega) rfl | exact pur_ix_m sl58 rfl rfl (by omega) (by omega) rfl) rfl ?_)
                refine TO_on rfl rfl (by decide) rfl rfl (TOp_pure (by first | exact pur_ld_b one4 rfl rfl rfl rfl | exact pur_ld_bools rfl one4 rfl rfl (by omega) | exact pur_lde_bools rfl one4 rfl rfl rfl (by omega) | exact pur_ld_q one4 rfl rfl rfl | exact pur_ld_e one4 rfl rfl rfl rfl) rfl ?_)
                refine TO_on rfl rfl (by decide) rfl rfl (TOp_pure (pur_pick rfl rfl rfl) rfl ?_)
                refine TO_cons rfl (TOp_pure (pur_pick rfl rfl rfl) rfl ?_)
                refine TO_cons rfl (TOp_pure (pur_assign rfl) rfl ?_)
                refine TO_nil ?_
                refine T_region ?_
                refine TO_cons rfl (TOp_pure (pur_move rfl) rfl ?_)
                refine TO_cons rfl (TOp_pure (pur_add rfl rfl rfl (fits64 (by omega) (by omega))) rfl ?_)
                refine TO_cons rfl (TOp_pure (pur_assign rfl) rfl ?_)
                refine TO_nil ?_
                first
                | (refine again0 (E' := [(0, natA N), (2, edgesI p), (8, .m [0] 0 N 1), (9, natA r), (10, natA x), (11, boolA (false)), (12, natA (j + 1))]) (σ' := [.row (bools g)]) _ ?_ (Weak.to 1 (by decide) rfl rfl rfl ⟨rfl, rfl, rfl, rfl, rfl, rfl, rfl, trivial⟩) ⟨(j + 1), (false), ?_, ?_, rfl, rfl, rfl⟩
                   · omega
                   · omega
                   · rw [freeA_succ _ _ _ _ (by omega)]; simp_all)
                | (refine again0 (E' := [(0, natA N), (2, edgesI p), (8, .m [0] 0 N 1), (9, natA r), (10, natA x), (11, boolA (true)), (12, natA (j + 1))]) (σ' := [.row (bools g)]) _ ?_ (Weak.to 1 (by decide) rfl rfl rfl ⟨rfl, rfl, rfl, rfl, rfl, rfl, rfl, trivial⟩) ⟨(j + 1), (true), ?_, ?_, rfl, rfl, rfl⟩
                   · omega
                   · omega
                   · rw [freeA_succ _ _ _ _ (by omega)]; simp_all)
                | (refine again0 (E' := [(0, natA N), (2, edgesI p), (8, .m [0] 0 N 1), (9, natA r), (10, natA x), (11, boolA ((g.getD (p.getD j default).1.toNat false))), (12, natA (j + 1))]) (σ' := [.row (bools g)]) _ ?_ (Weak.to 1 (by decide) rfl rfl rfl ⟨rfl, rfl, rfl, rfl, rfl, rfl, rfl, trivial⟩) ⟨(j + 1), ((g.getD (p.getD j default).1.toNat false)), ?_, ?_, rfl, rfl, rfl⟩
                   · omega
                   · omega
                   · rw [freeA_succ _ _ _ _ (by omega)]; simp_all)
            · try simp only [decide_eq_true_eq, decide_eq_false_iff_not, Bool.not_eq_true', Bool.not_eq_false', Int.not_lt, Int.not_le, Int.ofNat_lt, Int.ofNat_le, Int.ofNat_inj, ne_eq, Decidable.not_not] at g8
              refine TO_off rfl rfl (by decide) rfl rfl rfl ?_
              refine TO_off rfl rfl (by decide) rfl rfl rfl ?_
              refine TO_off rfl rfl (by decide) rfl rfl rfl ?_
              refine TO_off rfl rfl (by decide) rfl rfl rfl ?_
              refine TO_off rfl rfl (by decide) rfl rfl rfl ?_
              refine TO_off rfl rfl (by decide) rfl rfl rfl ?_
              refine TO_off rfl rfl (by decide) rfl rfl rfl ?_
              refine TO_off rfl rfl (by decide) rfl rfl rfl ?_
              refine TO_off rfl rfl (by decide) rfl rfl rfl ?_
              refine TO_off rfl rfl (by decide) rfl rfl rfl ?_
              refine TO_off rfl rfl (by decide) rfl rfl rfl ?_
              refine TO_off rfl rfl (by decide) rfl rfl rfl ?_
              refine TO_off rfl rfl (by decide) rfl rfl rfl ?_
              refine TO_off rfl rfl (by decide) rfl rfl rfl ?_
              refine TO_off rfl rfl (by decide) rfl rfl rfl ?_
              refine TO_off rfl rfl (by decide) rfl rfl rfl ?_
              refine TO_off rfl rfl (by decide) rfl rfl rfl ?_
              refine TO_cons rfl (TOp_pure (pur_pick rfl rfl rfl) rfl ?_)
              refine TO_cons rfl (TOp_pure (pur_assign rfl) rfl ?_)
              refine TO_nil ?_
              refine T_region ?_
              refine TO_cons rfl (TOp_pure (pur_move rfl) rfl ?_)
              refine TO_cons rfl (TOp_pure (pur_add rfl rfl rfl (fits64 (by omega) (by omega))) rfl ?_)
              refine TO_cons rfl (TOp_pure (pur_assign rfl) rfl ?_)
              refine TO_nil ?_
              first
              | (refine again0 (E' := [(0, natA N), (2, edgesI p), (8, .m [0] 0 N 1), (9, natA r), (10, natA x), (11, boolA (false)), (12, natA (j + 1))]) (σ' := [.row (bools g)]) _ ?_ (Weak.to 1 (by decide) rfl rfl rfl ⟨rfl, rfl, rfl, rfl, rfl, rfl, rfl, trivial⟩) ⟨(j + 1), (false), ?_, ?_, rfl, rfl, rfl⟩
                 · omega
                 · omega
                 · rw [freeA_succ _ _ _ _ (by omega)]; simp_all)
              | (refine again0 (E' := [(0, natA N), (2, edgesI p), (8, .m [0] 0 N 1), (9, natA r), (10, natA x), (11, boolA (true)), (12, natA (j + 1))]) (σ' := [.row (bools g)]) _ ?_ (Weak.to 1 (by decide) rfl rfl rfl ⟨rfl, rfl, rfl, rfl, rfl, rfl, rfl, trivial⟩) ⟨(j + 1), (true), ?_, ?_, rfl, rfl, rfl⟩
                 · omega
                 · omega
                 · rw [freeA_succ _ _ _ _ (by omega)]; simp_all)
              | (refine again0 (E' := [(0, natA N), (2, edgesI p), (8, .m [0] 0 N 1), (9, natA r), (10, natA x), (11, boolA ((g.getD (p.getD j default).1.toNat false))), (12, natA (j + 1))]) (σ' := [.row (bools g)]) _ ?_ (Weak.to 1 (by decide) rfl rfl rfl ⟨rfl, rfl, rfl, rfl, rfl, rfl, rfl, trivial⟩) ⟨(j + 1), ((g.getD (p.getD j default).1.toNat false)), ?_, ?_, rfl, rfl, rfl⟩
                 · omega
                 · omega
                 · rw [freeA_succ _ _ _ _ (by omega)]; simp_all)
          · try simp only [decide_eq_true_eq, decide_eq_false_iff_not, Bool.not_eq_true', Bool.not_eq_false', Int.not_lt, Int.not_le, Int.ofNat_lt, Int.ofNat_le, Int.ofNat_inj, ne_eq, Decidable.not_not] at c7
            refine T_exit ?_
            refine then_exit ?_
            refine then_exit ?_
            refine block_exit ?_
            refine T_seq ?_
            refine T_region ?_
            refine TO_cons rfl (TOp_pure (pur_move rfl) rfl ?_)
            refine TO_nil ?_
            refine T_keep [0, 2, 8, 9, 10, 88] ?_
            simp only [pick, List.map, lk, put, val, constA, entry, cellsOf, cellVal, cellVals, List.drop, List.take, List.append_assoc, List.nil_append, List.cons_append, List.singleton_append, List.length_cons, List.length_nil, List.set_cons_zero, List.set_cons_succ, setRow, setSub, spl, Root.under, List.getElem?_cons_zero, List.getElem?_cons_succ, List.map_cons, List.map_nil, reduceIte, Nat.reduceEqDiff, Nat.reduceAdd, Nat.reduceSub, Int.toNat_natCast, Nat.succ_ne_zero, Nat.zero_ne_one, Nat.one_ne_zero]
            refine T_cond rfl (fun c10 => ?_) (fun c10 => ?_)
            · try simp only [decide_eq_true_eq, decide_eq_false_iff_not, Bool.not_eq_true', Bool.not_eq_false', Int.not_lt, Int.not_le, Int.ofNat_lt, Int.ofNat_le, Int.ofNat_inj, ne_eq, Decidable.not_not] at c10
              refine T_region ?_
              refine TO_cons rfl (TOp_pure (pur_move rfl) rfl ?_)
              refine TO_cons rfl (TOp_pure (pur_move rfl) rfl ?_)
              refine TO_cons rfl (TOp_pure (by first | exact pur_ixN sl58 rfl rfl (by omega) rfl | exact pur_ixN_m sl58 rfl rfl (by omega) rfl | exact pur_ix sl58 rfl rfl (by omega) (by omega) rfl | exact pur_ix_m sl58 rfl rfl (by omega) (by omega) rfl) rfl ?_)
              first | refine TO_cons rfl (TOp_storeB sz4 rfl rfl rfl rfl rfl rfl rfl (by decide) (Nat.le_of_ble_eq_true rfl) rfl ?_) | refine TO_cons rfl (TOp_setB sz4 rfl rfl rfl rfl rfl (by omega) rfl ?_)
              refine TO_nil ?_
              refine T_region ?_
              refine TO_cons rfl (TOp_pure (pur_move rfl) rfl ?_)
              refine TO_cons rfl (TOp_pure (pur_add rfl rfl rfl (fits64 (by omega) (by omega))) rfl ?_)
              refine TO_cons rfl (TOp_pure (pur_assign rfl) rfl ?_)
              refine TO_nil ?_
              first
              | (refine again0 (E' := [(0, natA N), (2, edgesI p), (8, .m [0] 0 N 1), (9, natA r), (10, natA (x + 1))]) (σ' := [.row (bools (g.set x true))]) _ ?_ (Weak.to 1 (by decide) rfl rfl rfl ⟨rfl, rfl, rfl, rfl, rfl, trivial⟩) ⟨(x + 1), (g.set x true), ?_, ?_, ?_, ?_, rfl, rfl, rfl⟩
                 · omega
                 · omega
                 · first | exact hgl2 | (rw [List.length_set]; exact hgl2)
                 · first | exact hso2 | exact Sound.set hso2 (by omega) (by rw [show p.length = j by omega]; simp_all)
                 · first | exact RX.free hrx (by omega) (by rw [show p.length = j by omega]; simp_all) | exact RX.stuck (fun j hj => by have := hpin j hj; omega) hrx (by rw [show p.length = j by omega]; simp_all))
              | (refine again0 (E' := [(0, natA N), (2, edgesI p), (8, .m [0] 0 N 1), (9, natA r), (10, natA (x + 1))]) (σ' := [.row (bools (g))]) _ ?_ (Weak.to 1 (by decide) rfl rfl rfl ⟨rfl, rfl, rfl, rfl, rfl, trivial⟩) ⟨(x + 1), (g), ?_, ?_, ?_, ?_, rfl, rfl, rfl⟩
                 · omega
                 · omega
                 · first | exact hgl2 | (rw [List.length_set]; exact hgl2)
                 · first | exact hso2 | exact Sound.set hso2 (by omega) (by rw [show p.length = j by omega]; simp_all)
                 · first | exact RX.free hrx (by omega) (by rw [show p.length = j by omega]; simp_all) | exact RX.stuck (fun j hj => by have := hpin j hj; omega) hrx (by rw [show p.length = j by omega]; simp_all))
            · try simp only [decide_eq_true_eq, decide_eq_false_iff_not, Bool.not_eq_true', Bool.not_eq_false', Int.not_lt, Int.not_le, Int.ofNat_lt, Int.ofNat_le, Int.ofNat_inj, ne_eq, Decidable.not_not] at c10
              refine T_skip ?_
              refine T_region ?_
              refine TO_cons rfl (TOp_pure (pur_move rfl) rfl ?_)
              refine TO_cons rfl (TOp_pure (pur_add rfl rfl rfl (fits64 (by omega) (by omega))) rfl ?_)
              refine TO_cons rfl (TOp_pure (pur_assign rfl) rfl ?_)
              refine TO_nil ?_
              first
              | (refine again0 (E' := [(0, natA N), (2, edgesI p), (8, .m [0] 0 N 1), (9, natA r), (10, natA (x + 1))]) (σ' := [.row (bools (g.set x true))]) _ ?_ (Weak.to 1 (by decide) rfl rfl rfl ⟨rfl, rfl, rfl, rfl, rfl, trivial⟩) ⟨(x + 1), (g.set x true), ?_, ?_, ?_, ?_, rfl, rfl, rfl⟩
                 · omega
                 · omega
                 · first | exact hgl2 | (rw [List.length_set]; exact hgl2)
                 · first | exact hso2 | exact Sound.set hso2 (by omega) (by rw [show p.length = j by omega]; simp_all)
                 · first | exact RX.free hrx (by omega) (by rw [show p.length = j by omega]; simp_all) | exact RX.stuck (fun j hj => by have := hpin j hj; omega) hrx (by rw [show p.length = j by omega]; simp_all))
              | (refine again0 (E' := [(0, natA N), (2, edgesI p), (8, .m [0] 0 N 1), (9, natA r), (10, natA (x + 1))]) (σ' := [.row (bools (g))]) _ ?_ (Weak.to 1 (by decide) rfl rfl rfl ⟨rfl, rfl, rfl, rfl, rfl, trivial⟩) ⟨(x + 1), (g), ?_, ?_, ?_, ?_, rfl, rfl, rfl⟩
                 · omega
                 · omega
                 · first | exact hgl2 | (rw [List.length_set]; exact hgl2)
                 · first | exact hso2 | exact Sound.set hso2 (by omega) (by rw [show p.length = j by omega]; simp_all)
                 · first | exact RX.free hrx (by omega) (by rw [show p.length = j by omega]; simp_all) | exact RX.stuck (fun j hj => by have := hpin j hj; omega) hrx (by rw [show p.length = j by omega]; simp_all))
        · try simp only [decide_eq_true_eq, decide_eq_false_iff_not, Bool.not_eq_true', Bool.not_eq_false', Int.not_lt, Int.not_le, Int.ofNat_lt, Int.ofNat_le, Int.ofNat_inj, ne_eq, Decidable.not_not] at c6
          refine T_exit ?_
          refine then_exit ?_
          refine then_exit ?_
          refine block_exit ?_
          refine T_region ?_
          refine TO_cons rfl (TOp_pure (pur_move rfl) rfl ?_)
          refine TO_cons rfl (TOp_pure (pur_add rfl rfl rfl (fits64 (by omega) (by omega))) rfl ?_)
          refine TO_cons rfl (TOp_pure (pur_assign rfl) rfl ?_)
          refine TO_nil ?_
          refine again0 (E' := [(0, natA N), (2, edgesI p), (8, .m [0] 0 N 1), (9, natA (r + 1))]) (σ' := [.row (bools (g))]) _ ?_ (Weak.to 1 (by decide) rfl rfl rfl ⟨rfl, rfl, rfl, rfl, trivial⟩) ⟨(r + 1), (g), ?_, ?_, ?_, ?_, rfl, rfl, rfl⟩
          · omega
          · omega
          · exact hgl2
          · exact hso2
          · exact PK.next hrx (by omega) hpk
      · try simp only [decide_eq_true_eq, decide_eq_false_iff_not, Bool.not_eq_true', Bool.not_eq_false', Int.not_lt, Int.not_le, Int.ofNat_lt, Int.ofNat_le, Int.ofNat_inj, ne_eq, Decidable.not_not] at c5
        refine T_exit ?_
        refine then_exit ?_
        refine then_exit ?_
        refine block_exit ?_
        refine T_seq ?_
        refine T_seq ?_
        refine T_region ?_
        refine TO_cons rfl (TOp_pure (pur_assign rfl) rfl ?_)
        refine TO_nil ?_
        refine T_keep [0, 8, 13] ?_
        simp only [pick, List.map, lk, put, val, constA, entry, cellsOf, cellVal, cellVals, List.drop, List.take, List.append_assoc, List.nil_append, List.cons_append, List.singleton_append, List.length_cons, List.length_nil, List.set_cons_zero, List.set_cons_succ, setRow, setSub, spl, Root.under, List.getElem?_cons_zero, List.getElem?_cons_succ, List.map_cons, List.map_nil, reduceIte, Nat.reduceEqDiff, Nat.reduceAdd, Nat.reduceSub, Int.toNat_natCast, Nat.succ_ne_zero, Nat.zero_ne_one, Nat.one_ne_zero]
        refine T_block ?_
        refine T_loop (fun k E σ => ∃ (y : Nat), (y ≤ N) ∧ (∀ z, z < y → gone.getD z false = true) ∧ k = N - y ∧ E = [(0, natA N), (8, .m [0] 0 N 1), (13, natA y)] ∧ σ = [.row (bools gone)]) _ (E0 := [(0, natA N), (8, .m [0] 0 N 1), (13, natA (0))]) (σ0 := [.row (bools gone)]) (Weak.to 1 (by decide) rfl rfl rfl ⟨rfl, rfl, rfl, trivial⟩) ⟨(0), ?_, ?_, rfl, rfl, rfl⟩ ?_
        · (first | omega | (simp_all; done) | (simp_all; omega))
        · (first | omega | (simp_all; done) | (simp_all; omega))
        rintro k E σ ⟨y, hy, hally, rfl, rfl, rfl⟩
        refine T_seq ?_
        refine T_seq ?_
        refine T_region ?_
        refine TO_cons rfl (TOp_pure (pur_move rfl) rfl ?_)
        refine TO_cons rfl (TOp_pure (pur_move rfl) rfl ?_)
        refine TO_cons rfl (TOp_pure (pur_lss rfl rfl rfl) rfl ?_)
        refine TO_nil ?_
        refine T_keep [0, 8, 13, 94] ?_
        simp only [pick, List.map, lk, put, val, constA, entry, cellsOf, cellVal, cellVals, List.drop, List.take, List.append_assoc, List.nil_append, List.cons_append, List.singleton_append, List.length_cons, List.length_nil, List.set_cons_zero, List.set_cons_succ, setRow, setSub, spl, Root.under, List.getElem?_cons_zero, List.getElem?_cons_succ, List.map_cons, List.map_nil, reduceIte, Nat.reduceEqDiff, Nat.reduceAdd, Nat.reduceSub, Int.toNat_natCast, Nat.succ_ne_zero, Nat.zero_ne_one, Nat.one_ne_zero]
        refine T_cond rfl (fun c11 => ?_) (fun c11 => ?_)
        · try simp only [decide_eq_true_eq, decide_eq_false_iff_not, Bool.not_eq_true', Bool.not_eq_false', Int.not_lt, Int.not_le, Int.ofNat_lt, Int.ofNat_le, Int.ofNat_inj, ne_eq, Decidable.not_not] at c11
          refine T_skip ?_
          refine T_seq ?_
          refine T_block ?_
          refine T_seq ?_
          refine T_region ?_
          refine TO_cons rfl (TOp_pure (pur_move rfl) rfl ?_)
          refine TO_cons rfl (TOp_pure (pur_move rfl) rfl ?_)
          refine TO_cons rfl (TOp_pure (by first | exact pur_ixN sl58 rfl rfl (by omega) rfl | exact pur_ixN_m sl58 rfl rfl (by omega) rfl | exact pur_ix sl58 rfl rfl (by omega) (by omega) rfl | exact pur_ix_m sl58 rfl rfl (by omega) (by omega) rfl) rfl ?_)
          refine TO_cons rfl (TOp_pure (by first | exact pur_ld_b one4 rfl rfl rfl rfl | exact pur_ld_bools rfl one4 rfl rfl (by omega) | exact pur_lde_bools rfl one4 rfl rfl rfl (by omega) | exact pur_ld_q one4 rfl rfl rfl | exact pur_ld_e one4 rfl rfl rfl rfl) rfl ?_)
          refine TO_cons rfl (TOp_pure (pur_not rfl rfl) rfl ?_)
          refine TO_nil ?_
          refine T_keep [0, 8, 13, 101] ?_
          simp only [pick, List.map, lk, put, val, constA, entry, cellsOf, cellVal, cellVals, List.drop, List.take, List.append_assoc, List.nil_append, List.cons_append, List.singleton_append, List.length_cons, List.length_nil, List.set_cons_zero, List.set_cons_succ, setRow, setSub, spl, Root.under, List.getElem?_cons_zero, List.getElem?_cons_succ, List.map_cons, List.map_nil, reduceIte, Nat.reduceEqDiff, Nat.reduceAdd, Nat.reduceSub, Int.toNat_natCast, Nat.succ_ne_zero, Nat.zero_ne_one, Nat.one_ne_zero]
          refine T_cond rfl (fun c12 => ?_) (fun c12 => ?_)
          · try simp only [decide_eq_true_eq, decide_eq_false_iff_not, Bool.not_eq_true', Bool.not_eq_false', Int.not_lt, Int.not_le, Int.ofNat_lt, Int.ofNat_le, Int.ofNat_inj, ne_eq, Decidable.not_not] at c12
            refine T_seq ?_
            refine T_region ?_
            refine TO_cons rfl (TOp_pure (pur_assign rfl) rfl ?_)
            refine TO_nil ?_
            refine T_keep [6] ?_
            simp only [pick, List.map, lk, put, val, constA, entry, cellsOf, cellVal, cellVals, List.drop, List.take, List.append_assoc, List.nil_append, List.cons_append, List.singleton_append, List.length_cons, List.length_nil, List.set_cons_zero, List.set_cons_succ, setRow, setSub, spl, Root.under, List.getElem?_cons_zero, List.getElem?_cons_succ, List.map_cons, List.map_nil, reduceIte, Nat.reduceEqDiff, Nat.reduceAdd, Nat.reduceSub, Int.toNat_natCast, Nat.succ_ne_zero, Nat.zero_ne_one, Nat.one_ne_zero]
            refine T_ret ?_
            refine block_ret ?_
            refine then_ret ?_
            refine then_ret ?_
            refine block_ret ?_
            refine then_ret ?_
            refine end_ret (.tmp .nil) rfl rfl ⟨?_, rfl⟩
            simp only [resA, lk, reduceIte, Nat.reduceEqDiff]
            refine congrArg boolA ?_
            first | (rw [tr_false]; intro h; exact tr_not.1 c1 h.1) | (rw [tr_false]; rintro ⟨h1, h2, h3⟩; have h4 := (pref_iff hve _ _).2 (h2 _ (getD_mem (d := default) (i := i) (by omega))); simp_all; done) | (rw [tr_false]; rintro ⟨h1, h2, h3⟩; have := PK.end hpk (by omega) (x := y) (by omega) (by simp_all); rw [hgl] at this; exact h3 this) | (rw [tr_true]; exact ⟨hve, hq, sound_end hso hgl fun z hz => hally z (by omega)⟩)
          · try simp only [decide_eq_true_eq, decide_eq_false_iff_not, Bool.not_eq_true', Bool.not_eq_false', Int.not_lt, Int.not_le, Int.ofNat_lt, Int.ofNat_le, Int.ofNat_inj, ne_eq, Decidable.not_not] at c12
            refine T_skip ?_
            refine T_region ?_
            refine TO_cons rfl (TOp_pure (pur_move rfl) rfl ?_)
            refine TO_cons rfl (TOp_pure (pur_add rfl rfl rfl (fits64 (by omega) (by omega))) rfl ?_)
            refine TO_cons rfl (TOp_pure (pur_assign rfl) rfl ?_)
            refine TO_nil ?_
            refine again0 (E' := [(0, natA N), (8, .m [0] 0 N 1), (13, natA (y + 1))]) (σ' := [.row (bools gone)]) _ ?_ (Weak.to 1 (by decide) rfl rfl rfl ⟨rfl, rfl, rfl, trivial⟩) ⟨(y + 1), ?_, ?_, rfl, rfl, rfl⟩
            · omega
            · omega
            · exact all_succ hally (by simp_all)
        · try simp only [decide_eq_true_eq, decide_eq_false_iff_not, Bool.not_eq_true', Bool.not_eq_false', Int.not_lt, Int.not_le, Int.ofNat_lt, Int.ofNat_le, Int.ofNat_inj, ne_eq, Decidable.not_not] at c11
          refine T_exit ?_
          refine then_exit ?_
          refine then_exit ?_
          refine block_exit ?_
          refine T_seq ?_
          refine T_region ?_
          refine TO_cons rfl (TOp_pure (pur_assign rfl) rfl ?_)
          refine TO_nil ?_
          refine T_keep [6] ?_
          simp only [pick, List.map, lk, put, val, constA, entry, cellsOf, cellVal, cellVals, List.drop, List.take, List.append_assoc, List.nil_append, List.cons_append, List.singleton_append, List.length_cons, List.length_nil, List.set_cons_zero, List.set_cons_succ, setRow, setSub, spl, Root.under, List.getElem?_cons_zero, List.getElem?_cons_succ, List.map_cons, List.map_nil, reduceIte, Nat.reduceEqDiff, Nat.reduceAdd, Nat.reduceSub, Int.toNat_natCast, Nat.succ_ne_zero, Nat.zero_ne_one, Nat.one_ne_zero]
          refine T_ret ?_
          refine end_ret (.tmp .nil) rfl rfl ⟨?_, rfl⟩
          simp only [resA, lk, reduceIte, Nat.reduceEqDiff]
          refine congrArg boolA ?_
          first | (rw [tr_false]; intro h; exact tr_not.1 c1 h.1) | (rw [tr_false]; rintro ⟨h1, h2, h3⟩; have h4 := (pref_iff hve _ _).2 (h2 _ (getD_mem (d := default) (i := i) (by omega))); simp_all; done) | (rw [tr_false]; rintro ⟨h1, h2, h3⟩; have := PK.end hpk (by omega) (x := y) (by omega) (by simp_all); rw [hgl] at this; exact h3 this) | (rw [tr_true]; exact ⟨hve, hq, sound_end hso hgl fun z hz => hally z (by omega)⟩)
end Go.Proofs.Ytglgcncmjnjfgaa

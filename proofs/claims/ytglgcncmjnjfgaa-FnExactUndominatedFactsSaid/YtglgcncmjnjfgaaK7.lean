/- Contracts of functions of the program (po), each walked once. -/
import Derived.Test.YtglgcncmjnjfgaaProg
import Derived.Test.YtglgcncmjnjfgaaK6
set_option linter.unusedVariables false
set_option linter.unusedSimpArgs false
set_option maxRecDepth 4000
namespace Go.Proofs.Ytglgcncmjnjfgaa
open Go Go.Proofs Go.Sep
theorem ent12 : EnT prg 12 := fun args w => by
  have h := Try.func12
  simp [callFunc, h, Try.f12]
theorem ent16 : EnT prg 16 := fun args w => by
  have h := Try.func16
  simp [callFunc, h, Try.f16]
theorem ent17 : EnT prg 17 := fun args w => by
  have h := Try.func17
  simp [callFunc, h, Try.f17]
theorem ent37 : EnT prg 37 := fun args w => by
  have h := Try.func37
  simp [callFunc, h, Try.f37]
theorem ent52 : EnT prg 52 := fun args w => by
  have h := Try.func52
  simp [callFunc, h, Try.f52]
theorem ent56 : EnT prg 56 := fun args w => by
  have h := Try.func56
  simp [callFunc, h, Try.f56]

theorem PO_end {n : Int} {es p : List (Int × Int)} {s : List Int} {i : Nat} (h1 : VP n es p) (h2 : MI n es s) (hi : ¬ (i : Int) < n) (h : ∀ j : Nat, j < i → POx es p s (j : Int)) : PO n es p s :=
  ⟨h1, h2, fun x hx => h x (by omega)⟩
theorem PO_not {n : Int} {es p : List (Int × Int)} {s : List Int} {i : Nat} (hi : (i : Int) < n) (h : ¬ POx es p s (i : Int)) : ¬ PO n es p s := fun hp => h (hp.2.2 i hi)

/-- spec.IsParetoOptimal -/
theorem spec_IsParetoOptimal (n : Int) (es p : List (Int × Int)) (s : List Int) (he : es.length ≤ 1048576) (hr : R64 es) (hn : -9223372036854775808 ≤ n ∧ n ≤ 9223372036854775807) (hp : p.length ≤ 1048576) (hs : s.length ≤ 1048576) : FnV prg 25 [intA n, edgesI es, edgesI p, .i 1 (ints s)] (boolA (tr (PO n es p s))) := by
  refine fnV_of_T Try.func25 rfl rfl (Nat.le_of_ble_eq_true rfl) ?_
  simp only [entry, Nat.reduceAdd]
  refine T_seq ?_
  refine T_region ?_
  refine TO_cons rfl (TOp_pure (pur_assign rfl) rfl ?_)
  refine TO_nil ?_
  refine T_keep [0, 1, 2, 3] ?_
  simp only [pick, List.map, lk, put, val, constA, entry, cellsOf, cellVal, cellVals, List.drop, List.take, List.append_assoc, List.nil_append, List.cons_append, List.singleton_append, List.length_cons, List.length_nil, List.set_cons_zero, List.set_cons_succ, setRow, setSub, spl, Root.under, List.getElem?_cons_zero, List.getElem?_cons_succ, List.map_cons, List.map_nil, reduceIte, Nat.reduceEqDiff, Nat.reduceAdd, Nat.reduceSub, Int.toNat_natCast, Nat.succ_ne_zero, Nat.zero_ne_one, Nat.one_ne_zero]
  refine T_seq ?_
  refine T_seq ?_
  refine T_region ?_
  refine TO_cons rfl (TOp_pure (pur_move rfl) rfl ?_)
  refine TO_cons rfl (TOp_pure (pur_move rfl) rfl ?_)
  refine TO_cons rfl (TOp_pure (pur_move rfl) rfl ?_)
  refine TO_cons rfl (TOp_callV (call_static ent16 rfl) (spec_IsValidPreference n es p he hr hn hp) rfl rfl rfl ?_)
  refine TO_cons rfl (TOp_pure (pur_not rfl rfl) rfl ?_)
  refine TO_cons rfl (TOp_pure (pur_move rfl) rfl ?_)
  refine TO_split 17 rfl (fun g1 => ?_) (fun g1 => ?_)
  · try simp only [decide_eq_true_eq, decide_eq_false_iff_not, Bool.not_eq_true', Bool.not_eq_false', Int.not_lt, Int.not_le, Int.ofNat_lt, Int.ofNat_le, Int.ofNat_inj, ne_eq, Decidable.not_not] at g1
    refine TO_off rfl rfl (by decide) rfl rfl rfl ?_
    refine TO_off rfl rfl (by decide) rfl rfl rfl ?_
    refine TO_off rfl rfl (by decide) rfl rfl rfl ?_
    refine TO_off rfl rfl (by decide) rfl rfl rfl ?_
    refine TO_off rfl rfl (by decide) rfl rfl rfl ?_
    refine TO_cons rfl (TOp_pure (pur_pick rfl rfl rfl) rfl ?_)
    refine TO_nil ?_
    refine T_keep [0, 1, 2, 3, 23] ?_
    simp only [pick, List.map, lk, put, val, constA, entry, cellsOf, cellVal, cellVals, List.drop, List.take, List.append_assoc, List.nil_append, List.cons_append, List.singleton_append, List.length_cons, List.length_nil, List.set_cons_zero, List.set_cons_succ, setRow, setSub, spl, Root.under, List.getElem?_cons_zero, List.getElem?_cons_succ, List.map_cons, List.map_nil, reduceIte, Nat.reduceEqDiff, Nat.reduceAdd, Nat.reduceSub, Int.toNat_natCast, Nat.succ_ne_zero, Nat.zero_ne_one, Nat.one_ne_zero]
    refine T_cond (t := true) rfl (fun _ => ?_) (fun h => nomatch h)
    refine T_seq ?_
    refine T_region ?_
    refine TO_cons rfl (TOp_pure (pur_assign rfl) rfl ?_)
    refine TO_nil ?_
    refine T_keep [8] ?_
    simp only [pick, List.map, lk, put, val, constA, entry, cellsOf, cellVal, cellVals, List.drop, List.take, List.append_assoc, List.nil_append, List.cons_append, List.singleton_append, List.length_cons, List.length_nil, List.set_cons_zero, List.set_cons_succ, setRow, setSub, spl, Root.under, List.getElem?_cons_zero, List.getElem?_cons_succ, List.map_cons, List.map_nil, reduceIte, Nat.reduceEqDiff, Nat.reduceAdd, Nat.reduceSub, Int.toNat_natCast, Nat.succ_ne_zero, Nat.zero_ne_one, Nat.one_ne_zero]
    refine T_ret ?_
    refine then_ret ?_
    refine end_ret (.tmp .nil) rfl rfl ⟨?_, rfl⟩
    simp only [resA, lk, reduceIte, Nat.reduceEqDiff]
    refine congrArg boolA ?_
    first | (rw [tr_false]; intro h; exact tr_not.1 (by assumption) h.1; done) | (rw [tr_false]; intro h; exact tr_not.1 (by assumption) h.2.1; done) | (rw [tr_false (PO_not (i := i) (by omega) (fun h => by have := (POx_false hve (by assumption)).1 h; rw [show s.length = m by omega, hal] at this; simp_all))]; done) | (rw [tr_true (PO_end (tr_iff.1 (by assumption)) hmi (by omega) hall)])
  · try simp only [decide_eq_true_eq, decide_eq_false_iff_not, Bool.not_eq_true', Bool.not_eq_false', Int.not_lt, Int.not_le, Int.ofNat_lt, Int.ofNat_le, Int.ofNat_inj, ne_eq, Decidable.not_not] at g1
    refine TO_on rfl rfl (by decide) rfl rfl (TOp_pure (pur_move rfl) rfl ?_)
    refine TO_on rfl rfl (by decide) rfl rfl (TOp_pure (pur_move rfl) rfl ?_)
    refine TO_on rfl rfl (by decide) rfl rfl (TOp_pure (pur_move rfl) rfl ?_)
    refine TO_on rfl rfl (by decide) rfl rfl (TOp_callV (call_static ent52 rfl) (spec_IsMaximalIndependent n es s he hr hn hs) rfl rfl rfl ?_)
    refine TO_on rfl rfl (by decide) rfl rfl (TOp_pure (pur_not rfl rfl) rfl ?_)
    refine TO_cons rfl (TOp_pure (pur_pick rfl rfl rfl) rfl ?_)
    refine TO_nil ?_
    refine T_keep [0, 1, 2, 3, 23] ?_
    simp only [pick, List.map, lk, put, val, constA, entry, cellsOf, cellVal, cellVals, List.drop, List.take, List.append_assoc, List.nil_append, List.cons_append, List.singleton_append, List.length_cons, List.length_nil, List.set_cons_zero, List.set_cons_succ, setRow, setSub, spl, Root.under, List.getElem?_cons_zero, List.getElem?_cons_succ, List.map_cons, List.map_nil, reduceIte, Nat.reduceEqDiff, Nat.reduceAdd, Nat.reduceSub, Int.toNat_natCast, Nat.succ_ne_zero, Nat.zero_ne_one, Nat.one_ne_zero]
    refine T_cond rfl (fun c2 => ?_) (fun c2 => ?_)
    · try simp only [decide_eq_true_eq, decide_eq_false_iff_not, Bool.not_eq_true', Bool.not_eq_false', Int.not_lt, Int.not_le, Int.ofNat_lt, Int.ofNat_le, Int.ofNat_inj, ne_eq, Decidable.not_not] at c2
      refine T_seq ?_
      refine T_region ?_
      refine TO_cons rfl (TOp_pure (pur_assign rfl) rfl ?_)
      refine TO_nil ?_
      refine T_keep [8] ?_
      simp only [pick, List.map, lk, put, val, constA, entry, cellsOf, cellVal, cellVals, List.drop, List.take, List.append_assoc, List.nil_append, List.cons_append, List.singleton_append, List.length_cons, List.length_nil, List.set_cons_zero, List.set_cons_succ, setRow, setSub, spl, Root.under, List.getElem?_cons_zero, List.getElem?_cons_succ, List.map_cons, List.map_nil, reduceIte, Nat.reduceEqDiff, Nat.reduceAdd, Nat.reduceSub, Int.toNat_natCast, Nat.succ_ne_zero, Nat.zero_ne_one, Nat.one_ne_zero]
      refine T_ret ?_
      refine then_ret ?_
      refine end_ret (.tmp .nil) rfl rfl ⟨?_, rfl⟩
      simp only [resA, lk, reduceIte, Nat.reduceEqDiff]
      refine congrArg boolA ?_
      first | (rw [tr_false]; intro h; exact tr_not.1 (by assumption) h.1; done) | (rw [tr_false]; intro h; exact tr_not.1 (by assumption) h.2.1; done) | (rw [tr_false (PO_not (i := i) (by omega) (fun h => by have := (POx_false hve (by assumption)).1 h; rw [show s.length = m by omega, hal] at this; simp_all))]; done) | (rw [tr_true (PO_end (tr_iff.1 (by assumption)) hmi (by omega) hall)])
    · try simp only [decide_eq_true_eq, decide_eq_false_iff_not, Bool.not_eq_true', Bool.not_eq_false', Int.not_lt, Int.not_le, Int.ofNat_lt, Int.ofNat_le, Int.ofNat_inj, ne_eq, Decidable.not_not] at c2
      have hmi := tr_iff.1 c2
      have hve := hmi.1
      refine T_skip ?_
      refine T_seq ?_
      refine T_seq ?_
      refine T_region ?_
      refine TO_cons rfl (TOp_pure (pur_assign rfl) rfl ?_)
      refine TO_nil ?_
      refine T_keep [0, 1, 2, 3, 9] ?_
      simp only [pick, List.map, lk, put, val, constA, entry, cellsOf, cellVal, cellVals, List.drop, List.take, List.append_assoc, List.nil_append, List.cons_append, List.singleton_append, List.length_cons, List.length_nil, List.set_cons_zero, List.set_cons_succ, setRow, setSub, spl, Root.under, List.getElem?_cons_zero, List.getElem?_cons_succ, List.map_cons, List.map_nil, reduceIte, Nat.reduceEqDiff, Nat.reduceAdd, Nat.reduceSub, Int.toNat_natCast, Nat.succ_ne_zero, Nat.zero_ne_one, Nat.one_ne_zero]
      refine T_block ?_
      refine T_loop (fun k E σ => ∃ (i : Nat), (i ≤ n.toNat) ∧ (∀ j : Nat, j < i → POx es p s (j : Int)) ∧ k = n.toNat - i ∧ E = [(0, intA n), (1, edgesI es), (2, edgesI p), (3, .i 1 (ints s)), (9, natA i)] ∧ σ = []) _ (E0 := [(0, intA n), (1, edgesI es), (2, edgesI p), (3, .i 1 (ints s)), (9, natA (0))]) (σ0 := []) (Weak.to0 rfl ⟨rfl, rfl, rfl, rfl, rfl, trivial⟩) ⟨(0), ?_, ?_, rfl, rfl, rfl⟩ ?_
      · (first | omega | (simp_all; done) | (simp_all; omega))
      · (first | omega | (simp_all; done) | (simp_all; omega))
      rintro k E σ ⟨i, hi, hall, rfl, rfl, rfl⟩
      refine T_seq ?_
      refine T_seq ?_
      refine T_region ?_
      refine TO_cons rfl (TOp_pure (pur_move rfl) rfl ?_)
      refine TO_cons rfl (TOp_pure (pur_move rfl) rfl ?_)
      refine TO_cons rfl (TOp_pure (pur_lss rfl rfl rfl) rfl ?_)
      refine TO_nil ?_
      refine T_keep [0, 1, 2, 3, 9, 26] ?_
      simp only [pick, List.map, lk, put, val, constA, entry, cellsOf, cellVal, cellVals, List.drop, List.take, List.append_assoc, List.nil_append, List.cons_append, List.singleton_append, List.length_cons, List.length_nil, List.set_cons_zero, List.set_cons_succ, setRow, setSub, spl, Root.under, List.getElem?_cons_zero, List.getElem?_cons_succ, List.map_cons, List.map_nil, reduceIte, Nat.reduceEqDiff, Nat.reduceAdd, Nat.reduceSub, Int.toNat_natCast, Nat.succ_ne_zero, Nat.zero_ne_one, Nat.one_ne_zero]
      refine T_cond rfl (fun c3 => ?_) (fun c3 => ?_)
      · try simp only [decide_eq_true_eq, decide_eq_false_iff_not, Bool.not_eq_true', Bool.not_eq_false', Int.not_lt, Int.not_le, Int.ofNat_lt, Int.ofNat_le, Int.ofNat_inj, ne_eq, Decidable.not_not] at c3
        refine T_skip ?_
        refine T_seq ?_
        refine T_block ?_
        refine T_seq ?_
        refine T_seq ?_
        refine T_region ?_
        refine TO_cons rfl (TOp_pure (pur_move rfl) rfl ?_)
        refine TO_cons rfl (TOp_pure (pur_move rfl) rfl ?_)
        refine TO_cons rfl (TOp_callV (call_static ent53 rfl) (spec_l7Has _ _ (by first | assumption | omega | (simp_all; done) | (simp_all; omega))) rfl rfl rfl ?_)
        refine TO_nil ?_
        refine T_keep [0, 1, 2, 3, 9, 31] ?_
        simp only [pick, List.map, lk, put, val, constA, entry, cellsOf, cellVal, cellVals, List.drop, List.take, List.append_assoc, List.nil_append, List.cons_append, List.singleton_append, List.length_cons, List.length_nil, List.set_cons_zero, List.set_cons_succ, setRow, setSub, spl, Root.under, List.getElem?_cons_zero, List.getElem?_cons_succ, List.map_cons, List.map_nil, reduceIte, Nat.reduceEqDiff, Nat.reduceAdd, Nat.reduceSub, Int.toNat_natCast, Nat.succ_ne_zero, Nat.zero_ne_one, Nat.one_ne_zero]
        refine T_cond rfl (fun c4 => ?_) (fun c4 => ?_)
        · try simp only [decide_eq_true_eq, decide_eq_false_iff_not, Bool.not_eq_true', Bool.not_eq_false', Int.not_lt, Int.not_le, Int.ofNat_lt, Int.ofNat_le, Int.ofNat_inj, ne_eq, Decidable.not_not] at c4
          refine T_exit ?_
          refine then_exit ?_
          refine block_exit ?_
          refine T_region ?_
          refine TO_cons rfl (TOp_pure (pur_move rfl) rfl ?_)
          refine TO_cons rfl (TOp_pure (pur_add rfl rfl rfl (fits64 (by omega) (by omega))) rfl ?_)
          refine TO_cons rfl (TOp_pure (pur_assign rfl) rfl ?_)
          refine TO_nil ?_
          refine again0 (E' := [(0, intA n), (1, edgesI es), (2, edgesI p), (3, .i 1 (ints s)), (9, natA (i + 1))]) (σ' := []) _ ?_ (Weak.to0 rfl ⟨rfl, rfl, rfl, rfl, rfl, trivial⟩) ⟨(i + 1), ?_, ?_, rfl, rfl, rfl⟩
          · omega
          · omega
          · refine all_succ hall ?_
            first | exact .inl (by assumption) | exact (POx_false hve (by assumption)).2 (by rw [show s.length = m by omega, hal]; assumption)
        · try simp only [decide_eq_true_eq, decide_eq_false_iff_not, Bool.not_eq_true', Bool.not_eq_false', Int.not_lt, Int.not_le, Int.ofNat_lt, Int.ofNat_le, Int.ofNat_inj, ne_eq, Decidable.not_not] at c4
          refine T_skip ?_
          refine T_seq ?_
          refine T_region ?_
          refine TO_cons rfl (TOp_pure (pur_assign rfl) rfl ?_)
          refine TO_nil ?_
          refine T_keep [0, 1, 2, 3, 9, 10] ?_
          simp only [pick, List.map, lk, put, val, constA, entry, cellsOf, cellVal, cellVals, List.drop, List.take, List.append_assoc, List.nil_append, List.cons_append, List.singleton_append, List.length_cons, List.length_nil, List.set_cons_zero, List.set_cons_succ, setRow, setSub, spl, Root.under, List.getElem?_cons_zero, List.getElem?_cons_succ, List.map_cons, List.map_nil, reduceIte, Nat.reduceEqDiff, Nat.reduceAdd, Nat.reduceSub, Int.toNat_natCast, Nat.succ_ne_zero, Nat.zero_ne_one, Nat.one_ne_zero]
          refine T_seq ?_
          refine T_seq ?_
          refine T_region ?_
          refine TO_cons rfl (TOp_pure (pur_assign rfl) rfl ?_)
          refine TO_nil ?_
          refine T_keep [0, 1, 2, 3, 9, 10, 11] ?_
          simp only [pick, List.map, lk, put, val, constA, entry, cellsOf, cellVal, cellVals, List.drop, List.take, List.append_assoc, List.nil_append, List.cons_append, List.singleton_append, List.length_cons, List.length_nil, List.set_cons_zero, List.set_cons_succ, setRow, setSub, spl, Root.under, List.getElem?_cons_zero, List.getElem?_cons_succ, List.map_cons, List.map_nil, reduceIte, Nat.reduceEqDiff, Nat.reduceAdd, Nat.reduceSub, Int.toNat_natCast, Nat.succ_ne_zero, Nat.zero_ne_one, Nat.one_ne_zero]
          refine T_block ?_
          refine T_loop (fun k E σ => ∃ (m : Nat) (al : Bool), (m ≤ s.length) ∧ (allA es p s (i : Int) m = al) ∧ k = s.length - m ∧ E = [(0, intA n), (1, edgesI es), (2, edgesI p), (3, .i 1 (ints s)), (9, natA i), (10, boolA al), (11, natA m)] ∧ σ = []) _ (E0 := [(0, intA n), (1, edgesI es), (2, edgesI p), (3, .i 1 (ints s)), (9, natA i), (10, boolA (true)), (11, natA (0))]) (σ0 := []) (Weak.to0 rfl ⟨rfl, rfl, rfl, rfl, rfl, rfl, rfl, trivial⟩) ⟨(0), (true), ?_, ?_, rfl, rfl, rfl⟩ ?_
          · omega
          · rfl
          rintro k E σ ⟨m, al, hm, hal, rfl, rfl, rfl⟩
          refine T_seq ?_
          refine T_seq ?_
          refine T_region ?_
          refine TO_cons rfl (TOp_pure (pur_move rfl) rfl ?_)
          refine TO_cons rfl (TOp_pure (pur_move rfl) rfl ?_)
          refine TO_cons rfl (TOp_pure (by first | exact pur_len sl31 rfl (by decide) rfl | exact pur_len_m sl31 rfl rfl | exact pur_len_n sl31 rfl rfl) rfl ?_)
          refine TO_cons rfl (TOp_pure (pur_lss rfl rfl rfl) rfl ?_)
          refine TO_nil ?_
          refine T_keep [0, 1, 2, 3, 9, 10, 11, 35] ?_
          simp only [pick, List.map, lk, put, val, constA, entry, cellsOf, cellVal, cellVals, List.drop, List.take, List.append_assoc, List.nil_append, List.cons_append, List.singleton_append, List.length_cons, List.length_nil, List.set_cons_zero, List.set_cons_succ, setRow, setSub, spl, Root.under, List.getElem?_cons_zero, List.getElem?_cons_succ, List.map_cons, List.map_nil, reduceIte, Nat.reduceEqDiff, Nat.reduceAdd, Nat.reduceSub, Int.toNat_natCast, Nat.succ_ne_zero, Nat.zero_ne_one, Nat.one_ne_zero]
          refine T_cond rfl (fun c5 => ?_) (fun c5 => ?_)
          · try simp only [decide_eq_true_eq, decide_eq_false_iff_not, Bool.not_eq_true', Bool.not_eq_false', Int.not_lt, Int.not_le, Int.ofNat_lt, Int.ofNat_le, Int.ofNat_inj, ne_eq, Decidable.not_not] at c5
            refine T_skip ?_
            refine T_seq ?_
            refine T_block ?_
            refine T_region ?_
            refine TO_cons rfl (TOp_pure (pur_move rfl) rfl ?_)
            refine TO_cons rfl (TOp_pure (pur_move rfl) rfl ?_)
            refine TO_split 39 rfl (fun g6 => ?_) (fun g6 => ?_)
            · try simp only [decide_eq_true_eq, decide_eq_false_iff_not, Bool.not_eq_true', Bool.not_eq_false', Int.not_lt, Int.not_le, Int.ofNat_lt, Int.ofNat_le, Int.ofNat_inj, ne_eq, Decidable.not_not] at g6
              refine TO_on rfl rfl (by decide) rfl rfl (TOp_pure (pur_move rfl) rfl ?_)
              refine TO_on rfl rfl (by decide) rfl rfl (TOp_pure (pur_move rfl) rfl ?_)
              refine TO_on rfl rfl (by decide) rfl rfl (TOp_pure (pur_move rfl) rfl ?_)
              refine TO_on rfl rfl (by decide) rfl rfl (TOp_pure (pur_move rfl) rfl ?_)
              refine TO_on rfl rfl (by decide) rfl rfl (TOp_pure (by first | exact pur_ixN sl31 rfl rfl (by omega) rfl | exact pur_ixN_m sl31 rfl rfl (by omega) rfl | exact pur_ix sl31 rfl rfl (by omega) (by omega) rfl | exact pur_ix_m sl31 rfl rfl (by omega) (by omega) rfl) rfl ?_)
              refine TO_on rfl rfl (by decide) rfl rfl (TOp_pure (by first | exact pur_ld_b one3 rfl rfl rfl rfl | exact pur_ld_ints rfl one3 rfl rfl (by omega) | exact pur_lde_ints rfl one3 rfl rfl rfl (by omega) | exact pur_ld_q one3 rfl rfl rfl | exact pur_ld_e one3 rfl rfl rfl rfl) rfl ?_)
              refine TO_on rfl rfl (by decide) rfl rfl (TOp_callV (call_static ent46 rfl) (spec_l28Edge _ _ _ (by first | assumption | omega | (simp_all; done) | (simp_all; omega))) rfl rfl rfl ?_)
              refine TO_on rfl rfl (by decide) rfl rfl (TOp_pure (pur_not rfl rfl) rfl ?_)
              refine TO_on rfl rfl (by decide) rfl rfl (TOp_pure (pur_move rfl) rfl ?_)
              refine TO_split 48 rfl (fun g7 => ?_) (fun g7 => ?_)
              · try simp only [decide_eq_true_eq, decide_eq_false_iff_not, Bool.not_eq_true', Bool.not_eq_false', Int.not_lt, Int.not_le, Int.ofNat_lt, Int.ofNat_le, Int.ofNat_inj, ne_eq, Decidable.not_not] at g7
                refine TO_off rfl rfl (by decide) rfl rfl rfl ?_
                refine TO_off rfl rfl (by decide) rfl rfl rfl ?_
                refine TO_off rfl rfl (by decide) rfl rfl rfl ?_
                refine TO_off rfl rfl (by decide) rfl rfl rfl ?_
                refine TO_off rfl rfl (by decide) rfl rfl rfl ?_
                refine TO_off rfl rfl (by decide) rfl rfl rfl ?_
                refine TO_off rfl rfl (by decide) rfl rfl rfl ?_
                refine TO_on rfl rfl (by decide) rfl rfl (TOp_pure (pur_pick rfl rfl rfl) rfl ?_)
                refine TO_cons rfl (TOp_pure (pur_pick rfl rfl rfl) rfl ?_)
                refine TO_cons rfl (TOp_pure (pur_assign rfl) rfl ?_)
                refine TO_nil ?_
                refine T_region ?_
                refine TO_cons rfl (TOp_pure (pur_move rfl) rfl ?_)
                refine TO_cons rfl (TOp_pure (pur_add rfl rfl rfl (fits64 (by omega) (by omega))) rfl ?_)
                refine TO_cons rfl (TOp_pure (pur_assign rfl) rfl ?_)
                refine TO_nil ?_
                first
                | (refine again0 (E' := [(0, intA n), (1, edgesI es), (2, edgesI p), (3, .i 1 (ints s)), (9, natA i), (10, boolA (false)), (11, natA (m + 1))]) (σ' := []) _ ?_ (Weak.to0 rfl ⟨rfl, rfl, rfl, rfl, rfl, rfl, rfl, trivial⟩) ⟨(m + 1), (false), ?_, ?_, rfl, rfl, rfl⟩
                   · omega
                   · omega
                   · rw [allA_succ _ _ _ _ _ (by omega)]; try rw [any_mem]
                     unfold adjB; simp_all)
                | (refine again0 (E' := [(0, intA n), (1, edgesI es), (2, edgesI p), (3, .i 1 (ints s)), (9, natA i), (10, boolA (true)), (11, natA (m + 1))]) (σ' := []) _ ?_ (Weak.to0 rfl ⟨rfl, rfl, rfl, rfl, rfl, rfl, rfl, trivial⟩) ⟨(m + 1), (true), ?_, ?_, rfl, rfl, rfl⟩
                   · omega
                   · omega
                   · rw [allA_succ _ _ _ _ _ (by omega)]; try rw [any_mem]
                     unfold adjB; simp_all)
                | (refine again0 (E' := [(0, intA n), (1, edgesI es), (2, edgesI p), (3, .i 1 (ints s)), (9, natA i), (10, boolA ((p.any fun e => decide (e.1 = (i : Int)) && decide (e.2 = s.getD m 0)))), (11, natA (m + 1))]) (σ' := []) _ ?_ (Weak.to0 rfl ⟨rfl, rfl, rfl, rfl, rfl, rfl, rfl, trivial⟩) ⟨(m + 1), ((p.any fun e => decide (e.1 = (i : Int)) && decide (e.2 = s.getD m 0))), ?_, ?_, rfl, rfl, rfl⟩
                   · omega
                   · omega
                   · rw [allA_succ _ _ _ _ _ (by omega)]; try rw [any_mem]
                     unfold adjB; simp_all)
              · try simp only [decide_eq_true_eq, decide_eq_false_iff_not, Bool.not_eq_true', Bool.not_eq_false', Int.not_lt, Int.not_le, Int.ofNat_lt, Int.ofNat_le, Int.ofNat_inj, ne_eq, Decidable.not_not] at g7
                refine TO_on rfl rfl (by decide) rfl rfl (TOp_pure (pur_move rfl) rfl ?_)
                refine TO_on rfl rfl (by decide) rfl rfl (TOp_pure (pur_move rfl) rfl ?_)
                refine TO_on rfl rfl (by decide) rfl rfl (TOp_pure (pur_move rfl) rfl ?_)
                refine TO_on rfl rfl (by decide) rfl rfl (TOp_pure (pur_move rfl) rfl ?_)
                refine TO_on rfl rfl (by decide) rfl rfl (TOp_pure (by first | exact pur_ixN sl31 rfl rfl (by omega) rfl | exact pur_ixN_m sl31 rfl rfl (by omega) rfl | exact pur_ix sl31 rfl rfl (by omega) (by omega) rfl | exact pur_ix_m sl31 rfl rfl (by omega) (by omega) rfl) rfl ?_)
                refine TO_on rfl rfl (by decide) rfl rfl (TOp_pure (by first | exact pur_ld_b one3 rfl rfl rfl rfl | exact pur_ld_ints rfl one3 rfl rfl (by omega) | exact pur_lde_ints rfl one3 rfl rfl rfl (by omega) | exact pur_ld_q one3 rfl rfl rfl | exact pur_ld_e one3 rfl rfl rfl rfl) rfl ?_)
                refine TO_on rfl rfl (by decide) rfl rfl (TOp_callV (call_static ent12 rfl) (spec_IsPreferred _ _ _ (by first | assumption | omega | (simp_all; done) | (simp_all; omega))) rfl rfl rfl ?_)
                refine TO_on rfl rfl (by decide) rfl rfl (TOp_pure (pur_pick rfl rfl rfl) rfl ?_)
                refine TO_cons rfl (TOp_pure (pur_pick rfl rfl rfl) rfl ?_)
                refine TO_cons rfl (TOp_pure (pur_assign rfl) rfl ?_)
                refine TO_nil ?_
                refine T_region ?_
                refine TO_cons rfl (TOp_pure (pur_move rfl) rfl ?_)
                refine TO_cons rfl (TOp_pure (pur_add rfl rfl rfl (fits64 (by omega) (by omega))) rfl ?_)
                refine TO_cons rfl (TOp_pure (pur_assign rfl) rfl ?_)
                refine TO_nil ?_
                first
                | (refine again0 (E' := [(0, intA n), (1, edgesI es), (2, edgesI p), (3, .i 1 (ints s)), (9, natA i), (10, boolA (false)), (11, natA (m + 1))]) (σ' := []) _ ?_ (Weak.to0 rfl ⟨rfl, rfl, rfl, rfl, rfl, rfl, rfl, trivial⟩) ⟨(m + 1), (false), ?_, ?_, rfl, rfl, rfl⟩
                   · omega
                   · omega
                   · rw [allA_succ _ _ _ _ _ (by omega)]; try rw [any_mem]
                     unfold adjB; simp_all)
                | (refine again0 (E' := [(0, intA n), (1, edgesI es), (2, edgesI p), (3, .i 1 (ints s)), (9, natA i), (10, boolA (true)), (11, natA (m + 1))]) (σ' := []) _ ?_ (Weak.to0 rfl ⟨rfl, rfl, rfl, rfl, rfl, rfl, rfl, trivial⟩) ⟨(m + 1), (true), ?_, ?_, rfl, rfl, rfl⟩
                   · omega
                   · omega
                   · rw [allA_succ _ _ _ _ _ (by omega)]; try rw [any_mem]
                     unfold adjB; simp_all)
                | (refine again0 (E' := [(0, intA n), (1, edgesI es), (2, edgesI p), (3, .i 1 (ints s)), (9, natA i), (10, boolA ((p.any fun e => decide (e.1 = (i : Int)) && decide (e.2 = s.getD m 0)))), (11, natA (m + 1))]) (σ' := []) _ ?_ (Weak.to0 rfl ⟨rfl, rfl, rfl, rfl, rfl, rfl, rfl, trivial⟩) ⟨(m + 1), ((p.any fun e => decide (e.1 = (i : Int)) && decide (e.2 = s.getD m 0))), ?_, ?_, rfl, rfl, rfl⟩
                   · omega
                   · omega
                   · rw [allA_succ _ _ _ _ _ (by omega)]; try rw [any_mem]
                     unfold adjB; simp_all)
            · try simp only [decide_eq_true_eq, decide_eq_false_iff_not, Bool.not_eq_true', Bool.not_eq_false', Int.not_lt, Int.not_le, Int.ofNat_lt, Int.ofNat_le, Int.ofNat_inj, ne_eq, Decidable.not_not] at g6
              refine TO_off rfl rfl (by decide) rfl rfl rfl ?_
              refine TO_off rfl rfl (by decide) rfl rfl rfl ?_
              refine TO_off rfl rfl (by decide) rfl rfl rfl ?_
              refine TO_off rfl rfl (by decide) rfl rfl rfl ?_
              refine TO_off rfl rfl (by decide) rfl rfl rfl ?_
              refine TO_off rfl rfl (by decide) rfl rfl rfl ?_
              refine TO_off rfl rfl (by decide) rfl rfl rfl ?_
              refine TO_off rfl rfl (by decide) rfl rfl rfl ?_
              refine TO_off rfl rfl (by decide) rfl rfl rfl ?_
              refine TO_off rfl rfl (by decide) rfl rfl rfl ?_
              refine TO_off rfl rfl (by decide) rfl rfl rfl ?_
              refine TO_off rfl rfl (by decide) rfl rfl rfl ?_
              refine TO_off rfl rfl (by decide) rfl rfl rfl ?_
              refine TO_off rfl rfl (by decide) rfl rfl rfl ?_
              refine TO_off rfl rfl (by decide) rfl rfl rfl ?_
              refine TO_off rfl rfl (by decide) rfl rfl rfl ?_
              refine TO_off rfl rfl (by decide) rfl rfl rfl ?_
              refine TO_cons rfl (TOp_pure (pur_pick rfl rfl rfl) rfl ?_)
              refine TO_cons rfl (TOp_pure (pur_assign rfl) rfl ?_)
              refine TO_nil ?_
              refine T_region ?_
              refine TO_cons rfl (TOp_pure (pur_move rfl) rfl ?_)
              refine TO_cons rfl (TOp_pure (pur_add rfl rfl rfl (fits64 (by omega) (by omega))) rfl ?_)
              refine TO_cons rfl (TOp_pure (pur_assign rfl) rfl ?_)
              refine TO_nil ?_
              first
              | (refine again0 (E' := [(0, intA n), (1, edgesI es), (2, edgesI p), (3, .i 1 (ints s)), (9, natA i), (10, boolA (false)), (11, natA (m + 1))]) (σ' := []) _ ?_ (Weak.to0 rfl ⟨rfl, rfl, rfl, rfl, rfl, rfl, rfl, trivial⟩) ⟨(m + 1), (false), ?_, ?_, rfl, rfl, rfl⟩
                 · omega
                 · omega
                 · rw [allA_succ _ _ _ _ _ (by omega)]; try rw [any_mem]
                   unfold adjB; simp_all)
              | (refine again0 (E' := [(0, intA n), (1, edgesI es), (2, edgesI p), (3, .i 1 (ints s)), (9, natA i), (10, boolA (true)), (11, natA (m + 1))]) (σ' := []) _ ?_ (Weak.to0 rfl ⟨rfl, rfl, rfl, rfl, rfl, rfl, rfl, trivial⟩) ⟨(m + 1), (true), ?_, ?_, rfl, rfl, rfl⟩
                 · omega
                 · omega
                 · rw [allA_succ _ _ _ _ _ (by omega)]; try rw [any_mem]
                   unfold adjB; simp_all)
              | (refine again0 (E' := [(0, intA n), (1, edgesI es), (2, edgesI p), (3, .i 1 (ints s)), (9, natA i), (10, boolA ((p.any fun e => decide (e.1 = (i : Int)) && decide (e.2 = s.getD m 0)))), (11, natA (m + 1))]) (σ' := []) _ ?_ (Weak.to0 rfl ⟨rfl, rfl, rfl, rfl, rfl, rfl, rfl, trivial⟩) ⟨(m + 1), ((p.any fun e => decide (e.1 = (i : Int)) && decide (e.2 = s.getD m 0))), ?_, ?_, rfl, rfl, rfl⟩
                 · omega
                 · omega
                 · rw [allA_succ _ _ _ _ _ (by omega)]; try rw [any_mem]
                   unfold adjB; simp_all)
          · try simp only [decide_eq_true_eq, decide_eq_false_iff_not, Bool.not_eq_true', Bool.not_eq_false', Int.not_lt, Int.not_le, Int.ofNat_lt, Int.ofNat_le, Int.ofNat_inj, ne_eq, Decidable.not_not] at c5
            refine T_exit ?_
            refine then_exit ?_
            refine then_exit ?_
            refine block_exit ?_
            refine T_seq ?_
            refine T_region ?_
            refine TO_cons rfl (TOp_pure (pur_move rfl) rfl ?_)
            refine TO_nil ?_
            refine T_keep [0, 1, 2, 3, 9, 58] ?_
            simp only [pick, List.map, lk, put, val, constA, entry, cellsOf, cellVal, cellVals, List.drop, List.take, List.append_assoc, List.nil_append, List.cons_append, List.singleton_append, List.length_cons, List.length_nil, List.set_cons_zero, List.set_cons_succ, setRow, setSub, spl, Root.under, List.getElem?_cons_zero, List.getElem?_cons_succ, List.map_cons, List.map_nil, reduceIte, Nat.reduceEqDiff, Nat.reduceAdd, Nat.reduceSub, Int.toNat_natCast, Nat.succ_ne_zero, Nat.zero_ne_one, Nat.one_ne_zero]
            refine T_cond rfl (fun c8 => ?_) (fun c8 => ?_)
            · try simp only [decide_eq_true_eq, decide_eq_false_iff_not, Bool.not_eq_true', Bool.not_eq_false', Int.not_lt, Int.not_le, Int.ofNat_lt, Int.ofNat_le, Int.ofNat_inj, ne_eq, Decidable.not_not] at c8
              refine T_seq ?_
              refine T_region ?_
              refine TO_cons rfl (TOp_pure (pur_assign rfl) rfl ?_)
              refine TO_nil ?_
              refine T_keep [8] ?_
              simp only [pick, List.map, lk, put, val, constA, entry, cellsOf, cellVal, cellVals, List.drop, List.take, List.append_assoc, List.nil_append, List.cons_append, List.singleton_append, List.length_cons, List.length_nil, List.set_cons_zero, List.set_cons_succ, setRow, setSub, spl, Root.under, List.getElem?_cons_zero, List.getElem?_cons_succ, List.map_cons, List.map_nil, reduceIte, Nat.reduceEqDiff, Nat.reduceAdd, Nat.reduceSub, Int.toNat_natCast, Nat.succ_ne_zero, Nat.zero_ne_one, Nat.one_ne_zero]
              refine T_ret ?_
              refine block_ret ?_
              refine then_ret ?_
              refine then_ret ?_
              refine block_ret ?_
              refine then_ret ?_
              refine end_ret (.tmp .nil) rfl rfl ⟨?_, rfl⟩
              simp only [resA, lk, reduceIte, Nat.reduceEqDiff]
              refine congrArg boolA ?_
              first | (rw [tr_false]; intro h; exact tr_not.1 (by assumption) h.1; done) | (rw [tr_false]; intro h; exact tr_not.1 (by assumption) h.2.1; done) | (rw [tr_false (PO_not (i := i) (by omega) (fun h => by have := (POx_false hve (by assumption)).1 h; rw [show s.length = m by omega, hal] at this; simp_all))]; done) | (rw [tr_true (PO_end (tr_iff.1 (by assumption)) hmi (by omega) hall)])
            · try simp only [decide_eq_true_eq, decide_eq_false_iff_not, Bool.not_eq_true', Bool.not_eq_false', Int.not_lt, Int.not_le, Int.ofNat_lt, Int.ofNat_le, Int.ofNat_inj, ne_eq, Decidable.not_not] at c8
              refine T_skip ?_
              refine T_region ?_
              refine TO_cons rfl (TOp_pure (pur_move rfl) rfl ?_)
              refine TO_cons rfl (TOp_pure (pur_add rfl rfl rfl (fits64 (by omega) (by omega))) rfl ?_)
              refine TO_cons rfl (TOp_pure (pur_assign rfl) rfl ?_)
              refine TO_nil ?_
              refine again0 (E' := [(0, intA n), (1, edgesI es), (2, edgesI p), (3, .i 1 (ints s)), (9, natA (i + 1))]) (σ' := []) _ ?_ (Weak.to0 rfl ⟨rfl, rfl, rfl, rfl, rfl, trivial⟩) ⟨(i + 1), ?_, ?_, rfl, rfl, rfl⟩
              · omega
              · omega
              · refine all_succ hall ?_
                first | exact .inl (by assumption) | exact (POx_false hve (by assumption)).2 (by rw [show s.length = m by omega, hal]; assumption)
      · try simp only [decide_eq_true_eq, decide_eq_false_iff_not, Bool.not_eq_true', Bool.not_eq_false', Int.not_lt, Int.not_le, Int.ofNat_lt, Int.ofNat_le, Int.ofNat_inj, ne_eq, Decidable.not_not] at c3
        refine T_exit ?_
        refine then_exit ?_
        refine then_exit ?_
        refine block_exit ?_
        refine T_seq ?_
        refine T_region ?_
        refine TO_cons rfl (TOp_pure (pur_assign rfl) rfl ?_)
        refine TO_nil ?_
        refine T_keep [8] ?_
        simp only [pick, List.map, lk, put, val, constA, entry, cellsOf, cellVal, cellVals, List.drop, List.take, List.append_assoc, List.nil_append, List.cons_append, List.singleton_append, List.length_cons, List.length_nil, List.set_cons_zero, List.set_cons_succ, setRow, setSub, spl, Root.under, List.getElem?_cons_zero, List.getElem?_cons_succ, List.map_cons, List.map_nil, reduceIte, Nat.reduceEqDiff, Nat.reduceAdd, Nat.reduceSub, Int.toNat_natCast, Nat.succ_ne_zero, Nat.zero_ne_one, Nat.one_ne_zero]
        refine T_ret ?_
        refine end_ret (.tmp .nil) rfl rfl ⟨?_, rfl⟩
        simp only [resA, lk, reduceIte, Nat.reduceEqDiff]
        refine congrArg boolA ?_
        first | (rw [tr_false]; intro h; exact tr_not.1 (by assumption) h.1; done) | (rw [tr_false]; intro h; exact tr_not.1 (by assumption) h.2.1; done) | (rw [tr_false (PO_not (i := i) (by omega) (fun h => by have := (POx_false hve (by assumption)).1 h; rw [show s.length = m by omega, hal] at this; simp_all))]; done) | (rw [tr_true (PO_end (tr_iff.1 (by assumption)) hmi (by omega) hall)])

/-- impl.IsParetoOptimal -/
theorem impl_IsParetoOptimal (n : Int) (es p : List (Int × Int)) (s : List Int) (he : es.length ≤ 1048576) (hr : R64 es) (hn : -9223372036854775808 ≤ n ∧ n ≤ 9223372036854775807) (hp : p.length ≤ 1048576) (hs : s.length ≤ 1048576) : FnV prg 26 [intA n, edgesI es, edgesI p, .i 1 (ints s)] (boolA (tr (PO n es p s))) := by
  refine fnV_of_T Try.func26 rfl rfl (Nat.le_of_ble_eq_true rfl) ?_
  simp only [entry, Nat.reduceAdd]
  refine T_seq ?_
  refine T_region ?_
  refine TO_cons rfl (TOp_box rfl (boxAll rfl) rfl rfl ?_)
  refine TO_cons rfl (TOp_box rfl (boxAll rfl) rfl rfl ?_)
  refine TO_cons rfl (TOp_pure (pur_assign rfl) rfl ?_)
  refine TO_nil ?_
  refine T_keep [0, 3, 5, 6] ?_
  simp only [pick, List.map, lk, put, val, constA, entry, cellsOf, cellVal, cellVals, List.drop, List.take, List.append_assoc, List.nil_append, List.cons_append, List.singleton_append, List.length_cons, List.length_nil, List.set_cons_zero, List.set_cons_succ, setRow, setSub, spl, Root.under, List.getElem?_cons_zero, List.getElem?_cons_succ, List.map_cons, List.map_nil, reduceIte, Nat.reduceEqDiff, Nat.reduceAdd, Nat.reduceSub, Int.toNat_natCast, Nat.succ_ne_zero, Nat.zero_ne_one, Nat.one_ne_zero]
  refine T_seq ?_
  refine T_seq ?_
  refine T_region ?_
  refine TO_cons rfl (TOp_pure (pur_move rfl) rfl ?_)
  refine TO_cons rfl (TOp_pure (by first | exact pur_ld_b one25 rfl rfl rfl rfl | exact pur_ld_rows rfl one25 rfl rfl (by omega) | exact pur_ld_q one25 rfl rfl rfl | exact pur_ld_e one25 rfl rfl rfl rfl) rfl ?_)
  refine TO_cons rfl (TOp_pure (by first | exact pur_ld_b one25 rfl rfl rfl rfl | exact pur_ld_rows rfl one25 rfl rfl (by omega) | exact pur_ld_q one25 rfl rfl rfl | exact pur_ld_e one25 rfl rfl rfl rfl) rfl ?_)
  refine TO_cons rfl (TOp_callV (call_static ent17 rfl) (impl_IsValidPreference n es p he hr hn hp) rfl rfl rfl ?_)
  refine TO_cons rfl (TOp_pure (pur_not rfl rfl) rfl ?_)
  refine TO_cons rfl (TOp_pure (pur_move rfl) rfl ?_)
  refine TO_split 15 rfl (fun g1 => ?_) (fun g1 => ?_)
  · try simp only [decide_eq_true_eq, decide_eq_false_iff_not, Bool.not_eq_true', Bool.not_eq_false', Int.not_lt, Int.not_le, Int.ofNat_lt, Int.ofNat_le, Int.ofNat_inj, ne_eq, Decidable.not_not] at g1
    refine TO_off rfl rfl (by decide) rfl rfl rfl ?_
    refine TO_off rfl rfl (by decide) rfl rfl rfl ?_
    refine TO_off rfl rfl (by decide) rfl rfl rfl ?_
    refine TO_off rfl rfl (by decide) rfl rfl rfl ?_
    refine TO_off rfl rfl (by decide) rfl rfl rfl ?_
    refine TO_cons rfl (TOp_pure (pur_pick rfl rfl rfl) rfl ?_)
    refine TO_nil ?_
    refine T_keep [0, 3, 5, 6, 21] ?_
    simp only [pick, List.map, lk, put, val, constA, entry, cellsOf, cellVal, cellVals, List.drop, List.take, List.append_assoc, List.nil_append, List.cons_append, List.singleton_append, List.length_cons, List.length_nil, List.set_cons_zero, List.set_cons_succ, setRow, setSub, spl, Root.under, List.getElem?_cons_zero, List.getElem?_cons_succ, List.map_cons, List.map_nil, reduceIte, Nat.reduceEqDiff, Nat.reduceAdd, Nat.reduceSub, Int.toNat_natCast, Nat.succ_ne_zero, Nat.zero_ne_one, Nat.one_ne_zero]
    refine T_cond (t := true) rfl (fun _ => ?_) (fun h => nomatch h)
    refine T_seq ?_
    refine T_region ?_
    refine TO_cons rfl (TOp_pure (pur_assign rfl) rfl ?_)
    refine TO_nil ?_
    refine T_keep [8] ?_
    simp only [pick, List.map, lk, put, val, constA, entry, cellsOf, cellVal, cellVals, List.drop, List.take, List.append_assoc, List.nil_append, List.cons_append, List.singleton_append, List.length_cons, List.length_nil, List.set_cons_zero, List.set_cons_succ, setRow, setSub, spl, Root.under, List.getElem?_cons_zero, List.getElem?_cons_succ, List.map_cons, List.map_nil, reduceIte, Nat.reduceEqDiff, Nat.reduceAdd, Nat.reduceSub, Int.toNat_natCast, Nat.succ_ne_zero, Nat.zero_ne_one, Nat.one_ne_zero]
    refine T_ret ?_
    refine then_ret ?_
    refine end_ret (.tmp .nil) rfl rfl ⟨?_, rfl⟩
    simp only [resA, lk, reduceIte, Nat.reduceEqDiff]
    refine congrArg boolA ?_
    first | (rw [tr_false]; intro h; exact tr_not.1 (by assumption) h.1; done) | (rw [tr_false]; intro h; exact tr_not.1 (by assumption) h.2.1; done) | (rw [tr_false (PO_not (i := i) (by omega) (fun h => by have := (POx_any (by assumption)).1 h; simp_all))]; done) | (rw [tr_true (PO_end (tr_iff.1 (by assumption)) hmi (by omega) hall)])
  · try simp only [decide_eq_true_eq, decide_eq_false_iff_not, Bool.not_eq_true', Bool.not_eq_false', Int.not_lt, Int.not_le, Int.ofNat_lt, Int.ofNat_le, Int.ofNat_inj, ne_eq, Decidable.not_not] at g1
    refine TO_on rfl rfl (by decide) rfl rfl (TOp_pure (pur_move rfl) rfl ?_)
    refine TO_on rfl rfl (by decide) rfl rfl (TOp_pure (by first | exact pur_ld_b one25 rfl rfl rfl rfl | exact pur_ld_rows rfl one25 rfl rfl (by omega) | exact pur_ld_q one25 rfl rfl rfl | exact pur_ld_e one25 rfl rfl rfl rfl) rfl ?_)
    refine TO_on rfl rfl (by decide) rfl rfl (TOp_pure (pur_move rfl) rfl ?_)
    refine TO_on rfl rfl (by decide) rfl rfl (TOp_callV (call_static ent37 rfl) (impl_IsMaximalIndependent n es s he hr hn hs) rfl rfl rfl ?_)
    refine TO_on rfl rfl (by decide) rfl rfl (TOp_pure (pur_not rfl rfl) rfl ?_)
    refine TO_cons rfl (TOp_pure (pur_pick rfl rfl rfl) rfl ?_)
    refine TO_nil ?_
    refine T_keep [0, 3, 5, 6, 21] ?_
    simp only [pick, List.map, lk, put, val, constA, entry, cellsOf, cellVal, cellVals, List.drop, List.take, List.append_assoc, List.nil_append, List.cons_append, List.singleton_append, List.length_cons, List.length_nil, List.set_cons_zero, List.set_cons_succ, setRow, setSub, spl, Root.under, List.getElem?_cons_zero, List.getElem?_cons_succ, List.map_cons, List.map_nil, reduceIte, Nat.reduceEqDiff, Nat.reduceAdd, Nat.reduceSub, Int.toNat_natCast, Nat.succ_ne_zero, Nat.zero_ne_one, Nat.one_ne_zero]
    refine T_cond rfl (fun c2 => ?_) (fun c2 => ?_)
    · try simp only [decide_eq_true_eq, decide_eq_false_iff_not, Bool.not_eq_true', Bool.not_eq_false', Int.not_lt, Int.not_le, Int.ofNat_lt, Int.ofNat_le, Int.ofNat_inj, ne_eq, Decidable.not_not] at c2
      refine T_seq ?_
      refine T_region ?_
      refine TO_cons rfl (TOp_pure (pur_assign rfl) rfl ?_)
      refine TO_nil ?_
      refine T_keep [8] ?_
      simp only [pick, List.map, lk, put, val, constA, entry, cellsOf, cellVal, cellVals, List.drop, List.take, List.append_assoc, List.nil_append, List.cons_append, List.singleton_append, List.length_cons, List.length_nil, List.set_cons_zero, List.set_cons_succ, setRow, setSub, spl, Root.under, List.getElem?_cons_zero, List.getElem?_cons_succ, List.map_cons, List.map_nil, reduceIte, Nat.reduceEqDiff, Nat.reduceAdd, Nat.reduceSub, Int.toNat_natCast, Nat.succ_ne_zero, Nat.zero_ne_one, Nat.one_ne_zero]
      refine T_ret ?_
      refine then_ret ?_
      refine end_ret (.tmp .nil) rfl rfl ⟨?_, rfl⟩
      simp only [resA, lk, reduceIte, Nat.reduceEqDiff]
      refine congrArg boolA ?_
      first | (rw [tr_false]; intro h; exact tr_not.1 (by assumption) h.1; done) | (rw [tr_false]; intro h; exact tr_not.1 (by assumption) h.2.1; done) | (rw [tr_false (PO_not (i := i) (by omega) (fun h => by have := (POx_any (by assumption)).1 h; simp_all))]; done) | (rw [tr_true (PO_end (tr_iff.1 (by assumption)) hmi (by omega) hall)])
    · try simp only [decide_eq_true_eq, decide_eq_false_iff_not, Bool.not_eq_true', Bool.not_eq_false', Int.not_lt, Int.not_le, Int.ofNat_lt, Int.ofNat_le, Int.ofNat_inj, ne_eq, Decidable.not_not] at c2
      have hmi := tr_iff.1 c2
      refine T_skip ?_
      refine T_seq ?_
      refine T_seq ?_
      refine T_region ?_
      refine TO_cons rfl (TOp_pure (pur_move rfl) rfl ?_)
      refine TO_cons rfl (TOp_pure (pur_move rfl) rfl ?_)
      refine TO_nil ?_
      refine T_keep [3, 5, 6, 22, 23] ?_
      simp only [pick, List.map, lk, put, val, constA, entry, cellsOf, cellVal, cellVals, List.drop, List.take, List.append_assoc, List.nil_append, List.cons_append, List.singleton_append, List.length_cons, List.length_nil, List.set_cons_zero, List.set_cons_succ, setRow, setSub, spl, Root.under, List.getElem?_cons_zero, List.getElem?_cons_succ, List.map_cons, List.map_nil, reduceIte, Nat.reduceEqDiff, Nat.reduceAdd, Nat.reduceSub, Int.toNat_natCast, Nat.succ_ne_zero, Nat.zero_ne_one, Nat.one_ne_zero]
      refine T_block ?_
      refine T_loop (fun k E σ => ∃ (i : Nat), (i ≤ n.toNat) ∧ (∀ j : Nat, j < i → POx es p s (j : Int)) ∧ k = n.toNat - i ∧ E = [(3, .i 1 (ints s)), (5, .b 0 0), (6, .b 1 0), (22, intA n), (23, natA i)] ∧ σ = [.box [edgesI es], .box [edgesI p]]) _ (E0 := [(3, .i 1 (ints s)), (5, .b 0 0), (6, .b 1 0), (22, intA n), (23, natA (0))]) (σ0 := [.box [edgesI es], .box [edgesI p]]) (Weak.to 2 (by decide) rfl rfl rfl ⟨rfl, rfl, rfl, rfl, rfl, trivial⟩) ⟨(0), ?_, ?_, rfl, rfl, rfl⟩ ?_
      · (first | omega | (simp_all; done) | (simp_all; omega))
      · (first | omega | (simp_all; done) | (simp_all; omega))
      rintro k E σ ⟨i, hi, hall, rfl, rfl, rfl⟩
      refine T_seq ?_
      refine T_region ?_
      refine TO_cons rfl (TOp_pure (pur_lss rfl rfl rfl) rfl ?_)
      refine TO_nil ?_
      refine T_keep [3, 5, 6, 22, 23, 24] ?_
      simp only [pick, List.map, lk, put, val, constA, entry, cellsOf, cellVal, cellVals, List.drop, List.take, List.append_assoc, List.nil_append, List.cons_append, List.singleton_append, List.length_cons, List.length_nil, List.set_cons_zero, List.set_cons_succ, setRow, setSub, spl, Root.under, List.getElem?_cons_zero, List.getElem?_cons_succ, List.map_cons, List.map_nil, reduceIte, Nat.reduceEqDiff, Nat.reduceAdd, Nat.reduceSub, Int.toNat_natCast, Nat.succ_ne_zero, Nat.zero_ne_one, Nat.one_ne_zero]
      refine T_seq ?_
      refine T_cond rfl (fun c3 => ?_) (fun c3 => ?_)
      · try simp only [decide_eq_true_eq, decide_eq_false_iff_not, Bool.not_eq_true', Bool.not_eq_false', Int.not_lt, Int.not_le, Int.ofNat_lt, Int.ofNat_le, Int.ofNat_inj, ne_eq, Decidable.not_not] at c3
        refine T_skip ?_
        refine T_seq ?_
        refine T_block ?_
        refine T_seq ?_
        refine T_region ?_
        refine TO_cons rfl (TOp_pure (pur_move rfl) rfl ?_)
        refine TO_cons rfl (TOp_alloc zero3 rfl rfl ?_)
        first | refine TO_cons rfl (TOp_storeB sz3 rfl rfl rfl rfl rfl rfl rfl (by decide) (Nat.le_of_ble_eq_true rfl) rfl ?_) | refine TO_cons rfl (TOp_setI sz3 rfl rfl rfl rfl rfl (by omega) rfl ?_)
        refine TO_nil ?_
        refine T_keep [3, 5, 6, 9, 22, 23] ?_
        simp only [pick, List.map, lk, put, val, constA, entry, cellsOf, cellVal, cellVals, List.drop, List.take, List.append_assoc, List.nil_append, List.cons_append, List.singleton_append, List.length_cons, List.length_nil, List.set_cons_zero, List.set_cons_succ, setRow, setSub, spl, Root.under, List.getElem?_cons_zero, List.getElem?_cons_succ, List.map_cons, List.map_nil, reduceIte, Nat.reduceEqDiff, Nat.reduceAdd, Nat.reduceSub, Int.toNat_natCast, Nat.succ_ne_zero, Nat.zero_ne_one, Nat.one_ne_zero]
        refine T_seq ?_
        refine T_region ?_
        refine TO_cons rfl (TOp_pure (pur_move rfl) rfl ?_)
        refine TO_cons rfl (TOp_pure (by first | exact pur_ld_b one3 rfl rfl rfl rfl | exact pur_ld_ints rfl one3 rfl rfl (by omega) | exact pur_lde_ints rfl one3 rfl rfl rfl (by omega) | exact pur_ld_q one3 rfl rfl rfl | exact pur_ld_e one3 rfl rfl rfl rfl) rfl ?_)
        refine TO_cons rfl (TOp_callV (call_static ent54 rfl) (Contains_int _ _ (by first | assumption | omega | (simp_all; done) | (simp_all; omega))) rfl rfl rfl ?_)
        refine TO_cons rfl (TOp_pure (pur_not rfl rfl) rfl ?_)
        refine TO_cons rfl (TOp_pure (pur_move rfl) rfl ?_)
        refine TO_split 30 rfl (fun g4 => ?_) (fun g4 => ?_)
        · try simp only [decide_eq_true_eq, decide_eq_false_iff_not, Bool.not_eq_true', Bool.not_eq_false', Int.not_lt, Int.not_le, Int.ofNat_lt, Int.ofNat_le, Int.ofNat_inj, ne_eq, Decidable.not_not] at g4
          refine TO_on rfl rfl (by decide) rfl rfl (TOp_pure (pur_move rfl) rfl ?_)
          refine TO_on rfl rfl (by decide) rfl rfl (TOp_pure (pur_makeFunc rfl) rfl ?_)
          refine TO_on rfl rfl (by decide) rfl rfl (TOp_callB (call_static ent55 rfl) (frzOKL_cons (by first | exact trivial | exact (frz_ints rfl).1 | exact (frz_edges rfl).1 | exact (frz_rows rfl).1 | exact (frz_intsN rfl (by simp <;> omega)).1 | exact ⟨⟨_, rfl, rfl⟩, trivial⟩ | exact ⟨⟨_, rfl, rfl⟩, ⟨_, rfl, rfl⟩, trivial⟩ | exact ⟨⟨_, rfl, rfl⟩, ⟨_, rfl, rfl⟩, ⟨_, rfl, rfl⟩, trivial⟩ | exact ⟨⟨_, rfl, rfl⟩, ⟨_, rfl, rfl⟩, ⟨_, rfl, rfl⟩, ⟨_, rfl, rfl⟩, trivial⟩ | exact ⟨_, rfl, rfl⟩) (frzOKL_cons (by first | exact trivial | exact (frz_ints rfl).1 | exact (frz_edges rfl).1 | exact (frz_rows rfl).1 | exact (frz_intsN rfl (by simp <;> omega)).1 | exact ⟨⟨_, rfl, rfl⟩, trivial⟩ | exact ⟨⟨_, rfl, rfl⟩, ⟨_, rfl, rfl⟩, trivial⟩ | exact ⟨⟨_, rfl, rfl⟩, ⟨_, rfl, rfl⟩, ⟨_, rfl, rfl⟩, trivial⟩ | exact ⟨⟨_, rfl, rfl⟩, ⟨_, rfl, rfl⟩, ⟨_, rfl, rfl⟩, ⟨_, rfl, rfl⟩, trivial⟩ | exact ⟨_, rfl, rfl⟩) frzOKL_nil)) (fzRL_cons (by first | rfl | exact (frz_ints rfl).2 | exact (frz_edges rfl).2 | exact (frz_rows rfl).2 | exact (frz_intsN rfl (by simp <;> omega)).2 ) (fzRL_cons (by first | rfl | exact (frz_ints rfl).2 | exact (frz_edges rfl).2 | exact (frz_rows rfl).2 | exact (frz_intsN rfl (by simp <;> omega)).2 ) rfl)) (ContainsFunc_int s 56 [.q [edgesI es] 0, .q [intA (i : Int)] 0, .q [edgesI p] 0] (fun y => (decide (((i : Int), y) ∈ es) || decide ((y, (i : Int)) ∈ es)) && !decide (((i : Int), y) ∈ p)) (by omega) ent56 rfl (fun y => impl_IsParetoOptimal_1 es p (i : Int) y he hp)) rfl ?_)
          refine TO_on rfl rfl (by decide) rfl rfl (TOp_pure (pur_not rfl rfl) rfl ?_)
          refine TO_cons rfl (TOp_pure (pur_pick rfl rfl rfl) rfl ?_)
          refine TO_nil ?_
          refine T_keep [3, 5, 6, 22, 23, 35] ?_
          simp only [pick, List.map, lk, put, val, constA, entry, cellsOf, cellVal, cellVals, List.drop, List.take, List.append_assoc, List.nil_append, List.cons_append, List.singleton_append, List.length_cons, List.length_nil, List.set_cons_zero, List.set_cons_succ, setRow, setSub, spl, Root.under, List.getElem?_cons_zero, List.getElem?_cons_succ, List.map_cons, List.map_nil, reduceIte, Nat.reduceEqDiff, Nat.reduceAdd, Nat.reduceSub, Int.toNat_natCast, Nat.succ_ne_zero, Nat.zero_ne_one, Nat.one_ne_zero]
          refine T_cond rfl (fun c5 => ?_) (fun c5 => ?_)
          · try simp only [decide_eq_true_eq, decide_eq_false_iff_not, Bool.not_eq_true', Bool.not_eq_false', Int.not_lt, Int.not_le, Int.ofNat_lt, Int.ofNat_le, Int.ofNat_inj, ne_eq, Decidable.not_not] at c5
            refine T_seq ?_
            refine T_region ?_
            refine TO_cons rfl (TOp_pure (pur_assign rfl) rfl ?_)
            refine TO_nil ?_
            refine T_keep [8] ?_
            simp only [pick, List.map, lk, put, val, constA, entry, cellsOf, cellVal, cellVals, List.drop, List.take, List.append_assoc, List.nil_append, List.cons_append, List.singleton_append, List.length_cons, List.length_nil, List.set_cons_zero, List.set_cons_succ, setRow, setSub, spl, Root.under, List.getElem?_cons_zero, List.getElem?_cons_succ, List.map_cons, List.map_nil, reduceIte, Nat.reduceEqDiff, Nat.reduceAdd, Nat.reduceSub, Int.toNat_natCast, Nat.succ_ne_zero, Nat.zero_ne_one, Nat.one_ne_zero]
            refine T_ret ?_
            refine block_ret ?_
            refine then_ret ?_
            refine then_ret ?_
            refine block_ret ?_
            refine then_ret ?_
            refine end_ret (.tmp .nil) rfl rfl ⟨?_, rfl⟩
            simp only [resA, lk, reduceIte, Nat.reduceEqDiff]
            refine congrArg boolA ?_
            first | (rw [tr_false]; intro h; exact tr_not.1 (by assumption) h.1; done) | (rw [tr_false]; intro h; exact tr_not.1 (by assumption) h.2.1; done) | (rw [tr_false (PO_not (i := i) (by omega) (fun h => by have := (POx_any (by assumption)).1 h; simp_all))]; done) | (rw [tr_true (PO_end (tr_iff.1 (by assumption)) hmi (by omega) hall)])
          · try simp only [decide_eq_true_eq, decide_eq_false_iff_not, Bool.not_eq_true', Bool.not_eq_false', Int.not_lt, Int.not_le, Int.ofNat_lt, Int.ofNat_le, Int.ofNat_inj, ne_eq, Decidable.not_not] at c5
            refine T_skip ?_
            refine T_region ?_
            refine TO_cons rfl (TOp_pure (pur_add rfl rfl rfl (fits64 (by omega) (by omega))) rfl ?_)
            refine TO_cons rfl (TOp_pure (pur_move rfl) rfl ?_)
            refine TO_nil ?_
            refine again0 (E' := [(3, .i 1 (ints s)), (5, .b 0 0), (6, .b 1 0), (22, intA n), (23, natA (i + 1))]) (σ' := [.box [edgesI es], .box [edgesI p]]) _ ?_ (Weak.to 2 (by decide) rfl rfl rfl ⟨rfl, rfl, rfl, rfl, rfl, trivial⟩) ⟨(i + 1), ?_, ?_, rfl, rfl, rfl⟩
            · omega
            · omega
            · refine all_succ hall ?_
              by_cases hin : (i : Int) ∈ s
              · exact .inl hin
              · exact (POx_any hin).2 (by simp_all)
        · try simp only [decide_eq_true_eq, decide_eq_false_iff_not, Bool.not_eq_true', Bool.not_eq_false', Int.not_lt, Int.not_le, Int.ofNat_lt, Int.ofNat_le, Int.ofNat_inj, ne_eq, Decidable.not_not] at g4
          refine TO_off rfl rfl (by decide) rfl rfl rfl ?_
          refine TO_off rfl rfl (by decide) rfl rfl rfl ?_
          refine TO_off rfl rfl (by decide) rfl rfl rfl ?_
          refine TO_off rfl rfl (by decide) rfl rfl rfl ?_
          refine TO_cons rfl (TOp_pure (pur_pick rfl rfl rfl) rfl ?_)
          refine TO_nil ?_
          refine T_keep [3, 5, 6, 22, 23, 35] ?_
          simp only [pick, List.map, lk, put, val, constA, entry, cellsOf, cellVal, cellVals, List.drop, List.take, List.append_assoc, List.nil_append, List.cons_append, List.singleton_append, List.length_cons, List.length_nil, List.set_cons_zero, List.set_cons_succ, setRow, setSub, spl, Root.under, List.getElem?_cons_zero, List.getElem?_cons_succ, List.map_cons, List.map_nil, reduceIte, Nat.reduceEqDiff, Nat.reduceAdd, Nat.reduceSub, Int.toNat_natCast, Nat.succ_ne_zero, Nat.zero_ne_one, Nat.one_ne_zero]
          refine T_cond (t := false) rfl (fun h => nomatch h) (fun _ => ?_)
          refine T_skip ?_
          refine T_region ?_
          refine TO_cons rfl (TOp_pure (pur_add rfl rfl rfl (fits64 (by omega) (by omega))) rfl ?_)
          refine TO_cons rfl (TOp_pure (pur_move rfl) rfl ?_)
          refine TO_nil ?_
          refine again0 (E' := [(3, .i 1 (ints s)), (5, .b 0 0), (6, .b 1 0), (22, intA n), (23, natA (i + 1))]) (σ' := [.box [edgesI es], .box [edgesI p]]) _ ?_ (Weak.to 2 (by decide) rfl rfl rfl ⟨rfl, rfl, rfl, rfl, rfl, trivial⟩) ⟨(i + 1), ?_, ?_, rfl, rfl, rfl⟩
          · omega
          · omega
          · refine all_succ hall ?_
            by_cases hin : (i : Int) ∈ s
            · exact .inl hin
            · exact (POx_any hin).2 (by simp_all)
      · try simp only [decide_eq_true_eq, decide_eq_false_iff_not, Bool.not_eq_true', Bool.not_eq_false', Int.not_lt, Int.not_le, Int.ofNat_lt, Int.ofNat_le, Int.ofNat_inj, ne_eq, Decidable.not_not] at c3
        refine T_exit ?_
        refine then_exit ?_
        refine then_exit ?_
        refine block_exit ?_
        refine T_seq ?_
        refine T_region ?_
        refine TO_cons rfl (TOp_pure (pur_assign rfl) rfl ?_)
        refine TO_nil ?_
        refine T_keep [8] ?_
        simp only [pick, List.map, lk, put, val, constA, entry, cellsOf, cellVal, cellVals, List.drop, List.take, List.append_assoc, List.nil_append, List.cons_append, List.singleton_append, List.length_cons, List.length_nil, List.set_cons_zero, List.set_cons_succ, setRow, setSub, spl, Root.under, List.getElem?_cons_zero, List.getElem?_cons_succ, List.map_cons, List.map_nil, reduceIte, Nat.reduceEqDiff, Nat.reduceAdd, Nat.reduceSub, Int.toNat_natCast, Nat.succ_ne_zero, Nat.zero_ne_one, Nat.one_ne_zero]
        refine T_ret ?_
        refine end_ret (.tmp .nil) rfl rfl ⟨?_, rfl⟩
        simp only [resA, lk, reduceIte, Nat.reduceEqDiff]
        refine congrArg boolA ?_
        first | (rw [tr_false]; intro h; exact tr_not.1 (by assumption) h.1; done) | (rw [tr_false]; intro h; exact tr_not.1 (by assumption) h.2.1; done) | (rw [tr_false (PO_not (i := i) (by omega) (fun h => by have := (POx_any (by assumption)).1 h; simp_all))]; done) | (rw [tr_true (PO_end (tr_iff.1 (by assumption)) hmi (by omega) hall)])
end Go.Proofs.Ytglgcncmjnjfgaa

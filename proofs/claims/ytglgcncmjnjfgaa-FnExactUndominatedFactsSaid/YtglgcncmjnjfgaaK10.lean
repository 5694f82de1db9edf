/- Contracts of functions of the program (undf), each walked once. -/
import Derived.Test.YtglgcncmjnjfgaaProg
import Derived.Test.YtglgcncmjnjfgaaK7
import Derived.Test.YtglgcncmjnjfgaaCP
set_option linter.unusedVariables false
set_option linter.unusedSimpArgs false
set_option maxRecDepth 4000
namespace Go.Proofs.Ytglgcncmjnjfgaa
open Go Go.Proofs Go.Sep


noncomputable def UF (n : Int) (es p : List (Int × Int)) (s : List Int) : List Int := if tr (VP n es p ∧ SetOK n s) = true then und p s else []
theorem UF_good {n es p s} (h1 : VP n es p) (h2 : SetOK n s) : UF n es p s = und p s := by unfold UF; rw [if_pos (tr_true ⟨h1, h2⟩)]
theorem UF_bad1 {n es p s} (h1 : ¬ VP n es p) : UF n es p s = [] := by unfold UF; rw [tr_false (fun h => h1 h.1)]; rfl
theorem UF_bad2 {n es p s} (h1 : ¬ SetOK n s) : UF n es p s = [] := by unfold UF; rw [tr_false (fun h => h1 h.2)]; rfl
theorem UF_len (n es p s) : (UF n es p s).length ≤ s.length := by unfold UF; split; exact und_len _ _; simp
def topA (p : List (Int × Int)) (s : List Int) (b : Int) (m : Nat) : Bool := (s.take m).all fun a => !decide ((a, b) ∈ p)
theorem topA_succ (p : List (Int × Int)) (s : List Int) (b : Int) (m : Nat) (h : m < s.length) : topA p s b (m + 1) = (topA p s b m && !decide ((s.getD m 0, b) ∈ p)) := by
  unfold topA; rw [take_succ_getD s 0 m h, List.all_append]; simp
theorem topA_end (p : List (Int × Int)) (s : List Int) (b : Int) : (!(s.any fun a => decide ((a, b) ∈ p))) = topA p s b s.length := by
  unfold topA; rw [List.take_length, List.not_any_eq_all_not]

theorem undominated_ownT (p : List (Int × Int)) (xs : List Int) (hp : p.length ≤ 1048576) (hx : xs.length ≤ 1048576) : Sep.Fn prg 51 [edgesI p, .i 1 (ints xs)] [] fun r σ => r = .m [0] 0 (und p xs).length 1 ∧ σ = [.row (ints (und p xs))] :=
  Fn.pick 1 (undominated_own p xs hp hx) fun r σ h => by obtain ⟨rfl, rfl⟩ := h; exact ⟨rfl, rfl, rfl⟩

/-- spec.UndominatedFacts -/
theorem spec_UndominatedFacts_own (n : Int) (es p : List (Int × Int)) (s : List Int) (he : es.length ≤ 1048576) (hr : R64 es) (hn : -9223372036854775808 ≤ n ∧ n ≤ 9223372036854775807) (hp : p.length ≤ 1048576) (hs : s.length ≤ 1048576) : Sep.Fn prg 18 [intA n, edgesI es, edgesI p, .i 1 (ints s)] [] fun r σ => r = .m [0] 0 (UF n es p s).length 1 ∧ σ = [.row (ints (UF n es p s))] := by
  refine fn_of_T Try.func18 rfl rfl (Nat.le_of_ble_eq_true rfl) ?_
  simp only [entry, Nat.reduceAdd]
  refine T_seq ?_
  refine T_region ?_
  refine TO_cons rfl (TOp_pure (pur_assign rfl) rfl ?_)
  refine TO_nil ?_
  refine T_keep [0, 1, 2, 3] ?_
  simp only [pick, List.map, lk, put, val, constA, entry, cellsOf, cellVal, cellVals, List.drop, List.take, List.append_assoc, List.nil_append, List.cons_append, List.singleton_append, List.length_cons, List.length_nil, List.set_cons_zero, List.set_cons_succ, setRow, setSub, spl, Root.under, List.getElem?_cons_zero, List.getElem?_cons_succ, List.map_cons, List.map_nil, reduceIte, Nat.reduceEqDiff, Nat.reduceAdd, Nat.reduceSub, Int.toNat_natCast, Nat.succ_ne_zero, Nat.zero_ne_one, Nat.one_ne_zero, mvE, mvA, mvR, mvH, mvS, A.names, namesL, A.ren, renL, rh, List.headD_cons, beq_self_eq_true, Nat.reduceBEq, Bool.or_false, Bool.false_or, Bool.or_self, Bool.false_eq_true, Nat.reduceMul, List.reduceReplicate, List.take_succ_cons, List.take_zero, ints_app, ints_one, rows_one, flat_app, flat_one, List.nil_append, Nat.zero_add]
  refine T_seq ?_
  refine T_region ?_
  refine TO_cons rfl (TOp_lit (nn := 0) (k := 1) sl31 zero3 rfl rfl rfl rfl (by decide) ?_)
  refine TO_cons rfl (TOp_pure (pur_assign rfl) rfl ?_)
  refine TO_nil ?_
  refine T_keep [0, 1, 2, 3, 9] ?_
  simp only [pick, List.map, lk, put, val, constA, entry, cellsOf, cellVal, cellVals, List.drop, List.take, List.append_assoc, List.nil_append, List.cons_append, List.singleton_append, List.length_cons, List.length_nil, List.set_cons_zero, List.set_cons_succ, setRow, setSub, spl, Root.under, List.getElem?_cons_zero, List.getElem?_cons_succ, List.map_cons, List.map_nil, reduceIte, Nat.reduceEqDiff, Nat.reduceAdd, Nat.reduceSub, Int.toNat_natCast, Nat.succ_ne_zero, Nat.zero_ne_one, Nat.one_ne_zero, mvE, mvA, mvR, mvH, mvS, A.names, namesL, A.ren, renL, rh, List.headD_cons, beq_self_eq_true, Nat.reduceBEq, Bool.or_false, Bool.false_or, Bool.or_self, Bool.false_eq_true, Nat.reduceMul, List.reduceReplicate, List.take_succ_cons, List.take_zero, ints_app, ints_one, rows_one, flat_app, flat_one, List.nil_append, Nat.zero_add]
  refine T_seq ?_
  refine T_seq ?_
  refine T_region ?_
  refine TO_cons rfl (TOp_pure (pur_move rfl) rfl ?_)
  refine TO_cons rfl (TOp_pure (pur_move rfl) rfl ?_)
  refine TO_cons rfl (TOp_pure (pur_move rfl) rfl ?_)
  refine TO_cons rfl (TOp_callV (call_static ent16 rfl) (spec_IsValidPreference n es p he hr hn hp) rfl rfl rfl ?_)
  refine TO_cons rfl (TOp_pure (pur_not rfl rfl) rfl ?_)
  refine TO_cons rfl (TOp_pure (pur_move rfl) rfl ?_)
  refine TO_split 19 rfl (fun g1 => ?_) (fun g1 => ?_)
  · try simp only [decide_eq_true_eq, decide_eq_false_iff_not, Bool.not_eq_true', Bool.not_eq_false', Int.not_lt, Int.not_le, Int.ofNat_lt, Int.ofNat_le, Int.ofNat_inj, ne_eq, Decidable.not_not] at g1
    refine TO_off rfl rfl (by decide) rfl rfl rfl ?_
    refine TO_off rfl rfl (by decide) rfl rfl rfl ?_
    refine TO_off rfl rfl (by decide) rfl rfl rfl ?_
    refine TO_off rfl rfl (by decide) rfl rfl rfl ?_
    refine TO_cons rfl (TOp_pure (pur_pick rfl rfl rfl) rfl ?_)
    refine TO_nil ?_
    refine T_keep [2, 3, 9, 24] ?_
    simp only [pick, List.map, lk, put, val, constA, entry, cellsOf, cellVal, cellVals, List.drop, List.take, List.append_assoc, List.nil_append, List.cons_append, List.singleton_append, List.length_cons, List.length_nil, List.set_cons_zero, List.set_cons_succ, setRow, setSub, spl, Root.under, List.getElem?_cons_zero, List.getElem?_cons_succ, List.map_cons, List.map_nil, reduceIte, Nat.reduceEqDiff, Nat.reduceAdd, Nat.reduceSub, Int.toNat_natCast, Nat.succ_ne_zero, Nat.zero_ne_one, Nat.one_ne_zero, mvE, mvA, mvR, mvH, mvS, A.names, namesL, A.ren, renL, rh, List.headD_cons, beq_self_eq_true, Nat.reduceBEq, Bool.or_false, Bool.false_or, Bool.or_self, Bool.false_eq_true, Nat.reduceMul, List.reduceReplicate, List.take_succ_cons, List.take_zero, ints_app, ints_one, rows_one, flat_app, flat_one, List.nil_append, Nat.zero_add]
    refine T_cond (t := true) rfl (fun _ => ?_) (fun h => nomatch h)
    refine T_seq ?_
    refine T_region ?_
    refine TO_cons rfl (TOp_pure (pur_move rfl) rfl ?_)
    refine TO_cons rfl (TOp_pure (pur_assign rfl) rfl ?_)
    refine TO_nil ?_
    refine T_keep [8] ?_
    simp only [pick, List.map, lk, put, val, constA, entry, cellsOf, cellVal, cellVals, List.drop, List.take, List.append_assoc, List.nil_append, List.cons_append, List.singleton_append, List.length_cons, List.length_nil, List.set_cons_zero, List.set_cons_succ, setRow, setSub, spl, Root.under, List.getElem?_cons_zero, List.getElem?_cons_succ, List.map_cons, List.map_nil, reduceIte, Nat.reduceEqDiff, Nat.reduceAdd, Nat.reduceSub, Int.toNat_natCast, Nat.succ_ne_zero, Nat.zero_ne_one, Nat.one_ne_zero, mvE, mvA, mvR, mvH, mvS, A.names, namesL, A.ren, renL, rh, List.headD_cons, beq_self_eq_true, Nat.reduceBEq, Bool.or_false, Bool.false_or, Bool.or_self, Bool.false_eq_true, Nat.reduceMul, List.reduceReplicate, List.take_succ_cons, List.take_zero, ints_app, ints_one, rows_one, flat_app, flat_one, List.nil_append, Nat.zero_add]
    refine T_ret ?_
    refine then_ret ?_
    first | (rw [UF_bad1 (tr_not.1 (by assumption))]; exact end_own (.tmp .nil) rfl 1 (by decide) rfl rfl rfl rfl ⟨rfl, rfl⟩) | (rw [UF_bad2 (tr_not.1 (by assumption))]; exact end_own (.tmp .nil) rfl 1 (by decide) rfl rfl rfl rfl ⟨rfl, rfl⟩) | (have e : out = und p s := (by rw [hout, List.take_of_length_le (by omega)]; rfl); subst hc; rw [UF_good (tr_iff.1 (by assumption)) (tr_iff.1 (by assumption)), ← e]; exact end_own (.tmp .nil) rfl 1 (by decide) rfl rfl rfl rfl ⟨rfl, rfl⟩)
  · try simp only [decide_eq_true_eq, decide_eq_false_iff_not, Bool.not_eq_true', Bool.not_eq_false', Int.not_lt, Int.not_le, Int.ofNat_lt, Int.ofNat_le, Int.ofNat_inj, ne_eq, Decidable.not_not] at g1
    refine TO_on rfl rfl (by decide) rfl rfl (TOp_pure (pur_move rfl) rfl ?_)
    refine TO_on rfl rfl (by decide) rfl rfl (TOp_pure (pur_move rfl) rfl ?_)
    refine TO_on rfl rfl (by decide) rfl rfl (TOp_callV (call_static ent49 rfl) (spec_l8Set n s (tr_iff.1 g1).1.1.1 (tr_iff.1 g1).1.1.2 hs) rfl rfl rfl ?_)
    refine TO_on rfl rfl (by decide) rfl rfl (TOp_pure (pur_not rfl rfl) rfl ?_)
    refine TO_cons rfl (TOp_pure (pur_pick rfl rfl rfl) rfl ?_)
    refine TO_nil ?_
    refine T_keep [2, 3, 9, 24] ?_
    simp only [pick, List.map, lk, put, val, constA, entry, cellsOf, cellVal, cellVals, List.drop, List.take, List.append_assoc, List.nil_append, List.cons_append, List.singleton_append, List.length_cons, List.length_nil, List.set_cons_zero, List.set_cons_succ, setRow, setSub, spl, Root.under, List.getElem?_cons_zero, List.getElem?_cons_succ, List.map_cons, List.map_nil, reduceIte, Nat.reduceEqDiff, Nat.reduceAdd, Nat.reduceSub, Int.toNat_natCast, Nat.succ_ne_zero, Nat.zero_ne_one, Nat.one_ne_zero, mvE, mvA, mvR, mvH, mvS, A.names, namesL, A.ren, renL, rh, List.headD_cons, beq_self_eq_true, Nat.reduceBEq, Bool.or_false, Bool.false_or, Bool.or_self, Bool.false_eq_true, Nat.reduceMul, List.reduceReplicate, List.take_succ_cons, List.take_zero, ints_app, ints_one, rows_one, flat_app, flat_one, List.nil_append, Nat.zero_add]
    refine T_cond rfl (fun c2 => ?_) (fun c2 => ?_)
    · try simp only [decide_eq_true_eq, decide_eq_false_iff_not, Bool.not_eq_true', Bool.not_eq_false', Int.not_lt, Int.not_le, Int.ofNat_lt, Int.ofNat_le, Int.ofNat_inj, ne_eq, Decidable.not_not] at c2
      refine T_seq ?_
      refine T_region ?_
      refine TO_cons rfl (TOp_pure (pur_move rfl) rfl ?_)
      refine TO_cons rfl (TOp_pure (pur_assign rfl) rfl ?_)
      refine TO_nil ?_
      refine T_keep [8] ?_
      simp only [pick, List.map, lk, put, val, constA, entry, cellsOf, cellVal, cellVals, List.drop, List.take, List.append_assoc, List.nil_append, List.cons_append, List.singleton_append, List.length_cons, List.length_nil, List.set_cons_zero, List.set_cons_succ, setRow, setSub, spl, Root.under, List.getElem?_cons_zero, List.getElem?_cons_succ, List.map_cons, List.map_nil, reduceIte, Nat.reduceEqDiff, Nat.reduceAdd, Nat.reduceSub, Int.toNat_natCast, Nat.succ_ne_zero, Nat.zero_ne_one, Nat.one_ne_zero, mvE, mvA, mvR, mvH, mvS, A.names, namesL, A.ren, renL, rh, List.headD_cons, beq_self_eq_true, Nat.reduceBEq, Bool.or_false, Bool.false_or, Bool.or_self, Bool.false_eq_true, Nat.reduceMul, List.reduceReplicate, List.take_succ_cons, List.take_zero, ints_app, ints_one, rows_one, flat_app, flat_one, List.nil_append, Nat.zero_add]
      refine T_ret ?_
      refine then_ret ?_
      first | (rw [UF_bad1 (tr_not.1 (by assumption))]; exact end_own (.tmp .nil) rfl 1 (by decide) rfl rfl rfl rfl ⟨rfl, rfl⟩) | (rw [UF_bad2 (tr_not.1 (by assumption))]; exact end_own (.tmp .nil) rfl 1 (by decide) rfl rfl rfl rfl ⟨rfl, rfl⟩) | (have e : out = und p s := (by rw [hout, List.take_of_length_le (by omega)]; rfl); subst hc; rw [UF_good (tr_iff.1 (by assumption)) (tr_iff.1 (by assumption)), ← e]; exact end_own (.tmp .nil) rfl 1 (by decide) rfl rfl rfl rfl ⟨rfl, rfl⟩)
    · try simp only [decide_eq_true_eq, decide_eq_false_iff_not, Bool.not_eq_true', Bool.not_eq_false', Int.not_lt, Int.not_le, Int.ofNat_lt, Int.ofNat_le, Int.ofNat_inj, ne_eq, Decidable.not_not] at c2
      refine T_skip ?_
      refine T_seq ?_
      refine T_seq ?_
      refine T_region ?_
      refine TO_cons rfl (TOp_pure (pur_assign rfl) rfl ?_)
      refine TO_nil ?_
      refine T_keep [2, 3, 9, 10] ?_
      simp only [pick, List.map, lk, put, val, constA, entry, cellsOf, cellVal, cellVals, List.drop, List.take, List.append_assoc, List.nil_append, List.cons_append, List.singleton_append, List.length_cons, List.length_nil, List.set_cons_zero, List.set_cons_succ, setRow, setSub, spl, Root.under, List.getElem?_cons_zero, List.getElem?_cons_succ, List.map_cons, List.map_nil, reduceIte, Nat.reduceEqDiff, Nat.reduceAdd, Nat.reduceSub, Int.toNat_natCast, Nat.succ_ne_zero, Nat.zero_ne_one, Nat.one_ne_zero, mvE, mvA, mvR, mvH, mvS, A.names, namesL, A.ren, renL, rh, List.headD_cons, beq_self_eq_true, Nat.reduceBEq, Bool.or_false, Bool.false_or, Bool.or_self, Bool.false_eq_true, Nat.reduceMul, List.reduceReplicate, List.take_succ_cons, List.take_zero, ints_app, ints_one, rows_one, flat_app, flat_one, List.nil_append, Nat.zero_add]
      refine T_block ?_
      refine T_loop (fun k E σ => ∃ (i : Nat) (c : Nat) (out : List Int), (i ≤ s.length) ∧ (out = (s.take i).filter (fun b => !(s.any fun a => decide ((a, b) ∈ p)))) ∧ (c = out.length) ∧ k = s.length - i ∧ E = [(2, edgesI p), (3, .i 1 (ints s)), (9, .m [0] 0 c 1), (10, natA i)] ∧ σ = [.row (ints out)]) _ (E0 := [(2, edgesI p), (3, .i 1 (ints s)), (9, .m [0] 0 (0) 1), (10, natA (0))]) (σ0 := [.row (ints ([]))]) (Weak.to 1 (by decide) rfl rfl rfl ⟨rfl, rfl, rfl, rfl, trivial⟩) ⟨(0), (0), ([]), ?_, ?_, ?_, rfl, rfl, rfl⟩ ?_
      · omega
      · simp
      · rfl
      rintro k E σ ⟨i, c, out, hi, hout, hc, rfl, rfl, rfl⟩
      have hfl : c ≤ s.length := by rw [hc, hout]; exact filter_len _ s i
      refine T_seq ?_
      refine T_seq ?_
      refine T_region ?_
      refine TO_cons rfl (TOp_pure (pur_move rfl) rfl ?_)
      refine TO_cons rfl (TOp_pure (pur_move rfl) rfl ?_)
      refine TO_cons rfl (TOp_pure (by first | exact pur_len sl31 rfl (by decide) rfl | exact pur_len_m sl31 rfl rfl | exact pur_len_n sl31 rfl rfl) rfl ?_)
      refine TO_cons rfl (TOp_pure (pur_lss rfl rfl rfl) rfl ?_)
      refine TO_nil ?_
      refine T_keep [2, 3, 9, 10, 29] ?_
      simp only [pick, List.map, lk, put, val, constA, entry, cellsOf, cellVal, cellVals, List.drop, List.take, List.append_assoc, List.nil_append, List.cons_append, List.singleton_append, List.length_cons, List.length_nil, List.set_cons_zero, List.set_cons_succ, setRow, setSub, spl, Root.under, List.getElem?_cons_zero, List.getElem?_cons_succ, List.map_cons, List.map_nil, reduceIte, Nat.reduceEqDiff, Nat.reduceAdd, Nat.reduceSub, Int.toNat_natCast, Nat.succ_ne_zero, Nat.zero_ne_one, Nat.one_ne_zero, mvE, mvA, mvR, mvH, mvS, A.names, namesL, A.ren, renL, rh, List.headD_cons, beq_self_eq_true, Nat.reduceBEq, Bool.or_false, Bool.false_or, Bool.or_self, Bool.false_eq_true, Nat.reduceMul, List.reduceReplicate, List.take_succ_cons, List.take_zero, ints_app, ints_one, rows_one, flat_app, flat_one, List.nil_append, Nat.zero_add]
      refine T_cond rfl (fun c3 => ?_) (fun c3 => ?_)
      · try simp only [decide_eq_true_eq, decide_eq_false_iff_not, Bool.not_eq_true', Bool.not_eq_false', Int.not_lt, Int.not_le, Int.ofNat_lt, Int.ofNat_le, Int.ofNat_inj, ne_eq, Decidable.not_not] at c3
        refine T_skip ?_
        refine T_seq ?_
        refine T_block ?_
        refine T_seq ?_
        refine T_region ?_
        refine TO_cons rfl (TOp_pure (pur_assign rfl) rfl ?_)
        refine TO_nil ?_
        refine T_keep [2, 3, 9, 10, 11] ?_
        simp only [pick, List.map, lk, put, val, constA, entry, cellsOf, cellVal, cellVals, List.drop, List.take, List.append_assoc, List.nil_append, List.cons_append, List.singleton_append, List.length_cons, List.length_nil, List.set_cons_zero, List.set_cons_succ, setRow, setSub, spl, Root.under, List.getElem?_cons_zero, List.getElem?_cons_succ, List.map_cons, List.map_nil, reduceIte, Nat.reduceEqDiff, Nat.reduceAdd, Nat.reduceSub, Int.toNat_natCast, Nat.succ_ne_zero, Nat.zero_ne_one, Nat.one_ne_zero, mvE, mvA, mvR, mvH, mvS, A.names, namesL, A.ren, renL, rh, List.headD_cons, beq_self_eq_true, Nat.reduceBEq, Bool.or_false, Bool.false_or, Bool.or_self, Bool.false_eq_true, Nat.reduceMul, List.reduceReplicate, List.take_succ_cons, List.take_zero, ints_app, ints_one, rows_one, flat_app, flat_one, List.nil_append, Nat.zero_add]
        refine T_seq ?_
        refine T_seq ?_
        refine T_region ?_
        refine TO_cons rfl (TOp_pure (pur_assign rfl) rfl ?_)
        refine TO_nil ?_
        refine T_keep [2, 3, 9, 10, 11, 12] ?_
        simp only [pick, List.map, lk, put, val, constA, entry, cellsOf, cellVal, cellVals, List.drop, List.take, List.append_assoc, List.nil_append, List.cons_append, List.singleton_append, List.length_cons, List.length_nil, List.set_cons_zero, List.set_cons_succ, setRow, setSub, spl, Root.under, List.getElem?_cons_zero, List.getElem?_cons_succ, List.map_cons, List.map_nil, reduceIte, Nat.reduceEqDiff, Nat.reduceAdd, Nat.reduceSub, Int.toNat_natCast, Nat.succ_ne_zero, Nat.zero_ne_one, Nat.one_ne_zero, mvE, mvA, mvR, mvH, mvS, A.names, namesL, A.ren, renL, rh, List.headD_cons, beq_self_eq_true, Nat.reduceBEq, Bool.or_false, Bool.false_or, Bool.or_self, Bool.false_eq_true, Nat.reduceMul, List.reduceReplicate, List.take_succ_cons, List.take_zero, ints_app, ints_one, rows_one, flat_app, flat_one, List.nil_append, Nat.zero_add]
        refine T_block ?_
        refine T_loop (fun k E σ => ∃ (m : Nat) (tp : Bool), (m ≤ s.length) ∧ (topA p s (s.getD i 0) m = tp) ∧ k = s.length - m ∧ E = [(2, edgesI p), (3, .i 1 (ints s)), (9, .m [0] 0 c 1), (10, natA i), (11, boolA tp), (12, natA m)] ∧ σ = [.row (ints out)]) _ (E0 := [(2, edgesI p), (3, .i 1 (ints s)), (9, .m [0] 0 c 1), (10, natA i), (11, boolA (true)), (12, natA (0))]) (σ0 := [.row (ints out)]) (Weak.to 1 (by decide) rfl rfl rfl ⟨rfl, rfl, rfl, rfl, rfl, rfl, trivial⟩) ⟨(0), (true), ?_, ?_, rfl, rfl, rfl⟩ ?_
        · omega
        · rfl
        rintro k E σ ⟨m, tp, hm, htp, rfl, rfl, rfl⟩
        refine T_seq ?_
        refine T_seq ?_
        refine T_region ?_
        refine TO_cons rfl (TOp_pure (pur_move rfl) rfl ?_)
        refine TO_cons rfl (TOp_pure (pur_move rfl) rfl ?_)
        refine TO_cons rfl (TOp_pure (by first | exact pur_len sl31 rfl (by decide) rfl | exact pur_len_m sl31 rfl rfl | exact pur_len_n sl31 rfl rfl) rfl ?_)
        refine TO_cons rfl (TOp_pure (pur_lss rfl rfl rfl) rfl ?_)
        refine TO_nil ?_
        refine T_keep [2, 3, 9, 10, 11, 12, 35] ?_
        simp only [pick, List.map, lk, put, val, constA, entry, cellsOf, cellVal, cellVals, List.drop, List.take, List.append_assoc, List.nil_append, List.cons_append, List.singleton_append, List.length_cons, List.length_nil, List.set_cons_zero, List.set_cons_succ, setRow, setSub, spl, Root.under, List.getElem?_cons_zero, List.getElem?_cons_succ, List.map_cons, List.map_nil, reduceIte, Nat.reduceEqDiff, Nat.reduceAdd, Nat.reduceSub, Int.toNat_natCast, Nat.succ_ne_zero, Nat.zero_ne_one, Nat.one_ne_zero, mvE, mvA, mvR, mvH, mvS, A.names, namesL, A.ren, renL, rh, List.headD_cons, beq_self_eq_true, Nat.reduceBEq, Bool.or_false, Bool.false_or, Bool.or_self, Bool.false_eq_true, Nat.reduceMul, List.reduceReplicate, List.take_succ_cons, List.take_zero, ints_app, ints_one, rows_one, flat_app, flat_one, List.nil_append, Nat.zero_add]
        refine T_cond rfl (fun c4 => ?_) (fun c4 => ?_)
        · try simp only [decide_eq_true_eq, decide_eq_false_iff_not, Bool.not_eq_true', Bool.not_eq_false', Int.not_lt, Int.not_le, Int.ofNat_lt, Int.ofNat_le, Int.ofNat_inj, ne_eq, Decidable.not_not] at c4
          refine T_skip ?_
          refine T_seq ?_
          refine T_block ?_
          refine T_regionD mixed (by kernel_rfl) ?_
          refine TQ_pure rfl (pur_move rfl) rfl ?_
          refine TQ_pure rfl (pur_move rfl) rfl ?_
          refine TQ_split 39 rfl (fun g5 => ?_) (fun g5 => ?_)
          · try simp only [decide_eq_true_eq, decide_eq_false_iff_not, Bool.not_eq_true', Bool.not_eq_false', Int.not_lt, Int.not_le, Int.ofNat_lt, Int.ofNat_le, Int.ofNat_inj, ne_eq, Decidable.not_not] at g5
            refine TQ_on rfl rfl (by decide) rfl (pur_move rfl) rfl ?_
            refine TQ_on rfl rfl (by decide) rfl (pur_move rfl) rfl ?_
            refine TQ_on rfl rfl (by decide) rfl (pur_move rfl) rfl ?_
            refine TQ_on rfl rfl (by decide) rfl (by first | exact pur_ixN sl31 rfl rfl (by omega) rfl | exact pur_ixN_m sl31 rfl rfl (by omega) rfl | exact pur_ix sl31 rfl rfl (by omega) (by omega) rfl | exact pur_ix_m sl31 rfl rfl (by omega) (by omega) rfl) rfl ?_
            refine TQ_on rfl rfl (by decide) rfl (by first | exact pur_ld_b one3 rfl rfl rfl rfl | exact pur_ld_ints rfl one3 rfl rfl (by omega) | exact pur_lde_ints rfl one3 rfl rfl rfl (by omega) | exact pur_ld_q one3 rfl rfl rfl | exact pur_ld_e one3 rfl rfl rfl rfl) rfl ?_
            refine TQ_on rfl rfl (by decide) rfl (pur_move rfl) rfl ?_
            refine TQ_on rfl rfl (by decide) rfl (pur_move rfl) rfl ?_
            refine TQ_on rfl rfl (by decide) rfl (by first | exact pur_ixN sl31 rfl rfl (by omega) rfl | exact pur_ixN_m sl31 rfl rfl (by omega) rfl | exact pur_ix sl31 rfl rfl (by omega) (by omega) rfl | exact pur_ix_m sl31 rfl rfl (by omega) (by omega) rfl) rfl ?_
            refine TQ_on rfl rfl (by decide) rfl (by first | exact pur_ld_b one3 rfl rfl rfl rfl | exact pur_ld_ints rfl one3 rfl rfl (by omega) | exact pur_lde_ints rfl one3 rfl rfl rfl (by omega) | exact pur_ld_q one3 rfl rfl rfl | exact pur_ld_e one3 rfl rfl rfl rfl) rfl ?_
            refine TQ_onV rfl rfl (by decide) rfl (call_static ent12 rfl) (spec_IsPreferred _ _ _ (by first | assumption | omega | (simp_all; done) | (simp_all; omega))) rfl rfl ?_
            refine TQ_on rfl rfl (by decide) rfl (pur_not rfl rfl) rfl ?_
            refine TQ_pure rfl (pur_pick rfl rfl rfl) rfl ?_
            refine TQ_pure rfl (pur_assign rfl) rfl ?_
            refine TQ_nil ?_
            refine T_region ?_
            refine TO_cons rfl (TOp_pure (pur_move rfl) rfl ?_)
            refine TO_cons rfl (TOp_pure (pur_add rfl rfl rfl (fits64 (by omega) (by omega))) rfl ?_)
            refine TO_cons rfl (TOp_pure (pur_assign rfl) rfl ?_)
            refine TO_nil ?_
            first
            | (refine again0 (E' := [(2, edgesI p), (3, .i 1 (ints s)), (9, .m [0] 0 c 1), (10, natA i), (11, boolA (false)), (12, natA (m + 1))]) (σ' := [.row (ints out)]) _ ?_ (Weak.to 1 (by decide) rfl rfl rfl ⟨rfl, rfl, rfl, rfl, rfl, rfl, trivial⟩) ⟨(m + 1), (false), ?_, ?_, rfl, rfl, rfl⟩
               · omega
               · omega
               · rw [topA_succ _ _ _ _ (by omega)]; try rw [any_mem]
                 simp_all)
            | (refine again0 (E' := [(2, edgesI p), (3, .i 1 (ints s)), (9, .m [0] 0 c 1), (10, natA i), (11, boolA ((!(p.any fun e => decide (e.1 = s.getD m 0) && decide (e.2 = s.getD i 0))))), (12, natA (m + 1))]) (σ' := [.row (ints out)]) _ ?_ (Weak.to 1 (by decide) rfl rfl rfl ⟨rfl, rfl, rfl, rfl, rfl, rfl, trivial⟩) ⟨(m + 1), ((!(p.any fun e => decide (e.1 = s.getD m 0) && decide (e.2 = s.getD i 0)))), ?_, ?_, rfl, rfl, rfl⟩
               · omega
               · omega
               · rw [topA_succ _ _ _ _ (by omega)]; try rw [any_mem]
                 simp_all)
          · try simp only [decide_eq_true_eq, decide_eq_false_iff_not, Bool.not_eq_true', Bool.not_eq_false', Int.not_lt, Int.not_le, Int.ofNat_lt, Int.ofNat_le, Int.ofNat_inj, ne_eq, Decidable.not_not] at g5
            refine TQ_off rfl rfl (by decide) rfl rfl rfl ?_
            refine TQ_off rfl rfl (by decide) rfl rfl rfl ?_
            refine TQ_off rfl rfl (by decide) rfl rfl rfl ?_
            refine TQ_off rfl rfl (by decide) rfl rfl rfl ?_
            refine TQ_off rfl rfl (by decide) rfl rfl rfl ?_
            refine TQ_off rfl rfl (by decide) rfl rfl rfl ?_
            refine TQ_off rfl rfl (by decide) rfl rfl rfl ?_
            refine TQ_off rfl rfl (by decide) rfl rfl rfl ?_
            refine TQ_off rfl rfl (by decide) rfl rfl rfl ?_
            refine TQ_off rfl rfl (by decide) rfl rfl rfl ?_
            refine TQ_off rfl rfl (by decide) rfl rfl rfl ?_
            refine TQ_pure rfl (pur_pick rfl rfl rfl) rfl ?_
            refine TQ_pure rfl (pur_assign rfl) rfl ?_
            refine TQ_nil ?_
            refine T_region ?_
            refine TO_cons rfl (TOp_pure (pur_move rfl) rfl ?_)
            refine TO_cons rfl (TOp_pure (pur_add rfl rfl rfl (fits64 (by omega) (by omega))) rfl ?_)
            refine TO_cons rfl (TOp_pure (pur_assign rfl) rfl ?_)
            refine TO_nil ?_
            first
            | (refine again0 (E' := [(2, edgesI p), (3, .i 1 (ints s)), (9, .m [0] 0 c 1), (10, natA i), (11, boolA (false)), (12, natA (m + 1))]) (σ' := [.row (ints out)]) _ ?_ (Weak.to 1 (by decide) rfl rfl rfl ⟨rfl, rfl, rfl, rfl, rfl, rfl, trivial⟩) ⟨(m + 1), (false), ?_, ?_, rfl, rfl, rfl⟩
               · omega
               · omega
               · rw [topA_succ _ _ _ _ (by omega)]; try rw [any_mem]
                 simp_all)
            | (refine again0 (E' := [(2, edgesI p), (3, .i 1 (ints s)), (9, .m [0] 0 c 1), (10, natA i), (11, boolA ((!(p.any fun e => decide (e.1 = s.getD m 0) && decide (e.2 = s.getD i 0))))), (12, natA (m + 1))]) (σ' := [.row (ints out)]) _ ?_ (Weak.to 1 (by decide) rfl rfl rfl ⟨rfl, rfl, rfl, rfl, rfl, rfl, trivial⟩) ⟨(m + 1), ((!(p.any fun e => decide (e.1 = s.getD m 0) && decide (e.2 = s.getD i 0)))), ?_, ?_, rfl, rfl, rfl⟩
               · omega
               · omega
               · rw [topA_succ _ _ _ _ (by omega)]; try rw [any_mem]
                 simp_all)
        · try simp only [decide_eq_true_eq, decide_eq_false_iff_not, Bool.not_eq_true', Bool.not_eq_false', Int.not_lt, Int.not_le, Int.ofNat_lt, Int.ofNat_le, Int.ofNat_inj, ne_eq, Decidable.not_not] at c4
          refine T_exit ?_
          refine then_exit ?_
          refine then_exit ?_
          refine block_exit ?_
          refine T_seq ?_
          refine T_region ?_
          refine TO_cons rfl (TOp_pure (pur_move rfl) rfl ?_)
          refine TO_nil ?_
          refine T_keep [2, 3, 9, 10, 52] ?_
          simp only [pick, List.map, lk, put, val, constA, entry, cellsOf, cellVal, cellVals, List.drop, List.take, List.append_assoc, List.nil_append, List.cons_append, List.singleton_append, List.length_cons, List.length_nil, List.set_cons_zero, List.set_cons_succ, setRow, setSub, spl, Root.under, List.getElem?_cons_zero, List.getElem?_cons_succ, List.map_cons, List.map_nil, reduceIte, Nat.reduceEqDiff, Nat.reduceAdd, Nat.reduceSub, Int.toNat_natCast, Nat.succ_ne_zero, Nat.zero_ne_one, Nat.one_ne_zero, mvE, mvA, mvR, mvH, mvS, A.names, namesL, A.ren, renL, rh, List.headD_cons, beq_self_eq_true, Nat.reduceBEq, Bool.or_false, Bool.false_or, Bool.or_self, Bool.false_eq_true, Nat.reduceMul, List.reduceReplicate, List.take_succ_cons, List.take_zero, ints_app, ints_one, rows_one, flat_app, flat_one, List.nil_append, Nat.zero_add]
          refine T_cond rfl (fun c6 => ?_) (fun c6 => ?_)
          · try simp only [decide_eq_true_eq, decide_eq_false_iff_not, Bool.not_eq_true', Bool.not_eq_false', Int.not_lt, Int.not_le, Int.ofNat_lt, Int.ofNat_le, Int.ofNat_inj, ne_eq, Decidable.not_not] at c6
            refine T_region ?_
            refine TO_cons rfl (TOp_pure (pur_move rfl) rfl ?_)
            refine TO_cons rfl (TOp_pure (pur_move rfl) rfl ?_)
            refine TO_cons rfl (TOp_pure (pur_move rfl) rfl ?_)
            refine TO_cons rfl (TOp_pure (by first | exact pur_ixN sl31 rfl rfl (by omega) rfl | exact pur_ixN_m sl31 rfl rfl (by omega) rfl | exact pur_ix sl31 rfl rfl (by omega) (by omega) rfl | exact pur_ix_m sl31 rfl rfl (by omega) (by omega) rfl) rfl ?_)
            refine TO_cons rfl (TOp_pure (by first | exact pur_ld_b one3 rfl rfl rfl rfl | exact pur_ld_ints rfl one3 rfl rfl (by omega) | exact pur_lde_ints rfl one3 rfl rfl rfl (by omega) | exact pur_ld_q one3 rfl rfl rfl | exact pur_ld_e one3 rfl rfl rfl rfl) rfl ?_)
            refine TO_cons rfl (TOp_lit (nn := 1) (k := 1) sl31 zero3 rfl rfl rfl rfl (by decide) ?_)
            refine TO_cons rfl (TOp_app sl31 zero3 rfl bytes3 rfl rfl rfl rfl (by first | rfl | (simp only [ints_len, rows_len, Nat.mul_one] <;> omega) | (rw [flat_len len_edge]; omega)) (by first | exact src_m rfl rfl (Nat.le_of_ble_eq_true rfl) rfl rfl rfl | exact src_ints rfl | exact src_edges rfl | exact src_rows rfl | exact src_n _ rfl) (by first | rfl | exact cells_ints _ | exact cells_edges _ | exact cells_rows _) (by omega) (by omega) (Nat.zero_le _) (by first | exact ints_one _ _ | exact ints_app _ _ | exact rows_one _ _ | exact flat_one _ _ _ | exact nil_one _ | exact List.nil_append _ | rfl) ?_)
            refine TO_cons rfl (TOp_pure (pur_assign rfl) rfl ?_)
            refine TO_keep [2, 3, 9, 10] ?_
            simp only [pick, List.map, lk, put, val, constA, entry, cellsOf, cellVal, cellVals, List.drop, List.take, List.append_assoc, List.nil_append, List.cons_append, List.singleton_append, List.length_cons, List.length_nil, List.set_cons_zero, List.set_cons_succ, setRow, setSub, spl, Root.under, List.getElem?_cons_zero, List.getElem?_cons_succ, List.map_cons, List.map_nil, reduceIte, Nat.reduceEqDiff, Nat.reduceAdd, Nat.reduceSub, Int.toNat_natCast, Nat.succ_ne_zero, Nat.zero_ne_one, Nat.one_ne_zero, mvE, mvA, mvR, mvH, mvS, A.names, namesL, A.ren, renL, rh, List.headD_cons, beq_self_eq_true, Nat.reduceBEq, Bool.or_false, Bool.false_or, Bool.or_self, Bool.false_eq_true, Nat.reduceMul, List.reduceReplicate, List.take_succ_cons, List.take_zero, ints_app, ints_one, rows_one, flat_app, flat_one, List.nil_append, Nat.zero_add]
            refine TO_nil ?_
            refine T_region ?_
            refine TO_cons rfl (TOp_pure (pur_move rfl) rfl ?_)
            refine TO_cons rfl (TOp_pure (pur_add rfl rfl rfl (fits64 (by omega) (by omega))) rfl ?_)
            refine TO_cons rfl (TOp_pure (pur_assign rfl) rfl ?_)
            refine TO_nil ?_
            first
            | (refine again0 (E' := [(2, edgesI p), (3, .i 1 (ints s)), (9, .m [0] 0 (c + 1) 1), (10, natA (i + 1))]) (σ' := [.row (ints (out ++ [s.getD i 0]))]) _ ?_ (Weak.to 1 (by decide) rfl rfl rfl ⟨rfl, rfl, rfl, rfl, trivial⟩) ⟨(i + 1), (c + 1), (out ++ [s.getD i 0]), ?_, ?_, ?_, rfl, rfl, rfl⟩
               · omega
               · omega
               · rw [filter_take _ _ 0 i (by omega), if_pos (by rw [topA_end, show s.length = m by omega, htp]; assumption), hout]
               · simp [hc])
            | (refine again0 (E' := [(2, edgesI p), (3, .i 1 (ints s)), (9, .m [0] 0 (c) 1), (10, natA (i + 1))]) (σ' := [.row (ints (out))]) _ ?_ (Weak.to 1 (by decide) rfl rfl rfl ⟨rfl, rfl, rfl, rfl, trivial⟩) ⟨(i + 1), (c), (out), ?_, ?_, ?_, rfl, rfl, rfl⟩
               · omega
               · omega
               · rw [filter_take _ _ 0 i (by omega), if_neg (by rw [topA_end, show s.length = m by omega, htp]; simp_all), hout]
               · exact hc)
          · try simp only [decide_eq_true_eq, decide_eq_false_iff_not, Bool.not_eq_true', Bool.not_eq_false', Int.not_lt, Int.not_le, Int.ofNat_lt, Int.ofNat_le, Int.ofNat_inj, ne_eq, Decidable.not_not] at c6
            refine T_skip ?_
            refine T_region ?_
            refine TO_cons rfl (TOp_pure (pur_move rfl) rfl ?_)
            refine TO_cons rfl (TOp_pure (pur_add rfl rfl rfl (fits64 (by omega) (by omega))) rfl ?_)
            refine TO_cons rfl (TOp_pure (pur_assign rfl) rfl ?_)
            refine TO_nil ?_
            first
            | (refine again0 (E' := [(2, edgesI p), (3, .i 1 (ints s)), (9, .m [0] 0 (c + 1) 1), (10, natA (i + 1))]) (σ' := [.row (ints (out ++ [s.getD i 0]))]) _ ?_ (Weak.to 1 (by decide) rfl rfl rfl ⟨rfl, rfl, rfl, rfl, trivial⟩) ⟨(i + 1), (c + 1), (out ++ [s.getD i 0]), ?_, ?_, ?_, rfl, rfl, rfl⟩
               · omega
               · omega
               · rw [filter_take _ _ 0 i (by omega), if_pos (by rw [topA_end, show s.length = m by omega, htp]; assumption), hout]
               · simp [hc])
            | (refine again0 (E' := [(2, edgesI p), (3, .i 1 (ints s)), (9, .m [0] 0 (c) 1), (10, natA (i + 1))]) (σ' := [.row (ints (out))]) _ ?_ (Weak.to 1 (by decide) rfl rfl rfl ⟨rfl, rfl, rfl, rfl, trivial⟩) ⟨(i + 1), (c), (out), ?_, ?_, ?_, rfl, rfl, rfl⟩
               · omega
               · omega
               · rw [filter_take _ _ 0 i (by omega), if_neg (by rw [topA_end, show s.length = m by omega, htp]; simp_all), hout]
               · exact hc)
      · try simp only [decide_eq_true_eq, decide_eq_false_iff_not, Bool.not_eq_true', Bool.not_eq_false', Int.not_lt, Int.not_le, Int.ofNat_lt, Int.ofNat_le, Int.ofNat_inj, ne_eq, Decidable.not_not] at c3
        refine T_exit ?_
        refine then_exit ?_
        refine then_exit ?_
        refine block_exit ?_
        refine T_seq ?_
        refine T_region ?_
        refine TO_cons rfl (TOp_pure (pur_move rfl) rfl ?_)
        refine TO_cons rfl (TOp_pure (pur_assign rfl) rfl ?_)
        refine TO_nil ?_
        refine T_keep [8] ?_
        simp only [pick, List.map, lk, put, val, constA, entry, cellsOf, cellVal, cellVals, List.drop, List.take, List.append_assoc, List.nil_append, List.cons_append, List.singleton_append, List.length_cons, List.length_nil, List.set_cons_zero, List.set_cons_succ, setRow, setSub, spl, Root.under, List.getElem?_cons_zero, List.getElem?_cons_succ, List.map_cons, List.map_nil, reduceIte, Nat.reduceEqDiff, Nat.reduceAdd, Nat.reduceSub, Int.toNat_natCast, Nat.succ_ne_zero, Nat.zero_ne_one, Nat.one_ne_zero, mvE, mvA, mvR, mvH, mvS, A.names, namesL, A.ren, renL, rh, List.headD_cons, beq_self_eq_true, Nat.reduceBEq, Bool.or_false, Bool.false_or, Bool.or_self, Bool.false_eq_true, Nat.reduceMul, List.reduceReplicate, List.take_succ_cons, List.take_zero, ints_app, ints_one, rows_one, flat_app, flat_one, List.nil_append, Nat.zero_add]
        refine T_ret ?_
        first | (rw [UF_bad1 (tr_not.1 (by assumption))]; exact end_own (.tmp .nil) rfl 1 (by decide) rfl rfl rfl rfl ⟨rfl, rfl⟩) | (rw [UF_bad2 (tr_not.1 (by assumption))]; exact end_own (.tmp .nil) rfl 1 (by decide) rfl rfl rfl rfl ⟨rfl, rfl⟩) | (have e : out = und p s := (by rw [hout, List.take_of_length_le (by omega)]; rfl); subst hc; rw [UF_good (tr_iff.1 (by assumption)) (tr_iff.1 (by assumption)), ← e]; exact end_own (.tmp .nil) rfl 1 (by decide) rfl rfl rfl rfl ⟨rfl, rfl⟩)

/-- impl.UndominatedFacts -/
theorem impl_UndominatedFacts_own (n : Int) (es p : List (Int × Int)) (s : List Int) (he : es.length ≤ 1048576) (hr : R64 es) (hn : -9223372036854775808 ≤ n ∧ n ≤ 9223372036854775807) (hp : p.length ≤ 1048576) (hs : s.length ≤ 1048576) : Sep.Fn prg 20 [intA n, edgesI es, edgesI p, .i 1 (ints s)] [] fun r σ => r = .m [0] 0 (UF n es p s).length 1 ∧ σ = [.row (ints (UF n es p s))] := by
  refine fn_of_T Try.func20 rfl rfl (Nat.le_of_ble_eq_true rfl) ?_
  simp only [entry, Nat.reduceAdd]
  refine T_seq ?_
  refine T_region ?_
  refine TO_cons rfl (TOp_pure (pur_assign rfl) rfl ?_)
  refine TO_nil ?_
  refine T_keep [0, 1, 2, 3] ?_
  simp only [pick, List.map, lk, put, val, constA, entry, cellsOf, cellVal, cellVals, List.drop, List.take, List.append_assoc, List.nil_append, List.cons_append, List.singleton_append, List.length_cons, List.length_nil, List.set_cons_zero, List.set_cons_succ, setRow, setSub, spl, Root.under, List.getElem?_cons_zero, List.getElem?_cons_succ, List.map_cons, List.map_nil, reduceIte, Nat.reduceEqDiff, Nat.reduceAdd, Nat.reduceSub, Int.toNat_natCast, Nat.succ_ne_zero, Nat.zero_ne_one, Nat.one_ne_zero]
  refine T_seq ?_
  refine T_seq ?_
  refine T_region ?_
  refine TO_cons rfl (TOp_pure (pur_move rfl) rfl ?_)
  refine TO_cons rfl (TOp_pure (pur_move rfl) rfl ?_)
  refine TO_cons rfl (TOp_pure (pur_move rfl) rfl ?_)
  refine TO_cons rfl (TOp_callV (call_static ent17 rfl) (impl_IsValidPreference n es p he hr hn hp) rfl rfl rfl ?_)
  refine TO_cons rfl (TOp_pure (pur_not rfl rfl) rfl ?_)
  refine TO_cons rfl (TOp_pure (pur_move rfl) rfl ?_)
  refine TO_split 14 rfl (fun g1 => ?_) (fun g1 => ?_)
  · try simp only [decide_eq_true_eq, decide_eq_false_iff_not, Bool.not_eq_true', Bool.not_eq_false', Int.not_lt, Int.not_le, Int.ofNat_lt, Int.ofNat_le, Int.ofNat_inj, ne_eq, Decidable.not_not] at g1
    refine TO_off rfl rfl (by decide) rfl rfl rfl ?_
    refine TO_off rfl rfl (by decide) rfl rfl rfl ?_
    refine TO_off rfl rfl (by decide) rfl rfl rfl ?_
    refine TO_off rfl rfl (by decide) rfl rfl rfl ?_
    refine TO_cons rfl (TOp_pure (pur_pick rfl rfl rfl) rfl ?_)
    refine TO_nil ?_
    refine T_keep [2, 3, 19] ?_
    simp only [pick, List.map, lk, put, val, constA, entry, cellsOf, cellVal, cellVals, List.drop, List.take, List.append_assoc, List.nil_append, List.cons_append, List.singleton_append, List.length_cons, List.length_nil, List.set_cons_zero, List.set_cons_succ, setRow, setSub, spl, Root.under, List.getElem?_cons_zero, List.getElem?_cons_succ, List.map_cons, List.map_nil, reduceIte, Nat.reduceEqDiff, Nat.reduceAdd, Nat.reduceSub, Int.toNat_natCast, Nat.succ_ne_zero, Nat.zero_ne_one, Nat.one_ne_zero]
    refine T_cond (t := true) rfl (fun _ => ?_) (fun h => nomatch h)
    refine T_seq ?_
    refine T_region ?_
    refine TO_cons rfl (TOp_pure (pur_assign rfl) rfl ?_)
    first | refine TO_ghost 8 1 rfl ?_ | skip
    refine TO_nil ?_
    refine T_keep [8] ?_
    simp only [pick, List.map, lk, put, val, constA, entry, cellsOf, cellVal, cellVals, List.drop, List.take, List.append_assoc, List.nil_append, List.cons_append, List.singleton_append, List.length_cons, List.length_nil, List.set_cons_zero, List.set_cons_succ, setRow, setSub, spl, Root.under, List.getElem?_cons_zero, List.getElem?_cons_succ, List.map_cons, List.map_nil, reduceIte, Nat.reduceEqDiff, Nat.reduceAdd, Nat.reduceSub, Int.toNat_natCast, Nat.succ_ne_zero, Nat.zero_ne_one, Nat.one_ne_zero]
    refine T_ret ?_
    refine then_ret ?_
    first | (rw [UF_bad1 (tr_not.1 (by assumption))]; exact end_own (.tmp .nil) rfl 1 (by decide) rfl rfl rfl rfl ⟨rfl, rfl⟩) | (rw [UF_bad2 (tr_not.1 (by assumption))]; exact end_own (.tmp .nil) rfl 1 (by decide) rfl rfl rfl rfl ⟨rfl, rfl⟩) | (rw [UF_good (tr_iff.1 (by assumption)) (tr_iff.1 (by assumption))]; exact end_own (.tmp .nil) rfl 1 (by decide) rfl rfl rfl rfl ⟨rfl, rfl⟩)
  · try simp only [decide_eq_true_eq, decide_eq_false_iff_not, Bool.not_eq_true', Bool.not_eq_false', Int.not_lt, Int.not_le, Int.ofNat_lt, Int.ofNat_le, Int.ofNat_inj, ne_eq, Decidable.not_not] at g1
    refine TO_on rfl rfl (by decide) rfl rfl (TOp_pure (pur_move rfl) rfl ?_)
    refine TO_on rfl rfl (by decide) rfl rfl (TOp_pure (pur_move rfl) rfl ?_)
    refine TO_on rfl rfl (by decide) rfl rfl (TOp_callV (call_static ent50 rfl) (impl_areIndices n s (tr_iff.1 g1).1.1.1 (tr_iff.1 g1).1.1.2 hs) rfl rfl rfl ?_)
    refine TO_on rfl rfl (by decide) rfl rfl (TOp_pure (pur_not rfl rfl) rfl ?_)
    refine TO_cons rfl (TOp_pure (pur_pick rfl rfl rfl) rfl ?_)
    refine TO_nil ?_
    refine T_keep [2, 3, 19] ?_
    simp only [pick, List.map, lk, put, val, constA, entry, cellsOf, cellVal, cellVals, List.drop, List.take, List.append_assoc, List.nil_append, List.cons_append, List.singleton_append, List.length_cons, List.length_nil, List.set_cons_zero, List.set_cons_succ, setRow, setSub, spl, Root.under, List.getElem?_cons_zero, List.getElem?_cons_succ, List.map_cons, List.map_nil, reduceIte, Nat.reduceEqDiff, Nat.reduceAdd, Nat.reduceSub, Int.toNat_natCast, Nat.succ_ne_zero, Nat.zero_ne_one, Nat.one_ne_zero]
    refine T_cond rfl (fun c2 => ?_) (fun c2 => ?_)
    · try simp only [decide_eq_true_eq, decide_eq_false_iff_not, Bool.not_eq_true', Bool.not_eq_false', Int.not_lt, Int.not_le, Int.ofNat_lt, Int.ofNat_le, Int.ofNat_inj, ne_eq, Decidable.not_not] at c2
      refine T_seq ?_
      refine T_region ?_
      refine TO_cons rfl (TOp_pure (pur_assign rfl) rfl ?_)
      first | refine TO_ghost 8 1 rfl ?_ | skip
      refine TO_nil ?_
      refine T_keep [8] ?_
      simp only [pick, List.map, lk, put, val, constA, entry, cellsOf, cellVal, cellVals, List.drop, List.take, List.append_assoc, List.nil_append, List.cons_append, List.singleton_append, List.length_cons, List.length_nil, List.set_cons_zero, List.set_cons_succ, setRow, setSub, spl, Root.under, List.getElem?_cons_zero, List.getElem?_cons_succ, List.map_cons, List.map_nil, reduceIte, Nat.reduceEqDiff, Nat.reduceAdd, Nat.reduceSub, Int.toNat_natCast, Nat.succ_ne_zero, Nat.zero_ne_one, Nat.one_ne_zero]
      refine T_ret ?_
      refine then_ret ?_
      first | (rw [UF_bad1 (tr_not.1 (by assumption))]; exact end_own (.tmp .nil) rfl 1 (by decide) rfl rfl rfl rfl ⟨rfl, rfl⟩) | (rw [UF_bad2 (tr_not.1 (by assumption))]; exact end_own (.tmp .nil) rfl 1 (by decide) rfl rfl rfl rfl ⟨rfl, rfl⟩) | (rw [UF_good (tr_iff.1 (by assumption)) (tr_iff.1 (by assumption))]; exact end_own (.tmp .nil) rfl 1 (by decide) rfl rfl rfl rfl ⟨rfl, rfl⟩)
    · try simp only [decide_eq_true_eq, decide_eq_false_iff_not, Bool.not_eq_true', Bool.not_eq_false', Int.not_lt, Int.not_le, Int.ofNat_lt, Int.ofNat_le, Int.ofNat_inj, ne_eq, Decidable.not_not] at c2
      refine T_skip ?_
      refine T_seq ?_
      refine T_region ?_
      refine TO_cons rfl (TOp_pure (pur_move rfl) rfl ?_)
      refine TO_cons rfl (TOp_pure (pur_move rfl) rfl ?_)
      refine TO_cons rfl (TOp_callO (call_static ent51 rfl) rfl (undominated_ownT p s hp hs) rfl rfl rfl ?_)
      refine TO_cons rfl (TOp_pure (pur_assign rfl) rfl ?_)
      first | refine TO_ghost 8 1 rfl ?_ | skip
      refine TO_nil ?_
      refine T_keep [8] ?_
      simp only [pick, List.map, lk, put, val, constA, entry, cellsOf, cellVal, cellVals, List.drop, List.take, List.append_assoc, List.nil_append, List.cons_append, List.singleton_append, List.length_cons, List.length_nil, List.set_cons_zero, List.set_cons_succ, setRow, setSub, spl, Root.under, List.getElem?_cons_zero, List.getElem?_cons_succ, List.map_cons, List.map_nil, reduceIte, Nat.reduceEqDiff, Nat.reduceAdd, Nat.reduceSub, Int.toNat_natCast, Nat.succ_ne_zero, Nat.zero_ne_one, Nat.one_ne_zero]
      refine T_ret ?_
      first | (rw [UF_bad1 (tr_not.1 (by assumption))]; exact end_own (.tmp .nil) rfl 1 (by decide) rfl rfl rfl rfl ⟨rfl, rfl⟩) | (rw [UF_bad2 (tr_not.1 (by assumption))]; exact end_own (.tmp .nil) rfl 1 (by decide) rfl rfl rfl rfl ⟨rfl, rfl⟩) | (rw [UF_good (tr_iff.1 (by assumption)) (tr_iff.1 (by assumption))]; exact end_own (.tmp .nil) rfl 1 (by decide) rfl rfl rfl rfl ⟨rfl, rfl⟩)

theorem spec_UndominatedFacts (n : Int) (es p : List (Int × Int)) (s : List Int) (he : es.length ≤ 1048576) (hr : R64 es) (hn : -9223372036854775808 ≤ n ∧ n ≤ 9223372036854775807) (hp : p.length ≤ 1048576) (hs : s.length ≤ 1048576) : FnV prg 18 [intA n, edgesI es, edgesI p, .i 1 (ints s)] (.i 1 (ints (UF n es p s))) :=
  Sep.Fn.frz (spec_UndominatedFacts_own n es p s he hr hn hp hs) fun r σ h => by obtain ⟨rfl, rfl⟩ := h; exact frz_ints rfl

theorem impl_UndominatedFacts (n : Int) (es p : List (Int × Int)) (s : List Int) (he : es.length ≤ 1048576) (hr : R64 es) (hn : -9223372036854775808 ≤ n ∧ n ≤ 9223372036854775807) (hp : p.length ≤ 1048576) (hs : s.length ≤ 1048576) : FnV prg 20 [intA n, edgesI es, edgesI p, .i 1 (ints s)] (.i 1 (ints (UF n es p s))) :=
  Sep.Fn.frz (impl_UndominatedFacts_own n es p s he hr hn hp hs) fun r σ h => by obtain ⟨rfl, rfl⟩ := h; exact frz_ints rfl
end Go.Proofs.Ytglgcncmjnjfgaa

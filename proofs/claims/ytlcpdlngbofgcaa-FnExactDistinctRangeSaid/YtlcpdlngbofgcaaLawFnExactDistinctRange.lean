/- The row of the law FnExactDistinctRange. -/
import Derived.Test.YtlcpdlngbofgcaaRows
import Derived.Test.YtlcpdlngbofgcaaPB
namespace Go.Proofs.Ytlcpdlngbofgcaa.fnExactDistinctRange
open Go.ChangeShapes Go.WideShapes Go.ChangeAt Go.RowKit Go.Sep
set_option linter.unusedVariables false
theorem own : ownKnob Try.prog.godebug = none := by kernel_rfl
theorem laidOut : laidOutB Try.prog = true := by kernel_rfl
set_option maxRecDepth 100000 in
theorem lifted (os : Os) (started : os.Started) (H : Type) (enc : TypeId × Value → H) :
    ReturnsInHanded {} Try.checked os 12 .any (Rows.fnExactDistinctRangeSpec.pre6 enc Try.prog Try.f12 Rows.fnExactDistinctRangeRow.domain false) (Rows.fnExactDistinctRangeSpec.post enc Try.prog Try.f12 false true false false) := by
  refine returnsInHanded_of_change_sized (C := Try.checked) own started (by kernel_rfl) Try.func12
    (ChangeSpec.witness6 (enc := enc) (C := Try.checked) false ⟨#[], #[.agg #[.slice none 0 0, .slice none 0 0], .int .i64 0, .int .i64 0], []⟩ 8 (by kernel_rfl) (by kernel_rfl) (by kernel_rfl) (by kernel_rfl)) ?_
  intro W base args ds gs before hval0 hW hcnd hsz0 _
  have hval : ∀ (j : Nat) t v, Try.f12.params[j]? = some t → args[j]? = some v → Value.okWide Try.prog W .any base t v := hval0
  have hW' := hW
  obtain ⟨p, q, hA0, hV, rfl, hfz, hnd⟩ := hW
  have hA : DataW.TrodAll enc Try.prog W 0 (fun _ => true) true Try.f12.params.toList args.toList ds p := hA0
  rw [Try.params12] at hA hval
  obtain ⟨v0, vs0, d0, ds0, p0, q0, hargs, rfl, rfl, h0, r0⟩ := trodAll_cons hA
  obtain ⟨v1, vs1, d1, ds1, p1, q1, rfl, rfl, rfl, h1, r1⟩ := trodAll_cons r0
  obtain ⟨v2, vs2, d2, ds2, p2, q2, rfl, rfl, rfl, h2, r2⟩ := trodAll_cons r1
  obtain ⟨rfl, rfl, rfl⟩ := trodAll_nil r2
  obtain rfl : args = #[v0, v1, v2] := by cases args; simp_all
  obtain ⟨rfl, rfl⟩ := trodVars_none hV
  have lt0 : ∀ x ∈ p0, x.block < W.heap.size := by obtain ⟨m, hm⟩ := h0; exact DataW.trod_lt m _ _ _ hm
  obtain ⟨a0, rfl⟩ : ∃ a, v0 = .agg a := by have z := (hval 0 41 v0 rfl rfl); simp only [Value.okWide, Try.underlying41] at z; obtain ⟨cs, h, _⟩ := z; exact ⟨cs, h⟩
  obtain ⟨y0, u0, m0⟩ := RdT.argK ((by have hh := rd_struct Try.underlying41 (by kernel_rfl) (rf_cons rfl (rd_slice Try.underlying38 (by kernel_rfl) (by decide) ((by have hh := rd_struct Try.underlying99 (by kernel_rfl) (rf_cons rfl (rd_str (by kernel_rfl) (by kernel_rfl)) (rf_cons rfl (rd_int (by kernel_rfl) (by kernel_rfl)) (rf_one rfl (rd_int (by kernel_rfl) (by kernel_rfl))))); exact hh.map (g := tRelation.enc) (q := RdRelation) (fun y => (⟨y.1, y.2.1, y.2.2⟩ : Relation)) (fun y h => ⟨h, rfl⟩) : RdT Try.prog 99 3 tRelation.enc RdRelation))) (rf_one rfl (rd_slice Try.underlying39 (by kernel_rfl) (by decide) ((by have hh := rd_struct Try.underlying101 (by kernel_rfl) (rf_cons rfl (rd_int (by kernel_rfl) (by kernel_rfl)) (rf_one rfl (rd_slice Try.underlying33 (by kernel_rfl) (by decide) (rd_int (by kernel_rfl) (by kernel_rfl))))); exact hh.map (g := tFact.enc) (q := RdFact) (fun y => (⟨y.1, y.2⟩ : Fact)) (fun y h => ⟨h, rfl⟩) : RdT Try.prog 101 2 tFact.enc RdFact))))); exact hh.map (g := tDatabase.enc) (q := RdDatabase) (fun y => (⟨y.1, y.2⟩ : Database)) (fun y h => ⟨h, rfl⟩) : RdT Try.prog 41 2 tDatabase.enc RdDatabase)) h0
  have lt1 : ∀ x ∈ p1, x.block < W.heap.size := by obtain ⟨m, hm⟩ := h1; exact DataW.trod_lt m _ _ _ hm
  obtain ⟨a1, rfl⟩ := okWide_int Try.underlying3 (hval 1 3 v1 rfl rfl)
  obtain ⟨y1, u1, m1⟩ := RdT.arg (rd_int (by kernel_rfl) (by kernel_rfl)) rfl h1
  have lt2 : ∀ x ∈ p2, x.block < W.heap.size := by obtain ⟨m, hm⟩ := h2; exact DataW.trod_lt m _ _ _ hm
  obtain ⟨a2, rfl⟩ := okWide_int Try.underlying3 (hval 2 3 v2 rfl rfl)
  obtain ⟨y2, u2, m2⟩ := RdT.arg (rd_int (by kernel_rfl) (by kernel_rfl)) rfl h2
  clear hA0 hval0 hsz0
  refine (FnV.row (row_FnExactDistinctRange y0 y1 y2 u0 u1 u2) (vs := [_, _, _]) ⟨m0, m1, m2, trivial⟩).mono fun e W' ⟨he, bel⟩ => ?_
  subst he
  exact ⟨_, rfl, _, _, _, [], _, [], hW', trodAll_mk1 (shut_bool Try.underlying4 _), (trodAll_cons_mk (Below.trod laidOut (by kernel_rfl) (of_decide_eq_true (by kernel_rfl)) h0 bel lt0) (trodAll_cons_mk (Below.trod laidOut (by kernel_rfl) (of_decide_eq_true (by kernel_rfl)) h1 bel lt1) (trodAll_cons_mk (Below.trod laidOut (by kernel_rfl) (of_decide_eq_true (by kernel_rfl)) h2 bel lt2) trodAll_mk0))), rfl, bel.frame _, fun h => by cases h⟩
theorem over : Rows.fnExactDistinctRangeRow.holds Try.pinned (OpenSpec.ofChange Rows.fnExactDistinctRangeSpec) :=
  OpenClaim.holds_of_wide 12 Try.f12 rfl rfl rfl rfl rfl rfl rfl ⟨rfl, rfl, rfl, rfl, rfl⟩ rfl rfl rfl rfl rfl (by kernel_rfl) Try.func12 (by kernel_rfl)
    (of_decide_eq_true (by kernel_rfl)) (by unfold Func.isWrapper; first | (rw [if_pos (by decide +kernel)]; kernel_rfl) | (rw [if_neg (by decide +kernel)]; exact ⟨rfl, rfl⟩))
    (fun os started H enc _ => lifted os started H enc)
theorem proved : Rows.FnExactDistinctRangeSaid := over
end Go.Proofs.Ytlcpdlngbofgcaa.fnExactDistinctRange
namespace Go.Proofs.Ytlcpdlngbofgcaa
/-- The row, under a short name, for the claim. -/
theorem fnExactDistinctRange_holds : Rows.FnExactDistinctRangeSaid := fnExactDistinctRange.proved
end Go.Proofs.Ytlcpdlngbofgcaa

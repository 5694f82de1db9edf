/- The row of the law FnExactGreedyRepairs. -/
import Derived.Test.YtmecnecfkgneoaaRows
import Derived.Test.YtmecnecfkgneoaaPB
namespace Go.Proofs.Ytmecnecfkgneoaa.fnExactGreedyRepairs
open Go.ChangeShapes Go.WideShapes Go.ChangeAt Go.RowKit Go.Sep
set_option linter.unusedVariables false
theorem own : ownKnob Try.prog.godebug = none := by kernel_rfl
theorem laidOut : laidOutB Try.prog = true := by kernel_rfl
set_option maxRecDepth 100000 in
theorem lifted (os : Os) (started : os.Started) (H : Type) (enc : TypeId × Value → H) :
    ReturnsInHanded {} Try.checked os 3 .any (Rows.fnExactGreedyRepairsSpec.pre6 enc Try.prog Try.f3 Rows.fnExactGreedyRepairsRow.domain false) (Rows.fnExactGreedyRepairsSpec.post enc Try.prog Try.f3 false true false false) := by
  refine returnsInHanded_of_change_sized (C := Try.checked) own started (by kernel_rfl) Try.func3
    (ChangeSpec.witness6 (enc := enc) (C := Try.checked) false ⟨#[], #[.int .i64 0, .slice none 0 0, .slice none 0 0], []⟩ 8 (by kernel_rfl) (by kernel_rfl) (by kernel_rfl) (by kernel_rfl)) ?_
  intro W base args ds gs before hval0 hW hcnd hsz0 _
  have hval : ∀ (j : Nat) t v, Try.f3.params[j]? = some t → args[j]? = some v → Value.okWide Try.prog W .any base t v := hval0
  have hW' := hW
  obtain ⟨p, q, hA0, hV, rfl, hfz, hnd⟩ := hW
  have hA : DataW.TrodAll enc Try.prog W 0 (fun _ => true) true Try.f3.params.toList args.toList ds p := hA0
  rw [Try.params3] at hA hval
  obtain ⟨v0, vs0, d0, ds0, p0, q0, hargs, rfl, rfl, h0, r0⟩ := trodAll_cons hA
  obtain ⟨v1, vs1, d1, ds1, p1, q1, rfl, rfl, rfl, h1, r1⟩ := trodAll_cons r0
  obtain ⟨v2, vs2, d2, ds2, p2, q2, rfl, rfl, rfl, h2, r2⟩ := trodAll_cons r1
  obtain ⟨rfl, rfl, rfl⟩ := trodAll_nil r2
  obtain rfl : args = #[v0, v1, v2] := by cases args; simp_all
  obtain ⟨rfl, rfl⟩ := trodVars_none hV
  have lt0 : ∀ x ∈ p0, x.block < W.heap.size := by obtain ⟨m, hm⟩ := h0; exact DataW.trod_lt m _ _ _ hm
  obtain ⟨a0, rfl⟩ := okWide_int Try.underlying3 (hval 0 3 v0 rfl rfl)
  obtain ⟨y0, u0, m0⟩ := RdT.arg (rd_int (by kernel_rfl) (by kernel_rfl)) rfl h0
  have lt1 : ∀ x ∈ p1, x.block < W.heap.size := by obtain ⟨m, hm⟩ := h1; exact DataW.trod_lt m _ _ _ hm
  obtain ⟨a1, len1, cap1, rfl⟩ := okWide_slice Try.underlying22 (hval 1 22 v1 rfl rfl)
  obtain ⟨y1, u1, m1⟩ := RdT.arg (rd_slice Try.underlying22 (by kernel_rfl) (by decide) ((by have hh := rd_struct Try.underlying64 (by kernel_rfl) (rf_cons rfl (rd_int (by kernel_rfl) (by kernel_rfl)) (rf_one rfl (rd_int (by kernel_rfl) (by kernel_rfl)))); exact hh.map (g := tConflictEdge.enc) (q := RdConflictEdge) (fun y => (⟨y.1, y.2⟩ : ConflictEdge)) (fun y h => ⟨h, rfl⟩) : RdT Try.prog 64 2 tConflictEdge.enc RdConflictEdge))) rfl h1
  have lt2 : ∀ x ∈ p2, x.block < W.heap.size := by obtain ⟨m, hm⟩ := h2; exact DataW.trod_lt m _ _ _ hm
  obtain ⟨a2, len2, cap2, rfl⟩ := okWide_slice Try.underlying22 (hval 2 22 v2 rfl rfl)
  obtain ⟨y2, u2, m2⟩ := RdT.arg (rd_slice Try.underlying22 (by kernel_rfl) (by decide) ((by have hh := rd_struct Try.underlying64 (by kernel_rfl) (rf_cons rfl (rd_int (by kernel_rfl) (by kernel_rfl)) (rf_one rfl (rd_int (by kernel_rfl) (by kernel_rfl)))); exact hh.map (g := tConflictEdge.enc) (q := RdConflictEdge) (fun y => (⟨y.1, y.2⟩ : ConflictEdge)) (fun y h => ⟨h, rfl⟩) : RdT Try.prog 64 2 tConflictEdge.enc RdConflictEdge))) rfl h2
  clear hA0 hval0 hsz0
  refine (FnV.row (row_FnExactGreedyRepairs y0 y1 y2 u0 u1 u2) (vs := [_, _, _]) ⟨m0, m1, m2, trivial⟩).mono fun e W' ⟨he, bel⟩ => ?_
  subst he
  exact ⟨_, rfl, _, _, _, [], _, [], hW', trodAll_mk1 (shut_bool Try.underlying4 _), (trodAll_cons_mk (Below.trod laidOut (by kernel_rfl) (of_decide_eq_true (by kernel_rfl)) h0 bel lt0) (trodAll_cons_mk (Below.trod laidOut (by kernel_rfl) (of_decide_eq_true (by kernel_rfl)) h1 bel lt1) (trodAll_cons_mk (Below.trod laidOut (by kernel_rfl) (of_decide_eq_true (by kernel_rfl)) h2 bel lt2) trodAll_mk0))), rfl, bel.frame _, fun h => by cases h⟩
theorem over : Rows.fnExactGreedyRepairsRow.holds Try.pinned (OpenSpec.ofChange Rows.fnExactGreedyRepairsSpec) :=
  OpenClaim.holds_of_wide 3 Try.f3 rfl rfl rfl rfl rfl rfl rfl ⟨rfl, rfl, rfl, rfl, rfl⟩ rfl rfl rfl rfl rfl (by kernel_rfl) Try.func3 (by kernel_rfl)
    (of_decide_eq_true (by kernel_rfl)) (by unfold Func.isWrapper; first | (rw [if_pos (by decide +kernel)]; kernel_rfl) | (rw [if_neg (by decide +kernel)]; exact ⟨rfl, rfl⟩))
    (fun os started H enc _ => lifted os started H enc)
theorem proved : Rows.FnExactGreedyRepairsSaid := over
end Go.Proofs.Ytmecnecfkgneoaa.fnExactGreedyRepairs
namespace Go.Proofs.Ytmecnecfkgneoaa
/-- The row, under a short name, for the claim. -/
theorem fnExactGreedyRepairs_holds : Rows.FnExactGreedyRepairsSaid := fnExactGreedyRepairs.proved
end Go.Proofs.Ytmecnecfkgneoaa

/- The row of the law FnExactBindAnswer. -/
import Derived.Test.YtjdpolnakhmkmaaRows
import Derived.Test.YtjdpolnakhmkmaaPB
namespace Go.Proofs.Ytjdpolnakhmkmaa.fnExactBindAnswer
open Go.ChangeShapes Go.WideShapes Go.ChangeAt Go.RowKit Go.Sep
set_option linter.unusedVariables false
theorem own : ownKnob Try.prog.godebug = none := by kernel_rfl
theorem laidOut : laidOutB Try.prog = true := by kernel_rfl
set_option maxRecDepth 100000 in
theorem lifted (os : Os) (started : os.Started) (H : Type) (enc : TypeId × Value → H) :
    ReturnsInHanded {} Try.checked os 3 .any (Rows.fnExactBindAnswerSpec.pre6 enc Try.prog Try.f3 Rows.fnExactBindAnswerRow.domain false) (Rows.fnExactBindAnswerSpec.post enc Try.prog Try.f3 false true false false) := by
  refine returnsInHanded_of_change_sized (C := Try.checked) own started (by kernel_rfl) Try.func3
    (ChangeSpec.witness6 (enc := enc) (C := Try.checked) false ⟨#[], #[.agg #[.int .i64 0, .slice none 0 0, .slice none 0 0], .slice none 0 0], []⟩ 8 (by kernel_rfl) (by kernel_rfl) (by kernel_rfl) (by kernel_rfl)) ?_
  intro W base args ds gs before hval0 hW hcnd hsz0 _
  have hval : ∀ (j : Nat) t v, Try.f3.params[j]? = some t → args[j]? = some v → Value.okWide Try.prog W .any base t v := hval0
  have hW' := hW
  obtain ⟨p, q, hA0, hV, rfl, hfz, hnd⟩ := hW
  have hA : DataW.TrodAll enc Try.prog W 0 (fun _ => true) true Try.f3.params.toList args.toList ds p := hA0
  rw [Try.params3] at hA hval
  obtain ⟨v0, vs0, d0, ds0, p0, q0, hargs, rfl, rfl, h0, r0⟩ := trodAll_cons hA
  obtain ⟨v1, vs1, d1, ds1, p1, q1, rfl, rfl, rfl, h1, r1⟩ := trodAll_cons r0
  obtain ⟨rfl, rfl, rfl⟩ := trodAll_nil r1
  obtain rfl : args = #[v0, v1] := by cases args; simp_all
  obtain ⟨rfl, rfl⟩ := trodVars_none hV
  have lt0 : ∀ x ∈ p0, x.block < W.heap.size := by obtain ⟨m, hm⟩ := h0; exact DataW.trod_lt m _ _ _ hm
  obtain ⟨a0, rfl⟩ : ∃ a, v0 = .agg a := by have z := (hval 0 25 v0 rfl rfl); simp only [Value.okWide, Try.underlying25] at z; obtain ⟨cs, h, _⟩ := z; exact ⟨cs, h⟩
  obtain ⟨y0, u0, m0⟩ := RdT.argK ((by have hh := rd_struct Try.underlying25 (by kernel_rfl) (rf_cons rfl (rd_int (by kernel_rfl) (by kernel_rfl)) (rf_cons rfl (rd_slice Try.underlying22 (by kernel_rfl) (by decide) ((by have hh := rd_struct Try.underlying149 (by kernel_rfl) (rf_cons rfl (rd_int (by kernel_rfl) (by kernel_rfl)) (rf_one rfl (rd_slice Try.underlying23 (by kernel_rfl) (by decide) (rd_int (by kernel_rfl) (by kernel_rfl))))); exact hh.map (g := tAtom.enc) (q := RdAtom) (fun y => (⟨y.1, y.2⟩ : Atom)) (fun y h => ⟨h, rfl⟩) : RdT Try.prog 149 2 tAtom.enc RdAtom))) (rf_one rfl (rd_slice Try.underlying23 (by kernel_rfl) (by decide) (rd_int (by kernel_rfl) (by kernel_rfl)))))); exact hh.map (g := tQuery.enc) (q := RdQuery) (fun y => (⟨y.1, y.2.1, y.2.2⟩ : Query)) (fun y h => ⟨h, rfl⟩) : RdT Try.prog 25 3 tQuery.enc RdQuery)) h0
  have lt1 : ∀ x ∈ p1, x.block < W.heap.size := by obtain ⟨m, hm⟩ := h1; exact DataW.trod_lt m _ _ _ hm
  obtain ⟨a1, len1, cap1, rfl⟩ := okWide_slice Try.underlying23 (hval 1 23 v1 rfl rfl)
  obtain ⟨y1, u1, m1⟩ := RdT.arg (rd_slice Try.underlying23 (by kernel_rfl) (by decide) (rd_int (by kernel_rfl) (by kernel_rfl))) rfl h1
  clear hA0 hval0 hsz0
  refine (FnV.row (row_FnExactBindAnswer y0 y1 u0 u1) (vs := [_, _]) ⟨m0, m1, trivial⟩).mono fun e W' ⟨he, bel⟩ => ?_
  subst he
  exact ⟨_, rfl, _, _, _, [], _, [], hW', trodAll_mk1 (shut_bool Try.underlying4 _), (trodAll_cons_mk (Below.trod laidOut (by kernel_rfl) (of_decide_eq_true (by kernel_rfl)) h0 bel lt0) (trodAll_cons_mk (Below.trod laidOut (by kernel_rfl) (of_decide_eq_true (by kernel_rfl)) h1 bel lt1) trodAll_mk0)), rfl, bel.frame _, fun h => by cases h⟩
theorem over : Rows.fnExactBindAnswerRow.holds Try.pinned (OpenSpec.ofChange Rows.fnExactBindAnswerSpec) :=
  OpenClaim.holds_of_wide 3 Try.f3 rfl rfl rfl rfl rfl rfl rfl ⟨rfl, rfl, rfl, rfl, rfl⟩ rfl rfl rfl rfl rfl (by kernel_rfl) Try.func3 (by kernel_rfl)
    (of_decide_eq_true (by kernel_rfl)) (by unfold Func.isWrapper; first | (rw [if_pos (by decide +kernel)]; kernel_rfl) | (rw [if_neg (by decide +kernel)]; exact ⟨rfl, rfl⟩))
    (fun os started H enc _ => lifted os started H enc)
theorem proved : Rows.FnExactBindAnswerSaid := over
end Go.Proofs.Ytjdpolnakhmkmaa.fnExactBindAnswer
namespace Go.Proofs.Ytjdpolnakhmkmaa
/-- The row, under a short name, for the claim. -/
theorem fnExactBindAnswer_holds : Rows.FnExactBindAnswerSaid := fnExactBindAnswer.proved
end Go.Proofs.Ytjdpolnakhmkmaa

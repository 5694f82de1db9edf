/- The row of the law FnExactParseEdit. -/
import Derived.Test.YtaadmoaanhdboaaDoorRows
import Derived.Test.YtaadmoaanhdboaaDoorPB
import Derived.Test.YtaadmoaanhdboaaDoorCards
import Derived.Test.YtaadmoaanhdboaaDoorTie
import Derived.LaidMore
import Derived.OpenShut
import Derived.ProofKit
import Derived.Handed
import Derived.Stop.Joined
import Derived.SevenTiedAt
import Derived.Lib.LaidTab
import Derived.Stop.LaidErr
namespace Go.Proofs.YtaadmoaanhdboaaDoor.fnExactParseEdit
open Go.ChangeShapes Go.WideShapes Go.ChangeAt Go.RowKit Go.Sep
set_option linter.unusedVariables false
theorem own : ownKnob Tryd.prog.godebug = none := by kernel_rfl
theorem laidOut : laidOutB Tryd.prog = true := by kernel_rfl
abbrev laidL : List (String × DataW Unit) := [("math/bits.deBruijn32tab", Rows.laid_math_bits_deBruijn32tab), ("math/bits.deBruijn64tab", Rows.laid_math_bits_deBruijn64tab), ("internal/strconv.uint64pow10", Rows.laid_internal_strconv_uint64pow10)]
theorem door_met (os : Os) (args : Array Value) : laidMetH Tryd.prog laidL ((World.doorLaid Tryd.prog 400 os).forCall (fun _ _ => 0) ⟨#[], args, []⟩).memory :=
  laidMetH_of_parts3 (fuel := 8) (laidMet_of_run' 8 (by kernel_rfl) (by kernel_rfl)) (by kernel_rfl) (by kernel_rfl)
theorem tab_of {W : World} (h : laidMetH Tryd.prog laidL W) : ∀ t ∈ tables, ∃ te fr, W.heap[t.1]? = some (.cells t.2 te fr) := by
  rw [MakeChecks.laidMetH_plain _ _ _ (by kernel_rfl)] at h
  have hL : laidMet Tryd.prog laidL W := h
  have h1 : laidMet Tryd.prog (("internal/strconv.uint64pow10", Go.Lib.tabData .u64 Go.Lib.pow10Tab) :: []) W := (laidMet.tail (laidMet.tail hL))
  have h2 := Go.Lib.tabIs_of_head (g := 1) (t := 123) (e := 114) (n := 20) (by kernel_rfl) (by kernel_rfl) (by kernel_rfl) (by kernel_rfl) (by kernel_rfl) (by kernel_rfl) h1
  intro t ht
  obtain rfl := List.mem_singleton.1 ht
  unfold Go.Lib.TabIs World.var? at h2
  rw [show Tryd.prog.globalNamed "internal/strconv.uint64pow10" = some 1 by kernel_rfl, Option.bind_some] at h2
  split at h2
  · rename_i cs te fr hc
    exact ⟨te, fr, by rw [hc]; cases h2; rfl⟩
  · cases h2
set_option maxRecDepth 100000 in
theorem lifted (os : Os) (started : os.Started) (H : Type) (enc : TypeId × Value → H) :
    ReturnsInHanded {} Tryd.checked os 6 .any (fun w args => (Rows.fnExactParseEditSpec.pre enc Tryd.prog Tryd.f6 Rows.fnExactParseEditRow.domain false w args ∧ laidMetH Tryd.prog laidL w) ∧ sizedMet enc Tryd.prog Tryd.f6 (OpenSpec.ofChange Rows.fnExactParseEditSpec) false w args) (Rows.fnExactParseEditSpec.post enc Tryd.prog Tryd.f6 false true false false) := by
  refine returnsInHanded_of_change_and (C := Tryd.checked) (X := fun w _ => laidMetH Tryd.prog laidL w) (fun _ _ _ hh h => h.of_heap hh) own started (by kernel_rfl) Tryd.func6
    (ChangeSpec.witness_shaped (enc := enc) (C := Tryd.checked) (os := os) (X := fun w _ => laidMetH Tryd.prog laidL w) false (World.doorLaid Tryd.prog 400 os) #[.agg #[.slice none 0 0, .slice none 0 0], .string ByteArray.empty] 8 rfl (World.shaped_of_RefB (by kernel_rfl) (by kernel_rfl)) (by kernel_rfl) (by kernel_rfl) (by kernel_rfl) (door_met os _)) ?_
  intro W base args ds gs before hval0 hW hcnd hsz0 hL _
  have hval : ∀ (j : Nat) t v, Tryd.f6.params[j]? = some t → args[j]? = some v → Value.okWide Tryd.prog W .any base t v := hval0
  have hW' := hW
  obtain ⟨p, q, hA0, hV, rfl, hfz, hnd⟩ := hW
  have hA : DataW.TrodAll enc Tryd.prog W 0 (fun _ => true) true Tryd.f6.params.toList args.toList ds p := hA0
  rw [Tryd.params6] at hA hval
  obtain ⟨v0, vs0, d0, ds0, p0, q0, hargs, rfl, rfl, h0, r0⟩ := trodAll_cons hA
  obtain ⟨v1, vs1, d1, ds1, p1, q1, rfl, rfl, rfl, h1, r1⟩ := trodAll_cons r0
  obtain ⟨rfl, rfl, rfl⟩ := trodAll_nil r1
  obtain rfl : args = #[v0, v1] := by cases args; simp_all
  obtain ⟨rfl, rfl⟩ := trodVars_none hV
  have lt0 : ∀ x ∈ p0, x.block < W.heap.size := by obtain ⟨m, hm⟩ := h0; exact DataW.trod_lt m _ _ _ hm
  obtain ⟨a0, rfl⟩ : ∃ a, v0 = .agg a := by have z := (hval 0 37 v0 rfl rfl); simp only [Value.okWide, Tryd.underlying37] at z; obtain ⟨cs, h, _⟩ := z; exact ⟨cs, h⟩
  obtain ⟨y0, u0, m0⟩ := RdT.argK ((by have hh := rd_struct Tryd.underlying37 (by kernel_rfl) (rf_cons rfl (rd_slice Tryd.underlying34 (by kernel_rfl) (by decide) ((by have hh := rd_struct Tryd.underlying97 (by kernel_rfl) (rf_cons rfl (rd_str (by kernel_rfl) (by kernel_rfl)) (rf_cons rfl (rd_int (by kernel_rfl) (by kernel_rfl)) (rf_one rfl (rd_int (by kernel_rfl) (by kernel_rfl))))); exact hh.map (g := tRelation.enc) (q := RdRelation) (fun y => (⟨y.1, y.2.1, y.2.2⟩ : Relation)) (fun y h => ⟨h, rfl⟩) : RdT Tryd.prog 97 3 tRelation.enc RdRelation))) (rf_one rfl (rd_slice Tryd.underlying35 (by kernel_rfl) (by decide) ((by have hh := rd_struct Tryd.underlying40 (by kernel_rfl) (rf_cons rfl (rd_int (by kernel_rfl) (by kernel_rfl)) (rf_one rfl (rd_slice Tryd.underlying38 (by kernel_rfl) (by decide) (rd_int (by kernel_rfl) (by kernel_rfl))))); exact hh.map (g := tFact.enc) (q := RdFact) (fun y => (⟨y.1, y.2⟩ : Fact)) (fun y h => ⟨h, rfl⟩) : RdT Tryd.prog 40 2 tFact.enc RdFact))))); exact hh.map (g := tDatabase.enc) (q := RdDatabase) (fun y => (⟨y.1, y.2⟩ : Database)) (fun y h => ⟨h, rfl⟩) : RdT Tryd.prog 37 2 tDatabase.enc RdDatabase)) h0
  have lt1 : ∀ x ∈ p1, x.block < W.heap.size := by obtain ⟨m, hm⟩ := h1; exact DataW.trod_lt m _ _ _ hm
  obtain ⟨a1, rfl⟩ := okWide_string Tryd.underlying9 (hval 1 9 v1 rfl rfl)
  obtain ⟨y1, u1, m1⟩ := RdT.arg (rd_str (by kernel_rfl) (by kernel_rfl)) rfl h1
  clear hA0 hval0 hsz0
  refine (FnV.rowT (row_FnExactParseEdit y0 y1 u0 u1) (vs := [_, _]) ⟨m0, m1, trivial⟩ (tab_of hL)).mono fun e W' ⟨he, bel⟩ => ?_
  subst he
  exact ⟨_, rfl, _, _, _, [], _, [], hW', trodAll_mk1 (shut_bool Tryd.underlying4 _), (trodAll_cons_mk (Below.trod laidOut (by kernel_rfl) (of_decide_eq_true (by kernel_rfl)) h0 bel lt0) (trodAll_cons_mk (Below.trod laidOut (by kernel_rfl) (of_decide_eq_true (by kernel_rfl)) h1 bel lt1) trodAll_mk0)), rfl, bel.frame _, fun h => by cases h⟩
theorem over : Rows.fnExactParseEditRow.holds Tryd.pinned (OpenSpec.ofChange Rows.fnExactParseEditSpec) :=
  OpenClaim.holds_of_wide 6 Tryd.f6 rfl rfl rfl rfl rfl rfl rfl ⟨rfl, rfl, rfl, rfl, rfl⟩ rfl rfl rfl rfl rfl (by kernel_rfl) Tryd.func6 (by kernel_rfl)
    (of_decide_eq_true (by kernel_rfl)) (by unfold Func.isWrapper; first | (rw [if_pos (by decide +kernel)]; kernel_rfl) | (rw [if_neg (by decide +kernel)]; exact ⟨rfl, rfl⟩))
    (fun os started H enc _ => lifted os started H enc)
theorem proved : Rows.FnExactParseEditSaid := over
end Go.Proofs.YtaadmoaanhdboaaDoor.fnExactParseEdit
namespace Go.Proofs.YtaadmoaanhdboaaDoor
/-- The row, under a short name, for the claim. -/
theorem fnExactParseEdit_holds : Rows.FnExactParseEditSaid := fnExactParseEdit.proved
end Go.Proofs.YtaadmoaanhdboaaDoor
namespace Go.Proofs.YtaadmoaanhdboaaDoor
/-- The tied card. -/
theorem fnExactParseEdit_card : Rows.FnExactParseEditCardSaid :=
  Claim7.holds_tied_plain_at .later [] [.data, .data, .data] true (true, "8ad715a8ca2bb3d4f2a9838d303ecc64e1a44fb312b1506565e861e44fab695d") false
    fnExactParseEdit_holds (fun _ h => by cases h) (by kernel_rfl) (fun _ h => by cases h) fnExactParseEdit_row_tie rfl ⟨rfl, rfl⟩ (by kernel_rfl) rfl
    (fun f fn hf hfn => by
      obtain rfl : f = 6 := Option.some.inj ((show Tryd.prog.funcNamed "loop.example/g01918/laws.FnExactParseEdit" = some 6 by kernel_rfl).symm.trans hf) |>.symm
      obtain rfl : fn = Tryd.f6 := (Option.some.inj (Tryd.func6.symm.trans hfn)).symm
      exact ⟨by kernel_rfl, fun j t ht => by
        rw [Tryd.params6] at ht
        have hm : t ∈ [37, 9] := by simpa using Array.mem_of_getElem? ht
        have hall : ([37, 9].all fun u => !Tryd.prog.wantsStandIn u) = true := by kernel_rfl
        exact (show Tryd.prog.wantsStandIn t = false by simpa using List.all_eq_true.1 hall t hm)⟩)
    (by kernel_rfl)
end Go.Proofs.YtaadmoaanhdboaaDoor

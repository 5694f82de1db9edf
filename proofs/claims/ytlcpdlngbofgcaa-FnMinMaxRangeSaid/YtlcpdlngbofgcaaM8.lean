/- Walks. -/
import Derived.Test.YtlcpdlngbofgcaaM1
import Derived.Test.YtlcpdlngbofgcaaM2
import Derived.Test.YtlcpdlngbofgcaaM3
import Derived.Test.YtlcpdlngbofgcaaM4
import Derived.Test.YtlcpdlngbofgcaaM5
import Derived.Test.YtlcpdlngbofgcaaM7
set_option linter.unusedVariables false
set_option linter.unusedSimpArgs false
set_option maxRecDepth 4000
namespace Go.Proofs.Ytlcpdlngbofgcaa
open Go Go.Proofs Go.Sep
set_option maxHeartbeats 1000000 in
/-- laws.FnMinMaxRange -/
theorem m_laws_FnMinMaxRange_ok (u : Nat) (code0 : (List Int)) (r : Bool) (H : m_laws_FnMinMaxRange u code0 = some r) : FnV prg 11 [(sl (tI .u8) code0)] (boolA r) := by
  unfold m_laws_FnMinMaxRange at H
  refine fnV_of_T Try.func11 rfl rfl (Nat.le_of_ble_eq_true rfl) ?_
  refine te [(0, (sl (tI .u8) code0))] rfl ?_
  refine sr ?_
  refine Tp rfl rfl (pur_assign rfl) rfl ?_
  refine TO_nil ?_
  refine te [(0, (sl (tI .u8) code0))] rfl ?_
  refine T_seq ?_
  refine sr ?_
  refine Tp rfl rfl (pur_move rfl) rfl ?_
  obtain ⟨r_1, h_2, H⟩ := bind_inv H
  refine TO_cons rfl (TOp_callV (call_static ent21 rfl) (m_laws_big_ok _ _ h_2) rfl rfl rfl ?_)
  refine TO_nil ?_
  refine te [(0, (sl (tI .u8) code0)), (27, (boolA r_1))] rfl ?_
  refine T_cond (t := r_1) rfl (fun c_3 => ?_) (fun c_3 => ?_)
  ·replace H := cond_t c_3 H
   refine sr ?_
   refine Tp rfl rfl (pur_assign rfl) rfl ?_
   refine TO_nil ?_
   refine te [(2, (boolA true))] rfl ?_
   refine T_ret ?_
   refine then_ret ?_
   obtain rfl := some_inj H
   refine end_ret (.tmp .nil) rfl rfl ⟨?_, rfl⟩
   rfl
  ·replace H := cond_f c_3 H
   refine T_skip ?_
   refine te [(0, (sl (tI .u8) code0))] rfl ?_
   refine sr ?_
   refine Tp rfl rfl (pur_move rfl) rfl ?_
   obtain ⟨r_4, h_5, H⟩ := bind_inv H
   refine TO_cons rfl (TOp_callV (call_static ent42 rfl) (m_spec_DrawMinRange_ok u _ _ h_5) rfl rfl rfl ?_)
   refine Tp rfl rfl (pur_move rfl) rfl ?_
   refine Tp rfl rfl (pur_extract rfl rfl rfl) rfl ?_
   refine Tp rfl rfl (pur_extract rfl rfl rfl) rfl ?_
   refine Tp rfl rfl (pur_extract rfl rfl rfl) rfl ?_
   refine TO_cons rfl (TOp_alloc zero32 rfl rfl ?_)
   refine TO_cons rfl (TOp_storeB sz32 rfl rfl rfl rfl rfl rfl rfl (by decide) (lb rfl) rfl ?_)
   refine TO_st (σ' := [.box [(sl tRelation r_4.1.relations), (sl tFact r_4.1.facts)]]) rfl ?_
   refine Tp rfl rfl (pur_assign rfl) rfl ?_
   refine Tp rfl rfl (pur_assign rfl) rfl ?_
   refine TO_nil ?_
   refine te [(3, (.b 0 0)), (4, (intA r_4.2.1)), (5, (intA r_4.2.2))] rfl ?_
   refine sr ?_
   refine Tp rfl rfl (pur_ldK_b agg32 rfl rfl (lb rfl) rfl) rfl ?_
   refine Tp rfl rfl (pur_move rfl) rfl ?_
   refine Tp rfl rfl (pur_move rfl) rfl ?_
   obtain ⟨r_6, h_7, H⟩ := bind_inv H
   refine TO_cons rfl (TOp_callV (call_static ent36 rfl) (m_impl_MinRange_ok u _ _ _ _ h_7) rfl rfl rfl ?_)
   refine Tp rfl rfl (pur_move rfl) rfl ?_
   refine Tp rfl rfl (pur_extract rfl rfl rfl) rfl ?_
   refine Tp rfl rfl (pur_extract rfl rfl rfl) rfl ?_
   refine Tp rfl rfl (pur_extract rfl rfl rfl) rfl ?_
   refine toe [(3, (.b 0 0)), (4, (intA r_4.2.1)), (5, (intA r_4.2.2)), (39, (intA r_6.1)), (40, (intA r_6.2.1)), (41, (boolA r_6.2.2))] rfl ?_
   refine Tp rfl rfl (pur_assign rfl) rfl ?_
   refine Tp rfl rfl (pur_assign rfl) rfl ?_
   refine Tp rfl rfl (pur_assign rfl) rfl ?_
   refine TO_nil ?_
   refine te [(3, (.b 0 0)), (4, (intA r_4.2.1)), (5, (intA r_4.2.2)), (6, (intA r_6.1)), (7, (intA r_6.2.1)), (8, (boolA r_6.2.2))] rfl ?_
   refine sr ?_
   refine Tp rfl rfl (pur_ldK_b agg32 rfl rfl (lb rfl) rfl) rfl ?_
   refine Tp rfl rfl (pur_move rfl) rfl ?_
   refine Tp rfl rfl (pur_move rfl) rfl ?_
   obtain ⟨r_8, h_9, H⟩ := bind_inv H
   refine TO_cons rfl (TOp_callV (call_static ent34 rfl) (m_impl_MaxRange_ok u _ _ _ _ h_9) rfl rfl rfl ?_)
   refine Tp rfl rfl (pur_move rfl) rfl ?_
   refine Tp rfl rfl (pur_extract rfl rfl rfl) rfl ?_
   refine Tp rfl rfl (pur_extract rfl rfl rfl) rfl ?_
   refine Tp rfl rfl (pur_extract rfl rfl rfl) rfl ?_
   refine toe [(3, (.b 0 0)), (4, (intA r_4.2.1)), (5, (intA r_4.2.2)), (6, (intA r_6.1)), (7, (intA r_6.2.1)), (8, (boolA r_6.2.2)), (47, (intA r_8.1)), (48, (intA r_8.2.1)), (49, (boolA r_8.2.2))] rfl ?_
   refine Tp rfl rfl (pur_assign rfl) rfl ?_
   refine Tp rfl rfl (pur_assign rfl) rfl ?_
   refine Tp rfl rfl (pur_assign rfl) rfl ?_
   refine TO_nil ?_
   refine te [(3, (.b 0 0)), (4, (intA r_4.2.1)), (5, (intA r_4.2.2)), (6, (intA r_6.1)), (7, (intA r_6.2.1)), (8, (boolA r_6.2.2)), (9, (intA r_8.1)), (10, (intA r_8.2.1)), (11, (boolA r_8.2.2))] rfl ?_
   refine sr ?_
   refine Tp rfl rfl (pur_ldK_b agg32 rfl rfl (lb rfl) rfl) rfl ?_
   refine Tp rfl rfl (pur_move rfl) rfl ?_
   refine Tp rfl rfl (pur_move rfl) rfl ?_
   obtain ⟨r_10, h_11, H⟩ := bind_inv H
   refine TO_cons rfl (TOp_callV (call_static ent35 rfl) (m_spec_MinRange_ok u _ _ _ _ h_11) rfl rfl rfl ?_)
   refine Tp rfl rfl (pur_move rfl) rfl ?_
   refine Tp rfl rfl (pur_extract rfl rfl rfl) rfl ?_
   refine Tp rfl rfl (pur_extract rfl rfl rfl) rfl ?_
   refine Tp rfl rfl (pur_extract rfl rfl rfl) rfl ?_
   refine toe [(3, (.b 0 0)), (4, (intA r_4.2.1)), (5, (intA r_4.2.2)), (6, (intA r_6.1)), (7, (intA r_6.2.1)), (8, (boolA r_6.2.2)), (9, (intA r_8.1)), (10, (intA r_8.2.1)), (11, (boolA r_8.2.2)), (55, (intA r_10.1)), (56, (intA r_10.2.1)), (57, (boolA r_10.2.2))] rfl ?_
   refine Tp rfl rfl (pur_assign rfl) rfl ?_
   refine Tp rfl rfl (pur_assign rfl) rfl ?_
   refine Tp rfl rfl (pur_assign rfl) rfl ?_
   refine TO_nil ?_
   refine te [(3, (.b 0 0)), (4, (intA r_4.2.1)), (5, (intA r_4.2.2)), (6, (intA r_6.1)), (7, (intA r_6.2.1)), (8, (boolA r_6.2.2)), (9, (intA r_8.1)), (10, (intA r_8.2.1)), (11, (boolA r_8.2.2)), (12, (intA r_10.1)), (13, (intA r_10.2.1)), (14, (boolA r_10.2.2))] rfl ?_
   refine sr ?_
   refine Tp rfl rfl (pur_ldK_b agg32 rfl rfl (lb rfl) rfl) rfl ?_
   refine Tp rfl rfl (pur_move rfl) rfl ?_
   refine Tp rfl rfl (pur_move rfl) rfl ?_
   obtain ⟨r_12, h_13, H⟩ := bind_inv H
   refine TO_cons rfl (TOp_callV (call_static ent33 rfl) (m_spec_MaxRange_ok u _ _ _ _ h_13) rfl rfl rfl ?_)
   refine Tp rfl rfl (pur_move rfl) rfl ?_
   refine Tp rfl rfl (pur_extract rfl rfl rfl) rfl ?_
   refine Tp rfl rfl (pur_extract rfl rfl rfl) rfl ?_
   refine Tp rfl rfl (pur_extract rfl rfl rfl) rfl ?_
   refine toe [(3, (.b 0 0)), (4, (intA r_4.2.1)), (5, (intA r_4.2.2)), (6, (intA r_6.1)), (7, (intA r_6.2.1)), (8, (boolA r_6.2.2)), (9, (intA r_8.1)), (10, (intA r_8.2.1)), (11, (boolA r_8.2.2)), (12, (intA r_10.1)), (13, (intA r_10.2.1)), (14, (boolA r_10.2.2)), (63, (intA r_12.1)), (64, (intA r_12.2.1)), (65, (boolA r_12.2.2))] rfl ?_
   refine Tp rfl rfl (pur_assign rfl) rfl ?_
   refine Tp rfl rfl (pur_assign rfl) rfl ?_
   refine Tp rfl rfl (pur_assign rfl) rfl ?_
   refine TO_nil ?_
   refine te [(3, (.b 0 0)), (4, (intA r_4.2.1)), (5, (intA r_4.2.2)), (6, (intA r_6.1)), (7, (intA r_6.2.1)), (8, (boolA r_6.2.2)), (9, (intA r_8.1)), (10, (intA r_8.2.1)), (11, (boolA r_8.2.2)), (12, (intA r_10.1)), (13, (intA r_10.2.1)), (14, (boolA r_10.2.2)), (15, (intA r_12.1)), (16, (intA r_12.2.1)), (17, (boolA r_12.2.2))] rfl ?_
   refine T_seq ?_
   refine T_cutX (fun x => ((r_6.2.2 != r_10.2.2) || ((r_8.2.2 != r_12.2.2) || ((r_6.2.2 != r_8.2.2) || ((decide (r_6.1 ≠ r_10.1)) || ((decide (r_6.2.1 ≠ r_10.2.1)) || ((decide (r_8.1 ≠ r_12.1)) || (decide (r_8.2.1 ≠ r_12.2.1)))))))) = x) (fun (t98_14 : Bool) => [(3, (.b 0 0)), (4, (intA r_4.2.1)), (5, (intA r_4.2.2)), (6, (intA r_6.1)), (7, (intA r_6.2.1)), (8, (boolA r_6.2.2)), (9, (intA r_8.1)), (10, (intA r_8.2.1)), (98, (boolA t98_14))]) (fun (t98_14 : Bool) => [.box [(sl tRelation r_4.1.relations), (sl tFact r_4.1.facts)]]) ?_ ?_
   ·skip
    refine T_region ?_
    refine Tp rfl rfl (pur_move rfl) rfl ?_
    refine Tp rfl rfl (pur_move rfl) rfl ?_
    refine Tp rfl rfl (pur_neqB (by kernel_rfl) rfl rfl rfl) rfl ?_
    refine Tp rfl rfl (pur_move rfl) rfl ?_
    refine TO_split (t := (r_6.2.2 != r_10.2.2)) 69 rfl (fun g_16 => ?_) (fun g_16 => ?_)
    ·skip
     refine TO_off rfl rfl (by decide) rfl rfl rfl ?_
     refine TO_off rfl rfl (by decide) rfl rfl rfl ?_
     refine TO_off rfl rfl (by decide) rfl rfl rfl ?_
     refine Tp rfl rfl (pur_pick (t := true) rfl rfl rfl) rfl ?_
     refine Tp rfl rfl (pur_move rfl) rfl ?_
     refine TO_off rfl rfl (by decide) rfl rfl rfl ?_
     refine TO_off rfl rfl (by decide) rfl rfl rfl ?_
     refine TO_off rfl rfl (by decide) rfl rfl rfl ?_
     refine toe [(3, (.b 0 0)), (4, (intA r_4.2.1)), (5, (intA r_4.2.2)), (6, (intA r_6.1)), (7, (intA r_6.2.1)), (8, (boolA r_6.2.2)), (9, (intA r_8.1)), (10, (intA r_8.2.1)), (12, (intA r_10.1)), (13, (intA r_10.2.1)), (15, (intA r_12.1)), (16, (intA r_12.2.1)), (74, (boolA true)), (77, (.v undef))] rfl ?_
     refine Tp rfl rfl (pur_pick (t := true) rfl rfl rfl) rfl ?_
     refine Tp rfl rfl (pur_move rfl) rfl ?_
     refine TO_off rfl rfl (by decide) rfl rfl rfl ?_
     refine TO_off rfl rfl (by decide) rfl rfl rfl ?_
     refine TO_off rfl rfl (by decide) rfl rfl rfl ?_
     refine Tp rfl rfl (pur_pick (t := true) rfl rfl rfl) rfl ?_
     refine Tp rfl rfl (pur_move rfl) rfl ?_
     refine TO_off rfl rfl (by decide) rfl rfl rfl ?_
     refine toe [(3, (.b 0 0)), (4, (intA r_4.2.1)), (5, (intA r_4.2.2)), (6, (intA r_6.1)), (7, (intA r_6.2.1)), (8, (boolA r_6.2.2)), (9, (intA r_8.1)), (10, (intA r_8.2.1)), (13, (intA r_10.2.1)), (15, (intA r_12.1)), (16, (intA r_12.2.1)), (84, (boolA true)), (85, (.v undef))] rfl ?_
     refine TO_off rfl rfl (by decide) rfl rfl rfl ?_
     refine TO_off rfl rfl (by decide) rfl rfl rfl ?_
     refine Tp rfl rfl (pur_pick (t := true) rfl rfl rfl) rfl ?_
     refine Tp rfl rfl (pur_move rfl) rfl ?_
     refine TO_off rfl rfl (by decide) rfl rfl rfl ?_
     refine TO_off rfl rfl (by decide) rfl rfl rfl ?_
     refine TO_off rfl rfl (by decide) rfl rfl rfl ?_
     refine Tp rfl rfl (pur_pick (t := true) rfl rfl rfl) rfl ?_
     refine toe [(3, (.b 0 0)), (4, (intA r_4.2.1)), (5, (intA r_4.2.2)), (6, (intA r_6.1)), (7, (intA r_6.2.1)), (8, (boolA r_6.2.2)), (9, (intA r_8.1)), (10, (intA r_8.2.1)), (16, (intA r_12.2.1)), (93, (boolA true))] rfl ?_
     refine Tp rfl rfl (pur_move rfl) rfl ?_
     refine TO_off rfl rfl (by decide) rfl rfl rfl ?_
     refine TO_off rfl rfl (by decide) rfl rfl rfl ?_
     refine TO_off rfl rfl (by decide) rfl rfl rfl ?_
     refine Tp rfl rfl (pur_pick (t := true) rfl rfl rfl) rfl ?_
     refine TO_nil ?_
     exact joined true (wp 1 (lb rfl) rfl rfl rfl rfl rfl) (by first | exact Eq.symm ((or_T g_16 rfl)))
    ·skip
     refine TO_on rfl rfl (by decide) rfl rfl (TOp_pure (pur_move rfl) rfl ?_)
     refine TO_on rfl rfl (by decide) rfl rfl (TOp_pure (pur_move rfl) rfl ?_)
     refine TO_on rfl rfl (by decide) rfl rfl (TOp_pure (pur_neqB (by kernel_rfl) rfl rfl rfl) rfl ?_)
     refine Tp rfl rfl (pur_pick (t := false) rfl rfl rfl) rfl ?_
     refine Tp rfl rfl (pur_move rfl) rfl ?_
     refine TO_split (t := (r_8.2.2 != r_12.2.2)) 74 rfl (fun g_17 => ?_) (fun g_17 => ?_)
     ·skip
      refine TO_off rfl rfl (by decide) rfl rfl rfl ?_
      refine TO_off rfl rfl (by decide) rfl rfl rfl ?_
      refine TO_off rfl rfl (by decide) rfl rfl rfl ?_
      refine Tp rfl rfl (pur_pick (t := true) rfl rfl rfl) rfl ?_
      refine Tp rfl rfl (pur_move rfl) rfl ?_
      refine TO_off rfl rfl (by decide) rfl rfl rfl ?_
      refine TO_off rfl rfl (by decide) rfl rfl rfl ?_
      refine TO_off rfl rfl (by decide) rfl rfl rfl ?_
      refine toe [(3, (.b 0 0)), (4, (intA r_4.2.1)), (5, (intA r_4.2.2)), (6, (intA r_6.1)), (7, (intA r_6.2.1)), (8, (boolA r_6.2.2)), (9, (intA r_8.1)), (10, (intA r_8.2.1)), (13, (intA r_10.2.1)), (15, (intA r_12.1)), (16, (intA r_12.2.1)), (79, (boolA true)), (82, (.v undef))] rfl ?_
      refine Tp rfl rfl (pur_pick (t := true) rfl rfl rfl) rfl ?_
      refine Tp rfl rfl (pur_move rfl) rfl ?_
      refine TO_off rfl rfl (by decide) rfl rfl rfl ?_
      refine TO_off rfl rfl (by decide) rfl rfl rfl ?_
      refine TO_off rfl rfl (by decide) rfl rfl rfl ?_
      refine Tp rfl rfl (pur_pick (t := true) rfl rfl rfl) rfl ?_
      refine Tp rfl rfl (pur_move rfl) rfl ?_
      refine TO_off rfl rfl (by decide) rfl rfl rfl ?_
      refine toe [(3, (.b 0 0)), (4, (intA r_4.2.1)), (5, (intA r_4.2.2)), (6, (intA r_6.1)), (7, (intA r_6.2.1)), (8, (boolA r_6.2.2)), (9, (intA r_8.1)), (10, (intA r_8.2.1)), (15, (intA r_12.1)), (16, (intA r_12.2.1)), (89, (boolA true)), (90, (.v undef))] rfl ?_
      refine TO_off rfl rfl (by decide) rfl rfl rfl ?_
      refine TO_off rfl rfl (by decide) rfl rfl rfl ?_
      refine Tp rfl rfl (pur_pick (t := true) rfl rfl rfl) rfl ?_
      refine Tp rfl rfl (pur_move rfl) rfl ?_
      refine TO_off rfl rfl (by decide) rfl rfl rfl ?_
      refine TO_off rfl rfl (by decide) rfl rfl rfl ?_
      refine TO_off rfl rfl (by decide) rfl rfl rfl ?_
      refine Tp rfl rfl (pur_pick (t := true) rfl rfl rfl) rfl ?_
      refine TO_nil ?_
      exact joined true (wp 1 (lb rfl) rfl rfl rfl rfl rfl) (by first | exact Eq.symm ((or_F g_16 (or_T g_17 rfl))))
     ·skip
      refine TO_on rfl rfl (by decide) rfl rfl (TOp_pure (pur_move rfl) rfl ?_)
      refine TO_on rfl rfl (by decide) rfl rfl (TOp_pure (pur_move rfl) rfl ?_)
      refine TO_on rfl rfl (by decide) rfl rfl (TOp_pure (pur_neqB (by kernel_rfl) rfl rfl rfl) rfl ?_)
      refine Tp rfl rfl (pur_pick (t := false) rfl rfl rfl) rfl ?_
      refine Tp rfl rfl (pur_move rfl) rfl ?_
      refine TO_split (t := (r_6.2.2 != r_8.2.2)) 79 rfl (fun g_18 => ?_) (fun g_18 => ?_)
      ·skip
       refine TO_off rfl rfl (by decide) rfl rfl rfl ?_
       refine TO_off rfl rfl (by decide) rfl rfl rfl ?_
       refine TO_off rfl rfl (by decide) rfl rfl rfl ?_
       refine Tp rfl rfl (pur_pick (t := true) rfl rfl rfl) rfl ?_
       refine Tp rfl rfl (pur_move rfl) rfl ?_
       refine TO_off rfl rfl (by decide) rfl rfl rfl ?_
       refine TO_off rfl rfl (by decide) rfl rfl rfl ?_
       refine TO_off rfl rfl (by decide) rfl rfl rfl ?_
       refine toe [(3, (.b 0 0)), (4, (intA r_4.2.1)), (5, (intA r_4.2.2)), (6, (intA r_6.1)), (7, (intA r_6.2.1)), (8, (boolA r_6.2.2)), (9, (intA r_8.1)), (10, (intA r_8.2.1)), (15, (intA r_12.1)), (16, (intA r_12.2.1)), (84, (boolA true)), (87, (.v undef))] rfl ?_
       refine Tp rfl rfl (pur_pick (t := true) rfl rfl rfl) rfl ?_
       refine Tp rfl rfl (pur_move rfl) rfl ?_
       refine TO_off rfl rfl (by decide) rfl rfl rfl ?_
       refine TO_off rfl rfl (by decide) rfl rfl rfl ?_
       refine TO_off rfl rfl (by decide) rfl rfl rfl ?_
       refine Tp rfl rfl (pur_pick (t := true) rfl rfl rfl) rfl ?_
       refine Tp rfl rfl (pur_move rfl) rfl ?_
       refine TO_off rfl rfl (by decide) rfl rfl rfl ?_
       refine toe [(3, (.b 0 0)), (4, (intA r_4.2.1)), (5, (intA r_4.2.2)), (6, (intA r_6.1)), (7, (intA r_6.2.1)), (8, (boolA r_6.2.2)), (9, (intA r_8.1)), (10, (intA r_8.2.1)), (16, (intA r_12.2.1)), (94, (boolA true)), (95, (.v undef))] rfl ?_
       refine TO_off rfl rfl (by decide) rfl rfl rfl ?_
       refine TO_off rfl rfl (by decide) rfl rfl rfl ?_
       refine Tp rfl rfl (pur_pick (t := true) rfl rfl rfl) rfl ?_
       refine TO_nil ?_
       exact joined true (wp 1 (lb rfl) rfl rfl rfl rfl rfl) (by first | exact Eq.symm ((or_F g_16 (or_F g_17 (or_T g_18 rfl)))))
      ·skip
       refine TO_on rfl rfl (by decide) rfl rfl (TOp_pure (pur_move rfl) rfl ?_)
       refine TO_on rfl rfl (by decide) rfl rfl (TOp_pure (pur_move rfl) rfl ?_)
       refine TO_on rfl rfl (by decide) rfl rfl (TOp_pure (pur_neq rfl rfl rfl) rfl ?_)
       refine Tp rfl rfl (pur_pick (t := false) rfl rfl rfl) rfl ?_
       refine Tp rfl rfl (pur_move rfl) rfl ?_
       refine TO_split (t := decide (r_6.1 ≠ r_10.1)) 84 rfl (fun g_19 => ?_) (fun g_19 => ?_)
       ·skip
        refine TO_off rfl rfl (by decide) rfl rfl rfl ?_
        refine TO_off rfl rfl (by decide) rfl rfl rfl ?_
        refine TO_off rfl rfl (by decide) rfl rfl rfl ?_
        refine Tp rfl rfl (pur_pick (t := true) rfl rfl rfl) rfl ?_
        refine Tp rfl rfl (pur_move rfl) rfl ?_
        refine TO_off rfl rfl (by decide) rfl rfl rfl ?_
        refine TO_off rfl rfl (by decide) rfl rfl rfl ?_
        refine TO_off rfl rfl (by decide) rfl rfl rfl ?_
        refine toe [(3, (.b 0 0)), (4, (intA r_4.2.1)), (5, (intA r_4.2.2)), (6, (intA r_6.1)), (7, (intA r_6.2.1)), (8, (boolA r_6.2.2)), (9, (intA r_8.1)), (10, (intA r_8.2.1)), (16, (intA r_12.2.1)), (89, (boolA true)), (92, (.v undef))] rfl ?_
        refine Tp rfl rfl (pur_pick (t := true) rfl rfl rfl) rfl ?_
        refine Tp rfl rfl (pur_move rfl) rfl ?_
        refine TO_off rfl rfl (by decide) rfl rfl rfl ?_
        refine TO_off rfl rfl (by decide) rfl rfl rfl ?_
        refine TO_off rfl rfl (by decide) rfl rfl rfl ?_
        refine Tp rfl rfl (pur_pick (t := true) rfl rfl rfl) rfl ?_
        refine TO_nil ?_
        exact joined true (wp 1 (lb rfl) rfl rfl rfl rfl rfl) (by first | exact Eq.symm ((or_F g_16 (or_F g_17 (or_F g_18 (or_T g_19 rfl))))))
       ·skip
        refine TO_on rfl rfl (by decide) rfl rfl (TOp_pure (pur_move rfl) rfl ?_)
        refine TO_on rfl rfl (by decide) rfl rfl (TOp_pure (pur_move rfl) rfl ?_)
        refine TO_on rfl rfl (by decide) rfl rfl (TOp_pure (pur_neq rfl rfl rfl) rfl ?_)
        refine Tp rfl rfl (pur_pick (t := false) rfl rfl rfl) rfl ?_
        refine Tp rfl rfl (pur_move rfl) rfl ?_
        refine TO_split (t := decide (r_6.2.1 ≠ r_10.2.1)) 89 rfl (fun g_20 => ?_) (fun g_20 => ?_)
        ·skip
         refine TO_off rfl rfl (by decide) rfl rfl rfl ?_
         refine TO_off rfl rfl (by decide) rfl rfl rfl ?_
         refine TO_off rfl rfl (by decide) rfl rfl rfl ?_
         refine Tp rfl rfl (pur_pick (t := true) rfl rfl rfl) rfl ?_
         refine Tp rfl rfl (pur_move rfl) rfl ?_
         refine TO_off rfl rfl (by decide) rfl rfl rfl ?_
         refine TO_off rfl rfl (by decide) rfl rfl rfl ?_
         refine TO_off rfl rfl (by decide) rfl rfl rfl ?_
         refine Tp rfl rfl (pur_pick (t := true) rfl rfl rfl) rfl ?_
         refine TO_nil ?_
         exact joined true (wp 1 (lb rfl) rfl rfl rfl rfl rfl) (by first | exact Eq.symm ((or_F g_16 (or_F g_17 (or_F g_18 (or_F g_19 (or_T g_20 rfl)))))))
        ·skip
         refine TO_on rfl rfl (by decide) rfl rfl (TOp_pure (pur_move rfl) rfl ?_)
         refine TO_on rfl rfl (by decide) rfl rfl (TOp_pure (pur_move rfl) rfl ?_)
         refine TO_on rfl rfl (by decide) rfl rfl (TOp_pure (pur_neq rfl rfl rfl) rfl ?_)
         refine Tp rfl rfl (pur_pick (t := false) rfl rfl rfl) rfl ?_
         refine Tp rfl rfl (pur_move rfl) rfl ?_
         refine TO_split (t := decide (r_8.1 ≠ r_12.1)) 94 rfl (fun g_21 => ?_) (fun g_21 => ?_)
         ·skip
          refine TO_off rfl rfl (by decide) rfl rfl rfl ?_
          refine TO_off rfl rfl (by decide) rfl rfl rfl ?_
          refine TO_off rfl rfl (by decide) rfl rfl rfl ?_
          refine Tp rfl rfl (pur_pick (t := true) rfl rfl rfl) rfl ?_
          refine TO_nil ?_
          exact joined true (wp 1 (lb rfl) rfl rfl rfl rfl rfl) (by first | exact Eq.symm ((or_F g_16 (or_F g_17 (or_F g_18 (or_F g_19 (or_F g_20 (or_T g_21 rfl))))))))
         ·skip
          refine TO_on rfl rfl (by decide) rfl rfl (TOp_pure (pur_move rfl) rfl ?_)
          refine TO_on rfl rfl (by decide) rfl rfl (TOp_pure (pur_move rfl) rfl ?_)
          refine TO_on rfl rfl (by decide) rfl rfl (TOp_pure (pur_neq rfl rfl rfl) rfl ?_)
          refine Tp rfl rfl (pur_pick (t := false) rfl rfl rfl) rfl ?_
          refine TO_nil ?_
          exact joined (decide (r_8.2.1 ≠ r_12.2.1)) (wp 1 (lb rfl) rfl rfl rfl rfl rfl) (by first | exact Eq.symm ((or_F g_16 (or_F g_17 (or_F g_18 (or_F g_19 (or_F g_20 (or_F g_21 rfl))))))))
   ·rintro _ rfl
    refine te [(3, (.b 0 0)), (4, (intA r_4.2.1)), (5, (intA r_4.2.2)), (6, (intA r_6.1)), (7, (intA r_6.2.1)), (8, (boolA r_6.2.2)), (9, (intA r_8.1)), (10, (intA r_8.2.1)), (98, (boolA ((r_6.2.2 != r_10.2.2) || ((r_8.2.2 != r_12.2.2) || ((r_6.2.2 != r_8.2.2) || ((decide (r_6.1 ≠ r_10.1)) || ((decide (r_6.2.1 ≠ r_10.2.1)) || ((decide (r_8.1 ≠ r_12.1)) || (decide (r_8.2.1 ≠ r_12.2.1))))))))))] rfl ?_
    refine T_cond (t := ((r_6.2.2 != r_10.2.2) || ((r_8.2.2 != r_12.2.2) || ((r_6.2.2 != r_8.2.2) || ((decide (r_6.1 ≠ r_10.1)) || ((decide (r_6.2.1 ≠ r_10.2.1)) || ((decide (r_8.1 ≠ r_12.1)) || (decide (r_8.2.1 ≠ r_12.2.1))))))))) rfl (fun c_22 => ?_) (fun c_22 => ?_)
    ·replace H := cond_t c_22 H
     refine sr ?_
     refine Tp rfl rfl (pur_assign rfl) rfl ?_
     refine TO_nil ?_
     refine te [(2, (boolA false))] rfl ?_
     refine T_ret ?_
     refine then_ret ?_
     obtain rfl := some_inj H
     refine end_ret (.tmp .nil) rfl rfl ⟨?_, rfl⟩
     rfl
    ·replace H := cond_f c_22 H
     refine T_skip ?_
     refine te [(3, (.b 0 0)), (4, (intA r_4.2.1)), (5, (intA r_4.2.2)), (6, (intA r_6.1)), (7, (intA r_6.2.1)), (8, (boolA r_6.2.2)), (9, (intA r_8.1)), (10, (intA r_8.2.1))] rfl ?_
     refine T_seq ?_
     refine sr ?_
     refine Tp rfl rfl (pur_move rfl) rfl ?_
     refine Tp rfl rfl (pur_not rfl rfl) rfl ?_
     refine TO_nil ?_
     refine te [(3, (.b 0 0)), (4, (intA r_4.2.1)), (5, (intA r_4.2.2)), (6, (intA r_6.1)), (7, (intA r_6.2.1)), (9, (intA r_8.1)), (10, (intA r_8.2.1)), (100, (boolA (!r_6.2.2)))] rfl ?_
     refine T_cond (t := (!r_6.2.2)) rfl (fun c_23 => ?_) (fun c_23 => ?_)
     ·replace H := cond_t c_23 H
      refine sr ?_
      refine Tp rfl rfl (pur_assign rfl) rfl ?_
      refine TO_nil ?_
      refine te [(2, (boolA true))] rfl ?_
      refine T_ret ?_
      refine then_ret ?_
      obtain rfl := some_inj H
      refine end_ret (.tmp .nil) rfl rfl ⟨?_, rfl⟩
      rfl
     ·replace H := cond_f c_23 H
      refine T_skip ?_
      refine te [(3, (.b 0 0)), (4, (intA r_4.2.1)), (5, (intA r_4.2.2)), (6, (intA r_6.1)), (7, (intA r_6.2.1)), (9, (intA r_8.1)), (10, (intA r_8.2.1))] rfl ?_
      refine sr ?_
      obtain ⟨us_24, h_25, H⟩ := bind_inv H
      refine TO_cons rfl (TOp_makeT (T := tBool) (z := false) rfl sl58 zero4 rfl bytes4 rfl rfl rfl rfl h_25 ?_)
      refine Tp rfl rfl (pur_assign rfl) rfl ?_
      refine TO_nil ?_
      refine te [(3, (.b 0 0)), (4, (intA r_4.2.1)), (5, (intA r_4.2.2)), (6, (intA r_6.1)), (7, (intA r_6.2.1)), (9, (intA r_8.1)), (10, (intA r_8.2.1)), (18, (.m [1] 0 us_24.length tBool.k))] rfl ?_
      refine T_seq ?_
      refine sr ?_
      refine Tp rfl rfl (pur_assign rfl) rfl ?_
      refine TO_nil ?_
      refine te [(3, (.b 0 0)), (4, (intA r_4.2.1)), (5, (intA r_4.2.2)), (6, (intA r_6.1)), (7, (intA r_6.2.1)), (9, (intA r_8.1)), (10, (intA r_8.2.1)), (18, (.m [1] 0 us_24.length tBool.k)), (19, (intA 0))] rfl ?_
      obtain ⟨O26_, L26_, N26_⟩ := bind_inv H
      clear H
      obtain ⟨B26_, hb26, L26_⟩ := gen_whileF L26_
      refine T_block ?_
      refine T_loopX (fun k => fun (x_ : (List Bool) × Int) => whileF B26_ k (x_.1, x_.2) = some O26_) (fun (x_ : (List Bool) × Int) => [(3, (.b 0 0)), (4, (intA r_4.2.1)), (5, (intA r_4.2.2)), (6, (intA r_6.1)), (7, (intA r_6.2.1)), (9, (intA r_8.1)), (10, (intA r_8.2.1)), (18, (.m [1] 0 x_.1.length tBool.k)), (19, (intA x_.2))]) (fun (x_ : (List Bool) × Int) => [.box [(sl tRelation r_4.1.relations), (sl tFact r_4.1.facts)], .row (flat tBool.enc x_.1)]) u (us_24, 0) (wp 2 (lb rfl) rfl rfl rfl rfl rfl) L26_ ?_
      rintro _ ⟨met18, k19⟩ L26_
      obtain ⟨k26, rfl, C26_, H, K26_⟩ := while_step L26_
      rw [hb26] at H
      refine te [(3, (.b 0 0)), (4, (intA r_4.2.1)), (5, (intA r_4.2.2)), (6, (intA r_6.1)), (7, (intA r_6.2.1)), (9, (intA r_8.1)), (10, (intA r_8.2.1)), (18, (.m [1] 0 met18.length tBool.k)), (19, (intA k19))] rfl ?_
      refine T_st (σ' := [.box [(sl tRelation r_4.1.relations), (sl tFact r_4.1.facts)], .row (flat tBool.enc met18)]) rfl ?_
      refine T_seq ?_
      refine sr ?_
      refine Tp rfl rfl (pur_move rfl) rfl ?_
      refine Tp rfl rfl (pur_ldK_b agg32 rfl rfl (lb rfl) rfl) rfl ?_
      obtain ⟨r_27, h_28, H⟩ := bind_inv H
      refine TO_cons rfl (TOp_callV (call_static ent40 rfl) (m_spec_CountRepairs_ok u _ _ h_28) rfl rfl rfl ?_)
      refine Tp rfl rfl (pur_lss rfl rfl rfl) rfl ?_
      refine TO_nil ?_
      refine te [(3, (.b 0 0)), (4, (intA r_4.2.1)), (5, (intA r_4.2.2)), (6, (intA r_6.1)), (7, (intA r_6.2.1)), (9, (intA r_8.1)), (10, (intA r_8.2.1)), (18, (.m [1] 0 met18.length tBool.k)), (19, (intA k19)), (105, (boolA (decide (k19 < r_27))))] rfl ?_
      refine T_cond (t := decide (k19 < r_27)) rfl (fun c_29 => ?_) (fun c_29 => ?_)
      ·replace H := cond_t c_29 H
       refine T_skip ?_
       refine te [(3, (.b 0 0)), (4, (intA r_4.2.1)), (5, (intA r_4.2.2)), (6, (intA r_6.1)), (7, (intA r_6.2.1)), (9, (intA r_8.1)), (10, (intA r_8.2.1)), (18, (.m [1] 0 met18.length tBool.k)), (19, (intA k19))] rfl ?_
       refine T_seq ?_
       refine T_block ?_
       refine sr ?_
       refine Tp rfl rfl (pur_ldK_b agg32 rfl rfl (lb rfl) rfl) rfl ?_
       refine Tp rfl rfl (pur_move rfl) rfl ?_
       obtain ⟨r_30, h_31, H⟩ := bind_inv H
       refine TO_cons rfl (TOp_callV (call_static ent41 rfl) (m_spec_NthRepair_ok u _ _ _ h_31) rfl rfl rfl ?_)
       refine Tp rfl rfl (pur_move rfl) rfl ?_
       refine Tp rfl rfl (pur_extract rfl rfl rfl) rfl ?_
       refine Tp rfl rfl (pur_extract rfl rfl rfl) rfl ?_
       refine Tp rfl rfl (pur_assign rfl) rfl ?_
       refine Tp rfl rfl (pur_assign rfl) rfl ?_
       refine TO_nil ?_
       refine te [(3, (.b 0 0)), (4, (intA r_4.2.1)), (5, (intA r_4.2.2)), (6, (intA r_6.1)), (7, (intA r_6.2.1)), (9, (intA r_8.1)), (10, (intA r_8.2.1)), (18, (.m [1] 0 met18.length tBool.k)), (19, (intA k19)), (20, (sl tInt r_30.1))] rfl ?_
       refine sr ?_
       refine Tp rfl rfl (pur_assign rfl) rfl ?_
       refine TO_nil ?_
       refine te [(3, (.b 0 0)), (4, (intA r_4.2.1)), (5, (intA r_4.2.2)), (6, (intA r_6.1)), (7, (intA r_6.2.1)), (9, (intA r_8.1)), (10, (intA r_8.2.1)), (18, (.m [1] 0 met18.length tBool.k)), (19, (intA k19)), (20, (sl tInt r_30.1)), (22, (intA (-1)))] rfl ?_
       refine sr ?_
       refine Tp rfl rfl (pur_assign rfl) rfl ?_
       refine TO_nil ?_
       refine te [(3, (.b 0 0)), (4, (intA r_4.2.1)), (5, (intA r_4.2.2)), (6, (intA r_6.1)), (7, (intA r_6.2.1)), (9, (intA r_8.1)), (10, (intA r_8.2.1)), (18, (.m [1] 0 met18.length tBool.k)), (19, (intA k19)), (20, (sl tInt r_30.1)), (22, (intA (-1))), (23, (intA (-1)))] rfl ?_
       refine T_seq ?_
       refine sr ?_
       refine Tp rfl rfl (pur_assign rfl) rfl ?_
       refine TO_nil ?_
       refine te [(3, (.b 0 0)), (4, (intA r_4.2.1)), (5, (intA r_4.2.2)), (6, (intA r_6.1)), (7, (intA r_6.2.1)), (9, (intA r_8.1)), (10, (intA r_8.2.1)), (18, (.m [1] 0 met18.length tBool.k)), (19, (intA k19)), (20, (sl tInt r_30.1)), (22, (intA (-1))), (23, (intA (-1))), (24, (intA 0))] rfl ?_
       obtain ⟨O33_, L33_, N33_⟩ := bind_inv H
       clear H
       obtain ⟨B33_, hb33, L33_⟩ := gen_forS L33_
       refine T_block ?_
       refine T_loopX (fun k => fun (x_ : Nat × Int × Int) => k = r_30.1.length - x_.1 ∧ forS B33_ (r_30.1.drop x_.1) (x_.1 : Int) (x_.2.1, x_.2.2) = some O33_) (fun (x_ : Nat × Int × Int) => [(3, (.b 0 0)), (4, (intA r_4.2.1)), (5, (intA r_4.2.2)), (6, (intA r_6.1)), (7, (intA r_6.2.1)), (9, (intA r_8.1)), (10, (intA r_8.2.1)), (18, (.m [1] 0 met18.length tBool.k)), (19, (intA k19)), (20, (sl tInt r_30.1)), (22, (intA x_.2.1)), (23, (intA x_.2.2)), (24, (intA (x_.1 : Int)))]) (fun (x_ : Nat × Int × Int) => [.box [(sl tRelation r_4.1.relations), (sl tFact r_4.1.facts)], .row (flat tBool.enc met18)]) _ (0, (-1, -1)) (wp 2 (lb rfl) rfl rfl rfl rfl rfl) ⟨rfl, L33_⟩ ?_
       rintro _ ⟨i_32, lo22, hi23⟩ ⟨rfl, L33_⟩
       refine te [(3, (.b 0 0)), (4, (intA r_4.2.1)), (5, (intA r_4.2.2)), (6, (intA r_6.1)), (7, (intA r_6.2.1)), (9, (intA r_8.1)), (10, (intA r_8.2.1)), (18, (.m [1] 0 met18.length tBool.k)), (19, (intA k19)), (20, (sl tInt r_30.1)), (22, (intA lo22)), (23, (intA hi23)), (24, (intA (i_32 : Int)))] rfl ?_
       refine T_st (σ' := [.box [(sl tRelation r_4.1.relations), (sl tFact r_4.1.facts)], .row (flat tBool.enc met18)]) rfl ?_
       refine T_fact (len_sl (T := tInt) (.tmp 20) rfl) (fun hl33 => ?_)
       refine T_seq ?_
       refine sr ?_
       refine Tp rfl rfl (pur_move rfl) rfl ?_
       refine Tp rfl rfl (pur_move rfl) rfl ?_
       refine Tp rfl rfl (pur_lenT (T := tInt) sl33 rfl rfl) rfl ?_
       refine Tp rfl rfl (pur_lss rfl rfl rfl) rfl ?_
       refine TO_nil ?_
       refine te [(3, (.b 0 0)), (4, (intA r_4.2.1)), (5, (intA r_4.2.2)), (6, (intA r_6.1)), (7, (intA r_6.2.1)), (9, (intA r_8.1)), (10, (intA r_8.2.1)), (18, (.m [1] 0 met18.length tBool.k)), (19, (intA k19)), (20, (sl tInt r_30.1)), (22, (intA lo22)), (23, (intA hi23)), (24, (intA (i_32 : Int))), (117, (boolA (decide ((i_32 : Int) < (r_30.1.length : Int)))))] rfl ?_
       refine T_cond (t := decide ((i_32 : Int) < (r_30.1.length : Int))) rfl (fun d33 => ?_) (fun d33 => ?_)
       ·replace d33 := of_decide_eq_true d33
        obtain ⟨x_i_32, hx_i_32⟩ : ∃ v, (r_30.1)[i_32]? = some v := ⟨_, List.getElem?_eq_getElem (by omega)⟩
        obtain ⟨C33_, H, K33_⟩ := forS_step L33_ hx_i_32
        rw [hb33] at H
        refine T_skip ?_
        refine te [(3, (.b 0 0)), (4, (intA r_4.2.1)), (5, (intA r_4.2.2)), (6, (intA r_6.1)), (7, (intA r_6.2.1)), (9, (intA r_8.1)), (10, (intA r_8.2.1)), (18, (.m [1] 0 met18.length tBool.k)), (19, (intA k19)), (20, (sl tInt r_30.1)), (22, (intA lo22)), (23, (intA hi23)), (24, (intA (i_32 : Int)))] rfl ?_
        refine T_seq ?_
        refine T_block ?_
        obtain ⟨v_34, h_35, H⟩ := bind_inv H
        obtain ⟨n_36, hz_37, hv_38⟩ := getI_inv h_35
        refine T_pad ?_
        refine T_cutX (fun (_ : Unit) => True) (fun _ => [(3, (.b 0 0)), (4, (intA r_4.2.1)), (5, (intA r_4.2.2)), (6, (intA r_6.1)), (7, (intA r_6.2.1)), (9, (intA r_8.1)), (10, (intA r_8.2.1)), (18, (.m [1] 0 met18.length tBool.k)), (19, (intA k19)), (20, (sl tInt r_30.1)), (22, (intA lo22)), (23, (intA hi23)), (24, (intA (i_32 : Int))), (25, (.b 3 0))]) (fun _ => [.box [(sl tRelation r_4.1.relations), (sl tFact r_4.1.facts)], .row (flat tBool.enc met18), .dead, .box [(intA v_34.relation), (sl tInt v_34.values)]]) ?_ ?_
        ·skip
         refine T_regionP mixed ?_
         refine TA_have 1 #[true, true, true, true, true, true, true, true, true, false] [(3, (.b 0 0)), (4, (intA r_4.2.1)), (5, (intA r_4.2.2)), (6, (intA r_6.1)), (7, (intA r_6.2.1)), (9, (intA r_8.1)), (10, (intA r_8.2.1)), (18, (.m [1] 0 met18.length tBool.k)), (19, (intA k19)), (20, (sl tInt r_30.1)), (22, (intA lo22)), (23, (intA hi23)), (24, (intA (i_32 : Int))), (25, (.b 3 0)), (127, (.g (tFact.enc v_34)))] [.box [(sl tRelation r_4.1.relations), (sl tFact r_4.1.facts)], .row (flat tBool.enc met18), .dead, .box [(intA 0), .n]] ?_ (fun hj0_22 => ?_)
         ·skip
          refine t1 9 (by kernel_rfl) rfl rfl (TOp_storeB sz60 rfl rfl rfl rfl rfl rfl rfl (by decide) (lb rfl) rfl ?_)
          refine TA_st (σ' := [.box [(sl tRelation r_4.1.relations), (sl tFact r_4.1.facts)], .row (flat tBool.enc met18), .dead, .box [(intA v_34.relation), (sl tInt v_34.values)]]) rfl ?_
          exact TA_nil (by kernel_rfl) (joined () (wp 4 (lb rfl) rfl rfl rfl rfl rfl) trivial)
         refine TA_have 2 #[true, true, true, true, true, true, true, false, true, false] [(3, (.b 0 0)), (4, (intA r_4.2.1)), (5, (intA r_4.2.2)), (6, (intA r_6.1)), (7, (intA r_6.2.1)), (9, (intA r_8.1)), (10, (intA r_8.2.1)), (18, (.m [1] 0 met18.length tBool.k)), (19, (intA k19)), (20, (sl tInt r_30.1)), (22, (intA lo22)), (23, (intA hi23)), (24, (intA (i_32 : Int))), (25, (.b 3 0)), (126, (.q (flat tFact.enc r_4.1.facts) (n_36 * tFact.k)))] [.box [(sl tRelation r_4.1.relations), (sl tFact r_4.1.facts)], .row (flat tBool.enc met18), .dead, .box [(intA 0), .n]] ?_ (fun hj1_22 => ?_)
         ·skip
          refine t1 7 (by kernel_rfl) rfl rfl (TOp_pure (pur_ldTK (T := tFact) (i := n_36) (off := 0) rfl agg60 rfl rfl hv_38 (by decide) rfl) rfl ?_)
          exact tj hj0_22 rfl (wp 4 (lb rfl) rfl rfl rfl rfl rfl)
         refine TA_have 3 #[true, true, true, true, true, true, false, false, true, false] [(3, (.b 0 0)), (4, (intA r_4.2.1)), (5, (intA r_4.2.2)), (6, (intA r_6.1)), (7, (intA r_6.2.1)), (9, (intA r_8.1)), (10, (intA r_8.2.1)), (18, (.m [1] 0 met18.length tBool.k)), (19, (intA k19)), (20, (sl tInt r_30.1)), (22, (intA lo22)), (23, (intA hi23)), (24, (intA (i_32 : Int))), (25, (.b 3 0)), (121, (sl tFact r_4.1.facts)), (125, (intA x_i_32))] [.box [(sl tRelation r_4.1.relations), (sl tFact r_4.1.facts)], .row (flat tBool.enc met18), .dead, .box [(intA 0), .n]] ?_ (fun hj2_22 => ?_)
         ·skip
          refine tf 6 rfl (purI_ixT (T := tFact) sl30 rfl rfl hz_37 hv_38 rfl) rfl rfl (by kernel_rfl) ?_
          exact tj hj1_22 rfl (wp 4 (lb rfl) rfl rfl rfl rfl rfl)
         refine TA_have 4 #[true, false, true, true, true, true, false, false, true, false] [(3, (.b 0 0)), (4, (intA r_4.2.1)), (5, (intA r_4.2.2)), (6, (intA r_6.1)), (7, (intA r_6.2.1)), (9, (intA r_8.1)), (10, (intA r_8.2.1)), (18, (.m [1] 0 met18.length tBool.k)), (19, (intA k19)), (20, (sl tInt r_30.1)), (22, (intA lo22)), (23, (intA hi23)), (24, (intA (i_32 : Int))), (25, (.b 3 0)), (120, (.b 0 1)), (125, (intA x_i_32))] [.box [(sl tRelation r_4.1.relations), (sl tFact r_4.1.facts)], .row (flat tBool.enc met18), .dead, .box [(intA 0), .n]] ?_ (fun hj3_22 => ?_)
         ·skip
          refine t1 1 (by kernel_rfl) rfl rfl (TOp_pure (pur_ld_b one30 rfl rfl rfl rfl) rfl ?_)
          exact tj hj2_22 rfl (wp 4 (lb rfl) rfl rfl rfl rfl rfl)
         refine TA_have 4 #[true, true, true, true, true, false, false, false, true, false] [(3, (.b 0 0)), (4, (intA r_4.2.1)), (5, (intA r_4.2.2)), (6, (intA r_6.1)), (7, (intA r_6.2.1)), (9, (intA r_8.1)), (10, (intA r_8.2.1)), (18, (.m [1] 0 met18.length tBool.k)), (19, (intA k19)), (20, (sl tInt r_30.1)), (22, (intA lo22)), (23, (intA hi23)), (24, (intA (i_32 : Int))), (25, (.b 3 0)), (121, (sl tFact r_4.1.facts)), (124, (.q (flat tInt.enc r_30.1) (i_32 * tInt.k)))] [.box [(sl tRelation r_4.1.relations), (sl tFact r_4.1.facts)], .row (flat tBool.enc met18), .dead, .box [(intA 0), .n]] ?_ (fun hj4_22 => ?_)
         ·skip
          refine t1 5 (by kernel_rfl) rfl rfl (TOp_pure (pur_ldT (T := tInt) (i := i_32) (off := 0) rfl one3 rfl rfl hx_i_32 rfl) rfl ?_)
          exact tj hj2_22 rfl (wp 4 (lb rfl) rfl rfl rfl rfl rfl)
         refine TA_have 4 #[true, true, true, true, true, true, false, false, false, false] [(3, (.b 0 0)), (4, (intA r_4.2.1)), (5, (intA r_4.2.2)), (6, (intA r_6.1)), (7, (intA r_6.2.1)), (9, (intA r_8.1)), (10, (intA r_8.2.1)), (18, (.m [1] 0 met18.length tBool.k)), (19, (intA k19)), (20, (sl tInt r_30.1)), (22, (intA lo22)), (23, (intA hi23)), (24, (intA (i_32 : Int))), (121, (sl tFact r_4.1.facts)), (125, (intA x_i_32))] [.box [(sl tRelation r_4.1.relations), (sl tFact r_4.1.facts)], .row (flat tBool.enc met18), .dead] ?_ (fun hj5_22 => ?_)
         ·skip
          refine tf 6 rfl (purI_ixT (T := tFact) sl30 rfl rfl hz_37 hv_38 rfl) rfl rfl (by kernel_rfl) ?_
          refine TA_all [7, 8] (by kernel_rfl) (by decide) ⟨?_, ?_, trivial⟩
          ·skip
           refine ⟨_, rfl, rfl, (TOp_pure (pur_ldTK (T := tFact) (i := n_36) (off := 0) rfl agg60 rfl rfl hv_38 (by decide) rfl) rfl ?_)⟩
           refine t1 8 (by kernel_rfl) rfl rfl (TOp_alloc zero60 rfl rfl ?_)
           exact tj hj0_22 rfl (wp 4 (lb rfl) rfl rfl rfl rfl rfl)
          ·skip
           refine ⟨_, rfl, rfl, (TOp_alloc zero60 rfl rfl ?_)⟩
           exact tj hj1_22 rfl (wp 4 (lb rfl) rfl rfl rfl rfl rfl)
         refine tf 0 rfl (purI_fa_b fld32_1 rfl rfl) rfl rfl (by kernel_rfl) ?_
         refine tf 2 rfl (purI_move rfl) rfl rfl (by kernel_rfl) ?_
         refine tf 3 rfl (purI_move rfl) rfl rfl (by kernel_rfl) ?_
         refine tf 4 rfl (purI_ixT (T := tInt) sl33 rfl rfl rfl hx_i_32 rfl) rfl rfl (by kernel_rfl) ?_
         refine TA_all [1, 5, 8] (by kernel_rfl) (by decide) ⟨?_, ?_, ?_, trivial⟩
         ·skip
          refine ⟨_, rfl, rfl, (TOp_pure (pur_ld_b one30 rfl rfl rfl rfl) rfl ?_)⟩
          refine TA_all [5, 8] (by kernel_rfl) (by decide) ⟨?_, ?_, trivial⟩
          ·skip
           refine ⟨_, rfl, rfl, (TOp_pure (pur_ldT (T := tInt) (i := i_32) (off := 0) rfl one3 rfl rfl hx_i_32 rfl) rfl ?_)⟩
           exact tj hj5_22 rfl (wp 3 (lb rfl) rfl rfl rfl rfl rfl)
          ·skip
           refine ⟨_, rfl, rfl, (TOp_alloc zero60 rfl rfl ?_)⟩
           exact tj hj4_22 rfl (wp 4 (lb rfl) rfl rfl rfl rfl rfl)
         ·skip
          refine ⟨_, rfl, rfl, (TOp_pure (pur_ldT (T := tInt) (i := i_32) (off := 0) rfl one3 rfl rfl hx_i_32 rfl) rfl ?_)⟩
          refine TA_all [1, 8] (by kernel_rfl) (by decide) ⟨?_, ?_, trivial⟩
          ·skip
           refine ⟨_, rfl, rfl, (TOp_pure (pur_ld_b one30 rfl rfl rfl rfl) rfl ?_)⟩
           exact tj hj5_22 rfl (wp 3 (lb rfl) rfl rfl rfl rfl rfl)
          ·skip
           refine ⟨_, rfl, rfl, (TOp_alloc zero60 rfl rfl ?_)⟩
           exact tj hj3_22 rfl (wp 4 (lb rfl) rfl rfl rfl rfl rfl)
         ·skip
          refine ⟨_, rfl, rfl, (TOp_alloc zero60 rfl rfl ?_)⟩
          refine TA_all [1, 5] (by kernel_rfl) (by decide) ⟨?_, ?_, trivial⟩
          ·skip
           refine ⟨_, rfl, rfl, (TOp_pure (pur_ld_b one30 rfl rfl rfl rfl) rfl ?_)⟩
           exact tj hj4_22 rfl (wp 4 (lb rfl) rfl rfl rfl rfl rfl)
          ·skip
           refine ⟨_, rfl, rfl, (TOp_pure (pur_ldT (T := tInt) (i := i_32) (off := 0) rfl one3 rfl rfl hx_i_32 rfl) rfl ?_)⟩
           exact tj hj3_22 rfl (wp 4 (lb rfl) rfl rfl rfl rfl rfl)
        ·rintro _ _
         refine te [(3, (.b 0 0)), (4, (intA r_4.2.1)), (5, (intA r_4.2.2)), (6, (intA r_6.1)), (7, (intA r_6.2.1)), (9, (intA r_8.1)), (10, (intA r_8.2.1)), (18, (.m [1] 0 met18.length tBool.k)), (19, (intA k19)), (20, (sl tInt r_30.1)), (22, (intA lo22)), (23, (intA hi23)), (24, (intA (i_32 : Int))), (25, (.b 3 0))] rfl ?_
         refine T_seq ?_
         obtain ⟨t144_39, J_39, H_40⟩ := bind_inv H
         refine T_cutX (fun x => t144_39 = x) (fun (t144_39 : Bool) => [(3, (.b 0 0)), (4, (intA r_4.2.1)), (5, (intA r_4.2.2)), (6, (intA r_6.1)), (7, (intA r_6.2.1)), (9, (intA r_8.1)), (10, (intA r_8.2.1)), (18, (.m [1] 0 met18.length tBool.k)), (19, (intA k19)), (20, (sl tInt r_30.1)), (22, (intA lo22)), (23, (intA hi23)), (24, (intA (i_32 : Int))), (25, (.b 3 0)), (144, (boolA t144_39))]) (fun (t144_39 : Bool) => [.box [(sl tRelation r_4.1.relations), (sl tFact r_4.1.facts)], .row (flat tBool.enc met18), .dead, .box [(intA v_34.relation), (sl tInt v_34.values)]]) ?_ ?_
         ·replace H := J_39
          refine T_region ?_
          refine Tp rfl rfl (pur_fa_b fld60_0 rfl rfl) rfl ?_
          refine Tp rfl rfl (pur_ld_b one3 rfl rfl rfl rfl) rfl ?_
          refine Tp rfl rfl (pur_move rfl) rfl ?_
          refine Tp rfl rfl (pur_eql rfl rfl rfl) rfl ?_
          refine Tp rfl rfl (pur_move rfl) rfl ?_
          refine TO_split (t := decide (v_34.relation = r_4.2.1)) 132 rfl (fun g_41 => ?_) (fun g_41 => ?_)
          ·replace H := cond_t g_41 H
           refine TO_on rfl rfl (by decide) rfl rfl (TOp_pure (pur_move rfl) rfl ?_)
           refine TO_on rfl rfl (by decide) rfl rfl (TOp_pure (pur_lss rfl rfl rfl) rfl ?_)
           refine TO_on rfl rfl (by decide) rfl rfl (TOp_pure (pur_move rfl) rfl ?_)
           refine TO_split (t := decide (lo22 < 0)) 135 rfl (fun g_42 => ?_) (fun g_42 => ?_)
           ·replace H := cond_t g_42 H
            refine TO_off rfl rfl (by decide) rfl rfl rfl ?_
            refine TO_off rfl rfl (by decide) rfl rfl rfl ?_
            refine TO_off rfl rfl (by decide) rfl rfl rfl ?_
            refine TO_off rfl rfl (by decide) rfl rfl rfl ?_
            refine TO_off rfl rfl (by decide) rfl rfl rfl ?_
            refine TO_off rfl rfl (by decide) rfl rfl rfl ?_
            refine TO_off rfl rfl (by decide) rfl rfl rfl ?_
            refine TO_on rfl rfl (by decide) rfl rfl (TOp_pure (pur_pick (t := true) rfl rfl rfl) rfl ?_)
            refine Tp rfl rfl (pur_pick (t := true) rfl rfl rfl) rfl ?_
            refine TO_nil ?_
            exact joined true (wp 4 (lb rfl) rfl rfl rfl rfl rfl) (some_inj H).symm
           ·replace H := cond_f g_42 H
            refine TO_on rfl rfl (by decide) rfl rfl (TOp_pure (pur_fa_b fld60_1 rfl rfl) rfl ?_)
            refine TO_on rfl rfl (by decide) rfl rfl (TOp_pure (pur_ld_b one33 rfl rfl rfl rfl) rfl ?_)
            refine TO_on rfl rfl (by decide) rfl rfl (TOp_pure (pur_move rfl) rfl ?_)
            obtain ⟨v_43, h_44, H⟩ := bind_inv H
            obtain ⟨n_45, hz_46, hv_47⟩ := getI_inv h_44
            refine TO_on rfl rfl (by decide) rfl rfl (TOp_pure (pur_ixT (T := tInt) sl33 rfl rfl hz_46 hv_47 rfl) rfl ?_)
            refine TO_on rfl rfl (by decide) rfl rfl (TOp_pure (pur_ldT (T := tInt) (i := n_45) (off := 0) rfl one3 rfl rfl hv_47 rfl) rfl ?_)
            refine TO_on rfl rfl (by decide) rfl rfl (TOp_pure (pur_move rfl) rfl ?_)
            refine TO_on rfl rfl (by decide) rfl rfl (TOp_pure (pur_lss rfl rfl rfl) rfl ?_)
            refine TO_on rfl rfl (by decide) rfl rfl (TOp_pure (pur_pick (t := false) rfl rfl rfl) rfl ?_)
            refine Tp rfl rfl (pur_pick (t := true) rfl rfl rfl) rfl ?_
            refine TO_nil ?_
            exact joined (decide (v_43 < lo22)) (wp 4 (lb rfl) rfl rfl rfl rfl rfl) (some_inj H).symm
          ·replace H := cond_f g_41 H
           refine TO_off rfl rfl (by decide) rfl rfl rfl ?_
           refine TO_off rfl rfl (by decide) rfl rfl rfl ?_
           refine TO_off rfl rfl (by decide) rfl rfl rfl ?_
           refine TO_off rfl rfl (by decide) rfl rfl rfl ?_
           refine TO_off rfl rfl (by decide) rfl rfl rfl ?_
           refine TO_off rfl rfl (by decide) rfl rfl rfl ?_
           refine TO_off rfl rfl (by decide) rfl rfl rfl ?_
           refine TO_off rfl rfl (by decide) rfl rfl rfl ?_
           refine toe [(3, (.b 0 0)), (4, (intA r_4.2.1)), (5, (intA r_4.2.2)), (6, (intA r_6.1)), (7, (intA r_6.2.1)), (9, (intA r_8.1)), (10, (intA r_8.2.1)), (18, (.m [1] 0 met18.length tBool.k)), (19, (intA k19)), (20, (sl tInt r_30.1)), (22, (intA lo22)), (23, (intA hi23)), (24, (intA (i_32 : Int))), (25, (.b 3 0)), (132, (boolA false)), (135, (.v undef)), (140, (.v undef))] rfl ?_
           refine TO_off rfl rfl (by decide) rfl rfl rfl ?_
           refine TO_off rfl rfl (by decide) rfl rfl rfl ?_
           refine TO_off rfl rfl (by decide) rfl rfl rfl ?_
           refine Tp rfl rfl (pur_pick (t := false) rfl rfl rfl) rfl ?_
           refine TO_nil ?_
           exact joined false (wp 4 (lb rfl) rfl rfl rfl rfl rfl) (some_inj H).symm
         ·rintro _ rfl
          replace H := H_40
          refine te [(3, (.b 0 0)), (4, (intA r_4.2.1)), (5, (intA r_4.2.2)), (6, (intA r_6.1)), (7, (intA r_6.2.1)), (9, (intA r_8.1)), (10, (intA r_8.2.1)), (18, (.m [1] 0 met18.length tBool.k)), (19, (intA k19)), (20, (sl tInt r_30.1)), (22, (intA lo22)), (23, (intA hi23)), (24, (intA (i_32 : Int))), (25, (.b 3 0)), (144, (boolA t144_39))] rfl ?_
          refine T_cond (t := t144_39) rfl (fun c_48 => ?_) (fun c_48 => ?_)
          ·replace H := cond_t c_48 H
           refine T_region ?_
           refine Tp rfl rfl (pur_fa_b fld60_1 rfl rfl) rfl ?_
           refine Tp rfl rfl (pur_ld_b one33 rfl rfl rfl rfl) rfl ?_
           refine Tp rfl rfl (pur_move rfl) rfl ?_
           obtain ⟨v_49, h_50, H⟩ := bind_inv H
           obtain ⟨n_51, hz_52, hv_53⟩ := getI_inv h_50
           refine Tp rfl rfl (pur_ixT (T := tInt) sl33 rfl rfl hz_52 hv_53 rfl) rfl ?_
           refine Tp rfl rfl (pur_ldT (T := tInt) (i := n_51) (off := 0) rfl one3 rfl rfl hv_53 rfl) rfl ?_
           refine Tp rfl rfl (pur_assign rfl) rfl ?_
           refine TO_nil ?_
           refine te [(3, (.b 0 0)), (4, (intA r_4.2.1)), (5, (intA r_4.2.2)), (6, (intA r_6.1)), (7, (intA r_6.2.1)), (9, (intA r_8.1)), (10, (intA r_8.2.1)), (18, (.m [1] 0 met18.length tBool.k)), (19, (intA k19)), (20, (sl tInt r_30.1)), (22, (intA v_49)), (23, (intA hi23)), (24, (intA (i_32 : Int))), (25, (.b 3 0))] rfl ?_
           refine sr ?_
           refine Tp rfl rfl (pur_fa_b fld60_0 rfl rfl) rfl ?_
           refine Tp rfl rfl (pur_ld_b one3 rfl rfl rfl rfl) rfl ?_
           refine Tp rfl rfl (pur_move rfl) rfl ?_
           refine Tp rfl rfl (pur_eql rfl rfl rfl) rfl ?_
           refine TO_nil ?_
           refine te [(3, (.b 0 0)), (4, (intA r_4.2.1)), (5, (intA r_4.2.2)), (6, (intA r_6.1)), (7, (intA r_6.2.1)), (9, (intA r_8.1)), (10, (intA r_8.2.1)), (18, (.m [1] 0 met18.length tBool.k)), (19, (intA k19)), (20, (sl tInt r_30.1)), (22, (intA v_49)), (23, (intA hi23)), (24, (intA (i_32 : Int))), (25, (.b 3 0)), (153, (boolA (decide (v_34.relation = r_4.2.1))))] rfl ?_
           refine T_cond (t := decide (v_34.relation = r_4.2.1)) rfl (fun c_54 => ?_) (fun c_54 => ?_)
           ·replace H := cond_t c_54 H
            refine T_region ?_
            refine Tp rfl rfl (pur_move rfl) rfl ?_
            refine Tp rfl rfl (pur_fa_b fld60_1 rfl rfl) rfl ?_
            refine Tp rfl rfl (pur_ld_b one33 rfl rfl rfl rfl) rfl ?_
            refine Tp rfl rfl (pur_move rfl) rfl ?_
            refine Tp rfl rfl (pur_ixT (T := tInt) sl33 rfl rfl hz_52 hv_53 rfl) rfl ?_
            refine Tp rfl rfl (pur_ldT (T := tInt) (i := n_51) (off := 0) rfl one3 rfl rfl hv_53 rfl) rfl ?_
            refine Tp rfl rfl (pur_max rfl rfl rfl) rfl ?_
            refine Tp rfl rfl (pur_assign rfl) rfl ?_
            refine TO_nil ?_
            refine te [(3, (.b 0 0)), (4, (intA r_4.2.1)), (5, (intA r_4.2.2)), (6, (intA r_6.1)), (7, (intA r_6.2.1)), (9, (intA r_8.1)), (10, (intA r_8.2.1)), (18, (.m [1] 0 met18.length tBool.k)), (19, (intA k19)), (20, (sl tInt r_30.1)), (22, (intA v_49)), (23, (intA (if hi23 < v_49 then v_49 else hi23))), (24, (intA (i_32 : Int)))] rfl ?_
            refine T_region ?_
            refine Tp rfl rfl (pur_move rfl) rfl ?_
            refine Tp rfl rfl (pur_add rfl rfl rfl (fits64 (by omega) (by omega))) rfl ?_
            refine Tp rfl rfl (pur_assign rfl) rfl ?_
            refine TO_nil ?_
            obtain rfl := some_inj H
            exact again (r_30.1.length - (i_32 + 1)) (i_32 + 1, (v_49, (if hi23 < v_49 then v_49 else hi23))) (by omega) (wp 2 (lb rfl) rfl rfl rfl rfl rfl) ⟨rfl, K33_⟩
           ·replace H := cond_f c_54 H
            refine T_skip ?_
            refine te [(3, (.b 0 0)), (4, (intA r_4.2.1)), (5, (intA r_4.2.2)), (6, (intA r_6.1)), (7, (intA r_6.2.1)), (9, (intA r_8.1)), (10, (intA r_8.2.1)), (18, (.m [1] 0 met18.length tBool.k)), (19, (intA k19)), (20, (sl tInt r_30.1)), (22, (intA v_49)), (23, (intA hi23)), (24, (intA (i_32 : Int)))] rfl ?_
            refine T_region ?_
            refine Tp rfl rfl (pur_move rfl) rfl ?_
            refine Tp rfl rfl (pur_add rfl rfl rfl (fits64 (by omega) (by omega))) rfl ?_
            refine Tp rfl rfl (pur_assign rfl) rfl ?_
            refine TO_nil ?_
            obtain rfl := some_inj H
            exact again (r_30.1.length - (i_32 + 1)) (i_32 + 1, (v_49, hi23)) (by omega) (wp 2 (lb rfl) rfl rfl rfl rfl rfl) ⟨rfl, K33_⟩
          ·replace H := cond_f c_48 H
           refine T_skip ?_
           refine te [(3, (.b 0 0)), (4, (intA r_4.2.1)), (5, (intA r_4.2.2)), (6, (intA r_6.1)), (7, (intA r_6.2.1)), (9, (intA r_8.1)), (10, (intA r_8.2.1)), (18, (.m [1] 0 met18.length tBool.k)), (19, (intA k19)), (20, (sl tInt r_30.1)), (22, (intA lo22)), (23, (intA hi23)), (24, (intA (i_32 : Int))), (25, (.b 3 0))] rfl ?_
           refine sr ?_
           refine Tp rfl rfl (pur_fa_b fld60_0 rfl rfl) rfl ?_
           refine Tp rfl rfl (pur_ld_b one3 rfl rfl rfl rfl) rfl ?_
           refine Tp rfl rfl (pur_move rfl) rfl ?_
           refine Tp rfl rfl (pur_eql rfl rfl rfl) rfl ?_
           refine TO_nil ?_
           refine te [(3, (.b 0 0)), (4, (intA r_4.2.1)), (5, (intA r_4.2.2)), (6, (intA r_6.1)), (7, (intA r_6.2.1)), (9, (intA r_8.1)), (10, (intA r_8.2.1)), (18, (.m [1] 0 met18.length tBool.k)), (19, (intA k19)), (20, (sl tInt r_30.1)), (22, (intA lo22)), (23, (intA hi23)), (24, (intA (i_32 : Int))), (25, (.b 3 0)), (153, (boolA (decide (v_34.relation = r_4.2.1))))] rfl ?_
           refine T_cond (t := decide (v_34.relation = r_4.2.1)) rfl (fun c_55 => ?_) (fun c_55 => ?_)
           ·replace H := cond_t c_55 H
            refine T_region ?_
            refine Tp rfl rfl (pur_move rfl) rfl ?_
            refine Tp rfl rfl (pur_fa_b fld60_1 rfl rfl) rfl ?_
            refine Tp rfl rfl (pur_ld_b one33 rfl rfl rfl rfl) rfl ?_
            refine Tp rfl rfl (pur_move rfl) rfl ?_
            obtain ⟨v_56, h_57, H⟩ := bind_inv H
            obtain ⟨n_58, hz_59, hv_60⟩ := getI_inv h_57
            refine Tp rfl rfl (pur_ixT (T := tInt) sl33 rfl rfl hz_59 hv_60 rfl) rfl ?_
            refine Tp rfl rfl (pur_ldT (T := tInt) (i := n_58) (off := 0) rfl one3 rfl rfl hv_60 rfl) rfl ?_
            refine Tp rfl rfl (pur_max rfl rfl rfl) rfl ?_
            refine Tp rfl rfl (pur_assign rfl) rfl ?_
            refine TO_nil ?_
            refine te [(3, (.b 0 0)), (4, (intA r_4.2.1)), (5, (intA r_4.2.2)), (6, (intA r_6.1)), (7, (intA r_6.2.1)), (9, (intA r_8.1)), (10, (intA r_8.2.1)), (18, (.m [1] 0 met18.length tBool.k)), (19, (intA k19)), (20, (sl tInt r_30.1)), (22, (intA lo22)), (23, (intA (if hi23 < v_56 then v_56 else hi23))), (24, (intA (i_32 : Int)))] rfl ?_
            refine T_region ?_
            refine Tp rfl rfl (pur_move rfl) rfl ?_
            refine Tp rfl rfl (pur_add rfl rfl rfl (fits64 (by omega) (by omega))) rfl ?_
            refine Tp rfl rfl (pur_assign rfl) rfl ?_
            refine TO_nil ?_
            obtain rfl := some_inj H
            exact again (r_30.1.length - (i_32 + 1)) (i_32 + 1, (lo22, (if hi23 < v_56 then v_56 else hi23))) (by omega) (wp 2 (lb rfl) rfl rfl rfl rfl rfl) ⟨rfl, K33_⟩
           ·replace H := cond_f c_55 H
            refine T_skip ?_
            refine te [(3, (.b 0 0)), (4, (intA r_4.2.1)), (5, (intA r_4.2.2)), (6, (intA r_6.1)), (7, (intA r_6.2.1)), (9, (intA r_8.1)), (10, (intA r_8.2.1)), (18, (.m [1] 0 met18.length tBool.k)), (19, (intA k19)), (20, (sl tInt r_30.1)), (22, (intA lo22)), (23, (intA hi23)), (24, (intA (i_32 : Int)))] rfl ?_
            refine T_region ?_
            refine Tp rfl rfl (pur_move rfl) rfl ?_
            refine Tp rfl rfl (pur_add rfl rfl rfl (fits64 (by omega) (by omega))) rfl ?_
            refine Tp rfl rfl (pur_assign rfl) rfl ?_
            refine TO_nil ?_
            obtain rfl := some_inj H
            exact again (r_30.1.length - (i_32 + 1)) (i_32 + 1, (lo22, hi23)) (by omega) (wp 2 (lb rfl) rfl rfl rfl rfl rfl) ⟨rfl, K33_⟩
       ·replace d33 := of_decide_eq_false d33
        obtain rfl := forS_end L33_ (by omega)
        refine T_exit ?_
        refine then_exit ?_
        refine then_exit ?_
        refine block_exit ?_
        replace H := N33_
        refine te [(3, (.b 0 0)), (4, (intA r_4.2.1)), (5, (intA r_4.2.2)), (6, (intA r_6.1)), (7, (intA r_6.2.1)), (9, (intA r_8.1)), (10, (intA r_8.2.1)), (18, (.m [1] 0 met18.length tBool.k)), (19, (intA k19)), (22, (intA lo22)), (23, (intA hi23))] rfl ?_
        refine T_seq ?_
        refine T_cutX (fun x => ((decide (lo22 < r_6.1)) || ((decide (r_6.2.1 < lo22)) || ((decide (hi23 < r_8.1)) || (decide (r_8.2.1 < hi23))))) = x) (fun (t178_61 : Bool) => [(3, (.b 0 0)), (4, (intA r_4.2.1)), (5, (intA r_4.2.2)), (6, (intA r_6.1)), (7, (intA r_6.2.1)), (9, (intA r_8.1)), (10, (intA r_8.2.1)), (18, (.m [1] 0 met18.length tBool.k)), (19, (intA k19)), (22, (intA lo22)), (23, (intA hi23)), (178, (boolA t178_61))]) (fun (t178_61 : Bool) => [.box [(sl tRelation r_4.1.relations), (sl tFact r_4.1.facts)], .row (flat tBool.enc met18)]) ?_ ?_
        ·skip
         refine T_region ?_
         refine Tp rfl rfl (pur_move rfl) rfl ?_
         refine Tp rfl rfl (pur_move rfl) rfl ?_
         refine Tp rfl rfl (pur_lss rfl rfl rfl) rfl ?_
         refine Tp rfl rfl (pur_move rfl) rfl ?_
         refine TO_split (t := decide (lo22 < r_6.1)) 164 rfl (fun g_63 => ?_) (fun g_63 => ?_)
         ·skip
          refine TO_off rfl rfl (by decide) rfl rfl rfl ?_
          refine TO_off rfl rfl (by decide) rfl rfl rfl ?_
          refine TO_off rfl rfl (by decide) rfl rfl rfl ?_
          refine Tp rfl rfl (pur_pick (t := true) rfl rfl rfl) rfl ?_
          refine Tp rfl rfl (pur_move rfl) rfl ?_
          refine TO_off rfl rfl (by decide) rfl rfl rfl ?_
          refine TO_off rfl rfl (by decide) rfl rfl rfl ?_
          refine TO_off rfl rfl (by decide) rfl rfl rfl ?_
          refine toe [(3, (.b 0 0)), (4, (intA r_4.2.1)), (5, (intA r_4.2.2)), (6, (intA r_6.1)), (7, (intA r_6.2.1)), (9, (intA r_8.1)), (10, (intA r_8.2.1)), (18, (.m [1] 0 met18.length tBool.k)), (19, (intA k19)), (22, (intA lo22)), (23, (intA hi23)), (169, (boolA true)), (172, (.v undef))] rfl ?_
          refine Tp rfl rfl (pur_pick (t := true) rfl rfl rfl) rfl ?_
          refine Tp rfl rfl (pur_move rfl) rfl ?_
          refine TO_off rfl rfl (by decide) rfl rfl rfl ?_
          refine TO_off rfl rfl (by decide) rfl rfl rfl ?_
          refine TO_off rfl rfl (by decide) rfl rfl rfl ?_
          refine Tp rfl rfl (pur_pick (t := true) rfl rfl rfl) rfl ?_
          refine TO_nil ?_
          exact joined true (wp 2 (lb rfl) rfl rfl rfl rfl rfl) (by first | exact Eq.symm ((or_T g_63 rfl)))
         ·skip
          refine TO_on rfl rfl (by decide) rfl rfl (TOp_pure (pur_move rfl) rfl ?_)
          refine TO_on rfl rfl (by decide) rfl rfl (TOp_pure (pur_move rfl) rfl ?_)
          refine TO_on rfl rfl (by decide) rfl rfl (TOp_pure (pur_gtr rfl rfl rfl) rfl ?_)
          refine Tp rfl rfl (pur_pick (t := false) rfl rfl rfl) rfl ?_
          refine Tp rfl rfl (pur_move rfl) rfl ?_
          refine TO_split (t := decide (r_6.2.1 < lo22)) 169 rfl (fun g_64 => ?_) (fun g_64 => ?_)
          ·skip
           refine TO_off rfl rfl (by decide) rfl rfl rfl ?_
           refine TO_off rfl rfl (by decide) rfl rfl rfl ?_
           refine TO_off rfl rfl (by decide) rfl rfl rfl ?_
           refine Tp rfl rfl (pur_pick (t := true) rfl rfl rfl) rfl ?_
           refine Tp rfl rfl (pur_move rfl) rfl ?_
           refine TO_off rfl rfl (by decide) rfl rfl rfl ?_
           refine TO_off rfl rfl (by decide) rfl rfl rfl ?_
           refine TO_off rfl rfl (by decide) rfl rfl rfl ?_
           refine Tp rfl rfl (pur_pick (t := true) rfl rfl rfl) rfl ?_
           refine TO_nil ?_
           exact joined true (wp 2 (lb rfl) rfl rfl rfl rfl rfl) (by first | exact Eq.symm ((or_F g_63 (or_T g_64 rfl))))
          ·skip
           refine TO_on rfl rfl (by decide) rfl rfl (TOp_pure (pur_move rfl) rfl ?_)
           refine TO_on rfl rfl (by decide) rfl rfl (TOp_pure (pur_move rfl) rfl ?_)
           refine TO_on rfl rfl (by decide) rfl rfl (TOp_pure (pur_lss rfl rfl rfl) rfl ?_)
           refine Tp rfl rfl (pur_pick (t := false) rfl rfl rfl) rfl ?_
           refine Tp rfl rfl (pur_move rfl) rfl ?_
           refine TO_split (t := decide (hi23 < r_8.1)) 174 rfl (fun g_65 => ?_) (fun g_65 => ?_)
           ·skip
            refine TO_off rfl rfl (by decide) rfl rfl rfl ?_
            refine TO_off rfl rfl (by decide) rfl rfl rfl ?_
            refine TO_off rfl rfl (by decide) rfl rfl rfl ?_
            refine Tp rfl rfl (pur_pick (t := true) rfl rfl rfl) rfl ?_
            refine TO_nil ?_
            exact joined true (wp 2 (lb rfl) rfl rfl rfl rfl rfl) (by first | exact Eq.symm ((or_F g_63 (or_F g_64 (or_T g_65 rfl)))))
           ·skip
            refine TO_on rfl rfl (by decide) rfl rfl (TOp_pure (pur_move rfl) rfl ?_)
            refine TO_on rfl rfl (by decide) rfl rfl (TOp_pure (pur_move rfl) rfl ?_)
            refine TO_on rfl rfl (by decide) rfl rfl (TOp_pure (pur_gtr rfl rfl rfl) rfl ?_)
            refine Tp rfl rfl (pur_pick (t := false) rfl rfl rfl) rfl ?_
            refine TO_nil ?_
            exact joined (decide (r_8.2.1 < hi23)) (wp 2 (lb rfl) rfl rfl rfl rfl rfl) (by first | exact Eq.symm ((or_F g_63 (or_F g_64 (or_F g_65 rfl)))))
        ·rintro _ rfl
         refine te [(3, (.b 0 0)), (4, (intA r_4.2.1)), (5, (intA r_4.2.2)), (6, (intA r_6.1)), (7, (intA r_6.2.1)), (9, (intA r_8.1)), (10, (intA r_8.2.1)), (18, (.m [1] 0 met18.length tBool.k)), (19, (intA k19)), (22, (intA lo22)), (23, (intA hi23)), (178, (boolA ((decide (lo22 < r_6.1)) || ((decide (r_6.2.1 < lo22)) || ((decide (hi23 < r_8.1)) || (decide (r_8.2.1 < hi23)))))))] rfl ?_
         refine T_cond (t := ((decide (lo22 < r_6.1)) || ((decide (r_6.2.1 < lo22)) || ((decide (hi23 < r_8.1)) || (decide (r_8.2.1 < hi23)))))) rfl (fun c_66 => ?_) (fun c_66 => ?_)
         ·replace H := cond_t c_66 H
          refine sr ?_
          refine Tp rfl rfl (pur_assign rfl) rfl ?_
          refine TO_nil ?_
          refine te [(2, (boolA false))] rfl ?_
          refine T_ret ?_
          refine then_ret ?_
          refine block_ret ?_
          refine then_ret ?_
          refine then_ret ?_
          refine block_ret ?_
          refine then_ret ?_
          obtain rfl := some_inj H
          obtain rfl := some_inj K26_
          replace H := onS_r N26_
          obtain rfl := some_inj H
          refine end_ret (.tmp .nil) rfl rfl ⟨?_, rfl⟩
          rfl
         ·replace H := cond_f c_66 H
          refine T_skip ?_
          refine te [(3, (.b 0 0)), (4, (intA r_4.2.1)), (5, (intA r_4.2.2)), (6, (intA r_6.1)), (7, (intA r_6.2.1)), (9, (intA r_8.1)), (10, (intA r_8.2.1)), (18, (.m [1] 0 met18.length tBool.k)), (19, (intA k19)), (22, (intA lo22)), (23, (intA hi23))] rfl ?_
          obtain ⟨met18_67, J_67, H_68⟩ := bind_inv H
          refine T_cutX (fun x => met18_67 = x) (fun (met18_67 : (List Bool)) => [(3, (.b 0 0)), (4, (intA r_4.2.1)), (5, (intA r_4.2.2)), (6, (intA r_6.1)), (7, (intA r_6.2.1)), (9, (intA r_8.1)), (10, (intA r_8.2.1)), (18, (.m [1] 0 met18_67.length tBool.k)), (19, (intA k19)), (22, (intA lo22)), (23, (intA hi23))]) (fun (met18_67 : (List Bool)) => [.box [(sl tRelation r_4.1.relations), (sl tFact r_4.1.facts)], .row (flat tBool.enc met18_67)]) ?_ ?_
          ·replace H := J_67
           refine T_region ?_
           refine Tp rfl rfl (pur_move rfl) rfl ?_
           refine Tp rfl rfl (pur_move rfl) rfl ?_
           obtain ⟨v_69, h_70, H⟩ := bind_inv H
           obtain ⟨n_71, hz_72, hv_73⟩ := getI_inv h_70
           refine Tp rfl rfl (pur_ixM (T := tBool) sl58 rfl rfl hz_72 hv_73 rfl) rfl ?_
           refine Tp rfl rfl (pur_ldE (f := tBool.enc) (k := tBool.k) (i := n_71) (off := 0) tBool.len rfl one4 rfl rfl rfl hv_73 rfl rfl) rfl ?_
           refine Tp rfl rfl (pur_move rfl) rfl ?_
           refine TO_split (t := v_69) 183 rfl (fun g_74 => ?_) (fun g_74 => ?_)
           ·replace H := cond_t g_74 H
            refine TO_off rfl rfl (by decide) rfl rfl rfl ?_
            refine TO_off rfl rfl (by decide) rfl rfl rfl ?_
            refine TO_off rfl rfl (by decide) rfl rfl rfl ?_
            refine Tp rfl rfl (pur_pick (t := true) rfl rfl rfl) rfl ?_
            refine Tp rfl rfl (pur_ixM (T := tBool) sl58 rfl rfl hz_72 hv_73 rfl) rfl ?_
            refine TO_cons rfl (TOp_setT (f := tBool.enc) (z := 0) (y := true) tBool.len tBool.pos hz_72 sz4 rfl rfl rfl rfl rfl hv_73 rfl rfl ?_)
            refine TO_env (E' := [(3, (.b 0 0)), (4, (intA r_4.2.1)), (5, (intA r_4.2.2)), (6, (intA r_6.1)), (7, (intA r_6.2.1)), (9, (intA r_8.1)), (10, (intA r_8.2.1)), (18, (.m [1] 0 (met18.set (0 : Int).toNat true).length tBool.k)), (19, (intA k19)), (22, (intA lo22)), (23, (intA hi23)), (179, (.m [1] 0 (met18.set (0 : Int).toNat true).length tBool.k)), (180, (.m [1] 0 (met18.set (0 : Int).toNat true).length tBool.k)), (182, (boolA v_69)), (183, (boolA true)), (184, (.v undef)), (185, (.v undef)), (186, (.v undef)), (187, (boolA true))]) ⟨rfl, rfl, rfl, rfl, rfl, rfl, rfl, (congrArg (fun q => A.m [1] 0 q tBool.k) (List.length_set ..).symm), rfl, rfl, rfl, (congrArg (fun q => A.m [1] 0 q tBool.k) (List.length_set ..).symm), (congrArg (fun q => A.m [1] 0 q tBool.k) (List.length_set ..).symm), rfl, rfl, rfl, rfl, rfl, rfl, trivial⟩ ?_
            refine TO_st (σ' := [.box [(sl tRelation r_4.1.relations), (sl tFact r_4.1.facts)], .row (flat tBool.enc (met18.set (0 : Int).toNat true))]) rfl ?_
            refine TO_nil ?_
            exact joined (met18.set (0 : Int).toNat true) (wp 2 (lb rfl) rfl rfl rfl rfl rfl) (some_inj H).symm
           ·replace H := cond_f g_74 H
            refine TO_on rfl rfl (by decide) rfl rfl (TOp_pure (pur_move rfl) rfl ?_)
            refine TO_on rfl rfl (by decide) rfl rfl (TOp_pure (pur_move rfl) rfl ?_)
            refine TO_on rfl rfl (by decide) rfl rfl (TOp_pure (pur_eql rfl rfl rfl) rfl ?_)
            refine Tp rfl rfl (pur_pick (t := false) rfl rfl rfl) rfl ?_
            refine Tp rfl rfl (pur_ixM (T := tBool) sl58 rfl rfl hz_72 hv_73 rfl) rfl ?_
            refine TO_cons rfl (TOp_setT (f := tBool.enc) (z := 0) (y := decide (lo22 = r_6.1)) tBool.len tBool.pos hz_72 sz4 rfl rfl rfl rfl rfl hv_73 rfl rfl ?_)
            refine TO_env (E' := [(3, (.b 0 0)), (4, (intA r_4.2.1)), (5, (intA r_4.2.2)), (6, (intA r_6.1)), (7, (intA r_6.2.1)), (9, (intA r_8.1)), (10, (intA r_8.2.1)), (18, (.m [1] 0 (met18.set (0 : Int).toNat (decide (lo22 = r_6.1))).length tBool.k)), (19, (intA k19)), (22, (intA lo22)), (23, (intA hi23)), (179, (.m [1] 0 (met18.set (0 : Int).toNat (decide (lo22 = r_6.1))).length tBool.k)), (180, (.m [1] 0 (met18.set (0 : Int).toNat (decide (lo22 = r_6.1))).length tBool.k)), (182, (boolA v_69)), (183, (boolA false)), (184, (intA lo22)), (185, (intA r_6.1)), (186, (boolA (decide (lo22 = r_6.1)))), (187, (boolA (decide (lo22 = r_6.1))))]) ⟨rfl, rfl, rfl, rfl, rfl, rfl, rfl, (congrArg (fun q => A.m [1] 0 q tBool.k) (List.length_set ..).symm), rfl, rfl, rfl, (congrArg (fun q => A.m [1] 0 q tBool.k) (List.length_set ..).symm), (congrArg (fun q => A.m [1] 0 q tBool.k) (List.length_set ..).symm), rfl, rfl, rfl, rfl, rfl, rfl, trivial⟩ ?_
            refine TO_st (σ' := [.box [(sl tRelation r_4.1.relations), (sl tFact r_4.1.facts)], .row (flat tBool.enc (met18.set (0 : Int).toNat (decide (lo22 = r_6.1))))]) rfl ?_
            refine TO_nil ?_
            exact joined (met18.set (0 : Int).toNat (decide (lo22 = r_6.1))) (wp 2 (lb rfl) rfl rfl rfl rfl rfl) (some_inj H).symm
          ·rintro _ rfl
           replace H := H_68
           refine te [(3, (.b 0 0)), (4, (intA r_4.2.1)), (5, (intA r_4.2.2)), (6, (intA r_6.1)), (7, (intA r_6.2.1)), (9, (intA r_8.1)), (10, (intA r_8.2.1)), (18, (.m [1] 0 met18_67.length tBool.k)), (19, (intA k19)), (22, (intA lo22)), (23, (intA hi23))] rfl ?_
           obtain ⟨met18_75, J_75, H_76⟩ := bind_inv H
           refine T_cutX (fun x => met18_75 = x) (fun (met18_75 : (List Bool)) => [(3, (.b 0 0)), (4, (intA r_4.2.1)), (5, (intA r_4.2.2)), (6, (intA r_6.1)), (7, (intA r_6.2.1)), (9, (intA r_8.1)), (10, (intA r_8.2.1)), (18, (.m [1] 0 met18_75.length tBool.k)), (19, (intA k19)), (23, (intA hi23))]) (fun (met18_75 : (List Bool)) => [.box [(sl tRelation r_4.1.relations), (sl tFact r_4.1.facts)], .row (flat tBool.enc met18_75)]) ?_ ?_
           ·replace H := J_75
            refine T_region ?_
            refine Tp rfl rfl (pur_move rfl) rfl ?_
            refine Tp rfl rfl (pur_move rfl) rfl ?_
            obtain ⟨v_77, h_78, H⟩ := bind_inv H
            obtain ⟨n_79, hz_80, hv_81⟩ := getI_inv h_78
            refine Tp rfl rfl (pur_ixM (T := tBool) sl58 rfl rfl hz_80 hv_81 rfl) rfl ?_
            refine Tp rfl rfl (pur_ldE (f := tBool.enc) (k := tBool.k) (i := n_79) (off := 0) tBool.len rfl one4 rfl rfl rfl hv_81 rfl rfl) rfl ?_
            refine Tp rfl rfl (pur_move rfl) rfl ?_
            refine TO_split (t := v_77) 193 rfl (fun g_82 => ?_) (fun g_82 => ?_)
            ·replace H := cond_t g_82 H
             refine TO_off rfl rfl (by decide) rfl rfl rfl ?_
             refine TO_off rfl rfl (by decide) rfl rfl rfl ?_
             refine TO_off rfl rfl (by decide) rfl rfl rfl ?_
             refine Tp rfl rfl (pur_pick (t := true) rfl rfl rfl) rfl ?_
             refine Tp rfl rfl (pur_ixM (T := tBool) sl58 rfl rfl hz_80 hv_81 rfl) rfl ?_
             refine TO_cons rfl (TOp_setT (f := tBool.enc) (z := 1) (y := true) tBool.len tBool.pos hz_80 sz4 rfl rfl rfl rfl rfl hv_81 rfl rfl ?_)
             refine TO_env (E' := [(3, (.b 0 0)), (4, (intA r_4.2.1)), (5, (intA r_4.2.2)), (6, (intA r_6.1)), (7, (intA r_6.2.1)), (9, (intA r_8.1)), (10, (intA r_8.2.1)), (18, (.m [1] 0 (met18_67.set (1 : Int).toNat true).length tBool.k)), (19, (intA k19)), (22, (intA lo22)), (23, (intA hi23)), (189, (.m [1] 0 (met18_67.set (1 : Int).toNat true).length tBool.k)), (190, (.m [1] 0 (met18_67.set (1 : Int).toNat true).length tBool.k)), (192, (boolA v_77)), (193, (boolA true)), (194, (.v undef)), (195, (.v undef)), (196, (.v undef)), (197, (boolA true))]) ⟨rfl, rfl, rfl, rfl, rfl, rfl, rfl, (congrArg (fun q => A.m [1] 0 q tBool.k) (List.length_set ..).symm), rfl, rfl, rfl, (congrArg (fun q => A.m [1] 0 q tBool.k) (List.length_set ..).symm), (congrArg (fun q => A.m [1] 0 q tBool.k) (List.length_set ..).symm), rfl, rfl, rfl, rfl, rfl, rfl, trivial⟩ ?_
             refine TO_st (σ' := [.box [(sl tRelation r_4.1.relations), (sl tFact r_4.1.facts)], .row (flat tBool.enc (met18_67.set (1 : Int).toNat true))]) rfl ?_
             refine TO_nil ?_
             exact joined (met18_67.set (1 : Int).toNat true) (wp 2 (lb rfl) rfl rfl rfl rfl rfl) (some_inj H).symm
            ·replace H := cond_f g_82 H
             refine TO_on rfl rfl (by decide) rfl rfl (TOp_pure (pur_move rfl) rfl ?_)
             refine TO_on rfl rfl (by decide) rfl rfl (TOp_pure (pur_move rfl) rfl ?_)
             refine TO_on rfl rfl (by decide) rfl rfl (TOp_pure (pur_eql rfl rfl rfl) rfl ?_)
             refine Tp rfl rfl (pur_pick (t := false) rfl rfl rfl) rfl ?_
             refine Tp rfl rfl (pur_ixM (T := tBool) sl58 rfl rfl hz_80 hv_81 rfl) rfl ?_
             refine TO_cons rfl (TOp_setT (f := tBool.enc) (z := 1) (y := decide (lo22 = r_6.2.1)) tBool.len tBool.pos hz_80 sz4 rfl rfl rfl rfl rfl hv_81 rfl rfl ?_)
             refine TO_env (E' := [(3, (.b 0 0)), (4, (intA r_4.2.1)), (5, (intA r_4.2.2)), (6, (intA r_6.1)), (7, (intA r_6.2.1)), (9, (intA r_8.1)), (10, (intA r_8.2.1)), (18, (.m [1] 0 (met18_67.set (1 : Int).toNat (decide (lo22 = r_6.2.1))).length tBool.k)), (19, (intA k19)), (22, (intA lo22)), (23, (intA hi23)), (189, (.m [1] 0 (met18_67.set (1 : Int).toNat (decide (lo22 = r_6.2.1))).length tBool.k)), (190, (.m [1] 0 (met18_67.set (1 : Int).toNat (decide (lo22 = r_6.2.1))).length tBool.k)), (192, (boolA v_77)), (193, (boolA false)), (194, (intA lo22)), (195, (intA r_6.2.1)), (196, (boolA (decide (lo22 = r_6.2.1)))), (197, (boolA (decide (lo22 = r_6.2.1))))]) ⟨rfl, rfl, rfl, rfl, rfl, rfl, rfl, (congrArg (fun q => A.m [1] 0 q tBool.k) (List.length_set ..).symm), rfl, rfl, rfl, (congrArg (fun q => A.m [1] 0 q tBool.k) (List.length_set ..).symm), (congrArg (fun q => A.m [1] 0 q tBool.k) (List.length_set ..).symm), rfl, rfl, rfl, rfl, rfl, rfl, trivial⟩ ?_
             refine TO_st (σ' := [.box [(sl tRelation r_4.1.relations), (sl tFact r_4.1.facts)], .row (flat tBool.enc (met18_67.set (1 : Int).toNat (decide (lo22 = r_6.2.1))))]) rfl ?_
             refine TO_nil ?_
             exact joined (met18_67.set (1 : Int).toNat (decide (lo22 = r_6.2.1))) (wp 2 (lb rfl) rfl rfl rfl rfl rfl) (some_inj H).symm
           ·rintro _ rfl
            replace H := H_76
            refine te [(3, (.b 0 0)), (4, (intA r_4.2.1)), (5, (intA r_4.2.2)), (6, (intA r_6.1)), (7, (intA r_6.2.1)), (9, (intA r_8.1)), (10, (intA r_8.2.1)), (18, (.m [1] 0 met18_75.length tBool.k)), (19, (intA k19)), (23, (intA hi23))] rfl ?_
            obtain ⟨met18_83, J_83, H_84⟩ := bind_inv H
            refine T_cutX (fun x => met18_83 = x) (fun (met18_83 : (List Bool)) => [(3, (.b 0 0)), (4, (intA r_4.2.1)), (5, (intA r_4.2.2)), (6, (intA r_6.1)), (7, (intA r_6.2.1)), (9, (intA r_8.1)), (10, (intA r_8.2.1)), (18, (.m [1] 0 met18_83.length tBool.k)), (19, (intA k19)), (23, (intA hi23))]) (fun (met18_83 : (List Bool)) => [.box [(sl tRelation r_4.1.relations), (sl tFact r_4.1.facts)], .row (flat tBool.enc met18_83)]) ?_ ?_
            ·replace H := J_83
             refine T_region ?_
             refine Tp rfl rfl (pur_move rfl) rfl ?_
             refine Tp rfl rfl (pur_move rfl) rfl ?_
             obtain ⟨v_85, h_86, H⟩ := bind_inv H
             obtain ⟨n_87, hz_88, hv_89⟩ := getI_inv h_86
             refine Tp rfl rfl (pur_ixM (T := tBool) sl58 rfl rfl hz_88 hv_89 rfl) rfl ?_
             refine Tp rfl rfl (pur_ldE (f := tBool.enc) (k := tBool.k) (i := n_87) (off := 0) tBool.len rfl one4 rfl rfl rfl hv_89 rfl rfl) rfl ?_
             refine Tp rfl rfl (pur_move rfl) rfl ?_
             refine TO_split (t := v_85) 203 rfl (fun g_90 => ?_) (fun g_90 => ?_)
             ·replace H := cond_t g_90 H
              refine TO_off rfl rfl (by decide) rfl rfl rfl ?_
              refine TO_off rfl rfl (by decide) rfl rfl rfl ?_
              refine TO_off rfl rfl (by decide) rfl rfl rfl ?_
              refine Tp rfl rfl (pur_pick (t := true) rfl rfl rfl) rfl ?_
              refine Tp rfl rfl (pur_ixM (T := tBool) sl58 rfl rfl hz_88 hv_89 rfl) rfl ?_
              refine TO_cons rfl (TOp_setT (f := tBool.enc) (z := 2) (y := true) tBool.len tBool.pos hz_88 sz4 rfl rfl rfl rfl rfl hv_89 rfl rfl ?_)
              refine TO_env (E' := [(3, (.b 0 0)), (4, (intA r_4.2.1)), (5, (intA r_4.2.2)), (6, (intA r_6.1)), (7, (intA r_6.2.1)), (9, (intA r_8.1)), (10, (intA r_8.2.1)), (18, (.m [1] 0 (met18_75.set (2 : Int).toNat true).length tBool.k)), (19, (intA k19)), (23, (intA hi23)), (199, (.m [1] 0 (met18_75.set (2 : Int).toNat true).length tBool.k)), (200, (.m [1] 0 (met18_75.set (2 : Int).toNat true).length tBool.k)), (202, (boolA v_85)), (203, (boolA true)), (204, (.v undef)), (205, (.v undef)), (206, (.v undef)), (207, (boolA true))]) ⟨rfl, rfl, rfl, rfl, rfl, rfl, rfl, (congrArg (fun q => A.m [1] 0 q tBool.k) (List.length_set ..).symm), rfl, rfl, (congrArg (fun q => A.m [1] 0 q tBool.k) (List.length_set ..).symm), (congrArg (fun q => A.m [1] 0 q tBool.k) (List.length_set ..).symm), rfl, rfl, rfl, rfl, rfl, rfl, trivial⟩ ?_
              refine TO_st (σ' := [.box [(sl tRelation r_4.1.relations), (sl tFact r_4.1.facts)], .row (flat tBool.enc (met18_75.set (2 : Int).toNat true))]) rfl ?_
              refine TO_nil ?_
              exact joined (met18_75.set (2 : Int).toNat true) (wp 2 (lb rfl) rfl rfl rfl rfl rfl) (some_inj H).symm
             ·replace H := cond_f g_90 H
              refine TO_on rfl rfl (by decide) rfl rfl (TOp_pure (pur_move rfl) rfl ?_)
              refine TO_on rfl rfl (by decide) rfl rfl (TOp_pure (pur_move rfl) rfl ?_)
              refine TO_on rfl rfl (by decide) rfl rfl (TOp_pure (pur_eql rfl rfl rfl) rfl ?_)
              refine Tp rfl rfl (pur_pick (t := false) rfl rfl rfl) rfl ?_
              refine Tp rfl rfl (pur_ixM (T := tBool) sl58 rfl rfl hz_88 hv_89 rfl) rfl ?_
              refine TO_cons rfl (TOp_setT (f := tBool.enc) (z := 2) (y := decide (hi23 = r_8.1)) tBool.len tBool.pos hz_88 sz4 rfl rfl rfl rfl rfl hv_89 rfl rfl ?_)
              refine TO_env (E' := [(3, (.b 0 0)), (4, (intA r_4.2.1)), (5, (intA r_4.2.2)), (6, (intA r_6.1)), (7, (intA r_6.2.1)), (9, (intA r_8.1)), (10, (intA r_8.2.1)), (18, (.m [1] 0 (met18_75.set (2 : Int).toNat (decide (hi23 = r_8.1))).length tBool.k)), (19, (intA k19)), (23, (intA hi23)), (199, (.m [1] 0 (met18_75.set (2 : Int).toNat (decide (hi23 = r_8.1))).length tBool.k)), (200, (.m [1] 0 (met18_75.set (2 : Int).toNat (decide (hi23 = r_8.1))).length tBool.k)), (202, (boolA v_85)), (203, (boolA false)), (204, (intA hi23)), (205, (intA r_8.1)), (206, (boolA (decide (hi23 = r_8.1)))), (207, (boolA (decide (hi23 = r_8.1))))]) ⟨rfl, rfl, rfl, rfl, rfl, rfl, rfl, (congrArg (fun q => A.m [1] 0 q tBool.k) (List.length_set ..).symm), rfl, rfl, (congrArg (fun q => A.m [1] 0 q tBool.k) (List.length_set ..).symm), (congrArg (fun q => A.m [1] 0 q tBool.k) (List.length_set ..).symm), rfl, rfl, rfl, rfl, rfl, rfl, trivial⟩ ?_
              refine TO_st (σ' := [.box [(sl tRelation r_4.1.relations), (sl tFact r_4.1.facts)], .row (flat tBool.enc (met18_75.set (2 : Int).toNat (decide (hi23 = r_8.1))))]) rfl ?_
              refine TO_nil ?_
              exact joined (met18_75.set (2 : Int).toNat (decide (hi23 = r_8.1))) (wp 2 (lb rfl) rfl rfl rfl rfl rfl) (some_inj H).symm
            ·rintro _ rfl
             replace H := H_84
             refine te [(3, (.b 0 0)), (4, (intA r_4.2.1)), (5, (intA r_4.2.2)), (6, (intA r_6.1)), (7, (intA r_6.2.1)), (9, (intA r_8.1)), (10, (intA r_8.2.1)), (18, (.m [1] 0 met18_83.length tBool.k)), (19, (intA k19)), (23, (intA hi23))] rfl ?_
             refine T_region ?_
             refine Tp rfl rfl (pur_move rfl) rfl ?_
             refine Tp rfl rfl (pur_move rfl) rfl ?_
             obtain ⟨v_91, h_92, H⟩ := bind_inv H
             obtain ⟨n_93, hz_94, hv_95⟩ := getI_inv h_92
             refine Tp rfl rfl (pur_ixM (T := tBool) sl58 rfl rfl hz_94 hv_95 rfl) rfl ?_
             refine Tp rfl rfl (pur_ldE (f := tBool.enc) (k := tBool.k) (i := n_93) (off := 0) tBool.len rfl one4 rfl rfl rfl hv_95 rfl rfl) rfl ?_
             refine Tp rfl rfl (pur_move rfl) rfl ?_
             refine TO_split (t := v_91) 213 rfl (fun g_96 => ?_) (fun g_96 => ?_)
             ·replace H := cond_t g_96 H
              refine TO_off rfl rfl (by decide) rfl rfl rfl ?_
              refine TO_off rfl rfl (by decide) rfl rfl rfl ?_
              refine TO_off rfl rfl (by decide) rfl rfl rfl ?_
              refine Tp rfl rfl (pur_pick (t := true) rfl rfl rfl) rfl ?_
              refine Tp rfl rfl (pur_ixM (T := tBool) sl58 rfl rfl hz_94 hv_95 rfl) rfl ?_
              refine TO_cons rfl (TOp_setT (f := tBool.enc) (z := 3) (y := true) tBool.len tBool.pos hz_94 sz4 rfl rfl rfl rfl rfl hv_95 rfl rfl ?_)
              refine TO_env (E' := [(3, (.b 0 0)), (4, (intA r_4.2.1)), (5, (intA r_4.2.2)), (6, (intA r_6.1)), (7, (intA r_6.2.1)), (9, (intA r_8.1)), (10, (intA r_8.2.1)), (18, (.m [1] 0 (met18_83.set (3 : Int).toNat true).length tBool.k)), (19, (intA k19)), (23, (intA hi23)), (209, (.m [1] 0 (met18_83.set (3 : Int).toNat true).length tBool.k)), (210, (.m [1] 0 (met18_83.set (3 : Int).toNat true).length tBool.k)), (212, (boolA v_91)), (213, (boolA true)), (214, (.v undef)), (215, (.v undef)), (216, (.v undef)), (217, (boolA true))]) ⟨rfl, rfl, rfl, rfl, rfl, rfl, rfl, (congrArg (fun q => A.m [1] 0 q tBool.k) (List.length_set ..).symm), rfl, rfl, (congrArg (fun q => A.m [1] 0 q tBool.k) (List.length_set ..).symm), (congrArg (fun q => A.m [1] 0 q tBool.k) (List.length_set ..).symm), rfl, rfl, rfl, rfl, rfl, rfl, trivial⟩ ?_
              refine TO_st (σ' := [.box [(sl tRelation r_4.1.relations), (sl tFact r_4.1.facts)], .row (flat tBool.enc (met18_83.set (3 : Int).toNat true))]) rfl ?_
              refine TO_nil ?_
              refine te [(3, (.b 0 0)), (4, (intA r_4.2.1)), (5, (intA r_4.2.2)), (6, (intA r_6.1)), (7, (intA r_6.2.1)), (9, (intA r_8.1)), (10, (intA r_8.2.1)), (18, (.m [1] 0 (met18_83.set (3 : Int).toNat true).length tBool.k)), (19, (intA k19))] rfl ?_
              refine T_region ?_
              refine Tp rfl rfl (pur_move rfl) rfl ?_
              refine Tp rfl rfl (pur_wadd rfl rfl rfl) rfl ?_
              refine Tp rfl rfl (pur_assign rfl) rfl ?_
              refine TO_nil ?_
              obtain rfl := some_inj H
              exact again k26 ((met18_83.set (3 : Int).toNat true), (w64 (k19 + 1))) (Nat.lt_succ_self _) (wp 2 (lb rfl) rfl rfl rfl rfl rfl) K26_
             ·replace H := cond_f g_96 H
              refine TO_on rfl rfl (by decide) rfl rfl (TOp_pure (pur_move rfl) rfl ?_)
              refine TO_on rfl rfl (by decide) rfl rfl (TOp_pure (pur_move rfl) rfl ?_)
              refine TO_on rfl rfl (by decide) rfl rfl (TOp_pure (pur_eql rfl rfl rfl) rfl ?_)
              refine Tp rfl rfl (pur_pick (t := false) rfl rfl rfl) rfl ?_
              refine Tp rfl rfl (pur_ixM (T := tBool) sl58 rfl rfl hz_94 hv_95 rfl) rfl ?_
              refine TO_cons rfl (TOp_setT (f := tBool.enc) (z := 3) (y := decide (hi23 = r_8.2.1)) tBool.len tBool.pos hz_94 sz4 rfl rfl rfl rfl rfl hv_95 rfl rfl ?_)
              refine TO_env (E' := [(3, (.b 0 0)), (4, (intA r_4.2.1)), (5, (intA r_4.2.2)), (6, (intA r_6.1)), (7, (intA r_6.2.1)), (9, (intA r_8.1)), (10, (intA r_8.2.1)), (18, (.m [1] 0 (met18_83.set (3 : Int).toNat (decide (hi23 = r_8.2.1))).length tBool.k)), (19, (intA k19)), (23, (intA hi23)), (209, (.m [1] 0 (met18_83.set (3 : Int).toNat (decide (hi23 = r_8.2.1))).length tBool.k)), (210, (.m [1] 0 (met18_83.set (3 : Int).toNat (decide (hi23 = r_8.2.1))).length tBool.k)), (212, (boolA v_91)), (213, (boolA false)), (214, (intA hi23)), (215, (intA r_8.2.1)), (216, (boolA (decide (hi23 = r_8.2.1)))), (217, (boolA (decide (hi23 = r_8.2.1))))]) ⟨rfl, rfl, rfl, rfl, rfl, rfl, rfl, (congrArg (fun q => A.m [1] 0 q tBool.k) (List.length_set ..).symm), rfl, rfl, (congrArg (fun q => A.m [1] 0 q tBool.k) (List.length_set ..).symm), (congrArg (fun q => A.m [1] 0 q tBool.k) (List.length_set ..).symm), rfl, rfl, rfl, rfl, rfl, rfl, trivial⟩ ?_
              refine TO_st (σ' := [.box [(sl tRelation r_4.1.relations), (sl tFact r_4.1.facts)], .row (flat tBool.enc (met18_83.set (3 : Int).toNat (decide (hi23 = r_8.2.1))))]) rfl ?_
              refine TO_nil ?_
              refine te [(3, (.b 0 0)), (4, (intA r_4.2.1)), (5, (intA r_4.2.2)), (6, (intA r_6.1)), (7, (intA r_6.2.1)), (9, (intA r_8.1)), (10, (intA r_8.2.1)), (18, (.m [1] 0 (met18_83.set (3 : Int).toNat (decide (hi23 = r_8.2.1))).length tBool.k)), (19, (intA k19))] rfl ?_
              refine T_region ?_
              refine Tp rfl rfl (pur_move rfl) rfl ?_
              refine Tp rfl rfl (pur_wadd rfl rfl rfl) rfl ?_
              refine Tp rfl rfl (pur_assign rfl) rfl ?_
              refine TO_nil ?_
              obtain rfl := some_inj H
              exact again k26 ((met18_83.set (3 : Int).toNat (decide (hi23 = r_8.2.1))), (w64 (k19 + 1))) (Nat.lt_succ_self _) (wp 2 (lb rfl) rfl rfl rfl rfl rfl) K26_
      ·replace H := cond_f c_29 H
       refine T_exit ?_
       refine then_exit ?_
       refine then_exit ?_
       refine block_exit ?_
       obtain rfl := some_inj H
       obtain rfl := some_inj K26_
       replace H := onS_l N26_
       refine te [(18, (.m [1] 0 met18.length tBool.k))] rfl ?_
       obtain ⟨t2_97, J_97, H_98⟩ := bind_inv H
       refine T_cutX (fun x => t2_97 = x) (fun (t2_97 : Bool) => [(2, (boolA t2_97))]) (fun (t2_97 : Bool) => []) ?_ ?_
       ·replace H := J_97
        refine T_region ?_
        refine Tp rfl rfl (pur_move rfl) rfl ?_
        obtain ⟨v_99, h_100, H⟩ := bind_inv H
        obtain ⟨n_101, hz_102, hv_103⟩ := getI_inv h_100
        refine Tp rfl rfl (pur_ixM (T := tBool) sl58 rfl rfl hz_102 hv_103 rfl) rfl ?_
        refine Tp rfl rfl (pur_ldE (f := tBool.enc) (k := tBool.k) (i := n_101) (off := 0) tBool.len rfl one4 rfl rfl rfl hv_103 rfl rfl) rfl ?_
        refine Tp rfl rfl (pur_move rfl) rfl ?_
        refine TO_split (t := v_99) 222 rfl (fun g_104 => ?_) (fun g_104 => ?_)
        ·replace H := cond_t g_104 H
         refine TO_on rfl rfl (by decide) rfl rfl (TOp_pure (pur_move rfl) rfl ?_)
         obtain ⟨v_105, h_106, H⟩ := bind_inv H
         obtain ⟨n_107, hz_108, hv_109⟩ := getI_inv h_106
         refine TO_on rfl rfl (by decide) rfl rfl (TOp_pure (pur_ixM (T := tBool) sl58 rfl rfl hz_108 hv_109 rfl) rfl ?_)
         refine TO_on rfl rfl (by decide) rfl rfl (TOp_pure (pur_ldE (f := tBool.enc) (k := tBool.k) (i := n_107) (off := 0) tBool.len rfl one4 rfl rfl rfl hv_109 rfl rfl) rfl ?_)
         refine Tp rfl rfl (pur_pick (t := true) rfl rfl rfl) rfl ?_
         refine Tp rfl rfl (pur_move rfl) rfl ?_
         refine TO_split (t := v_105) 227 rfl (fun g_110 => ?_) (fun g_110 => ?_)
         ·replace H := cond_t g_110 H
          refine TO_on rfl rfl (by decide) rfl rfl (TOp_pure (pur_move rfl) rfl ?_)
          obtain ⟨v_111, h_112, H⟩ := bind_inv H
          obtain ⟨n_113, hz_114, hv_115⟩ := getI_inv h_112
          refine TO_on rfl rfl (by decide) rfl rfl (TOp_pure (pur_ixM (T := tBool) sl58 rfl rfl hz_114 hv_115 rfl) rfl ?_)
          refine TO_on rfl rfl (by decide) rfl rfl (TOp_pure (pur_ldE (f := tBool.enc) (k := tBool.k) (i := n_113) (off := 0) tBool.len rfl one4 rfl rfl rfl hv_115 rfl rfl) rfl ?_)
          refine Tp rfl rfl (pur_pick (t := true) rfl rfl rfl) rfl ?_
          refine Tp rfl rfl (pur_move rfl) rfl ?_
          refine TO_split (t := v_111) 232 rfl (fun g_116 => ?_) (fun g_116 => ?_)
          ·replace H := cond_t g_116 H
           refine TO_on rfl rfl (by decide) rfl rfl (TOp_pure (pur_move rfl) rfl ?_)
           obtain ⟨v_117, h_118, H⟩ := bind_inv H
           obtain ⟨n_119, hz_120, hv_121⟩ := getI_inv h_118
           refine TO_on rfl rfl (by decide) rfl rfl (TOp_pure (pur_ixM (T := tBool) sl58 rfl rfl hz_120 hv_121 rfl) rfl ?_)
           refine TO_on rfl rfl (by decide) rfl rfl (TOp_pure (pur_ldE (f := tBool.enc) (k := tBool.k) (i := n_119) (off := 0) tBool.len rfl one4 rfl rfl rfl hv_121 rfl rfl) rfl ?_)
           refine Tp rfl rfl (pur_pick (t := true) rfl rfl rfl) rfl ?_
           refine Tp rfl rfl (pur_assign rfl) rfl ?_
           refine TO_nil ?_
           exact joined v_117 (wp 0 (lb rfl) rfl rfl rfl rfl rfl) (some_inj H).symm
          ·replace H := cond_f g_116 H
           refine TO_off rfl rfl (by decide) rfl rfl rfl ?_
           refine TO_off rfl rfl (by decide) rfl rfl rfl ?_
           refine TO_off rfl rfl (by decide) rfl rfl rfl ?_
           refine Tp rfl rfl (pur_pick (t := false) rfl rfl rfl) rfl ?_
           refine Tp rfl rfl (pur_assign rfl) rfl ?_
           refine TO_nil ?_
           exact joined false (wp 0 (lb rfl) rfl rfl rfl rfl rfl) (some_inj H).symm
         ·replace H := cond_f g_110 H
          refine TO_off rfl rfl (by decide) rfl rfl rfl ?_
          refine TO_off rfl rfl (by decide) rfl rfl rfl ?_
          refine TO_off rfl rfl (by decide) rfl rfl rfl ?_
          refine Tp rfl rfl (pur_pick (t := false) rfl rfl rfl) rfl ?_
          refine Tp rfl rfl (pur_move rfl) rfl ?_
          refine TO_off rfl rfl (by decide) rfl rfl rfl ?_
          refine TO_off rfl rfl (by decide) rfl rfl rfl ?_
          refine TO_off rfl rfl (by decide) rfl rfl rfl ?_
          refine Tp rfl rfl (pur_pick (t := false) rfl rfl rfl) rfl ?_
          refine Tp rfl rfl (pur_assign rfl) rfl ?_
          refine TO_nil ?_
          exact joined false (wp 0 (lb rfl) rfl rfl rfl rfl rfl) (some_inj H).symm
        ·replace H := cond_f g_104 H
         refine TO_off rfl rfl (by decide) rfl rfl rfl ?_
         refine TO_off rfl rfl (by decide) rfl rfl rfl ?_
         refine TO_off rfl rfl (by decide) rfl rfl rfl ?_
         refine Tp rfl rfl (pur_pick (t := false) rfl rfl rfl) rfl ?_
         refine Tp rfl rfl (pur_move rfl) rfl ?_
         refine TO_off rfl rfl (by decide) rfl rfl rfl ?_
         refine TO_off rfl rfl (by decide) rfl rfl rfl ?_
         refine TO_off rfl rfl (by decide) rfl rfl rfl ?_
         refine toe [(18, (.m [1] 0 met18.length tBool.k)), (227, (boolA false)), (230, (.v undef))] rfl ?_
         refine Tp rfl rfl (pur_pick (t := false) rfl rfl rfl) rfl ?_
         refine Tp rfl rfl (pur_move rfl) rfl ?_
         refine TO_off rfl rfl (by decide) rfl rfl rfl ?_
         refine TO_off rfl rfl (by decide) rfl rfl rfl ?_
         refine TO_off rfl rfl (by decide) rfl rfl rfl ?_
         refine Tp rfl rfl (pur_pick (t := false) rfl rfl rfl) rfl ?_
         refine Tp rfl rfl (pur_assign rfl) rfl ?_
         refine TO_nil ?_
         exact joined false (wp 0 (lb rfl) rfl rfl rfl rfl rfl) (some_inj H).symm
       ·rintro _ rfl
        replace H := H_98
        refine te [(2, (boolA t2_97))] rfl ?_
        refine T_ret ?_
        obtain rfl := some_inj H
        refine end_ret (.tmp .nil) rfl rfl ⟨?_, rfl⟩
        rfl
end Go.Proofs.Ytlcpdlngbofgcaa

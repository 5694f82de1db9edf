/- Walks. -/
import Derived.Test.YtjdpolnakhmkmaaM1
set_option linter.unusedVariables false
set_option linter.unusedSimpArgs false
set_option maxRecDepth 4000
namespace Go.Proofs.Ytjdpolnakhmkmaa
open Go Go.Proofs Go.Sep
set_option maxHeartbeats 1000000 in
/-- spec.l3Ints -/
theorem m_spec_l3Ints_ok (u : Nat) (a0 : (List Int)) (b1 : (List Int)) (r : Int) (H : m_spec_l3Ints u a0 b1 = some r) : FnV prg 148 [(sl tInt a0), (sl tInt b1)] (intA r) := by
  unfold m_spec_l3Ints at H
  refine fnV_of_T Try.func148 rfl rfl (Nat.le_of_ble_eq_true rfl) ?_
  refine te [(0, (sl tInt a0)), (1, (sl tInt b1))] rfl ?_
  refine sr ?_
  refine Tp rfl rfl (pur_assign rfl) rfl ?_
  refine TO_nil ?_
  refine te [(0, (sl tInt a0)), (1, (sl tInt b1))] rfl ?_
  refine T_seq ?_
  refine sr ?_
  refine Tp rfl rfl (pur_assign rfl) rfl ?_
  refine TO_nil ?_
  refine te [(0, (sl tInt a0)), (1, (sl tInt b1)), (5, (intA 0))] rfl ?_
  obtain ⟨O1_, L1_, N1_⟩ := bind_inv H
  clear H
  obtain ⟨B1_, hb1, L1_⟩ := gen_whileF L1_
  refine T_block ?_
  refine T_loopX (fun k => fun (i5 : Int) => whileF B1_ k i5 = some O1_) (fun (i5 : Int) => [(0, (sl tInt a0)), (1, (sl tInt b1)), (5, (intA i5))]) (fun (i5 : Int) => []) u 0 (wp 0 (lb rfl) rfl rfl rfl rfl rfl) L1_ ?_
  rintro _ i5 L1_
  obtain ⟨k1, rfl, C1_, H, K1_⟩ := while_step L1_
  rw [hb1] at H
  refine te [(0, (sl tInt a0)), (1, (sl tInt b1)), (5, (intA i5))] rfl ?_
  refine T_st (σ' := []) rfl ?_
  refine T_seq ?_
  refine T_cutX (fun x => ((decide (i5 < (a0.length : Int))) && (decide (i5 < (b1.length : Int)))) = x) (fun (t15_2 : Bool) => [(0, (sl tInt a0)), (1, (sl tInt b1)), (5, (intA i5)), (15, (boolA t15_2))]) (fun (t15_2 : Bool) => []) ?_ ?_
  ·skip
   refine T_region ?_
   refine Tp rfl rfl (pur_move rfl) rfl ?_
   refine Tp rfl rfl (pur_move rfl) rfl ?_
   refine Tp rfl rfl (pur_lenT (T := tInt) sl23 rfl rfl) rfl ?_
   refine Tp rfl rfl (pur_lss rfl rfl rfl) rfl ?_
   refine Tp rfl rfl (pur_move rfl) rfl ?_
   refine TO_split (t := decide (i5 < (a0.length : Int))) 10 rfl (fun g_4 => ?_) (fun g_4 => ?_)
   ·skip
    refine TO_on rfl rfl (by decide) rfl rfl (TOp_pure (pur_move rfl) rfl ?_)
    refine TO_on rfl rfl (by decide) rfl rfl (TOp_pure (pur_move rfl) rfl ?_)
    refine TO_on rfl rfl (by decide) rfl rfl (TOp_pure (pur_lenT (T := tInt) sl23 rfl rfl) rfl ?_)
    refine TO_on rfl rfl (by decide) rfl rfl (TOp_pure (pur_lss rfl rfl rfl) rfl ?_)
    refine Tp rfl rfl (pur_pick (t := true) rfl rfl rfl) rfl ?_
    refine TO_nil ?_
    exact joined (decide (i5 < (b1.length : Int))) (wp 0 (lb rfl) rfl rfl rfl rfl rfl) (by first | exact Eq.symm ((and_T g_4 rfl)))
   ·skip
    refine TO_off rfl rfl (by decide) rfl rfl rfl ?_
    refine TO_off rfl rfl (by decide) rfl rfl rfl ?_
    refine TO_off rfl rfl (by decide) rfl rfl rfl ?_
    refine TO_off rfl rfl (by decide) rfl rfl rfl ?_
    refine Tp rfl rfl (pur_pick (t := false) rfl rfl rfl) rfl ?_
    refine TO_nil ?_
    exact joined false (wp 0 (lb rfl) rfl rfl rfl rfl rfl) (by first | exact Eq.symm ((and_F g_4 rfl)))
  ·rintro _ rfl
   refine te [(0, (sl tInt a0)), (1, (sl tInt b1)), (5, (intA i5)), (15, (boolA ((decide (i5 < (a0.length : Int))) && (decide (i5 < (b1.length : Int))))))] rfl ?_
   refine T_cond (t := ((decide (i5 < (a0.length : Int))) && (decide (i5 < (b1.length : Int))))) rfl (fun c_5 => ?_) (fun c_5 => ?_)
   ·replace H := cond_t c_5 H
    refine T_skip ?_
    refine te [(0, (sl tInt a0)), (1, (sl tInt b1)), (5, (intA i5))] rfl ?_
    refine T_seq ?_
    refine T_block ?_
    refine T_seq ?_
    refine T_seq ?_
    refine T_regionD mixed (by kernel_rfl) ?_
    refine TQ_pure rfl (pur_move rfl) rfl ?_
    refine TQ_pure rfl (pur_move rfl) rfl ?_
    obtain ⟨v_6, h_7, H⟩ := bind_inv H
    obtain ⟨n_8, hz_9, hv_10⟩ := getI_inv h_7
    refine TQ_pure rfl (pur_ixT (T := tInt) sl23 rfl rfl hz_9 hv_10 rfl) rfl ?_
    refine TQ_pure rfl (pur_ldT (T := tInt) (i := n_8) (off := 0) rfl one3 rfl rfl hv_10 rfl) rfl ?_
    refine TQ_pure rfl (pur_move rfl) rfl ?_
    refine TQ_pure rfl (pur_move rfl) rfl ?_
    obtain ⟨v_11, h_12, H⟩ := bind_inv H
    obtain ⟨n_13, hz_14, hv_15⟩ := getI_inv h_12
    refine TQ_pure rfl (pur_ixT (T := tInt) sl23 rfl rfl hz_14 hv_15 rfl) rfl ?_
    refine TQ_pure rfl (pur_ldT (T := tInt) (i := n_13) (off := 0) rfl one3 rfl rfl hv_15 rfl) rfl ?_
    refine TQ_pure rfl (pur_lss rfl rfl rfl) rfl ?_
    refine TQ_nil ?_
    refine te [(0, (sl tInt a0)), (1, (sl tInt b1)), (5, (intA i5)), (26, (boolA (decide (v_6 < v_11))))] rfl ?_
    refine T_cond (t := decide (v_6 < v_11)) rfl (fun c_16 => ?_) (fun c_16 => ?_)
    ·replace H := cond_t c_16 H
     refine sr ?_
     refine Tp rfl rfl (pur_assign rfl) rfl ?_
     refine TO_nil ?_
     refine te [(4, (intA (-1)))] rfl ?_
     refine T_ret ?_
     refine then_ret ?_
     refine block_ret ?_
     refine then_ret ?_
     refine then_ret ?_
     refine block_ret ?_
     refine then_ret ?_
     obtain rfl := some_inj H
     obtain rfl := some_inj K1_
     replace H := onS_r N1_
     obtain rfl := some_inj H
     refine end_ret (.tmp .nil) rfl rfl ⟨?_, rfl⟩
     rfl
    ·replace H := cond_f c_16 H
     refine T_skip ?_
     refine te [(0, (sl tInt a0)), (1, (sl tInt b1)), (5, (intA i5))] rfl ?_
     refine T_seq ?_
     refine T_regionD mixed (by kernel_rfl) ?_
     refine TQ_pure rfl (pur_move rfl) rfl ?_
     refine TQ_pure rfl (pur_move rfl) rfl ?_
     refine TQ_pure rfl (pur_ixT (T := tInt) sl23 rfl rfl hz_9 hv_10 rfl) rfl ?_
     refine TQ_pure rfl (pur_ldT (T := tInt) (i := n_8) (off := 0) rfl one3 rfl rfl hv_10 rfl) rfl ?_
     refine TQ_pure rfl (pur_move rfl) rfl ?_
     refine TQ_pure rfl (pur_move rfl) rfl ?_
     refine TQ_pure rfl (pur_ixT (T := tInt) sl23 rfl rfl hz_14 hv_15 rfl) rfl ?_
     refine TQ_pure rfl (pur_ldT (T := tInt) (i := n_13) (off := 0) rfl one3 rfl rfl hv_15 rfl) rfl ?_
     refine TQ_pure rfl (pur_gtr rfl rfl rfl) rfl ?_
     refine TQ_nil ?_
     refine te [(0, (sl tInt a0)), (1, (sl tInt b1)), (5, (intA i5)), (35, (boolA (decide (v_11 < v_6))))] rfl ?_
     refine T_cond (t := decide (v_11 < v_6)) rfl (fun c_17 => ?_) (fun c_17 => ?_)
     ·replace H := cond_t c_17 H
      refine sr ?_
      refine Tp rfl rfl (pur_assign rfl) rfl ?_
      refine TO_nil ?_
      refine te [(4, (intA 1))] rfl ?_
      refine T_ret ?_
      refine block_ret ?_
      refine then_ret ?_
      refine then_ret ?_
      refine block_ret ?_
      refine then_ret ?_
      obtain rfl := some_inj H
      obtain rfl := some_inj K1_
      replace H := onS_r N1_
      obtain rfl := some_inj H
      refine end_ret (.tmp .nil) rfl rfl ⟨?_, rfl⟩
      rfl
     ·replace H := cond_f c_17 H
      refine T_skip ?_
      refine te [(0, (sl tInt a0)), (1, (sl tInt b1)), (5, (intA i5))] rfl ?_
      refine T_region ?_
      refine Tp rfl rfl (pur_move rfl) rfl ?_
      refine Tp rfl rfl (pur_wadd rfl rfl rfl) rfl ?_
      refine Tp rfl rfl (pur_assign rfl) rfl ?_
      refine TO_nil ?_
      obtain rfl := some_inj H
      exact again k1 (w64 (i5 + 1)) (Nat.lt_succ_self _) (wp 0 (lb rfl) rfl rfl rfl rfl rfl) K1_
   ·replace H := cond_f c_5 H
    refine T_exit ?_
    refine then_exit ?_
    refine then_exit ?_
    refine block_exit ?_
    obtain rfl := some_inj H
    obtain rfl := some_inj K1_
    replace H := onS_l N1_
    refine te [(0, (sl tInt a0)), (1, (sl tInt b1))] rfl ?_
    refine T_seq ?_
    refine sr ?_
    refine Tp rfl rfl (pur_move rfl) rfl ?_
    refine Tp rfl rfl (pur_lenT (T := tInt) sl23 rfl rfl) rfl ?_
    refine Tp rfl rfl (pur_move rfl) rfl ?_
    refine Tp rfl rfl (pur_lenT (T := tInt) sl23 rfl rfl) rfl ?_
    refine Tp rfl rfl (pur_lss rfl rfl rfl) rfl ?_
    refine TO_nil ?_
    refine te [(0, (sl tInt a0)), (1, (sl tInt b1)), (40, (boolA (decide ((a0.length : Int) < (b1.length : Int)))))] rfl ?_
    refine T_cond (t := decide ((a0.length : Int) < (b1.length : Int))) rfl (fun c_18 => ?_) (fun c_18 => ?_)
    ·replace H := cond_t c_18 H
     refine sr ?_
     refine Tp rfl rfl (pur_assign rfl) rfl ?_
     refine TO_nil ?_
     refine te [(4, (intA (-1)))] rfl ?_
     refine T_ret ?_
     refine then_ret ?_
     obtain rfl := some_inj H
     refine end_ret (.tmp .nil) rfl rfl ⟨?_, rfl⟩
     rfl
    ·replace H := cond_f c_18 H
     refine T_skip ?_
     refine te [(0, (sl tInt a0)), (1, (sl tInt b1))] rfl ?_
     refine T_seq ?_
     refine sr ?_
     refine Tp rfl rfl (pur_move rfl) rfl ?_
     refine Tp rfl rfl (pur_lenT (T := tInt) sl23 rfl rfl) rfl ?_
     refine Tp rfl rfl (pur_move rfl) rfl ?_
     refine Tp rfl rfl (pur_lenT (T := tInt) sl23 rfl rfl) rfl ?_
     refine Tp rfl rfl (pur_gtr rfl rfl rfl) rfl ?_
     refine TO_nil ?_
     refine te [(45, (boolA (decide ((b1.length : Int) < (a0.length : Int)))))] rfl ?_
     refine T_cond (t := decide ((b1.length : Int) < (a0.length : Int))) rfl (fun c_19 => ?_) (fun c_19 => ?_)
     ·replace H := cond_t c_19 H
      refine sr ?_
      refine Tp rfl rfl (pur_assign rfl) rfl ?_
      refine TO_nil ?_
      refine te [(4, (intA 1))] rfl ?_
      refine T_ret ?_
      refine then_ret ?_
      obtain rfl := some_inj H
      refine end_ret (.tmp .nil) rfl rfl ⟨?_, rfl⟩
      rfl
     ·replace H := cond_f c_19 H
      refine T_skip ?_
      refine te [] rfl ?_
      refine sr ?_
      refine Tp rfl rfl (pur_assign rfl) rfl ?_
      refine TO_nil ?_
      refine te [(4, (intA 0))] rfl ?_
      refine T_ret ?_
      obtain rfl := some_inj H
      refine end_ret (.tmp .nil) rfl rfl ⟨?_, rfl⟩
      rfl

set_option maxHeartbeats 1000000 in
/-- spec.CompareFacts -/
theorem m_spec_CompareFacts_ok (u : Nat) (a0 : Fact) (b1 : Fact) (r : Int) (H : m_spec_CompareFacts u a0 b1 = some r) : FnV prg 114 [(.g (tFact.enc a0)), (.g (tFact.enc b1))] (intA r) := by
  unfold m_spec_CompareFacts at H
  refine fnV_of_T Try.func114 rfl rfl (Nat.le_of_ble_eq_true rfl) ?_
  refine te [(0, (.g (tFact.enc a0))), (1, (.g (tFact.enc b1)))] rfl ?_
  refine sr ?_
  refine TO_cons rfl (TOp_box rfl (boxAll rfl) rfl rfl ?_)
  refine TO_cons rfl (TOp_box rfl (boxAll rfl) rfl rfl ?_)
  refine Tp rfl rfl (pur_assign rfl) rfl ?_
  refine TO_nil ?_
  refine te [(2, (.b 0 0)), (3, (.b 1 0))] rfl ?_
  refine T_seq ?_
  refine sr ?_
  refine Tp rfl rfl (pur_fa_b fld65_0 rfl rfl) rfl ?_
  refine Tp rfl rfl (pur_ld_b one3 rfl rfl rfl rfl) rfl ?_
  refine Tp rfl rfl (pur_fa_b fld65_0 rfl rfl) rfl ?_
  refine Tp rfl rfl (pur_ld_b one3 rfl rfl rfl rfl) rfl ?_
  refine Tp rfl rfl (pur_lss rfl rfl rfl) rfl ?_
  refine TO_nil ?_
  refine te [(2, (.b 0 0)), (3, (.b 1 0)), (9, (boolA (decide (a0.relation < b1.relation))))] rfl ?_
  refine T_cond (t := decide (a0.relation < b1.relation)) rfl (fun c_1 => ?_) (fun c_1 => ?_)
  ·replace H := cond_t c_1 H
   refine sr ?_
   refine Tp rfl rfl (pur_assign rfl) rfl ?_
   refine TO_nil ?_
   refine te [(4, (intA (-1)))] rfl ?_
   refine T_ret ?_
   refine then_ret ?_
   obtain rfl := some_inj H
   refine end_ret (.tmp .nil) rfl rfl ⟨?_, rfl⟩
   rfl
  ·replace H := cond_f c_1 H
   refine T_skip ?_
   refine te [(2, (.b 0 0)), (3, (.b 1 0))] rfl ?_
   refine T_seq ?_
   refine sr ?_
   refine Tp rfl rfl (pur_fa_b fld65_0 rfl rfl) rfl ?_
   refine Tp rfl rfl (pur_ld_b one3 rfl rfl rfl rfl) rfl ?_
   refine Tp rfl rfl (pur_fa_b fld65_0 rfl rfl) rfl ?_
   refine Tp rfl rfl (pur_ld_b one3 rfl rfl rfl rfl) rfl ?_
   refine Tp rfl rfl (pur_gtr rfl rfl rfl) rfl ?_
   refine TO_nil ?_
   refine te [(2, (.b 0 0)), (3, (.b 1 0)), (14, (boolA (decide (b1.relation < a0.relation))))] rfl ?_
   refine T_cond (t := decide (b1.relation < a0.relation)) rfl (fun c_2 => ?_) (fun c_2 => ?_)
   ·replace H := cond_t c_2 H
    refine sr ?_
    refine Tp rfl rfl (pur_assign rfl) rfl ?_
    refine TO_nil ?_
    refine te [(4, (intA 1))] rfl ?_
    refine T_ret ?_
    refine then_ret ?_
    obtain rfl := some_inj H
    refine end_ret (.tmp .nil) rfl rfl ⟨?_, rfl⟩
    rfl
   ·replace H := cond_f c_2 H
    refine T_skip ?_
    refine te [(2, (.b 0 0)), (3, (.b 1 0))] rfl ?_
    refine sr ?_
    refine Tp rfl rfl (pur_fa_b fld65_1 rfl rfl) rfl ?_
    refine Tp rfl rfl (pur_ld_b one23 rfl rfl rfl rfl) rfl ?_
    refine Tp rfl rfl (pur_fa_b fld65_1 rfl rfl) rfl ?_
    refine Tp rfl rfl (pur_ld_b one23 rfl rfl rfl rfl) rfl ?_
    obtain ⟨r_3, h_4, H⟩ := bind_inv H
    refine TO_cons rfl (TOp_callV (call_static ent148 rfl) (m_spec_l3Ints_ok u _ _ _ h_4) rfl rfl rfl ?_)
    refine Tp rfl rfl (pur_assign rfl) rfl ?_
    refine TO_nil ?_
    refine te [(4, (intA r_3))] rfl ?_
    refine T_ret ?_
    obtain rfl := some_inj H
    refine end_ret (.tmp .nil) rfl rfl ⟨?_, rfl⟩
    rfl

set_option maxHeartbeats 1000000 in
/-- spec.l1In -/
theorem m_spec_l1In_ok (x0 : Int) (low1 : Int) (high2 : Int) (r : Bool) (H : m_spec_l1In x0 low1 high2 = some r) : FnV prg 137 [(intA x0), (intA low1), (intA high2)] (boolA r) := by
  unfold m_spec_l1In at H
  refine fnV_of_T Try.func137 rfl rfl (Nat.le_of_ble_eq_true rfl) ?_
  refine te [(0, (intA x0)), (1, (intA low1)), (2, (intA high2))] rfl ?_
  refine sr ?_
  refine Tp rfl rfl (pur_assign rfl) rfl ?_
  refine TO_nil ?_
  refine te [(0, (intA x0)), (1, (intA low1)), (2, (intA high2))] rfl ?_
  refine T_cutX (fun x => ((decide (low1 ≤ x0)) && (decide (x0 ≤ high2))) = x) (fun (t6_1 : Bool) => [(6, (boolA t6_1))]) (fun (t6_1 : Bool) => []) ?_ ?_
  ·skip
   refine T_region ?_
   refine Tp rfl rfl (pur_move rfl) rfl ?_
   refine Tp rfl rfl (pur_move rfl) rfl ?_
   refine Tp rfl rfl (pur_geq rfl rfl rfl) rfl ?_
   refine Tp rfl rfl (pur_move rfl) rfl ?_
   refine TO_split (t := decide (low1 ≤ x0)) 10 rfl (fun g_3 => ?_) (fun g_3 => ?_)
   ·skip
    refine TO_on rfl rfl (by decide) rfl rfl (TOp_pure (pur_move rfl) rfl ?_)
    refine TO_on rfl rfl (by decide) rfl rfl (TOp_pure (pur_move rfl) rfl ?_)
    refine TO_on rfl rfl (by decide) rfl rfl (TOp_pure (pur_leq rfl rfl rfl) rfl ?_)
    refine Tp rfl rfl (pur_pick (t := true) rfl rfl rfl) rfl ?_
    refine Tp rfl rfl (pur_assign rfl) rfl ?_
    refine TO_nil ?_
    exact joined (decide (x0 ≤ high2)) (wp 0 (lb rfl) rfl rfl rfl rfl rfl) (by first | exact Eq.symm ((and_T g_3 rfl)))
   ·skip
    refine TO_off rfl rfl (by decide) rfl rfl rfl ?_
    refine TO_off rfl rfl (by decide) rfl rfl rfl ?_
    refine TO_off rfl rfl (by decide) rfl rfl rfl ?_
    refine Tp rfl rfl (pur_pick (t := false) rfl rfl rfl) rfl ?_
    refine Tp rfl rfl (pur_assign rfl) rfl ?_
    refine TO_nil ?_
    exact joined false (wp 0 (lb rfl) rfl rfl rfl rfl rfl) (by first | exact Eq.symm ((and_F g_3 rfl)))
  ·rintro _ rfl
   refine te [(6, (boolA ((decide (low1 ≤ x0)) && (decide (x0 ≤ high2)))))] rfl ?_
   refine T_ret ?_
   obtain rfl := some_inj H
   refine end_ret (.tmp .nil) rfl rfl ⟨?_, rfl⟩
   rfl

set_option maxHeartbeats 1000000 in
/-- spec.IsValidRelation -/
theorem m_spec_IsValidRelation_ok (s0 : Relation) (r : Bool) (H : m_spec_IsValidRelation s0 = some r) : FnV prg 170 [(.g (tRelation.enc s0))] (boolA r) := by
  unfold m_spec_IsValidRelation at H
  refine fnV_of_T Try.func170 rfl rfl (Nat.le_of_ble_eq_true rfl) ?_
  refine te [(0, (.g (tRelation.enc s0)))] rfl ?_
  refine sr ?_
  refine TO_cons rfl (TOp_box rfl (boxAll rfl) rfl rfl ?_)
  refine Tp rfl rfl (pur_assign rfl) rfl ?_
  refine TO_nil ?_
  refine te [(1, (.b 0 0))] rfl ?_
  obtain ⟨t2_1, J_1, H_2⟩ := bind_inv H
  refine T_cutX (fun x => t2_1 = x) (fun (t2_1 : Bool) => [(2, (boolA t2_1))]) (fun (t2_1 : Bool) => []) ?_ ?_
  ·replace H := J_1
   refine T_region ?_
   refine Tp rfl rfl (pur_fa_b fld130_0 rfl rfl) rfl ?_
   refine Tp rfl rfl (pur_ld_b one9 rfl rfl rfl rfl) rfl ?_
   refine Tp rfl rfl (pur_len_s (by kernel_rfl) rfl rfl) rfl ?_
   refine Tp rfl rfl (pur_eql rfl rfl rfl) rfl ?_
   refine Tp rfl rfl (pur_move rfl) rfl ?_
   refine TO_split (t := decide ((s0.name.size : Int) = 1)) 7 rfl (fun g_3 => ?_) (fun g_3 => ?_)
   ·replace H := cond_t g_3 H
    refine TO_on rfl rfl (by decide) rfl rfl (TOp_pure (pur_fa_b fld130_0 rfl rfl) rfl ?_)
    refine TO_on rfl rfl (by decide) rfl rfl (TOp_pure (pur_ld_b one9 rfl rfl rfl rfl) rfl ?_)
    obtain ⟨b_4, h_5, H⟩ := bind_inv H
    refine TO_on rfl rfl (by decide) rfl rfl (TOp_pure (pur_ixS (by kernel_rfl) rfl rfl h_5 rfl) rfl ?_)
    refine TO_on rfl rfl (by decide) rfl rfl (TOp_pure (pur_geq rfl rfl rfl) rfl ?_)
    refine Tp rfl rfl (pur_pick (t := true) rfl rfl rfl) rfl ?_
    refine Tp rfl rfl (pur_move rfl) rfl ?_
    refine TO_split (t := decide (97 ≤ b_4)) 13 rfl (fun g_6 => ?_) (fun g_6 => ?_)
    ·replace H := cond_t g_6 H
     refine TO_on rfl rfl (by decide) rfl rfl (TOp_pure (pur_fa_b fld130_0 rfl rfl) rfl ?_)
     refine TO_on rfl rfl (by decide) rfl rfl (TOp_pure (pur_ld_b one9 rfl rfl rfl rfl) rfl ?_)
     obtain ⟨b_7, h_8, H⟩ := bind_inv H
     refine TO_on rfl rfl (by decide) rfl rfl (TOp_pure (pur_ixS (by kernel_rfl) rfl rfl h_8 rfl) rfl ?_)
     refine TO_on rfl rfl (by decide) rfl rfl (TOp_pure (pur_leq rfl rfl rfl) rfl ?_)
     refine Tp rfl rfl (pur_pick (t := true) rfl rfl rfl) rfl ?_
     refine Tp rfl rfl (pur_move rfl) rfl ?_
     refine TO_split (t := decide (b_7 ≤ 122)) 19 rfl (fun g_9 => ?_) (fun g_9 => ?_)
     ·replace H := cond_t g_9 H
      refine TO_on rfl rfl (by decide) rfl rfl (TOp_pure (pur_fa_b fld130_1 rfl rfl) rfl ?_)
      refine TO_on rfl rfl (by decide) rfl rfl (TOp_pure (pur_ld_b one3 rfl rfl rfl rfl) rfl ?_)
      obtain ⟨r_10, h_11, H⟩ := bind_inv H
      refine TO_on rfl rfl (by decide) rfl rfl (TOp_callV (call_static ent137 rfl) (m_spec_l1In_ok _ _ _ _ h_11) rfl rfl rfl ?_)
      refine Tp rfl rfl (pur_pick (t := true) rfl rfl rfl) rfl ?_
      refine Tp rfl rfl (pur_move rfl) rfl ?_
      refine TO_split (t := r_10) 24 rfl (fun g_12 => ?_) (fun g_12 => ?_)
      ·replace H := cond_t g_12 H
       refine TO_on rfl rfl (by decide) rfl rfl (TOp_pure (pur_fa_b fld130_2 rfl rfl) rfl ?_)
       refine TO_on rfl rfl (by decide) rfl rfl (TOp_pure (pur_ld_b one3 rfl rfl rfl rfl) rfl ?_)
       refine TO_on rfl rfl (by decide) rfl rfl (TOp_pure (pur_fa_b fld130_1 rfl rfl) rfl ?_)
       refine TO_on rfl rfl (by decide) rfl rfl (TOp_pure (pur_ld_b one3 rfl rfl rfl rfl) rfl ?_)
       obtain ⟨r_13, h_14, H⟩ := bind_inv H
       refine TO_on rfl rfl (by decide) rfl rfl (TOp_callV (call_static ent137 rfl) (m_spec_l1In_ok _ _ _ _ h_14) rfl rfl rfl ?_)
       refine Tp rfl rfl (pur_pick (t := true) rfl rfl rfl) rfl ?_
       refine Tp rfl rfl (pur_assign rfl) rfl ?_
       refine TO_nil ?_
       exact joined r_13 (wp 0 (lb rfl) rfl rfl rfl rfl rfl) (some_inj H).symm
      ·replace H := cond_f g_12 H
       refine TO_off rfl rfl (by decide) rfl rfl rfl ?_
       refine TO_off rfl rfl (by decide) rfl rfl rfl ?_
       refine TO_off rfl rfl (by decide) rfl rfl rfl ?_
       refine TO_off rfl rfl (by decide) rfl rfl rfl ?_
       refine TO_off rfl rfl (by decide) rfl rfl rfl ?_
       refine Tp rfl rfl (pur_pick (t := false) rfl rfl rfl) rfl ?_
       refine Tp rfl rfl (pur_assign rfl) rfl ?_
       refine TO_nil ?_
       exact joined false (wp 0 (lb rfl) rfl rfl rfl rfl rfl) (some_inj H).symm
     ·replace H := cond_f g_9 H
      refine TO_off rfl rfl (by decide) rfl rfl rfl ?_
      refine TO_off rfl rfl (by decide) rfl rfl rfl ?_
      refine TO_off rfl rfl (by decide) rfl rfl rfl ?_
      refine Tp rfl rfl (pur_pick (t := false) rfl rfl rfl) rfl ?_
      refine Tp rfl rfl (pur_move rfl) rfl ?_
      refine TO_off rfl rfl (by decide) rfl rfl rfl ?_
      refine TO_off rfl rfl (by decide) rfl rfl rfl ?_
      refine TO_off rfl rfl (by decide) rfl rfl rfl ?_
      refine toe [(24, (boolA false)), (26, (.v undef)), (27, (.v undef))] rfl ?_
      refine TO_off rfl rfl (by decide) rfl rfl rfl ?_
      refine TO_off rfl rfl (by decide) rfl rfl rfl ?_
      refine Tp rfl rfl (pur_pick (t := false) rfl rfl rfl) rfl ?_
      refine Tp rfl rfl (pur_assign rfl) rfl ?_
      refine TO_nil ?_
      exact joined false (wp 0 (lb rfl) rfl rfl rfl rfl rfl) (some_inj H).symm
    ·replace H := cond_f g_6 H
     refine TO_off rfl rfl (by decide) rfl rfl rfl ?_
     refine TO_off rfl rfl (by decide) rfl rfl rfl ?_
     refine TO_off rfl rfl (by decide) rfl rfl rfl ?_
     refine TO_off rfl rfl (by decide) rfl rfl rfl ?_
     refine Tp rfl rfl (pur_pick (t := false) rfl rfl rfl) rfl ?_
     refine Tp rfl rfl (pur_move rfl) rfl ?_
     refine TO_off rfl rfl (by decide) rfl rfl rfl ?_
     refine TO_off rfl rfl (by decide) rfl rfl rfl ?_
     refine toe [(1, (.b 0 0)), (19, (boolA false)), (21, (.v undef))] rfl ?_
     refine TO_off rfl rfl (by decide) rfl rfl rfl ?_
     refine Tp rfl rfl (pur_pick (t := false) rfl rfl rfl) rfl ?_
     refine Tp rfl rfl (pur_move rfl) rfl ?_
     refine TO_off rfl rfl (by decide) rfl rfl rfl ?_
     refine TO_off rfl rfl (by decide) rfl rfl rfl ?_
     refine TO_off rfl rfl (by decide) rfl rfl rfl ?_
     refine TO_off rfl rfl (by decide) rfl rfl rfl ?_
     refine TO_off rfl rfl (by decide) rfl rfl rfl ?_
     refine Tp rfl rfl (pur_pick (t := false) rfl rfl rfl) rfl ?_
     refine Tp rfl rfl (pur_assign rfl) rfl ?_
     refine TO_nil ?_
     exact joined false (wp 0 (lb rfl) rfl rfl rfl rfl rfl) (some_inj H).symm
   ·replace H := cond_f g_3 H
    refine TO_off rfl rfl (by decide) rfl rfl rfl ?_
    refine TO_off rfl rfl (by decide) rfl rfl rfl ?_
    refine TO_off rfl rfl (by decide) rfl rfl rfl ?_
    refine TO_off rfl rfl (by decide) rfl rfl rfl ?_
    refine Tp rfl rfl (pur_pick (t := false) rfl rfl rfl) rfl ?_
    refine Tp rfl rfl (pur_move rfl) rfl ?_
    refine TO_off rfl rfl (by decide) rfl rfl rfl ?_
    refine TO_off rfl rfl (by decide) rfl rfl rfl ?_
    refine toe [(1, (.b 0 0)), (13, (boolA false)), (15, (.v undef))] rfl ?_
    refine TO_off rfl rfl (by decide) rfl rfl rfl ?_
    refine TO_off rfl rfl (by decide) rfl rfl rfl ?_
    refine Tp rfl rfl (pur_pick (t := false) rfl rfl rfl) rfl ?_
    refine Tp rfl rfl (pur_move rfl) rfl ?_
    refine TO_off rfl rfl (by decide) rfl rfl rfl ?_
    refine TO_off rfl rfl (by decide) rfl rfl rfl ?_
    refine TO_off rfl rfl (by decide) rfl rfl rfl ?_
    refine Tp rfl rfl (pur_pick (t := false) rfl rfl rfl) rfl ?_
    refine toe [(1, (.b 0 0)), (23, (boolA false))] rfl ?_
    refine Tp rfl rfl (pur_move rfl) rfl ?_
    refine TO_off rfl rfl (by decide) rfl rfl rfl ?_
    refine TO_off rfl rfl (by decide) rfl rfl rfl ?_
    refine TO_off rfl rfl (by decide) rfl rfl rfl ?_
    refine TO_off rfl rfl (by decide) rfl rfl rfl ?_
    refine TO_off rfl rfl (by decide) rfl rfl rfl ?_
    refine Tp rfl rfl (pur_pick (t := false) rfl rfl rfl) rfl ?_
    refine Tp rfl rfl (pur_assign rfl) rfl ?_
    refine TO_nil ?_
    exact joined false (wp 0 (lb rfl) rfl rfl rfl rfl rfl) (some_inj H).symm
  ·rintro _ rfl
   replace H := H_2
   refine te [(2, (boolA t2_1))] rfl ?_
   refine T_ret ?_
   obtain rfl := some_inj H
   refine end_ret (.tmp .nil) rfl rfl ⟨?_, rfl⟩
   rfl

set_option maxHeartbeats 1000000 in
/-- spec.AreValidRelations -/
theorem m_spec_AreValidRelations_ok (l0 : (List Relation)) (r : Bool) (H : m_spec_AreValidRelations l0 = some r) : FnV prg 124 [(sl tRelation l0)] (boolA r) := by
  unfold m_spec_AreValidRelations at H
  refine fnV_of_T Try.func124 rfl rfl (Nat.le_of_ble_eq_true rfl) ?_
  refine te [(0, (sl tRelation l0))] rfl ?_
  refine sr ?_
  refine Tp rfl rfl (pur_assign rfl) rfl ?_
  refine TO_nil ?_
  refine te [(0, (sl tRelation l0))] rfl ?_
  refine T_seq ?_
  refine sr ?_
  refine Tp rfl rfl (pur_assign rfl) rfl ?_
  refine TO_nil ?_
  refine te [(0, (sl tRelation l0)), (3, (intA 0))] rfl ?_
  obtain ⟨O2_, L2_, N2_⟩ := bind_inv H
  clear H
  obtain ⟨B2_, hb2, L2_⟩ := gen_forL L2_
  refine T_block ?_
  refine T_loopX (fun k => fun (i_1 : Nat) => k = l0.length - i_1 ∧ forL B2_ (l0.drop i_1) (i_1 : Int) () = some O2_) (fun (i_1 : Nat) => [(0, (sl tRelation l0)), (3, (intA (i_1 : Int)))]) (fun (i_1 : Nat) => []) _ (0 : Nat) (wp 0 (lb rfl) rfl rfl rfl rfl rfl) ⟨rfl, L2_⟩ ?_
  rintro _ i_1 ⟨rfl, L2_⟩
  refine te [(0, (sl tRelation l0)), (3, (intA (i_1 : Int)))] rfl ?_
  refine T_st (σ' := []) rfl ?_
  refine T_fact (len_sl (T := tRelation) (.tmp 0) rfl) (fun hl2 => ?_)
  refine T_seq ?_
  refine sr ?_
  refine Tp rfl rfl (pur_move rfl) rfl ?_
  refine Tp rfl rfl (pur_move rfl) rfl ?_
  refine Tp rfl rfl (pur_lenT (T := tRelation) sl45 rfl rfl) rfl ?_
  refine Tp rfl rfl (pur_lss rfl rfl rfl) rfl ?_
  refine TO_nil ?_
  refine te [(0, (sl tRelation l0)), (3, (intA (i_1 : Int))), (7, (boolA (decide ((i_1 : Int) < (l0.length : Int)))))] rfl ?_
  refine T_cond (t := decide ((i_1 : Int) < (l0.length : Int))) rfl (fun d2 => ?_) (fun d2 => ?_)
  ·replace d2 := of_decide_eq_true d2
   obtain ⟨x_i_1, hx_i_1⟩ : ∃ v, (l0)[i_1]? = some v := ⟨_, List.getElem?_eq_getElem (by omega)⟩
   obtain ⟨C2_, H, K2_⟩ := forL_step L2_ hx_i_1
   rw [hb2] at H
   refine T_skip ?_
   refine te [(0, (sl tRelation l0)), (3, (intA (i_1 : Int)))] rfl ?_
   refine T_seq ?_
   refine T_block ?_
   obtain ⟨t33_3, J_3, H_4⟩ := bind_inv H
   refine T_cutX (fun x => t33_3 = x) (fun (t33_3 : Bool) => [(0, (sl tRelation l0)), (3, (intA (i_1 : Int))), (33, (boolA t33_3))]) (fun (t33_3 : Bool) => []) ?_ ?_
   ·replace H := J_3
    refine T_regionD mixed (by kernel_rfl) ?_
    refine TQ_pure rfl (pur_move rfl) rfl ?_
    refine TQ_pure rfl (pur_move rfl) rfl ?_
    refine TQ_pure rfl (pur_ixT (T := tRelation) sl45 rfl rfl rfl hx_i_1 rfl) rfl ?_
    refine TQ_pure rfl (pur_ldTK (T := tRelation) (i := i_1) (off := 0) rfl agg130 rfl rfl hx_i_1 (by decide) rfl) rfl ?_
    obtain ⟨r_5, h_6, H⟩ := bind_inv H
    refine TQ_callV rfl (call_static ent170 rfl) (m_spec_IsValidRelation_ok _ _ h_6) rfl rfl ?_
    refine TQ_pure rfl (pur_not rfl rfl) rfl ?_
    refine TQ_pure rfl (pur_move rfl) rfl ?_
    refine TQ_split (t := (!r_5)) 16 rfl (fun g_7 => ?_) (fun g_7 => ?_)
    ·replace H := cond_t g_7 H
     refine TQ_off rfl rfl (by decide) rfl rfl rfl ?_
     refine TQ_off rfl rfl (by decide) rfl rfl rfl ?_
     refine TQ_off rfl rfl (by decide) rfl rfl rfl ?_
     refine TQ_off rfl rfl (by decide) rfl rfl rfl ?_
     refine TQ_off rfl rfl (by decide) rfl rfl rfl ?_
     refine TQ_off rfl rfl (by decide) rfl rfl rfl ?_
     refine TQ_off rfl rfl (by decide) rfl rfl rfl ?_
     refine TQ_off rfl rfl (by decide) rfl rfl rfl ?_
     refine tqe [(0, (sl tRelation l0)), (3, (intA (i_1 : Int))), (16, (boolA true)), (19, (.v undef)), (24, (.v undef))] rfl ?_
     refine TQ_off rfl rfl (by decide) rfl rfl rfl ?_
     refine TQ_off rfl rfl (by decide) rfl rfl rfl ?_
     refine TQ_off rfl rfl (by decide) rfl rfl rfl ?_
     refine TQ_off rfl rfl (by decide) rfl rfl rfl ?_
     refine TQ_off rfl rfl (by decide) rfl rfl rfl ?_
     refine TQ_off rfl rfl (by decide) rfl rfl rfl ?_
     refine TQ_off rfl rfl (by decide) rfl rfl rfl ?_
     refine TQ_off rfl rfl (by decide) rfl rfl rfl ?_
     refine TQ_pure rfl (pur_pick (t := true) rfl rfl rfl) rfl ?_
     refine TQ_nil ?_
     exact joined true (wp 0 (lb rfl) rfl rfl rfl rfl rfl) (some_inj H).symm
    ·replace H := cond_f g_7 H
     refine TQ_on rfl rfl (by decide) rfl (pur_move rfl) rfl ?_
     refine TQ_on rfl rfl (by decide) rfl (pur_gtr rfl rfl rfl) rfl ?_
     refine TQ_on rfl rfl (by decide) rfl (pur_move rfl) rfl ?_
     refine TQ_split (t := decide (0 < (i_1 : Int))) 19 rfl (fun g_8 => ?_) (fun g_8 => ?_)
     ·replace H := cond_t g_8 H
      refine TQ_on rfl rfl (by decide) rfl (pur_move rfl) rfl ?_
      refine TQ_on rfl rfl (by decide) rfl (pur_move rfl) rfl ?_
      refine TQ_on rfl rfl (by decide) rfl (pur_sub rfl rfl rfl (fits64 (by omega) (by omega))) rfl ?_
      obtain ⟨v_9, h_10, H⟩ := bind_inv H
      obtain ⟨n_11, hz_12, hv_13⟩ := getI_inv h_10
      refine TQ_on rfl rfl (by decide) rfl (pur_ixT (T := tRelation) sl45 rfl rfl hz_12 hv_13 rfl) rfl ?_
      refine TQ_on rfl rfl (by decide) rfl (pur_fa_q fld130_0 rfl rfl) rfl ?_
      refine TQ_on rfl rfl (by decide) rfl (pur_ldT (T := tRelation) (i := n_11) (off := 0) rfl one9 rfl rfl hv_13 rfl) rfl ?_
      refine TQ_on rfl rfl (by decide) rfl (pur_move rfl) rfl ?_
      refine TQ_on rfl rfl (by decide) rfl (pur_move rfl) rfl ?_
      refine tqe [(0, (sl tRelation l0)), (3, (intA (i_1 : Int))), (16, (boolA false)), (19, (boolA true)), (25, (strA v_9.name)), (26, (sl tRelation l0)), (27, (intA (i_1 : Int)))] rfl ?_
      refine TQ_on rfl rfl (by decide) rfl (pur_ixT (T := tRelation) sl45 rfl rfl rfl hx_i_1 rfl) rfl ?_
      refine TQ_on rfl rfl (by decide) rfl (pur_fa_q fld130_0 rfl rfl) rfl ?_
      refine TQ_on rfl rfl (by decide) rfl (pur_ldT (T := tRelation) (i := i_1) (off := 0) rfl one9 rfl rfl hx_i_1 rfl) rfl ?_
      refine TQ_on rfl rfl (by decide) rfl (pur_geqS rfl rfl rfl) rfl ?_
      refine TQ_on rfl rfl (by decide) rfl (pur_pick (t := true) rfl rfl rfl) rfl ?_
      refine TQ_pure rfl (pur_pick (t := false) rfl rfl rfl) rfl ?_
      refine TQ_nil ?_
      exact joined (!ltS v_9.name x_i_1.name) (wp 0 (lb rfl) rfl rfl rfl rfl rfl) (some_inj H).symm
     ·replace H := cond_f g_8 H
      refine TQ_off rfl rfl (by decide) rfl rfl rfl ?_
      refine TQ_off rfl rfl (by decide) rfl rfl rfl ?_
      refine TQ_off rfl rfl (by decide) rfl rfl rfl ?_
      refine TQ_off rfl rfl (by decide) rfl rfl rfl ?_
      refine TQ_off rfl rfl (by decide) rfl rfl rfl ?_
      refine TQ_off rfl rfl (by decide) rfl rfl rfl ?_
      refine TQ_off rfl rfl (by decide) rfl rfl rfl ?_
      refine TQ_off rfl rfl (by decide) rfl rfl rfl ?_
      refine tqe [(0, (sl tRelation l0)), (3, (intA (i_1 : Int))), (16, (boolA false)), (19, (boolA false)), (25, (.v undef)), (26, (.v undef)), (27, (.v undef))] rfl ?_
      refine TQ_off rfl rfl (by decide) rfl rfl rfl ?_
      refine TQ_off rfl rfl (by decide) rfl rfl rfl ?_
      refine TQ_off rfl rfl (by decide) rfl rfl rfl ?_
      refine TQ_off rfl rfl (by decide) rfl rfl rfl ?_
      refine TQ_on rfl rfl (by decide) rfl (pur_pick (t := false) rfl rfl rfl) rfl ?_
      refine TQ_pure rfl (pur_pick (t := false) rfl rfl rfl) rfl ?_
      refine TQ_nil ?_
      exact joined false (wp 0 (lb rfl) rfl rfl rfl rfl rfl) (some_inj H).symm
   ·rintro _ rfl
    replace H := H_4
    refine te [(0, (sl tRelation l0)), (3, (intA (i_1 : Int))), (33, (boolA t33_3))] rfl ?_
    refine T_cond (t := t33_3) rfl (fun c_14 => ?_) (fun c_14 => ?_)
    ·replace H := cond_t c_14 H
     refine sr ?_
     refine Tp rfl rfl (pur_assign rfl) rfl ?_
     refine TO_nil ?_
     refine te [(2, (boolA false))] rfl ?_
     refine T_ret ?_
     refine block_ret ?_
     refine then_ret ?_
     refine then_ret ?_
     refine block_ret ?_
     refine then_ret ?_
     obtain rfl := some_inj H
     obtain rfl := some_inj K2_
     replace H := onS_r N2_
     obtain rfl := some_inj H
     refine end_ret (.tmp .nil) rfl rfl ⟨?_, rfl⟩
     rfl
    ·replace H := cond_f c_14 H
     refine T_skip ?_
     refine te [(0, (sl tRelation l0)), (3, (intA (i_1 : Int)))] rfl ?_
     refine T_region ?_
     refine Tp rfl rfl (pur_move rfl) rfl ?_
     refine Tp rfl rfl (pur_add rfl rfl rfl (fits64 (by omega) (by omega))) rfl ?_
     refine Tp rfl rfl (pur_assign rfl) rfl ?_
     refine TO_nil ?_
     obtain rfl := some_inj H
     exact again (l0.length - (i_1 + 1)) (i_1 + 1) (by omega) (wp 0 (lb rfl) rfl rfl rfl rfl rfl) ⟨rfl, K2_⟩
  ·replace d2 := of_decide_eq_false d2
   obtain rfl := forL_end L2_ (by omega)
   refine T_exit ?_
   refine then_exit ?_
   refine then_exit ?_
   refine block_exit ?_
   replace H := onS_l N2_
   refine te [(0, (sl tRelation l0))] rfl ?_
   refine sr ?_
   refine Tp rfl rfl (pur_move rfl) rfl ?_
   refine Tp rfl rfl (pur_lenT (T := tRelation) sl45 rfl rfl) rfl ?_
   refine Tp rfl rfl (pur_leq rfl rfl rfl) rfl ?_
   refine Tp rfl rfl (pur_assign rfl) rfl ?_
   refine TO_nil ?_
   refine te [(2, (boolA (decide ((l0.length : Int) ≤ 4))))] rfl ?_
   refine T_ret ?_
   obtain rfl := some_inj H
   refine end_ret (.tmp .nil) rfl rfl ⟨?_, rfl⟩
   rfl

set_option maxHeartbeats 1000000 in
/-- spec.IsValidFact -/
theorem m_spec_IsValidFact_ok (u : Nat) (l0 : (List Relation)) (f1 : Fact) (r : Bool) (H : m_spec_IsValidFact u l0 f1 = some r) : FnV prg 123 [(sl tRelation l0), (.g (tFact.enc f1))] (boolA r) := by
  unfold m_spec_IsValidFact at H
  refine fnV_of_T Try.func123 rfl rfl (Nat.le_of_ble_eq_true rfl) ?_
  refine te [(0, (sl tRelation l0)), (1, (.g (tFact.enc f1)))] rfl ?_
  refine sr ?_
  refine TO_cons rfl (TOp_box rfl (boxAll rfl) rfl rfl ?_)
  refine Tp rfl rfl (pur_assign rfl) rfl ?_
  refine TO_nil ?_
  refine te [(0, (sl tRelation l0)), (3, (.b 0 0))] rfl ?_
  refine T_seq ?_
  obtain ⟨t29_1, J_1, H_2⟩ := bind_inv H
  refine T_cutX (fun x => t29_1 = x) (fun (t29_1 : Bool) => [(3, (.b 0 0)), (29, (boolA t29_1))]) (fun (t29_1 : Bool) => [.box [(intA f1.relation), (sl tInt f1.values)]]) ?_ ?_
  ·replace H := J_1
   refine T_regionD mixed (by kernel_rfl) ?_
   refine TQ_pure rfl (pur_move rfl) rfl ?_
   obtain ⟨r_3, h_4, H⟩ := bind_inv H
   refine TQ_callV rfl (call_static ent124 rfl) (m_spec_AreValidRelations_ok _ _ h_4) rfl rfl ?_
   refine TQ_pure rfl (pur_not rfl rfl) rfl ?_
   refine TQ_pure rfl (pur_move rfl) rfl ?_
   refine TQ_split (t := (!r_3)) 9 rfl (fun g_5 => ?_) (fun g_5 => ?_)
   ·replace H := cond_t g_5 H
    refine TQ_off rfl rfl (by decide) rfl rfl rfl ?_
    refine TQ_off rfl rfl (by decide) rfl rfl rfl ?_
    refine TQ_off rfl rfl (by decide) rfl rfl rfl ?_
    refine TQ_off rfl rfl (by decide) rfl rfl rfl ?_
    refine TQ_off rfl rfl (by decide) rfl rfl rfl ?_
    refine TQ_off rfl rfl (by decide) rfl rfl rfl ?_
    refine TQ_off rfl rfl (by decide) rfl rfl rfl ?_
    refine TQ_pure rfl (pur_pick (t := true) rfl rfl rfl) rfl ?_
    refine tqe [(0, (sl tRelation l0)), (3, (.b 0 0)), (17, (boolA true))] rfl ?_
    refine TQ_pure rfl (pur_move rfl) rfl ?_
    refine TQ_off rfl rfl (by decide) rfl rfl rfl ?_
    refine TQ_off rfl rfl (by decide) rfl rfl rfl ?_
    refine TQ_off rfl rfl (by decide) rfl rfl rfl ?_
    refine TQ_off rfl rfl (by decide) rfl rfl rfl ?_
    refine TQ_off rfl rfl (by decide) rfl rfl rfl ?_
    refine TQ_off rfl rfl (by decide) rfl rfl rfl ?_
    refine TQ_off rfl rfl (by decide) rfl rfl rfl ?_
    refine tqe [(3, (.b 0 0)), (18, (boolA true)), (21, (.v undef)), (25, (.v undef))] rfl ?_
    refine TQ_off rfl rfl (by decide) rfl rfl rfl ?_
    refine TQ_off rfl rfl (by decide) rfl rfl rfl ?_
    refine TQ_off rfl rfl (by decide) rfl rfl rfl ?_
    refine TQ_pure rfl (pur_pick (t := true) rfl rfl rfl) rfl ?_
    refine TQ_nil ?_
    exact joined true (wp 1 (lb rfl) rfl rfl rfl rfl rfl) (some_inj H).symm
   ·replace H := cond_f g_5 H
    refine TQ_on rfl rfl (by decide) rfl (pur_fa_b fld65_0 rfl rfl) rfl ?_
    refine TQ_on rfl rfl (by decide) rfl (pur_ld_b one3 rfl rfl rfl rfl) rfl ?_
    refine TQ_on rfl rfl (by decide) rfl (pur_move rfl) rfl ?_
    refine TQ_on rfl rfl (by decide) rfl (pur_lenT (T := tRelation) sl45 rfl rfl) rfl ?_
    refine TQ_fact (len_sl (T := tRelation) (.tmp 0) rfl) (fun hl_6 => ?_)
    refine TQ_on rfl rfl (by decide) rfl (pur_sub rfl rfl rfl (fits64 (by omega) (by omega))) rfl ?_
    obtain ⟨r_7, h_8, H⟩ := bind_inv H
    refine TQ_onV rfl rfl (by decide) rfl (call_static ent137 rfl) (m_spec_l1In_ok _ _ _ _ h_8) rfl rfl ?_
    refine TQ_on rfl rfl (by decide) rfl (pur_not rfl rfl) rfl ?_
    refine TQ_pure rfl (pur_pick (t := false) rfl rfl rfl) rfl ?_
    refine tqe [(0, (sl tRelation l0)), (3, (.b 0 0)), (17, (boolA (!r_7)))] rfl ?_
    refine TQ_pure rfl (pur_move rfl) rfl ?_
    refine TQ_split (t := (!r_7)) 18 rfl (fun g_9 => ?_) (fun g_9 => ?_)
    ·replace H := cond_t g_9 H
     refine TQ_off rfl rfl (by decide) rfl rfl rfl ?_
     refine TQ_off rfl rfl (by decide) rfl rfl rfl ?_
     refine TQ_off rfl rfl (by decide) rfl rfl rfl ?_
     refine TQ_off rfl rfl (by decide) rfl rfl rfl ?_
     refine TQ_off rfl rfl (by decide) rfl rfl rfl ?_
     refine TQ_off rfl rfl (by decide) rfl rfl rfl ?_
     refine TQ_off rfl rfl (by decide) rfl rfl rfl ?_
     refine TQ_off rfl rfl (by decide) rfl rfl rfl ?_
     refine tqe [(3, (.b 0 0)), (18, (boolA true)), (21, (.v undef)), (26, (.v undef))] rfl ?_
     refine TQ_off rfl rfl (by decide) rfl rfl rfl ?_
     refine TQ_off rfl rfl (by decide) rfl rfl rfl ?_
     refine TQ_pure rfl (pur_pick (t := true) rfl rfl rfl) rfl ?_
     refine TQ_nil ?_
     exact joined true (wp 1 (lb rfl) rfl rfl rfl rfl rfl) (some_inj H).symm
    ·replace H := cond_f g_9 H
     refine TQ_on rfl rfl (by decide) rfl (pur_fa_b fld65_1 rfl rfl) rfl ?_
     refine TQ_on rfl rfl (by decide) rfl (pur_ld_b one23 rfl rfl rfl rfl) rfl ?_
     refine TQ_on rfl rfl (by decide) rfl (pur_lenT (T := tInt) sl23 rfl rfl) rfl ?_
     refine TQ_on rfl rfl (by decide) rfl (pur_move rfl) rfl ?_
     refine TQ_on rfl rfl (by decide) rfl (pur_fa_b fld65_0 rfl rfl) rfl ?_
     refine TQ_on rfl rfl (by decide) rfl (pur_ld_b one3 rfl rfl rfl rfl) rfl ?_
     obtain ⟨v_10, h_11, H⟩ := bind_inv H
     obtain ⟨n_12, hz_13, hv_14⟩ := getI_inv h_11
     refine TQ_on rfl rfl (by decide) rfl (pur_ixT (T := tRelation) sl45 rfl rfl hz_13 hv_14 rfl) rfl ?_
     refine TQ_on rfl rfl (by decide) rfl (pur_fa_q fld130_1 rfl rfl) rfl ?_
     refine tqe [(3, (.b 0 0)), (18, (boolA false)), (21, (intA (f1.values.length : Int))), (26, (.q (flat tRelation.enc l0) (n_12 * tRelation.k + 1)))] rfl ?_
     refine TQ_on rfl rfl (by decide) rfl (pur_ldT (T := tRelation) (i := n_12) (off := 1) rfl one3 rfl rfl hv_14 rfl) rfl ?_
     refine TQ_on rfl rfl (by decide) rfl (pur_neq rfl rfl rfl) rfl ?_
     refine TQ_pure rfl (pur_pick (t := false) rfl rfl rfl) rfl ?_
     refine TQ_nil ?_
     exact joined (decide ((f1.values.length : Int) ≠ v_10.arity)) (wp 1 (lb rfl) rfl rfl rfl rfl rfl) (some_inj H).symm
  ·rintro _ rfl
   replace H := H_2
   refine te [(3, (.b 0 0)), (29, (boolA t29_1))] rfl ?_
   refine T_cond (t := t29_1) rfl (fun c_15 => ?_) (fun c_15 => ?_)
   ·replace H := cond_t c_15 H
    refine sr ?_
    refine Tp rfl rfl (pur_assign rfl) rfl ?_
    refine TO_nil ?_
    refine te [(4, (boolA false))] rfl ?_
    refine T_ret ?_
    refine then_ret ?_
    obtain rfl := some_inj H
    refine end_ret (.tmp .nil) rfl rfl ⟨?_, rfl⟩
    rfl
   ·replace H := cond_f c_15 H
    refine T_skip ?_
    refine te [(3, (.b 0 0))] rfl ?_
    refine T_seq ?_
    refine sr ?_
    refine Tp rfl rfl (pur_assign rfl) rfl ?_
    refine TO_nil ?_
    refine te [(3, (.b 0 0)), (5, (intA 0))] rfl ?_
    obtain ⟨O16_, L16_, N16_⟩ := bind_inv H
    clear H
    obtain ⟨B16_, hb16, L16_⟩ := gen_whileF L16_
    refine T_block ?_
    refine T_loopX (fun k => fun (i5 : Int) => whileF B16_ k i5 = some O16_) (fun (i5 : Int) => [(3, (.b 0 0)), (5, (intA i5))]) (fun (i5 : Int) => [.box [(intA f1.relation), (sl tInt f1.values)]]) u 0 (wp 1 (lb rfl) rfl rfl rfl rfl rfl) L16_ ?_
    rintro _ i5 L16_
    obtain ⟨k16, rfl, C16_, H, K16_⟩ := while_step L16_
    rw [hb16] at H
    refine te [(3, (.b 0 0)), (5, (intA i5))] rfl ?_
    refine T_st (σ' := [.box [(intA f1.relation), (sl tInt f1.values)]]) rfl ?_
    refine T_seq ?_
    refine sr ?_
    refine Tp rfl rfl (pur_move rfl) rfl ?_
    refine Tp rfl rfl (pur_fa_b fld65_1 rfl rfl) rfl ?_
    refine Tp rfl rfl (pur_ld_b one23 rfl rfl rfl rfl) rfl ?_
    refine Tp rfl rfl (pur_lenT (T := tInt) sl23 rfl rfl) rfl ?_
    refine Tp rfl rfl (pur_lss rfl rfl rfl) rfl ?_
    refine TO_nil ?_
    refine te [(3, (.b 0 0)), (5, (intA i5)), (34, (boolA (decide (i5 < (f1.values.length : Int)))))] rfl ?_
    refine T_cond (t := decide (i5 < (f1.values.length : Int))) rfl (fun c_17 => ?_) (fun c_17 => ?_)
    ·replace H := cond_t c_17 H
     refine T_skip ?_
     refine te [(3, (.b 0 0)), (5, (intA i5))] rfl ?_
     refine T_seq ?_
     refine T_block ?_
     refine sr ?_
     refine Tp rfl rfl (pur_fa_b fld65_1 rfl rfl) rfl ?_
     refine Tp rfl rfl (pur_ld_b one23 rfl rfl rfl rfl) rfl ?_
     refine Tp rfl rfl (pur_move rfl) rfl ?_
     obtain ⟨v_18, h_19, H⟩ := bind_inv H
     obtain ⟨n_20, hz_21, hv_22⟩ := getI_inv h_19
     refine Tp rfl rfl (pur_ixT (T := tInt) sl23 rfl rfl hz_21 hv_22 rfl) rfl ?_
     refine Tp rfl rfl (pur_ldT (T := tInt) (i := n_20) (off := 0) rfl one3 rfl rfl hv_22 rfl) rfl ?_
     obtain ⟨r_23, h_24, H⟩ := bind_inv H
     refine TO_cons rfl (TOp_callV (call_static ent137 rfl) (m_spec_l1In_ok _ _ _ _ h_24) rfl rfl rfl ?_)
     refine Tp rfl rfl (pur_not rfl rfl) rfl ?_
     refine TO_nil ?_
     refine te [(3, (.b 0 0)), (5, (intA i5)), (43, (boolA (!r_23)))] rfl ?_
     refine T_cond (t := (!r_23)) rfl (fun c_25 => ?_) (fun c_25 => ?_)
     ·replace H := cond_t c_25 H
      refine sr ?_
      refine Tp rfl rfl (pur_assign rfl) rfl ?_
      refine TO_nil ?_
      refine te [(4, (boolA false))] rfl ?_
      refine T_ret ?_
      refine block_ret ?_
      refine then_ret ?_
      refine then_ret ?_
      refine block_ret ?_
      refine then_ret ?_
      obtain rfl := some_inj H
      obtain rfl := some_inj K16_
      replace H := onS_r N16_
      obtain rfl := some_inj H
      refine end_ret (.tmp .nil) rfl rfl ⟨?_, rfl⟩
      rfl
     ·replace H := cond_f c_25 H
      refine T_skip ?_
      refine te [(3, (.b 0 0)), (5, (intA i5))] rfl ?_
      refine T_region ?_
      refine Tp rfl rfl (pur_move rfl) rfl ?_
      refine Tp rfl rfl (pur_wadd rfl rfl rfl) rfl ?_
      refine Tp rfl rfl (pur_assign rfl) rfl ?_
      refine TO_nil ?_
      obtain rfl := some_inj H
      exact again k16 (w64 (i5 + 1)) (Nat.lt_succ_self _) (wp 1 (lb rfl) rfl rfl rfl rfl rfl) K16_
    ·replace H := cond_f c_17 H
     refine T_exit ?_
     refine then_exit ?_
     refine then_exit ?_
     refine block_exit ?_
     obtain rfl := some_inj H
     obtain rfl := some_inj K16_
     replace H := onS_l N16_
     refine te [] rfl ?_
     refine sr ?_
     refine Tp rfl rfl (pur_assign rfl) rfl ?_
     refine TO_nil ?_
     refine te [(4, (boolA true))] rfl ?_
     refine T_ret ?_
     obtain rfl := some_inj H
     refine end_ret (.tmp .nil) rfl rfl ⟨?_, rfl⟩
     rfl

set_option maxHeartbeats 1000000 in
/-- spec.IsValidDatabase -/
theorem m_spec_IsValidDatabase_ok (u : Nat) (d0 : Database) (r : Bool) (H : m_spec_IsValidDatabase u d0 = some r) : FnV prg 53 [(.g (tDatabase.enc d0))] (boolA r) := by
  unfold m_spec_IsValidDatabase at H
  refine fnV_of_T Try.func53 rfl rfl (Nat.le_of_ble_eq_true rfl) ?_
  refine te [(0, (.g (tDatabase.enc d0)))] rfl ?_
  refine sr ?_
  refine TO_cons rfl (TOp_box rfl (boxAll rfl) rfl rfl ?_)
  refine Tp rfl rfl (pur_assign rfl) rfl ?_
  refine TO_nil ?_
  refine te [(1, (.b 0 0))] rfl ?_
  refine T_seq ?_
  refine sr ?_
  refine Tp rfl rfl (pur_assign rfl) rfl ?_
  refine TO_nil ?_
  refine te [(1, (.b 0 0)), (3, (intA 0))] rfl ?_
  obtain ⟨O1_, L1_, N1_⟩ := bind_inv H
  clear H
  obtain ⟨B1_, hb1, L1_⟩ := gen_whileF L1_
  refine T_block ?_
  refine T_loopX (fun k => fun (i3 : Int) => whileF B1_ k i3 = some O1_) (fun (i3 : Int) => [(1, (.b 0 0)), (3, (intA i3))]) (fun (i3 : Int) => [.box [(sl tRelation d0.relations), (sl tFact d0.facts)]]) u 0 (wp 1 (lb rfl) rfl rfl rfl rfl rfl) L1_ ?_
  rintro _ i3 L1_
  obtain ⟨k1, rfl, C1_, H, K1_⟩ := while_step L1_
  rw [hb1] at H
  refine te [(1, (.b 0 0)), (3, (intA i3))] rfl ?_
  refine T_st (σ' := [.box [(sl tRelation d0.relations), (sl tFact d0.facts)]]) rfl ?_
  refine T_seq ?_
  refine sr ?_
  refine Tp rfl rfl (pur_move rfl) rfl ?_
  refine Tp rfl rfl (pur_fa_b fld48_1 rfl rfl) rfl ?_
  refine Tp rfl rfl (pur_ld_b one46 rfl rfl rfl rfl) rfl ?_
  refine Tp rfl rfl (pur_lenT (T := tFact) sl46 rfl rfl) rfl ?_
  refine Tp rfl rfl (pur_lss rfl rfl rfl) rfl ?_
  refine TO_nil ?_
  refine te [(1, (.b 0 0)), (3, (intA i3)), (8, (boolA (decide (i3 < (d0.facts.length : Int)))))] rfl ?_
  refine T_cond (t := decide (i3 < (d0.facts.length : Int))) rfl (fun c_2 => ?_) (fun c_2 => ?_)
  ·replace H := cond_t c_2 H
   refine T_skip ?_
   refine te [(1, (.b 0 0)), (3, (intA i3))] rfl ?_
   refine T_seq ?_
   refine T_block ?_
   obtain ⟨t38_3, J_3, H_4⟩ := bind_inv H
   refine T_cutX (fun x => t38_3 = x) (fun (t38_3 : Bool) => [(1, (.b 0 0)), (3, (intA i3)), (38, (boolA t38_3))]) (fun (t38_3 : Bool) => [.box [(sl tRelation d0.relations), (sl tFact d0.facts)]]) ?_ ?_
   ·replace H := J_3
    refine T_regionD mixed (by kernel_rfl) ?_
    refine TQ_pure rfl (pur_fa_b fld48_0 rfl rfl) rfl ?_
    refine TQ_pure rfl (pur_ld_b one45 rfl rfl rfl rfl) rfl ?_
    refine TQ_pure rfl (pur_fa_b fld48_1 rfl rfl) rfl ?_
    refine TQ_pure rfl (pur_ld_b one46 rfl rfl rfl rfl) rfl ?_
    refine TQ_pure rfl (pur_move rfl) rfl ?_
    obtain ⟨v_5, h_6, H⟩ := bind_inv H
    obtain ⟨n_7, hz_8, hv_9⟩ := getI_inv h_6
    refine TQ_pure rfl (pur_ixT (T := tFact) sl46 rfl rfl hz_8 hv_9 rfl) rfl ?_
    refine TQ_pure rfl (pur_ldTK (T := tFact) (i := n_7) (off := 0) rfl agg65 rfl rfl hv_9 (by decide) rfl) rfl ?_
    obtain ⟨r_10, h_11, H⟩ := bind_inv H
    refine TQ_callV rfl (call_static ent123 rfl) (m_spec_IsValidFact_ok u _ _ _ h_11) rfl rfl ?_
    refine tqe [(1, (.b 0 0)), (3, (intA i3)), (18, (boolA r_10))] rfl ?_
    refine TQ_pure rfl (pur_not rfl rfl) rfl ?_
    refine TQ_pure rfl (pur_move rfl) rfl ?_
    refine TQ_split (t := (!r_10)) 20 rfl (fun g_12 => ?_) (fun g_12 => ?_)
    ·replace H := cond_t g_12 H
     refine TQ_off rfl rfl (by decide) rfl rfl rfl ?_
     refine TQ_off rfl rfl (by decide) rfl rfl rfl ?_
     refine TQ_off rfl rfl (by decide) rfl rfl rfl ?_
     refine TQ_off rfl rfl (by decide) rfl rfl rfl ?_
     refine TQ_off rfl rfl (by decide) rfl rfl rfl ?_
     refine TQ_off rfl rfl (by decide) rfl rfl rfl ?_
     refine TQ_off rfl rfl (by decide) rfl rfl rfl ?_
     refine TQ_off rfl rfl (by decide) rfl rfl rfl ?_
     refine tqe [(1, (.b 0 0)), (3, (intA i3)), (20, (boolA true)), (23, (.v undef)), (28, (.v undef))] rfl ?_
     refine TQ_off rfl rfl (by decide) rfl rfl rfl ?_
     refine TQ_off rfl rfl (by decide) rfl rfl rfl ?_
     refine TQ_off rfl rfl (by decide) rfl rfl rfl ?_
     refine TQ_off rfl rfl (by decide) rfl rfl rfl ?_
     refine TQ_off rfl rfl (by decide) rfl rfl rfl ?_
     refine TQ_off rfl rfl (by decide) rfl rfl rfl ?_
     refine TQ_off rfl rfl (by decide) rfl rfl rfl ?_
     refine TQ_off rfl rfl (by decide) rfl rfl rfl ?_
     refine TQ_off rfl rfl (by decide) rfl rfl rfl ?_
     refine TQ_pure rfl (pur_pick (t := true) rfl rfl rfl) rfl ?_
     refine TQ_nil ?_
     exact joined true (wp 1 (lb rfl) rfl rfl rfl rfl rfl) (some_inj H).symm
    ·replace H := cond_f g_12 H
     refine TQ_on rfl rfl (by decide) rfl (pur_move rfl) rfl ?_
     refine TQ_on rfl rfl (by decide) rfl (pur_gtr rfl rfl rfl) rfl ?_
     refine TQ_on rfl rfl (by decide) rfl (pur_move rfl) rfl ?_
     refine TQ_split (t := decide (0 < i3)) 23 rfl (fun g_13 => ?_) (fun g_13 => ?_)
     ·replace H := cond_t g_13 H
      refine TQ_on rfl rfl (by decide) rfl (pur_fa_b fld48_1 rfl rfl) rfl ?_
      refine TQ_on rfl rfl (by decide) rfl (pur_ld_b one46 rfl rfl rfl rfl) rfl ?_
      refine TQ_on rfl rfl (by decide) rfl (pur_move rfl) rfl ?_
      refine TQ_on rfl rfl (by decide) rfl (pur_wsub rfl rfl rfl) rfl ?_
      obtain ⟨v_14, h_15, H⟩ := bind_inv H
      obtain ⟨n_16, hz_17, hv_18⟩ := getI_inv h_15
      refine TQ_on rfl rfl (by decide) rfl (pur_ixT (T := tFact) sl46 rfl rfl hz_17 hv_18 rfl) rfl ?_
      refine TQ_on rfl rfl (by decide) rfl (pur_ldTK (T := tFact) (i := n_16) (off := 0) rfl agg65 rfl rfl hv_18 (by decide) rfl) rfl ?_
      refine TQ_on rfl rfl (by decide) rfl (pur_fa_b fld48_1 rfl rfl) rfl ?_
      refine TQ_on rfl rfl (by decide) rfl (pur_ld_b one46 rfl rfl rfl rfl) rfl ?_
      refine tqe [(1, (.b 0 0)), (3, (intA i3)), (20, (boolA false)), (23, (boolA true)), (29, (.g (tFact.enc v_14))), (31, (sl tFact d0.facts))] rfl ?_
      refine TQ_on rfl rfl (by decide) rfl (pur_move rfl) rfl ?_
      refine TQ_on rfl rfl (by decide) rfl (pur_ixT (T := tFact) sl46 rfl rfl hz_8 hv_9 rfl) rfl ?_
      refine TQ_on rfl rfl (by decide) rfl (pur_ldTK (T := tFact) (i := n_7) (off := 0) rfl agg65 rfl rfl hv_9 (by decide) rfl) rfl ?_
      obtain ⟨r_19, h_20, H⟩ := bind_inv H
      refine TQ_onV rfl rfl (by decide) rfl (call_static ent114 rfl) (m_spec_CompareFacts_ok u _ _ _ h_20) rfl rfl ?_
      refine TQ_on rfl rfl (by decide) rfl (pur_geq rfl rfl rfl) rfl ?_
      refine TQ_on rfl rfl (by decide) rfl (pur_pick (t := true) rfl rfl rfl) rfl ?_
      refine TQ_pure rfl (pur_pick (t := false) rfl rfl rfl) rfl ?_
      refine TQ_nil ?_
      exact joined (decide (0 ≤ r_19)) (wp 1 (lb rfl) rfl rfl rfl rfl rfl) (some_inj H).symm
     ·replace H := cond_f g_13 H
      refine TQ_off rfl rfl (by decide) rfl rfl rfl ?_
      refine TQ_off rfl rfl (by decide) rfl rfl rfl ?_
      refine TQ_off rfl rfl (by decide) rfl rfl rfl ?_
      refine TQ_off rfl rfl (by decide) rfl rfl rfl ?_
      refine TQ_off rfl rfl (by decide) rfl rfl rfl ?_
      refine TQ_off rfl rfl (by decide) rfl rfl rfl ?_
      refine TQ_off rfl rfl (by decide) rfl rfl rfl ?_
      refine TQ_off rfl rfl (by decide) rfl rfl rfl ?_
      refine tqe [(1, (.b 0 0)), (3, (intA i3)), (20, (boolA false)), (23, (boolA false)), (29, (.v undef)), (31, (.v undef))] rfl ?_
      refine TQ_off rfl rfl (by decide) rfl rfl rfl ?_
      refine TQ_off rfl rfl (by decide) rfl rfl rfl ?_
      refine TQ_off rfl rfl (by decide) rfl rfl rfl ?_
      refine TQ_off rfl rfl (by decide) rfl rfl rfl ?_
      refine TQ_off rfl rfl (by decide) rfl rfl rfl ?_
      refine TQ_on rfl rfl (by decide) rfl (pur_pick (t := false) rfl rfl rfl) rfl ?_
      refine TQ_pure rfl (pur_pick (t := false) rfl rfl rfl) rfl ?_
      refine TQ_nil ?_
      exact joined false (wp 1 (lb rfl) rfl rfl rfl rfl rfl) (some_inj H).symm
   ·rintro _ rfl
    replace H := H_4
    refine te [(1, (.b 0 0)), (3, (intA i3)), (38, (boolA t38_3))] rfl ?_
    refine T_cond (t := t38_3) rfl (fun c_21 => ?_) (fun c_21 => ?_)
    ·replace H := cond_t c_21 H
     refine sr ?_
     refine Tp rfl rfl (pur_assign rfl) rfl ?_
     refine TO_nil ?_
     refine te [(2, (boolA false))] rfl ?_
     refine T_ret ?_
     refine block_ret ?_
     refine then_ret ?_
     refine then_ret ?_
     refine block_ret ?_
     refine then_ret ?_
     obtain rfl := some_inj H
     obtain rfl := some_inj K1_
     replace H := onS_r N1_
     obtain rfl := some_inj H
     refine end_ret (.tmp .nil) rfl rfl ⟨?_, rfl⟩
     rfl
    ·replace H := cond_f c_21 H
     refine T_skip ?_
     refine te [(1, (.b 0 0)), (3, (intA i3))] rfl ?_
     refine T_region ?_
     refine Tp rfl rfl (pur_move rfl) rfl ?_
     refine Tp rfl rfl (pur_wadd rfl rfl rfl) rfl ?_
     refine Tp rfl rfl (pur_assign rfl) rfl ?_
     refine TO_nil ?_
     obtain rfl := some_inj H
     exact again k1 (w64 (i3 + 1)) (Nat.lt_succ_self _) (wp 1 (lb rfl) rfl rfl rfl rfl rfl) K1_
  ·replace H := cond_f c_2 H
   refine T_exit ?_
   refine then_exit ?_
   refine then_exit ?_
   refine block_exit ?_
   obtain rfl := some_inj H
   obtain rfl := some_inj K1_
   replace H := onS_l N1_
   refine te [(1, (.b 0 0))] rfl ?_
   obtain ⟨t2_22, J_22, H_23⟩ := bind_inv H
   refine T_cutX (fun x => t2_22 = x) (fun (t2_22 : Bool) => [(2, (boolA t2_22))]) (fun (t2_22 : Bool) => []) ?_ ?_
   ·replace H := J_22
    refine T_region ?_
    refine Tp rfl rfl (pur_fa_b fld48_0 rfl rfl) rfl ?_
    refine Tp rfl rfl (pur_ld_b one45 rfl rfl rfl rfl) rfl ?_
    obtain ⟨r_24, h_25, H⟩ := bind_inv H
    refine TO_cons rfl (TOp_callV (call_static ent124 rfl) (m_spec_AreValidRelations_ok _ _ h_25) rfl rfl rfl ?_)
    refine Tp rfl rfl (pur_move rfl) rfl ?_
    refine TO_split (t := r_24) 42 rfl (fun g_26 => ?_) (fun g_26 => ?_)
    ·replace H := cond_t g_26 H
     refine TO_on rfl rfl (by decide) rfl rfl (TOp_pure (pur_fa_b fld48_1 rfl rfl) rfl ?_)
     refine TO_on rfl rfl (by decide) rfl rfl (TOp_pure (pur_ld_b one46 rfl rfl rfl rfl) rfl ?_)
     refine TO_on rfl rfl (by decide) rfl rfl (TOp_pure (pur_lenT (T := tFact) sl46 rfl rfl) rfl ?_)
     refine TO_on rfl rfl (by decide) rfl rfl (TOp_pure (pur_leq rfl rfl rfl) rfl ?_)
     refine Tp rfl rfl (pur_pick (t := true) rfl rfl rfl) rfl ?_
     refine Tp rfl rfl (pur_assign rfl) rfl ?_
     refine TO_nil ?_
     exact joined (decide ((d0.facts.length : Int) ≤ 14)) (wp 0 (lb rfl) rfl rfl rfl rfl rfl) (some_inj H).symm
    ·replace H := cond_f g_26 H
     refine TO_off rfl rfl (by decide) rfl rfl rfl ?_
     refine TO_off rfl rfl (by decide) rfl rfl rfl ?_
     refine TO_off rfl rfl (by decide) rfl rfl rfl ?_
     refine TO_off rfl rfl (by decide) rfl rfl rfl ?_
     refine Tp rfl rfl (pur_pick (t := false) rfl rfl rfl) rfl ?_
     refine Tp rfl rfl (pur_assign rfl) rfl ?_
     refine TO_nil ?_
     exact joined false (wp 0 (lb rfl) rfl rfl rfl rfl rfl) (some_inj H).symm
   ·rintro _ rfl
    replace H := H_23
    refine te [(2, (boolA t2_22))] rfl ?_
    refine T_ret ?_
    obtain rfl := some_inj H
    refine end_ret (.tmp .nil) rfl rfl ⟨?_, rfl⟩
    rfl

set_option maxHeartbeats 1000000 in
/-- spec.KeyOf -/
theorem m_spec_KeyOf_own (u : Nat) (l0 : (List Relation)) (f1 : Fact) (r : (List Int)) (H : m_spec_KeyOf u l0 f1 = some r) : FnO prg 178 [(sl tRelation l0), (.g (tFact.enc f1))] (.m [0] 0 r.length tInt.k) [.row (flat tInt.enc r)] := by
  unfold m_spec_KeyOf at H
  refine fnO_of_T Try.func178 rfl rfl (Nat.le_of_ble_eq_true rfl) ?_
  refine te [(0, (sl tRelation l0)), (1, (.g (tFact.enc f1)))] rfl ?_
  refine sr ?_
  refine TO_cons rfl (TOp_box rfl (boxAll rfl) rfl rfl ?_)
  refine Tp rfl rfl (pur_assign rfl) rfl ?_
  refine TO_nil ?_
  refine te [(0, (sl tRelation l0)), (3, (.b 0 0))] rfl ?_
  refine T_seq ?_
  refine sr ?_
  refine Tp rfl rfl (pur_move rfl) rfl ?_
  refine Tp rfl rfl (pur_ldK_b agg65 rfl rfl (lb rfl) rfl) rfl ?_
  obtain ⟨r_1, h_2, H⟩ := bind_inv H
  refine TO_cons rfl (TOp_callV (call_static ent123 rfl) (m_spec_IsValidFact_ok u _ _ _ h_2) rfl rfl rfl ?_)
  refine Tp rfl rfl (pur_not rfl rfl) rfl ?_
  refine TO_nil ?_
  refine te [(0, (sl tRelation l0)), (3, (.b 0 0)), (8, (boolA (!r_1)))] rfl ?_
  refine T_cond (t := (!r_1)) rfl (fun c_3 => ?_) (fun c_3 => ?_)
  ·replace H := cond_t c_3 H
   refine sr ?_
   refine TO_cons rfl (TOp_lit (nn := 0) (k := 1) sl23 zero3 rfl rfl rfl rfl (by decide) ?_)
   refine TO_st (σ' := [.box [(intA f1.relation), (sl tInt f1.values)], .row (flat tInt.enc ([] : (List Int)))]) rfl ?_
   refine Tp rfl rfl (pur_assign rfl) rfl ?_
   refine TO_nil ?_
   refine te [(4, (.m [1] 0 ([] : (List Int)).length tInt.k))] rfl ?_
   refine T_ret ?_
   refine then_ret ?_
   obtain rfl := some_inj H
   exact end_pick (.tmp .nil) rfl [1] (by decide) rfl rfl rfl rfl rfl rfl
  ·replace H := cond_f c_3 H
   refine T_skip ?_
   refine te [(0, (sl tRelation l0)), (3, (.b 0 0))] rfl ?_
   obtain ⟨v_4, h_5, H⟩ := bind_inv H
   obtain ⟨n_6, hz_7, hv_8⟩ := getI_inv h_5
   obtain ⟨ys_9, h_10, H⟩ := bind_inv H
   obtain ⟨us_11, h_12, H⟩ := bind_inv H
   refine T_pad ?_
   refine T_pad ?_
   refine T_cutX (fun (_ : Unit) => True) (fun _ => [(4, (.m [1] 0 us_11.length tInt.k))]) (fun _ => [.box [(intA f1.relation), (sl tInt f1.values)], .row (flat tInt.enc us_11)]) ?_ ?_
   ·skip
    refine T_regionP mixed ?_
    refine TA_have 2 #[true, true, true, true, true, true, true, true, true, true, false, false] [(10, (.m [2] 0 ([] : (List Int)).length tInt.k)), (19, (sl tInt ys_9))] [.box [(intA f1.relation), (sl tInt f1.values)], .dead, .row (flat tInt.enc ([] : (List Int)))] ?_ (fun hj0_3 => ?_)
    ·skip
     refine t1 10 (by kernel_rfl) rfl rfl (TOp_appY (T := tInt) (f := tInt.enc) (xs := ([] : (List Int))) (ys := ys_9) tInt.len sl23 zero3 rfl bytes3 (by decide) rfl rfl rfl rfl (src_T (T := tInt) rfl) (flat_cell tInt _) h_12 ?_)
     refine tmv 2 3 (by decide) (lb rfl) rfl rfl (lb rfl) ?_
     refine tf 11 rfl (purI_assign rfl) rfl rfl (by kernel_rfl) ?_
     refine TA_ghost (E' := [(4, (.m [1] 0 us_11.length tInt.k))]) (σ' := [.box [(intA f1.relation), (sl tInt f1.values)], .row (flat tInt.enc us_11), .dead, .dead]) (Ghost.move 1 2 (by decide) (lb rfl) rfl rfl (lb rfl) (Ghost.weak (WeakL.to 4 (lb rfl) rfl rfl rfl rfl ⟨leR rfl, trivial⟩))) ?_
     exact TA_nil (by kernel_rfl) (joined () (wp 2 (lb rfl) rfl rfl rfl rfl rfl) trivial)
    refine TA_have 3 #[true, true, true, true, true, true, true, true, true, false, false, false] [(10, (.m [2] 0 ([] : (List Int)).length tInt.k)), (12, (sl tInt f1.values)), (18, (intA v_4.keyLength))] [.box [(intA f1.relation), (sl tInt f1.values)], .dead, .row (flat tInt.enc ([] : (List Int)))] ?_ (fun hj1_3 => ?_)
    ·skip
     refine tf 9 rfl (purI_cutT (T := tInt) (lo := none) (hi := (some (.tmp 18))) sl23 rfl rfl ⟨_, rfl⟩ h_10 rfl) rfl rfl (by kernel_rfl) ?_
     exact tj hj0_3 rfl (wp 3 (lb rfl) rfl rfl rfl rfl rfl)
    refine TA_have 4 #[false, true, true, true, true, true, true, true, true, false, false, false] [(12, (sl tInt f1.values)), (18, (intA v_4.keyLength))] [.box [(intA f1.relation), (sl tInt f1.values)], .dead, .dead] ?_ (fun hj2_3 => ?_)
    ·skip
     refine tf 9 rfl (purI_cutT (T := tInt) (lo := none) (hi := (some (.tmp 18))) sl23 rfl rfl ⟨_, rfl⟩ h_10 rfl) rfl rfl (by kernel_rfl) ?_
     refine t1 0 (by kernel_rfl) rfl rfl (TOp_lit (nn := 0) (k := 1) sl23 zero3 rfl rfl rfl rfl (by decide) ?_)
     refine tmv 2 3 (by decide) (lb rfl) rfl rfl (lb rfl) ?_
     exact tj hj0_3 rfl (wp 3 (lb rfl) rfl rfl rfl rfl rfl)
    refine TA_have 4 #[true, true, false, true, true, true, true, true, true, false, false, false] [(10, (.m [2] 0 ([] : (List Int)).length tInt.k)), (11, (.b 0 1)), (18, (intA v_4.keyLength))] [.box [(intA f1.relation), (sl tInt f1.values)], .dead, .row (flat tInt.enc ([] : (List Int)))] ?_ (fun hj3_3 => ?_)
    ·skip
     refine t1 2 (by kernel_rfl) rfl rfl (TOp_pure (pur_ld_b one23 rfl rfl rfl rfl) rfl ?_)
     exact tj hj1_3 rfl (wp 3 (lb rfl) rfl rfl rfl rfl rfl)
    refine TA_have 4 #[true, true, true, true, true, true, true, true, false, false, false, false] [(10, (.m [2] 0 ([] : (List Int)).length tInt.k)), (12, (sl tInt f1.values)), (17, (.q (flat tRelation.enc l0) (n_6 * tRelation.k + 2)))] [.box [(intA f1.relation), (sl tInt f1.values)], .dead, .row (flat tInt.enc ([] : (List Int)))] ?_ (fun hj4_3 => ?_)
    ·skip
     refine t1 8 (by kernel_rfl) rfl rfl (TOp_pure (pur_ldT (T := tRelation) (i := n_6) (off := 2) rfl one3 rfl rfl hv_8 rfl) rfl ?_)
     exact tj hj1_3 rfl (wp 3 (lb rfl) rfl rfl rfl rfl rfl)
    refine TA_have 5 #[false, true, true, true, true, true, true, true, false, false, false, false] [(12, (sl tInt f1.values)), (17, (.q (flat tRelation.enc l0) (n_6 * tRelation.k + 2)))] [.box [(intA f1.relation), (sl tInt f1.values)], .dead, .dead] ?_ (fun hj5_3 => ?_)
    ·skip
     refine TA_all [0, 8] (by kernel_rfl) (by decide) ⟨?_, ?_, trivial⟩
     ·skip
      refine ⟨_, rfl, rfl, (TOp_lit (nn := 0) (k := 1) sl23 zero3 rfl rfl rfl rfl (by decide) ?_)⟩
      refine tmv 2 3 (by decide) (lb rfl) rfl rfl (lb rfl) ?_
      exact tj hj4_3 rfl (wp 3 (lb rfl) rfl rfl rfl rfl rfl)
     ·skip
      refine ⟨_, rfl, rfl, (TOp_pure (pur_ldT (T := tRelation) (i := n_6) (off := 2) rfl one3 rfl rfl hv_8 rfl) rfl ?_)⟩
      exact tj hj2_3 rfl (wp 3 (lb rfl) rfl rfl rfl rfl rfl)
    refine TA_have 5 #[true, true, false, true, true, true, true, true, false, false, false, false] [(10, (.m [2] 0 ([] : (List Int)).length tInt.k)), (11, (.b 0 1)), (17, (.q (flat tRelation.enc l0) (n_6 * tRelation.k + 2)))] [.box [(intA f1.relation), (sl tInt f1.values)], .dead, .row (flat tInt.enc ([] : (List Int)))] ?_ (fun hj6_3 => ?_)
    ·skip
     refine TA_all [2, 8] (by kernel_rfl) (by decide) ⟨?_, ?_, trivial⟩
     ·skip
      refine ⟨_, rfl, rfl, (TOp_pure (pur_ld_b one23 rfl rfl rfl rfl) rfl ?_)⟩
      exact tj hj4_3 rfl (wp 3 (lb rfl) rfl rfl rfl rfl rfl)
     ·skip
      refine ⟨_, rfl, rfl, (TOp_pure (pur_ldT (T := tRelation) (i := n_6) (off := 2) rfl one3 rfl rfl hv_8 rfl) rfl ?_)⟩
      exact tj hj3_3 rfl (wp 3 (lb rfl) rfl rfl rfl rfl rfl)
    refine TA_have 7 #[true, true, true, true, true, false, false, false, false, false, false, false] [(10, (.m [2] 0 ([] : (List Int)).length tInt.k)), (12, (sl tInt f1.values)), (13, (sl tRelation l0)), (14, (.b 0 0))] [.box [(intA f1.relation), (sl tInt f1.values)], .dead, .row (flat tInt.enc ([] : (List Int)))] ?_ (fun hj7_3 => ?_)
    ·skip
     refine t1 5 (by kernel_rfl) rfl rfl (TOp_pure (pur_ld_b one3 rfl rfl rfl rfl) rfl ?_)
     refine tf 6 rfl (purI_ixT (T := tRelation) sl45 rfl rfl hz_7 hv_8 rfl) rfl rfl (by kernel_rfl) ?_
     refine tf 7 rfl (purI_fa_q fld130_2 rfl rfl) rfl rfl (by kernel_rfl) ?_
     exact tj hj4_3 rfl (wp 3 (lb rfl) rfl rfl rfl rfl rfl)
    refine tf 1 rfl (purI_fa_b fld65_1 rfl rfl) rfl rfl (by kernel_rfl) ?_
    refine tf 3 rfl (purI_move rfl) rfl rfl (by kernel_rfl) ?_
    refine tf 4 rfl (purI_fa_b fld65_0 rfl rfl) rfl rfl (by kernel_rfl) ?_
    refine TA_all [0, 2, 5] (by kernel_rfl) (by decide) ⟨?_, ?_, ?_, trivial⟩
    ·skip
     refine ⟨_, rfl, rfl, (TOp_lit (nn := 0) (k := 1) sl23 zero3 rfl rfl rfl rfl (by decide) ?_)⟩
     refine tmv 2 3 (by decide) (lb rfl) rfl rfl (lb rfl) ?_
     refine TA_all [2, 5] (by kernel_rfl) (by decide) ⟨?_, ?_, trivial⟩
     ·skip
      refine ⟨_, rfl, rfl, (TOp_pure (pur_ld_b one23 rfl rfl rfl rfl) rfl ?_)⟩
      exact tj hj7_3 rfl (wp 3 (lb rfl) rfl rfl rfl rfl rfl)
     ·skip
      refine ⟨_, rfl, rfl, (TOp_pure (pur_ld_b one3 rfl rfl rfl rfl) rfl ?_)⟩
      refine tf 6 rfl (purI_ixT (T := tRelation) sl45 rfl rfl hz_7 hv_8 rfl) rfl rfl (by kernel_rfl) ?_
      refine tae [(10, (.m [2] 0 ([] : (List Int)).length tInt.k)), (11, (.b 0 1)), (16, (.q (flat tRelation.enc l0) (n_6 * tRelation.k)))] rfl ?_
      refine tf 7 rfl (purI_fa_q fld130_2 rfl rfl) rfl rfl (by kernel_rfl) ?_
      exact tj hj6_3 rfl (wp 3 (lb rfl) rfl rfl rfl rfl rfl)
    ·skip
     refine ⟨_, rfl, rfl, (TOp_pure (pur_ld_b one23 rfl rfl rfl rfl) rfl ?_)⟩
     refine TA_all [0, 5] (by kernel_rfl) (by decide) ⟨?_, ?_, trivial⟩
     ·skip
      refine ⟨_, rfl, rfl, (TOp_lit (nn := 0) (k := 1) sl23 zero3 rfl rfl rfl rfl (by decide) ?_)⟩
      refine tmv 2 3 (by decide) (lb rfl) rfl rfl (lb rfl) ?_
      exact tj hj7_3 rfl (wp 3 (lb rfl) rfl rfl rfl rfl rfl)
     ·skip
      refine ⟨_, rfl, rfl, (TOp_pure (pur_ld_b one3 rfl rfl rfl rfl) rfl ?_)⟩
      refine tf 6 rfl (purI_ixT (T := tRelation) sl45 rfl rfl hz_7 hv_8 rfl) rfl rfl (by kernel_rfl) ?_
      refine tae [(12, (sl tInt f1.values)), (16, (.q (flat tRelation.enc l0) (n_6 * tRelation.k)))] rfl ?_
      refine tf 7 rfl (purI_fa_q fld130_2 rfl rfl) rfl rfl (by kernel_rfl) ?_
      exact tj hj5_3 rfl (wp 3 (lb rfl) rfl rfl rfl rfl rfl)
    ·skip
     refine ⟨_, rfl, rfl, (TOp_pure (pur_ld_b one3 rfl rfl rfl rfl) rfl ?_)⟩
     refine tf 6 rfl (purI_ixT (T := tRelation) sl45 rfl rfl hz_7 hv_8 rfl) rfl rfl (by kernel_rfl) ?_
     refine tf 7 rfl (purI_fa_q fld130_2 rfl rfl) rfl rfl (by kernel_rfl) ?_
     refine tae [(11, (.b 0 1)), (17, (.q (flat tRelation.enc l0) (n_6 * tRelation.k + 2)))] rfl ?_
     refine TA_all [0, 2, 8] (by kernel_rfl) (by decide) ⟨?_, ?_, ?_, trivial⟩
     ·skip
      refine ⟨_, rfl, rfl, (TOp_lit (nn := 0) (k := 1) sl23 zero3 rfl rfl rfl rfl (by decide) ?_)⟩
      refine tmv 2 3 (by decide) (lb rfl) rfl rfl (lb rfl) ?_
      exact tj hj6_3 rfl (wp 3 (lb rfl) rfl rfl rfl rfl rfl)
     ·skip
      refine ⟨_, rfl, rfl, (TOp_pure (pur_ld_b one23 rfl rfl rfl rfl) rfl ?_)⟩
      exact tj hj5_3 rfl (wp 3 (lb rfl) rfl rfl rfl rfl rfl)
     ·skip
      refine ⟨_, rfl, rfl, (TOp_pure (pur_ldT (T := tRelation) (i := n_6) (off := 2) rfl one3 rfl rfl hv_8 rfl) rfl ?_)⟩
      refine TA_all [0, 2] (by kernel_rfl) (by decide) ⟨?_, ?_, trivial⟩
      ·skip
       refine ⟨_, rfl, rfl, (TOp_lit (nn := 0) (k := 1) sl23 zero3 rfl rfl rfl rfl (by decide) ?_)⟩
       refine tmv 2 3 (by decide) (lb rfl) rfl rfl (lb rfl) ?_
       exact tj hj3_3 rfl (wp 3 (lb rfl) rfl rfl rfl rfl rfl)
      ·skip
       refine ⟨_, rfl, rfl, (TOp_pure (pur_ld_b one23 rfl rfl rfl rfl) rfl ?_)⟩
       exact tj hj2_3 rfl (wp 3 (lb rfl) rfl rfl rfl rfl rfl)
   ·rintro _ _
    refine te [(4, (.m [1] 0 us_11.length tInt.k))] rfl ?_
    refine T_ret ?_
    obtain rfl := some_inj H
    exact end_pick (.tmp .nil) rfl [1] (by decide) rfl rfl rfl rfl rfl rfl
theorem m_spec_KeyOf_ok (u : Nat) (l0 : (List Relation)) (f1 : Fact) (r : (List Int)) (H : m_spec_KeyOf u l0 f1 = some r) : FnV prg 178 [(sl tRelation l0), (.g (tFact.enc f1))] (sl tInt r) := (m_spec_KeyOf_own u l0 f1 r H).frz (frzTE (T := tInt) rfl)

set_option maxHeartbeats 1000000 in
/-- spec.HaveSameKey -/
theorem m_spec_HaveSameKey_ok (u : Nat) (l0 : (List Relation)) (a1 : Fact) (b2 : Fact) (r : Bool) (H : m_spec_HaveSameKey u l0 a1 b2 = some r) : FnV prg 161 [(sl tRelation l0), (.g (tFact.enc a1)), (.g (tFact.enc b2))] (boolA r) := by
  unfold m_spec_HaveSameKey at H
  refine fnV_of_T Try.func161 rfl rfl (Nat.le_of_ble_eq_true rfl) ?_
  refine te [(0, (sl tRelation l0)), (1, (.g (tFact.enc a1))), (2, (.g (tFact.enc b2)))] rfl ?_
  refine sr ?_
  refine TO_cons rfl (TOp_box rfl (boxAll rfl) rfl rfl ?_)
  refine TO_cons rfl (TOp_box rfl (boxAll rfl) rfl rfl ?_)
  refine Tp rfl rfl (pur_assign rfl) rfl ?_
  refine TO_nil ?_
  refine te [(0, (sl tRelation l0)), (4, (.b 0 0)), (5, (.b 1 0))] rfl ?_
  obtain ⟨t6_1, J_1, H_2⟩ := bind_inv H
  refine T_cutX (fun x => t6_1 = x) (fun (t6_1 : Bool) => [(6, (boolA t6_1))]) (fun (t6_1 : Bool) => []) ?_ ?_
  ·replace H := J_1
   obtain ⟨r_3, h_4, H⟩ := bind_inv H
   refine T_caseB r_3 (fun g_5 => ?_) (fun g_5 => ?_)
   ·replace H := cond_t g_5 H
    obtain ⟨r_6, h_7, H⟩ := bind_inv H
    refine T_caseB r_6 (fun g_8 => ?_) (fun g_8 => ?_)
    ·replace H := cond_t g_8 H
     refine T_caseB (decide (a1.relation = b2.relation)) (fun g_9 => ?_) (fun g_9 => ?_)
     ·replace H := cond_t g_9 H
      obtain ⟨r_10, h_11, H⟩ := bind_inv H
      obtain ⟨r_12, h_13, H⟩ := bind_inv H
      obtain ⟨r_14, h_15, H⟩ := bind_inv H
      refine T_regionP mixed ?_
      refine TA_have 5 #[true, true, true, true, true, true, true, true, true, true, true, true, true, true, true, true, true, true, true, true, true, false, false, false, false, false] [(22, (boolA true)), (25, (sl tInt r_10)), (26, (sl tRelation l0)), (27, (.g (tFact.enc b2)))] [.box [(intA a1.relation), (sl tInt a1.values)], .box [(intA b2.relation), (sl tInt b2.values)]] ?_ (fun hj0_1 => ?_)
      ·skip
       refine TA_allG [21] (by kernel_rfl) (by decide) ⟨⟨_, rfl, goG rfl rfl (by decide) rfl, (TOp_callV (call_static ent178 rfl) (m_spec_KeyOf_ok u _ _ _ h_13) rfl rfl rfl ?_)⟩, trivial⟩
       refine TA_listed #[true, true, true, true, true, true, true, true, true, true, true, true, true, true, true, true, true, true, true, true, true, true, false, false, false, false] rfl ?_
       refine TA_allG [22] (by kernel_rfl) (by decide) ⟨⟨_, rfl, goG rfl rfl (by decide) rfl, (TOp_callV (call_static ent148 rfl) (m_spec_l3Ints_ok u _ _ _ h_15) rfl rfl rfl ?_)⟩, trivial⟩
       refine TA_listed #[true, true, true, true, true, true, true, true, true, true, true, true, true, true, true, true, true, true, true, true, true, true, true, false, false, false] rfl ?_
       refine TA_allG [23] (by kernel_rfl) (by decide) ⟨⟨_, rfl, goG rfl rfl (by decide) rfl, (TOp_pure (pur_eql rfl rfl rfl) rfl ?_)⟩, trivial⟩
       refine TA_listed #[true, true, true, true, true, true, true, true, true, true, true, true, true, true, true, true, true, true, true, true, true, true, true, true, false, false] rfl ?_
       refine TA_allG [24] (by kernel_rfl) (by decide) ⟨⟨_, rfl, goN rfl, (TOp_pure (pur_pick (t := true) rfl rfl rfl) rfl ?_)⟩, trivial⟩
       refine TA_listed #[true, true, true, true, true, true, true, true, true, true, true, true, true, true, true, true, true, true, true, true, true, true, true, true, true, false] rfl ?_
       refine tf 25 rfl (purI_assign rfl) rfl rfl (by kernel_rfl) ?_
       refine TA_nil (by kernel_rfl) ?_
       exact joined (decide (r_14 = 0)) (wp 0 (lb rfl) rfl rfl rfl rfl rfl) (some_inj H).symm
      refine TA_have 6 #[true, true, true, true, true, true, true, true, true, true, true, true, true, true, true, true, true, true, false, true, true, false, false, false, false, false] [(22, (boolA true)), (23, (sl tRelation l0)), (24, (.g (tFact.enc a1))), (26, (sl tRelation l0)), (27, (.g (tFact.enc b2)))] [.box [(intA a1.relation), (sl tInt a1.values)], .box [(intA b2.relation), (sl tInt b2.values)]] ?_ (fun hj1_1 => ?_)
      ·skip
       refine TA_allG [18] (by kernel_rfl) (by decide) ⟨⟨_, rfl, goG rfl rfl (by decide) rfl, (TOp_callV (call_static ent178 rfl) (m_spec_KeyOf_ok u _ _ _ h_11) rfl rfl rfl ?_)⟩, trivial⟩
       refine TA_listed #[true, true, true, true, true, true, true, true, true, true, true, true, true, true, true, true, true, true, true, true, true, false, false, false, false, false] rfl ?_
       exact tj hj0_1 rfl (wp 2 (lb rfl) rfl rfl rfl rfl rfl)
      refine TA_have 13 #[true, true, true, true, true, true, true, true, true, true, true, true, true, false, false, false, false, false, false, false, false, false, false, false, false, false] [(0, (sl tRelation l0)), (4, (.b 0 0)), (5, (.b 1 0)), (15, (boolA true)), (17, (intA a1.relation)), (19, (intA b2.relation))] [.box [(intA a1.relation), (sl tInt a1.values)], .box [(intA b2.relation), (sl tInt b2.values)]] ?_ (fun hj2_1 => ?_)
      ·skip
       refine TA_allG [13] (by kernel_rfl) (by decide) ⟨⟨_, rfl, goG rfl rfl (by decide) rfl, (TOp_pure (pur_eql rfl rfl rfl) rfl ?_)⟩, trivial⟩
       refine TA_listed #[true, true, true, true, true, true, true, true, true, true, true, true, true, true, false, false, false, false, false, false, false, false, false, false, false, false] rfl ?_
       refine TA_allG [14] (by kernel_rfl) (by decide) ⟨⟨_, rfl, goN rfl, (TOp_pure (pur_pick (t := true) rfl rfl rfl) rfl ?_)⟩, trivial⟩
       refine TA_listed #[true, true, true, true, true, true, true, true, true, true, true, true, true, true, true, false, false, false, false, false, false, false, false, false, false, false] rfl ?_
       refine tf 15 rfl (purI_move rfl) rfl rfl (by kernel_rfl) ?_
       refine TA_bool 22 g_9 rfl ?_
       refine TA_firstG 16 #[true, true, true, true, true, true, true, true, true, true, true, true, true, true, true, true, true, false, false, false, false, false, false, false, false, false] rfl (purI_move rfl) rfl rfl (by decide) rfl rfl rfl (by kernel_rfl) (by kernel_rfl) (by kernel_rfl) ?_
       refine TA_firstG 19 #[true, true, true, true, true, true, true, true, true, true, true, true, true, true, true, true, true, false, false, true, false, false, false, false, false, false] rfl (purI_move rfl) rfl rfl (by decide) rfl rfl rfl (by kernel_rfl) (by kernel_rfl) (by kernel_rfl) ?_
       refine TA_allG [17, 20] (by kernel_rfl) (by decide) ⟨?_, ?_, trivial⟩
       ·skip
        refine ⟨_, rfl, goG rfl rfl (by decide) rfl, (TOp_pure (pur_ldK_b agg65 rfl rfl (lb rfl) rfl) rfl ?_)⟩
        refine TA_listed #[true, true, true, true, true, true, true, true, true, true, true, true, true, true, true, true, true, true, false, true, false, false, false, false, false, false] rfl ?_
        refine TA_allG [18, 20] (by kernel_rfl) (by decide) ⟨?_, ?_, trivial⟩
        ·skip
         refine ⟨_, rfl, goG rfl rfl (by decide) rfl, (TOp_callV (call_static ent178 rfl) (m_spec_KeyOf_ok u _ _ _ h_11) rfl rfl rfl ?_)⟩
         refine TA_listed #[true, true, true, true, true, true, true, true, true, true, true, true, true, true, true, true, true, true, true, true, false, false, false, false, false, false] rfl ?_
         refine TA_allG [20] (by kernel_rfl) (by decide) ⟨⟨_, rfl, goG rfl rfl (by decide) rfl, (TOp_pure (pur_ldK_b agg65 rfl rfl (lb rfl) rfl) rfl ?_)⟩, trivial⟩
         refine TA_listed #[true, true, true, true, true, true, true, true, true, true, true, true, true, true, true, true, true, true, true, true, true, false, false, false, false, false] rfl ?_
         exact tj hj0_1 rfl (wp 2 (lb rfl) rfl rfl rfl rfl rfl)
        ·skip
         refine ⟨_, rfl, goG rfl rfl (by decide) rfl, (TOp_pure (pur_ldK_b agg65 rfl rfl (lb rfl) rfl) rfl ?_)⟩
         refine TA_listed #[true, true, true, true, true, true, true, true, true, true, true, true, true, true, true, true, true, true, false, true, true, false, false, false, false, false] rfl ?_
         exact tj hj1_1 rfl (wp 2 (lb rfl) rfl rfl rfl rfl rfl)
       ·skip
        refine ⟨_, rfl, goG rfl rfl (by decide) rfl, (TOp_pure (pur_ldK_b agg65 rfl rfl (lb rfl) rfl) rfl ?_)⟩
        refine TA_listed #[true, true, true, true, true, true, true, true, true, true, true, true, true, true, true, true, true, false, false, true, true, false, false, false, false, false] rfl ?_
        refine TA_allG [17] (by kernel_rfl) (by decide) ⟨⟨_, rfl, goG rfl rfl (by decide) rfl, (TOp_pure (pur_ldK_b agg65 rfl rfl (lb rfl) rfl) rfl ?_)⟩, trivial⟩
        refine TA_listed #[true, true, true, true, true, true, true, true, true, true, true, true, true, true, true, true, true, true, false, true, true, false, false, false, false, false] rfl ?_
        exact tj hj1_1 rfl (wp 2 (lb rfl) rfl rfl rfl rfl rfl)
      refine tf 0 rfl (purI_move rfl) rfl rfl (by kernel_rfl) ?_
      refine TA_allG [1] (by kernel_rfl) (by decide) ⟨⟨_, rfl, goN rfl, (TOp_pure (pur_ldK_b agg65 rfl rfl (lb rfl) rfl) rfl ?_)⟩, trivial⟩
      refine TA_listed #[true, true, false, false, false, false, false, false, false, false, false, false, false, false, false, false, false, false, false, false, false, false, false, false, false, false] rfl ?_
      refine TA_allG [2] (by kernel_rfl) (by decide) ⟨⟨_, rfl, goN rfl, (TOp_callV (call_static ent123 rfl) (m_spec_IsValidFact_ok u _ _ _ h_4) rfl rfl rfl ?_)⟩, trivial⟩
      refine TA_listed #[true, true, true, false, false, false, false, false, false, false, false, false, false, false, false, false, false, false, false, false, false, false, false, false, false, false] rfl ?_
      refine tf 3 rfl (purI_move rfl) rfl rfl (by kernel_rfl) ?_
      refine TA_bool 10 g_5 rfl ?_
      refine TA_firstG 4 #[true, true, true, true, true, false, false, false, false, false, false, false, false, false, false, false, false, false, false, false, false, false, false, false, false, false] rfl (purI_move rfl) rfl rfl (by decide) rfl rfl rfl (by kernel_rfl) (by kernel_rfl) (by kernel_rfl) ?_
      refine TA_allG [5] (by kernel_rfl) (by decide) ⟨⟨_, rfl, goG rfl rfl (by decide) rfl, (TOp_pure (pur_ldK_b agg65 rfl rfl (lb rfl) rfl) rfl ?_)⟩, trivial⟩
      refine TA_listed #[true, true, true, true, true, true, false, false, false, false, false, false, false, false, false, false, false, false, false, false, false, false, false, false, false, false] rfl ?_
      refine TA_allG [6] (by kernel_rfl) (by decide) ⟨⟨_, rfl, goG rfl rfl (by decide) rfl, (TOp_callV (call_static ent123 rfl) (m_spec_IsValidFact_ok u _ _ _ h_7) rfl rfl rfl ?_)⟩, trivial⟩
      refine TA_listed #[true, true, true, true, true, true, true, false, false, false, false, false, false, false, false, false, false, false, false, false, false, false, false, false, false, false] rfl ?_
      refine TA_allG [7] (by kernel_rfl) (by decide) ⟨⟨_, rfl, goN rfl, (TOp_pure (pur_pick (t := true) rfl rfl rfl) rfl ?_)⟩, trivial⟩
      refine TA_listed #[true, true, true, true, true, true, true, true, false, false, false, false, false, false, false, false, false, false, false, false, false, false, false, false, false, false] rfl ?_
      refine tf 8 rfl (purI_move rfl) rfl rfl (by kernel_rfl) ?_
      refine TA_bool 15 g_8 rfl ?_
      refine tae [(0, (sl tRelation l0)), (4, (.b 0 0)), (5, (.b 1 0)), (15, (boolA true))] rfl ?_
      refine TA_firstG 9 #[true, true, true, true, true, true, true, true, true, true, false, false, false, false, false, false, false, false, false, false, false, false, false, false, false, false] rfl (purI_fa_b fld65_0 rfl rfl) rfl rfl (by decide) rfl rfl rfl (by kernel_rfl) (by kernel_rfl) (by kernel_rfl) ?_
      refine TA_firstG 11 #[true, true, true, true, true, true, true, true, true, true, false, true, false, false, false, false, false, false, false, false, false, false, false, false, false, false] rfl (purI_fa_b fld65_0 rfl rfl) rfl rfl (by decide) rfl rfl rfl (by kernel_rfl) (by kernel_rfl) (by kernel_rfl) ?_
      refine TA_allG [10, 12] (by kernel_rfl) (by decide) ⟨?_, ?_, trivial⟩
      ·skip
       refine ⟨_, rfl, goG rfl rfl (by decide) rfl, (TOp_pure (pur_ld_b one3 rfl rfl rfl rfl) rfl ?_)⟩
       refine TA_listed #[true, true, true, true, true, true, true, true, true, true, true, true, false, false, false, false, false, false, false, false, false, false, false, false, false, false] rfl ?_
       refine TA_allG [12] (by kernel_rfl) (by decide) ⟨⟨_, rfl, goG rfl rfl (by decide) rfl, (TOp_pure (pur_ld_b one3 rfl rfl rfl rfl) rfl ?_)⟩, trivial⟩
       refine TA_listed #[true, true, true, true, true, true, true, true, true, true, true, true, true, false, false, false, false, false, false, false, false, false, false, false, false, false] rfl ?_
       exact tj hj2_1 rfl (wp 2 (lb rfl) rfl rfl rfl rfl rfl)
      ·skip
       refine ⟨_, rfl, goG rfl rfl (by decide) rfl, (TOp_pure (pur_ld_b one3 rfl rfl rfl rfl) rfl ?_)⟩
       refine TA_listed #[true, true, true, true, true, true, true, true, true, true, false, true, true, false, false, false, false, false, false, false, false, false, false, false, false, false] rfl ?_
       refine TA_allG [10] (by kernel_rfl) (by decide) ⟨⟨_, rfl, goG rfl rfl (by decide) rfl, (TOp_pure (pur_ld_b one3 rfl rfl rfl rfl) rfl ?_)⟩, trivial⟩
       refine TA_listed #[true, true, true, true, true, true, true, true, true, true, true, true, true, false, false, false, false, false, false, false, false, false, false, false, false, false] rfl ?_
       exact tj hj2_1 rfl (wp 2 (lb rfl) rfl rfl rfl rfl rfl)
     ·replace H := cond_f g_9 H
      refine T_regionP mixed ?_
      refine TA_have 13 #[true, true, true, true, true, true, true, true, true, true, true, true, true, false, false, false, false, false, false, false, false, false, false, false, false, false] [(0, (sl tRelation l0)), (4, (.b 0 0)), (5, (.b 1 0)), (15, (boolA true)), (17, (intA a1.relation)), (19, (intA b2.relation))] [.box [(intA a1.relation), (sl tInt a1.values)], .box [(intA b2.relation), (sl tInt b2.values)]] ?_ (fun hj0_1 => ?_)
      ·skip
       refine TA_allG [13] (by kernel_rfl) (by decide) ⟨⟨_, rfl, goG rfl rfl (by decide) rfl, (TOp_pure (pur_eql rfl rfl rfl) rfl ?_)⟩, trivial⟩
       refine TA_listed #[true, true, true, true, true, true, true, true, true, true, true, true, true, true, false, false, false, false, false, false, false, false, false, false, false, false] rfl ?_
       refine TA_allG [14] (by kernel_rfl) (by decide) ⟨⟨_, rfl, goN rfl, (TOp_pure (pur_pick (t := true) rfl rfl rfl) rfl ?_)⟩, trivial⟩
       refine TA_listed #[true, true, true, true, true, true, true, true, true, true, true, true, true, true, true, false, false, false, false, false, false, false, false, false, false, false] rfl ?_
       refine tf 15 rfl (purI_move rfl) rfl rfl (by kernel_rfl) ?_
       refine TA_bool 22 g_9 rfl ?_
       refine TA_off 16 #[true, true, true, true, true, true, true, true, true, true, true, true, true, true, true, true, true, false, false, false, false, false, false, false, false, false] rfl rfl rfl (by decide) rfl rfl rfl rfl (by kernel_rfl) (by kernel_rfl) (by kernel_rfl) ?_
       refine TA_off 17 #[true, true, true, true, true, true, true, true, true, true, true, true, true, true, true, true, true, true, false, false, false, false, false, false, false, false] rfl rfl rfl (by decide) rfl rfl rfl rfl (by kernel_rfl) (by kernel_rfl) (by kernel_rfl) ?_
       refine TA_off 18 #[true, true, true, true, true, true, true, true, true, true, true, true, true, true, true, true, true, true, true, false, false, false, false, false, false, false] rfl rfl rfl (by decide) rfl rfl rfl rfl (by kernel_rfl) (by kernel_rfl) (by kernel_rfl) ?_
       refine TA_off 19 #[true, true, true, true, true, true, true, true, true, true, true, true, true, true, true, true, true, true, true, true, false, false, false, false, false, false] rfl rfl rfl (by decide) rfl rfl rfl rfl (by kernel_rfl) (by kernel_rfl) (by kernel_rfl) ?_
       refine TA_off 20 #[true, true, true, true, true, true, true, true, true, true, true, true, true, true, true, true, true, true, true, true, true, false, false, false, false, false] rfl rfl rfl (by decide) rfl rfl rfl rfl (by kernel_rfl) (by kernel_rfl) (by kernel_rfl) ?_
       refine TA_off 21 #[true, true, true, true, true, true, true, true, true, true, true, true, true, true, true, true, true, true, true, true, true, true, false, false, false, false] rfl rfl rfl (by decide) rfl rfl rfl rfl (by kernel_rfl) (by kernel_rfl) (by kernel_rfl) ?_
       refine TA_off 22 #[true, true, true, true, true, true, true, true, true, true, true, true, true, true, true, true, true, true, true, true, true, true, true, false, false, false] rfl rfl rfl (by decide) rfl rfl rfl rfl (by kernel_rfl) (by kernel_rfl) (by kernel_rfl) ?_
       refine TA_off 23 #[true, true, true, true, true, true, true, true, true, true, true, true, true, true, true, true, true, true, true, true, true, true, true, true, false, false] rfl rfl rfl (by decide) rfl rfl rfl rfl (by kernel_rfl) (by kernel_rfl) (by kernel_rfl) ?_
       refine TA_allG [24] (by kernel_rfl) (by decide) ⟨⟨_, rfl, goN rfl, (TOp_pure (pur_pick (t := false) rfl rfl rfl) rfl ?_)⟩, trivial⟩
       refine TA_listed #[true, true, true, true, true, true, true, true, true, true, true, true, true, true, true, true, true, true, true, true, true, true, true, true, true, false] rfl ?_
       refine tf 25 rfl (purI_assign rfl) rfl rfl (by kernel_rfl) ?_
       refine tae [(6, (boolA false))] rfl ?_
       refine TA_nil (by kernel_rfl) ?_
       exact joined false (wp 0 (lb rfl) rfl rfl rfl rfl rfl) (some_inj H).symm
      refine tf 0 rfl (purI_move rfl) rfl rfl (by kernel_rfl) ?_
      refine TA_allG [1] (by kernel_rfl) (by decide) ⟨⟨_, rfl, goN rfl, (TOp_pure (pur_ldK_b agg65 rfl rfl (lb rfl) rfl) rfl ?_)⟩, trivial⟩
      refine TA_listed #[true, true, false, false, false, false, false, false, false, false, false, false, false, false, false, false, false, false, false, false, false, false, false, false, false, false] rfl ?_
      refine TA_allG [2] (by kernel_rfl) (by decide) ⟨⟨_, rfl, goN rfl, (TOp_callV (call_static ent123 rfl) (m_spec_IsValidFact_ok u _ _ _ h_4) rfl rfl rfl ?_)⟩, trivial⟩
      refine TA_listed #[true, true, true, false, false, false, false, false, false, false, false, false, false, false, false, false, false, false, false, false, false, false, false, false, false, false] rfl ?_
      refine tf 3 rfl (purI_move rfl) rfl rfl (by kernel_rfl) ?_
      refine TA_bool 10 g_5 rfl ?_
      refine TA_firstG 4 #[true, true, true, true, true, false, false, false, false, false, false, false, false, false, false, false, false, false, false, false, false, false, false, false, false, false] rfl (purI_move rfl) rfl rfl (by decide) rfl rfl rfl (by kernel_rfl) (by kernel_rfl) (by kernel_rfl) ?_
      refine TA_allG [5] (by kernel_rfl) (by decide) ⟨⟨_, rfl, goG rfl rfl (by decide) rfl, (TOp_pure (pur_ldK_b agg65 rfl rfl (lb rfl) rfl) rfl ?_)⟩, trivial⟩
      refine TA_listed #[true, true, true, true, true, true, false, false, false, false, false, false, false, false, false, false, false, false, false, false, false, false, false, false, false, false] rfl ?_
      refine TA_allG [6] (by kernel_rfl) (by decide) ⟨⟨_, rfl, goG rfl rfl (by decide) rfl, (TOp_callV (call_static ent123 rfl) (m_spec_IsValidFact_ok u _ _ _ h_7) rfl rfl rfl ?_)⟩, trivial⟩
      refine TA_listed #[true, true, true, true, true, true, true, false, false, false, false, false, false, false, false, false, false, false, false, false, false, false, false, false, false, false] rfl ?_
      refine TA_allG [7] (by kernel_rfl) (by decide) ⟨⟨_, rfl, goN rfl, (TOp_pure (pur_pick (t := true) rfl rfl rfl) rfl ?_)⟩, trivial⟩
      refine TA_listed #[true, true, true, true, true, true, true, true, false, false, false, false, false, false, false, false, false, false, false, false, false, false, false, false, false, false] rfl ?_
      refine tf 8 rfl (purI_move rfl) rfl rfl (by kernel_rfl) ?_
      refine TA_bool 15 g_8 rfl ?_
      refine tae [(0, (sl tRelation l0)), (4, (.b 0 0)), (5, (.b 1 0)), (15, (boolA true))] rfl ?_
      refine TA_firstG 9 #[true, true, true, true, true, true, true, true, true, true, false, false, false, false, false, false, false, false, false, false, false, false, false, false, false, false] rfl (purI_fa_b fld65_0 rfl rfl) rfl rfl (by decide) rfl rfl rfl (by kernel_rfl) (by kernel_rfl) (by kernel_rfl) ?_
      refine TA_firstG 11 #[true, true, true, true, true, true, true, true, true, true, false, true, false, false, false, false, false, false, false, false, false, false, false, false, false, false] rfl (purI_fa_b fld65_0 rfl rfl) rfl rfl (by decide) rfl rfl rfl (by kernel_rfl) (by kernel_rfl) (by kernel_rfl) ?_
      refine TA_allG [10, 12] (by kernel_rfl) (by decide) ⟨?_, ?_, trivial⟩
      ·skip
       refine ⟨_, rfl, goG rfl rfl (by decide) rfl, (TOp_pure (pur_ld_b one3 rfl rfl rfl rfl) rfl ?_)⟩
       refine TA_listed #[true, true, true, true, true, true, true, true, true, true, true, true, false, false, false, false, false, false, false, false, false, false, false, false, false, false] rfl ?_
       refine TA_allG [12] (by kernel_rfl) (by decide) ⟨⟨_, rfl, goG rfl rfl (by decide) rfl, (TOp_pure (pur_ld_b one3 rfl rfl rfl rfl) rfl ?_)⟩, trivial⟩
       refine TA_listed #[true, true, true, true, true, true, true, true, true, true, true, true, true, false, false, false, false, false, false, false, false, false, false, false, false, false] rfl ?_
       exact tj hj0_1 rfl (wp 2 (lb rfl) rfl rfl rfl rfl rfl)
      ·skip
       refine ⟨_, rfl, goG rfl rfl (by decide) rfl, (TOp_pure (pur_ld_b one3 rfl rfl rfl rfl) rfl ?_)⟩
       refine TA_listed #[true, true, true, true, true, true, true, true, true, true, false, true, true, false, false, false, false, false, false, false, false, false, false, false, false, false] rfl ?_
       refine TA_allG [10] (by kernel_rfl) (by decide) ⟨⟨_, rfl, goG rfl rfl (by decide) rfl, (TOp_pure (pur_ld_b one3 rfl rfl rfl rfl) rfl ?_)⟩, trivial⟩
       refine TA_listed #[true, true, true, true, true, true, true, true, true, true, true, true, true, false, false, false, false, false, false, false, false, false, false, false, false, false] rfl ?_
       exact tj hj0_1 rfl (wp 2 (lb rfl) rfl rfl rfl rfl rfl)
    ·replace H := cond_f g_8 H
     refine T_regionP mixed ?_
     refine tf 0 rfl (purI_move rfl) rfl rfl (by kernel_rfl) ?_
     refine TA_allG [1] (by kernel_rfl) (by decide) ⟨⟨_, rfl, goN rfl, (TOp_pure (pur_ldK_b agg65 rfl rfl (lb rfl) rfl) rfl ?_)⟩, trivial⟩
     refine TA_listed #[true, true, false, false, false, false, false, false, false, false, false, false, false, false, false, false, false, false, false, false, false, false, false, false, false, false] rfl ?_
     refine TA_allG [2] (by kernel_rfl) (by decide) ⟨⟨_, rfl, goN rfl, (TOp_callV (call_static ent123 rfl) (m_spec_IsValidFact_ok u _ _ _ h_4) rfl rfl rfl ?_)⟩, trivial⟩
     refine TA_listed #[true, true, true, false, false, false, false, false, false, false, false, false, false, false, false, false, false, false, false, false, false, false, false, false, false, false] rfl ?_
     refine tf 3 rfl (purI_move rfl) rfl rfl (by kernel_rfl) ?_
     refine TA_bool 10 g_5 rfl ?_
     refine TA_firstG 4 #[true, true, true, true, true, false, false, false, false, false, false, false, false, false, false, false, false, false, false, false, false, false, false, false, false, false] rfl (purI_move rfl) rfl rfl (by decide) rfl rfl rfl (by kernel_rfl) (by kernel_rfl) (by kernel_rfl) ?_
     refine TA_allG [5] (by kernel_rfl) (by decide) ⟨⟨_, rfl, goG rfl rfl (by decide) rfl, (TOp_pure (pur_ldK_b agg65 rfl rfl (lb rfl) rfl) rfl ?_)⟩, trivial⟩
     refine TA_listed #[true, true, true, true, true, true, false, false, false, false, false, false, false, false, false, false, false, false, false, false, false, false, false, false, false, false] rfl ?_
     refine TA_allG [6] (by kernel_rfl) (by decide) ⟨⟨_, rfl, goG rfl rfl (by decide) rfl, (TOp_callV (call_static ent123 rfl) (m_spec_IsValidFact_ok u _ _ _ h_7) rfl rfl rfl ?_)⟩, trivial⟩
     refine TA_listed #[true, true, true, true, true, true, true, false, false, false, false, false, false, false, false, false, false, false, false, false, false, false, false, false, false, false] rfl ?_
     refine TA_allG [7] (by kernel_rfl) (by decide) ⟨⟨_, rfl, goN rfl, (TOp_pure (pur_pick (t := true) rfl rfl rfl) rfl ?_)⟩, trivial⟩
     refine TA_listed #[true, true, true, true, true, true, true, true, false, false, false, false, false, false, false, false, false, false, false, false, false, false, false, false, false, false] rfl ?_
     refine tf 8 rfl (purI_move rfl) rfl rfl (by kernel_rfl) ?_
     refine TA_bool 15 g_8 rfl ?_
     refine tae [(0, (sl tRelation l0)), (4, (.b 0 0)), (5, (.b 1 0)), (15, (boolA false))] rfl ?_
     refine TA_off 9 #[true, true, true, true, true, true, true, true, true, true, false, false, false, false, false, false, false, false, false, false, false, false, false, false, false, false] rfl rfl rfl (by decide) rfl rfl rfl rfl (by kernel_rfl) (by kernel_rfl) (by kernel_rfl) ?_
     refine TA_off 10 #[true, true, true, true, true, true, true, true, true, true, true, false, false, false, false, false, false, false, false, false, false, false, false, false, false, false] rfl rfl rfl (by decide) rfl rfl rfl rfl (by kernel_rfl) (by kernel_rfl) (by kernel_rfl) ?_
     refine TA_off 11 #[true, true, true, true, true, true, true, true, true, true, true, true, false, false, false, false, false, false, false, false, false, false, false, false, false, false] rfl rfl rfl (by decide) rfl rfl rfl rfl (by kernel_rfl) (by kernel_rfl) (by kernel_rfl) ?_
     refine TA_off 12 #[true, true, true, true, true, true, true, true, true, true, true, true, true, false, false, false, false, false, false, false, false, false, false, false, false, false] rfl rfl rfl (by decide) rfl rfl rfl rfl (by kernel_rfl) (by kernel_rfl) (by kernel_rfl) ?_
     refine TA_off 13 #[true, true, true, true, true, true, true, true, true, true, true, true, true, true, false, false, false, false, false, false, false, false, false, false, false, false] rfl rfl rfl (by decide) rfl rfl rfl rfl (by kernel_rfl) (by kernel_rfl) (by kernel_rfl) ?_
     refine TA_allG [14] (by kernel_rfl) (by decide) ⟨⟨_, rfl, goN rfl, (TOp_pure (pur_pick (t := false) rfl rfl rfl) rfl ?_)⟩, trivial⟩
     refine TA_listed #[true, true, true, true, true, true, true, true, true, true, true, true, true, true, true, false, false, false, false, false, false, false, false, false, false, false] rfl ?_
     refine tf 15 rfl (purI_move rfl) rfl rfl (by kernel_rfl) ?_
     refine tae [(0, (sl tRelation l0)), (4, (.b 0 0)), (5, (.b 1 0)), (22, (boolA false))] rfl ?_
     refine TA_off 16 #[true, true, true, true, true, true, true, true, true, true, true, true, true, true, true, true, true, false, false, false, false, false, false, false, false, false] rfl rfl rfl (by decide) rfl rfl rfl rfl (by kernel_rfl) (by kernel_rfl) (by kernel_rfl) ?_
     refine TA_off 17 #[true, true, true, true, true, true, true, true, true, true, true, true, true, true, true, true, true, true, false, false, false, false, false, false, false, false] rfl rfl rfl (by decide) rfl rfl rfl rfl (by kernel_rfl) (by kernel_rfl) (by kernel_rfl) ?_
     refine TA_off 18 #[true, true, true, true, true, true, true, true, true, true, true, true, true, true, true, true, true, true, true, false, false, false, false, false, false, false] rfl rfl rfl (by decide) rfl rfl rfl rfl (by kernel_rfl) (by kernel_rfl) (by kernel_rfl) ?_
     refine TA_off 19 #[true, true, true, true, true, true, true, true, true, true, true, true, true, true, true, true, true, true, true, true, false, false, false, false, false, false] rfl rfl rfl (by decide) rfl rfl rfl rfl (by kernel_rfl) (by kernel_rfl) (by kernel_rfl) ?_
     refine TA_off 20 #[true, true, true, true, true, true, true, true, true, true, true, true, true, true, true, true, true, true, true, true, true, false, false, false, false, false] rfl rfl rfl (by decide) rfl rfl rfl rfl (by kernel_rfl) (by kernel_rfl) (by kernel_rfl) ?_
     refine TA_off 21 #[true, true, true, true, true, true, true, true, true, true, true, true, true, true, true, true, true, true, true, true, true, true, false, false, false, false] rfl rfl rfl (by decide) rfl rfl rfl rfl (by kernel_rfl) (by kernel_rfl) (by kernel_rfl) ?_
     refine TA_off 22 #[true, true, true, true, true, true, true, true, true, true, true, true, true, true, true, true, true, true, true, true, true, true, true, false, false, false] rfl rfl rfl (by decide) rfl rfl rfl rfl (by kernel_rfl) (by kernel_rfl) (by kernel_rfl) ?_
     refine TA_off 23 #[true, true, true, true, true, true, true, true, true, true, true, true, true, true, true, true, true, true, true, true, true, true, true, true, false, false] rfl rfl rfl (by decide) rfl rfl rfl rfl (by kernel_rfl) (by kernel_rfl) (by kernel_rfl) ?_
     refine TA_allG [24] (by kernel_rfl) (by decide) ⟨⟨_, rfl, goN rfl, (TOp_pure (pur_pick (t := false) rfl rfl rfl) rfl ?_)⟩, trivial⟩
     refine TA_listed #[true, true, true, true, true, true, true, true, true, true, true, true, true, true, true, true, true, true, true, true, true, true, true, true, true, false] rfl ?_
     refine tf 25 rfl (purI_assign rfl) rfl rfl (by kernel_rfl) ?_
     refine tae [(6, (boolA false))] rfl ?_
     refine TA_nil (by kernel_rfl) ?_
     exact joined false (wp 0 (lb rfl) rfl rfl rfl rfl rfl) (some_inj H).symm
   ·replace H := cond_f g_5 H
    refine T_regionP mixed ?_
    refine tf 0 rfl (purI_move rfl) rfl rfl (by kernel_rfl) ?_
    refine TA_allG [1] (by kernel_rfl) (by decide) ⟨⟨_, rfl, goN rfl, (TOp_pure (pur_ldK_b agg65 rfl rfl (lb rfl) rfl) rfl ?_)⟩, trivial⟩
    refine TA_listed #[true, true, false, false, false, false, false, false, false, false, false, false, false, false, false, false, false, false, false, false, false, false, false, false, false, false] rfl ?_
    refine TA_allG [2] (by kernel_rfl) (by decide) ⟨⟨_, rfl, goN rfl, (TOp_callV (call_static ent123 rfl) (m_spec_IsValidFact_ok u _ _ _ h_4) rfl rfl rfl ?_)⟩, trivial⟩
    refine TA_listed #[true, true, true, false, false, false, false, false, false, false, false, false, false, false, false, false, false, false, false, false, false, false, false, false, false, false] rfl ?_
    refine tf 3 rfl (purI_move rfl) rfl rfl (by kernel_rfl) ?_
    refine TA_bool 10 g_5 rfl ?_
    refine TA_off 4 #[true, true, true, true, true, false, false, false, false, false, false, false, false, false, false, false, false, false, false, false, false, false, false, false, false, false] rfl rfl rfl (by decide) rfl rfl rfl rfl (by kernel_rfl) (by kernel_rfl) (by kernel_rfl) ?_
    refine TA_off 5 #[true, true, true, true, true, true, false, false, false, false, false, false, false, false, false, false, false, false, false, false, false, false, false, false, false, false] rfl rfl rfl (by decide) rfl rfl rfl rfl (by kernel_rfl) (by kernel_rfl) (by kernel_rfl) ?_
    refine TA_off 6 #[true, true, true, true, true, true, true, false, false, false, false, false, false, false, false, false, false, false, false, false, false, false, false, false, false, false] rfl rfl rfl (by decide) rfl rfl rfl rfl (by kernel_rfl) (by kernel_rfl) (by kernel_rfl) ?_
    refine TA_allG [7] (by kernel_rfl) (by decide) ⟨⟨_, rfl, goN rfl, (TOp_pure (pur_pick (t := false) rfl rfl rfl) rfl ?_)⟩, trivial⟩
    refine TA_listed #[true, true, true, true, true, true, true, true, false, false, false, false, false, false, false, false, false, false, false, false, false, false, false, false, false, false] rfl ?_
    refine tf 8 rfl (purI_move rfl) rfl rfl (by kernel_rfl) ?_
    refine tae [(0, (sl tRelation l0)), (4, (.b 0 0)), (5, (.b 1 0)), (15, (boolA false))] rfl ?_
    refine TA_off 9 #[true, true, true, true, true, true, true, true, true, true, false, false, false, false, false, false, false, false, false, false, false, false, false, false, false, false] rfl rfl rfl (by decide) rfl rfl rfl rfl (by kernel_rfl) (by kernel_rfl) (by kernel_rfl) ?_
    refine TA_off 10 #[true, true, true, true, true, true, true, true, true, true, true, false, false, false, false, false, false, false, false, false, false, false, false, false, false, false] rfl rfl rfl (by decide) rfl rfl rfl rfl (by kernel_rfl) (by kernel_rfl) (by kernel_rfl) ?_
    refine TA_off 11 #[true, true, true, true, true, true, true, true, true, true, true, true, false, false, false, false, false, false, false, false, false, false, false, false, false, false] rfl rfl rfl (by decide) rfl rfl rfl rfl (by kernel_rfl) (by kernel_rfl) (by kernel_rfl) ?_
    refine TA_off 12 #[true, true, true, true, true, true, true, true, true, true, true, true, true, false, false, false, false, false, false, false, false, false, false, false, false, false] rfl rfl rfl (by decide) rfl rfl rfl rfl (by kernel_rfl) (by kernel_rfl) (by kernel_rfl) ?_
    refine TA_off 13 #[true, true, true, true, true, true, true, true, true, true, true, true, true, true, false, false, false, false, false, false, false, false, false, false, false, false] rfl rfl rfl (by decide) rfl rfl rfl rfl (by kernel_rfl) (by kernel_rfl) (by kernel_rfl) ?_
    refine TA_allG [14] (by kernel_rfl) (by decide) ⟨⟨_, rfl, goN rfl, (TOp_pure (pur_pick (t := false) rfl rfl rfl) rfl ?_)⟩, trivial⟩
    refine TA_listed #[true, true, true, true, true, true, true, true, true, true, true, true, true, true, true, false, false, false, false, false, false, false, false, false, false, false] rfl ?_
    refine tf 15 rfl (purI_move rfl) rfl rfl (by kernel_rfl) ?_
    refine tae [(0, (sl tRelation l0)), (4, (.b 0 0)), (5, (.b 1 0)), (22, (boolA false))] rfl ?_
    refine TA_off 16 #[true, true, true, true, true, true, true, true, true, true, true, true, true, true, true, true, true, false, false, false, false, false, false, false, false, false] rfl rfl rfl (by decide) rfl rfl rfl rfl (by kernel_rfl) (by kernel_rfl) (by kernel_rfl) ?_
    refine TA_off 17 #[true, true, true, true, true, true, true, true, true, true, true, true, true, true, true, true, true, true, false, false, false, false, false, false, false, false] rfl rfl rfl (by decide) rfl rfl rfl rfl (by kernel_rfl) (by kernel_rfl) (by kernel_rfl) ?_
    refine TA_off 18 #[true, true, true, true, true, true, true, true, true, true, true, true, true, true, true, true, true, true, true, false, false, false, false, false, false, false] rfl rfl rfl (by decide) rfl rfl rfl rfl (by kernel_rfl) (by kernel_rfl) (by kernel_rfl) ?_
    refine TA_off 19 #[true, true, true, true, true, true, true, true, true, true, true, true, true, true, true, true, true, true, true, true, false, false, false, false, false, false] rfl rfl rfl (by decide) rfl rfl rfl rfl (by kernel_rfl) (by kernel_rfl) (by kernel_rfl) ?_
    refine TA_off 20 #[true, true, true, true, true, true, true, true, true, true, true, true, true, true, true, true, true, true, true, true, true, false, false, false, false, false] rfl rfl rfl (by decide) rfl rfl rfl rfl (by kernel_rfl) (by kernel_rfl) (by kernel_rfl) ?_
    refine TA_off 21 #[true, true, true, true, true, true, true, true, true, true, true, true, true, true, true, true, true, true, true, true, true, true, false, false, false, false] rfl rfl rfl (by decide) rfl rfl rfl rfl (by kernel_rfl) (by kernel_rfl) (by kernel_rfl) ?_
    refine TA_off 22 #[true, true, true, true, true, true, true, true, true, true, true, true, true, true, true, true, true, true, true, true, true, true, true, false, false, false] rfl rfl rfl (by decide) rfl rfl rfl rfl (by kernel_rfl) (by kernel_rfl) (by kernel_rfl) ?_
    refine TA_off 23 #[true, true, true, true, true, true, true, true, true, true, true, true, true, true, true, true, true, true, true, true, true, true, true, true, false, false] rfl rfl rfl (by decide) rfl rfl rfl rfl (by kernel_rfl) (by kernel_rfl) (by kernel_rfl) ?_
    refine TA_allG [24] (by kernel_rfl) (by decide) ⟨⟨_, rfl, goN rfl, (TOp_pure (pur_pick (t := false) rfl rfl rfl) rfl ?_)⟩, trivial⟩
    refine TA_listed #[true, true, true, true, true, true, true, true, true, true, true, true, true, true, true, true, true, true, true, true, true, true, true, true, true, false] rfl ?_
    refine tf 25 rfl (purI_assign rfl) rfl rfl (by kernel_rfl) ?_
    refine tae [(6, (boolA false))] rfl ?_
    refine TA_nil (by kernel_rfl) ?_
    exact joined false (wp 0 (lb rfl) rfl rfl rfl rfl rfl) (some_inj H).symm
  ·rintro _ rfl
   replace H := H_2
   refine te [(6, (boolA t6_1))] rfl ?_
   refine T_ret ?_
   obtain rfl := some_inj H
   refine end_ret (.tmp .nil) rfl rfl ⟨?_, rfl⟩
   rfl

set_option maxHeartbeats 1000000 in
/-- spec.BlockOf -/
theorem m_spec_BlockOf_own (u : Nat) (d0 : Database) (i1 : Int) (r : (List Int)) (H : m_spec_BlockOf u d0 i1 = some r) : FnO prg 110 [(.g (tDatabase.enc d0)), (intA i1)] (.m [0] 0 r.length tInt.k) [.row (flat tInt.enc r)] := by
  unfold m_spec_BlockOf at H
  refine fnO_of_T Try.func110 rfl rfl (Nat.le_of_ble_eq_true rfl) ?_
  refine te [(0, (.g (tDatabase.enc d0))), (1, (intA i1))] rfl ?_
  refine sr ?_
  refine TO_cons rfl (TOp_box rfl (boxAll rfl) rfl rfl ?_)
  refine Tp rfl rfl (pur_assign rfl) rfl ?_
  refine TO_nil ?_
  refine te [(1, (intA i1)), (2, (.b 0 0))] rfl ?_
  refine sr ?_
  refine TO_cons rfl (TOp_lit (nn := 0) (k := 1) sl23 zero3 rfl rfl rfl rfl (by decide) ?_)
  refine TO_st (σ' := [.box [(sl tRelation d0.relations), (sl tFact d0.facts)], .row (flat tInt.enc ([] : (List Int)))]) rfl ?_
  refine Tp rfl rfl (pur_assign rfl) rfl ?_
  refine TO_nil ?_
  refine te [(1, (intA i1)), (2, (.b 0 0)), (5, (.m [1] 0 ([] : (List Int)).length tInt.k))] rfl ?_
  refine T_seq ?_
  refine sr ?_
  refine Tp rfl rfl (pur_assign rfl) rfl ?_
  refine TO_nil ?_
  refine te [(1, (intA i1)), (2, (.b 0 0)), (5, (.m [1] 0 ([] : (List Int)).length tInt.k)), (6, (intA 0))] rfl ?_
  obtain ⟨O1_, L1_, N1_⟩ := bind_inv H
  clear H
  obtain ⟨B1_, hb1, L1_⟩ := gen_whileF L1_
  refine T_block ?_
  refine T_loopX (fun k => fun (x_ : (List Int) × Int) => whileF B1_ k (x_.1, x_.2) = some O1_) (fun (x_ : (List Int) × Int) => [(1, (intA i1)), (2, (.b 0 0)), (5, (.m [1] 0 x_.1.length tInt.k)), (6, (intA x_.2))]) (fun (x_ : (List Int) × Int) => [.box [(sl tRelation d0.relations), (sl tFact d0.facts)], .row (flat tInt.enc x_.1)]) u (([] : (List Int)), 0) (wp 2 (lb rfl) rfl rfl rfl rfl rfl) L1_ ?_
  rintro _ ⟨out5, k6⟩ L1_
  obtain ⟨k1, rfl, C1_, H, K1_⟩ := while_step L1_
  rw [hb1] at H
  refine te [(1, (intA i1)), (2, (.b 0 0)), (5, (.m [1] 0 out5.length tInt.k)), (6, (intA k6))] rfl ?_
  refine T_st (σ' := [.box [(sl tRelation d0.relations), (sl tFact d0.facts)], .row (flat tInt.enc out5)]) rfl ?_
  refine T_seq ?_
  obtain ⟨t24_2, J_2, H_3⟩ := bind_inv H
  refine T_cutX (fun x => t24_2 = x) (fun (t24_2 : Bool) => [(1, (intA i1)), (2, (.b 0 0)), (5, (.m [1] 0 out5.length tInt.k)), (6, (intA k6)), (24, (boolA t24_2))]) (fun (t24_2 : Bool) => [.box [(sl tRelation d0.relations), (sl tFact d0.facts)], .row (flat tInt.enc out5)]) ?_ ?_
  ·replace H := J_2
   refine T_region ?_
   refine Tp rfl rfl (pur_move rfl) rfl ?_
   refine Tp rfl rfl (pur_fa_b fld48_1 rfl rfl) rfl ?_
   refine Tp rfl rfl (pur_ld_b one46 rfl rfl rfl rfl) rfl ?_
   refine Tp rfl rfl (pur_lenT (T := tFact) sl46 rfl rfl) rfl ?_
   refine Tp rfl rfl (pur_lss rfl rfl rfl) rfl ?_
   refine Tp rfl rfl (pur_move rfl) rfl ?_
   refine TO_split (t := decide (k6 < (d0.facts.length : Int))) 13 rfl (fun g_4 => ?_) (fun g_4 => ?_)
   ·replace H := cond_t g_4 H
    refine TO_on rfl rfl (by decide) rfl rfl (TOp_pure (pur_ldK_b agg48 rfl rfl (lb rfl) rfl) rfl ?_)
    obtain ⟨r_5, h_6, H⟩ := bind_inv H
    refine TO_on rfl rfl (by decide) rfl rfl (TOp_callV (call_static ent53 rfl) (m_spec_IsValidDatabase_ok u _ _ h_6) rfl rfl rfl ?_)
    refine Tp rfl rfl (pur_pick (t := true) rfl rfl rfl) rfl ?_
    refine Tp rfl rfl (pur_move rfl) rfl ?_
    refine TO_split (t := r_5) 17 rfl (fun g_7 => ?_) (fun g_7 => ?_)
    ·replace H := cond_t g_7 H
     refine TO_on rfl rfl (by decide) rfl rfl (TOp_pure (pur_move rfl) rfl ?_)
     refine TO_on rfl rfl (by decide) rfl rfl (TOp_pure (pur_fa_b fld48_1 rfl rfl) rfl ?_)
     refine TO_on rfl rfl (by decide) rfl rfl (TOp_pure (pur_ld_b one46 rfl rfl rfl rfl) rfl ?_)
     refine TO_on rfl rfl (by decide) rfl rfl (TOp_pure (pur_lenT (T := tFact) sl46 rfl rfl) rfl ?_)
     refine TO_fact (len_sl (T := tFact) (.tmp 10) rfl) (fun hl_8 => ?_)
     refine TO_on rfl rfl (by decide) rfl rfl (TOp_pure (pur_sub rfl rfl rfl (fits64 (by omega) (by omega))) rfl ?_)
     obtain ⟨r_9, h_10, H⟩ := bind_inv H
     refine TO_on rfl rfl (by decide) rfl rfl (TOp_callV (call_static ent137 rfl) (m_spec_l1In_ok _ _ _ _ h_10) rfl rfl rfl ?_)
     refine Tp rfl rfl (pur_pick (t := true) rfl rfl rfl) rfl ?_
     refine TO_nil ?_
     exact joined r_9 (wp 2 (lb rfl) rfl rfl rfl rfl rfl) (some_inj H).symm
    ·replace H := cond_f g_7 H
     refine TO_off rfl rfl (by decide) rfl rfl rfl ?_
     refine TO_off rfl rfl (by decide) rfl rfl rfl ?_
     refine TO_off rfl rfl (by decide) rfl rfl rfl ?_
     refine TO_off rfl rfl (by decide) rfl rfl rfl ?_
     refine TO_off rfl rfl (by decide) rfl rfl rfl ?_
     refine TO_off rfl rfl (by decide) rfl rfl rfl ?_
     refine Tp rfl rfl (pur_pick (t := false) rfl rfl rfl) rfl ?_
     refine TO_nil ?_
     exact joined false (wp 2 (lb rfl) rfl rfl rfl rfl rfl) (some_inj H).symm
   ·replace H := cond_f g_4 H
    refine TO_off rfl rfl (by decide) rfl rfl rfl ?_
    refine TO_off rfl rfl (by decide) rfl rfl rfl ?_
    refine Tp rfl rfl (pur_pick (t := false) rfl rfl rfl) rfl ?_
    refine Tp rfl rfl (pur_move rfl) rfl ?_
    refine TO_off rfl rfl (by decide) rfl rfl rfl ?_
    refine TO_off rfl rfl (by decide) rfl rfl rfl ?_
    refine TO_off rfl rfl (by decide) rfl rfl rfl ?_
    refine TO_off rfl rfl (by decide) rfl rfl rfl ?_
    refine toe [(1, (intA i1)), (2, (.b 0 0)), (5, (.m [1] 0 out5.length tInt.k)), (6, (intA k6)), (17, (boolA false)), (18, (.v undef)), (21, (.v undef))] rfl ?_
    refine TO_off rfl rfl (by decide) rfl rfl rfl ?_
    refine TO_off rfl rfl (by decide) rfl rfl rfl ?_
    refine Tp rfl rfl (pur_pick (t := false) rfl rfl rfl) rfl ?_
    refine TO_nil ?_
    exact joined false (wp 2 (lb rfl) rfl rfl rfl rfl rfl) (some_inj H).symm
  ·rintro _ rfl
   replace H := H_3
   refine te [(1, (intA i1)), (2, (.b 0 0)), (5, (.m [1] 0 out5.length tInt.k)), (6, (intA k6)), (24, (boolA t24_2))] rfl ?_
   refine T_cond (t := t24_2) rfl (fun c_11 => ?_) (fun c_11 => ?_)
   ·replace H := cond_t c_11 H
    refine T_skip ?_
    refine te [(1, (intA i1)), (2, (.b 0 0)), (5, (.m [1] 0 out5.length tInt.k)), (6, (intA k6))] rfl ?_
    refine T_seq ?_
    refine T_block ?_
    refine T_seq ?_
    refine T_regionD mixed (by kernel_rfl) ?_
    refine TQ_pure rfl (pur_fa_b fld48_0 rfl rfl) rfl ?_
    refine TQ_pure rfl (pur_ld_b one45 rfl rfl rfl rfl) rfl ?_
    refine TQ_pure rfl (pur_fa_b fld48_1 rfl rfl) rfl ?_
    refine TQ_pure rfl (pur_ld_b one46 rfl rfl rfl rfl) rfl ?_
    refine TQ_pure rfl (pur_move rfl) rfl ?_
    obtain ⟨v_12, h_13, H⟩ := bind_inv H
    obtain ⟨n_14, hz_15, hv_16⟩ := getI_inv h_13
    refine TQ_pure rfl (pur_ixT (T := tFact) sl46 rfl rfl hz_15 hv_16 rfl) rfl ?_
    refine TQ_pure rfl (pur_ldTK (T := tFact) (i := n_14) (off := 0) rfl agg65 rfl rfl hv_16 (by decide) rfl) rfl ?_
    refine TQ_pure rfl (pur_fa_b fld48_1 rfl rfl) rfl ?_
    refine tqe [(1, (intA i1)), (2, (.b 0 0)), (5, (.m [1] 0 out5.length tInt.k)), (6, (intA k6)), (28, (sl tRelation d0.relations)), (33, (.g (tFact.enc v_12))), (34, (.b 0 1))] rfl ?_
    refine TQ_pure rfl (pur_ld_b one46 rfl rfl rfl rfl) rfl ?_
    refine TQ_pure rfl (pur_move rfl) rfl ?_
    obtain ⟨v_17, h_18, H⟩ := bind_inv H
    obtain ⟨n_19, hz_20, hv_21⟩ := getI_inv h_18
    refine TQ_pure rfl (pur_ixT (T := tFact) sl46 rfl rfl hz_20 hv_21 rfl) rfl ?_
    refine TQ_pure rfl (pur_ldTK (T := tFact) (i := n_19) (off := 0) rfl agg65 rfl rfl hv_21 (by decide) rfl) rfl ?_
    obtain ⟨r_22, h_23, H⟩ := bind_inv H
    refine TQ_callV rfl (call_static ent161 rfl) (m_spec_HaveSameKey_ok u _ _ _ _ h_23) rfl rfl ?_
    refine TQ_nil ?_
    refine te [(1, (intA i1)), (2, (.b 0 0)), (5, (.m [1] 0 out5.length tInt.k)), (6, (intA k6)), (39, (boolA r_22))] rfl ?_
    refine T_cond (t := r_22) rfl (fun c_24 => ?_) (fun c_24 => ?_)
    ·replace H := cond_t c_24 H
     refine T_region ?_
     refine Tp rfl rfl (pur_move rfl) rfl ?_
     refine Tp rfl rfl (pur_move rfl) rfl ?_
     refine TO_cons rfl (TOp_lit (nn := 1) (k := 1) sl23 zero3 rfl rfl rfl rfl (by decide) ?_)
     refine TO_st (σ' := [.box [(sl tRelation d0.relations), (sl tFact d0.facts)], .row (flat tInt.enc out5), .row (flat tInt.enc ([k6] : (List Int)))]) rfl ?_
     obtain ⟨us_25, h_26, H⟩ := bind_inv H
     refine TO_cons rfl (TOp_appZ (T := tInt) (f := tInt.enc) (xs := out5) (ys := ([k6] : (List Int))) tInt.len sl23 zero3 rfl bytes3 (by decide) rfl rfl rfl rfl (src_mT (f := tInt.enc) tInt.len rfl rfl (flat_cell tInt _)) (flat_cell tInt _) h_26 (lb rfl) ?_)
     refine toe [(1, (intA i1)), (2, (.b 0 0)), (6, (intA k6)), (39, (boolA r_22)), (41, (intA k6)), (42, (.m [2] 0 ([k6] : (List Int)).length tInt.k)), (43, (.m [1] 0 us_25.length tInt.k))] rfl ?_
     refine TO_st (σ' := [.box [(sl tRelation d0.relations), (sl tFact d0.facts)], .row (flat tInt.enc us_25), .row (flat tInt.enc ([k6] : (List Int))), .dead]) rfl ?_
     refine Tp rfl rfl (pur_assign rfl) rfl ?_
     refine TO_nil ?_
     refine te [(1, (intA i1)), (2, (.b 0 0)), (5, (.m [1] 0 us_25.length tInt.k)), (6, (intA k6))] rfl ?_
     refine T_region ?_
     refine Tp rfl rfl (pur_move rfl) rfl ?_
     refine Tp rfl rfl (pur_wadd rfl rfl rfl) rfl ?_
     refine Tp rfl rfl (pur_assign rfl) rfl ?_
     refine TO_nil ?_
     obtain rfl := some_inj H
     exact again k1 (us_25, (w64 (k6 + 1))) (Nat.lt_succ_self _) (wp 2 (lb rfl) rfl rfl rfl rfl rfl) K1_
    ·replace H := cond_f c_24 H
     refine T_skip ?_
     refine te [(1, (intA i1)), (2, (.b 0 0)), (5, (.m [1] 0 out5.length tInt.k)), (6, (intA k6))] rfl ?_
     refine T_region ?_
     refine Tp rfl rfl (pur_move rfl) rfl ?_
     refine Tp rfl rfl (pur_wadd rfl rfl rfl) rfl ?_
     refine Tp rfl rfl (pur_assign rfl) rfl ?_
     refine TO_nil ?_
     obtain rfl := some_inj H
     exact again k1 (out5, (w64 (k6 + 1))) (Nat.lt_succ_self _) (wp 2 (lb rfl) rfl rfl rfl rfl rfl) K1_
   ·replace H := cond_f c_11 H
    refine T_exit ?_
    refine then_exit ?_
    refine then_exit ?_
    refine block_exit ?_
    obtain rfl := some_inj H
    obtain rfl := some_inj K1_
    replace H := onS_l N1_
    refine te [(5, (.m [1] 0 out5.length tInt.k))] rfl ?_
    refine sr ?_
    refine Tp rfl rfl (pur_move rfl) rfl ?_
    refine Tp rfl rfl (pur_assign rfl) rfl ?_
    refine TO_nil ?_
    refine te [(4, (.m [1] 0 out5.length tInt.k))] rfl ?_
    refine T_ret ?_
    obtain rfl := some_inj H
    exact end_pick (.tmp .nil) rfl [1] (by decide) rfl rfl rfl rfl rfl rfl
theorem m_spec_BlockOf_ok (u : Nat) (d0 : Database) (i1 : Int) (r : (List Int)) (H : m_spec_BlockOf u d0 i1 = some r) : FnV prg 110 [(.g (tDatabase.enc d0)), (intA i1)] (sl tInt r) := (m_spec_BlockOf_own u d0 i1 r H).frz (frzTE (T := tInt) rfl)
end Go.Proofs.Ytjdpolnakhmkmaa

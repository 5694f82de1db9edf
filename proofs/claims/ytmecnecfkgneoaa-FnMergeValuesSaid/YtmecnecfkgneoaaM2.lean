import Derived.Test.YtmecnecfkgneoaaM1
set_option linter.unusedVariables false
set_option linter.unusedSimpArgs false
set_option maxRecDepth 4000
namespace Go.Proofs.Ytmecnecfkgneoaa
open Go Go.Proofs Go.Sep
set_option maxHeartbeats 1000000 in
theorem m_spec_l3Ints_ok (u : Nat) (a0 : (List Int)) (b1 : (List Int)) (r : Int) (H : m_spec_l3Ints u a0 b1 = some r) : FnV prg 30 [(sl tInt a0), (sl tInt b1)] (intA r) := by
  unfold m_spec_l3Ints at H
  refine fnV_of_T Try.func30 rfl rfl (Nat.le_of_ble_eq_true rfl) ?_
  refine te [(0, (sl tInt a0)), (1, (sl tInt b1))] rfl ?_
  refine sr ?_
  refine pv tb 1 rfl ?_
  refine TO_nil ?_
  refine T_seq ?_
  refine sr ?_
  refine pv tb 1 rfl ?_
  refine TO_nil ?_
  obtain ⟨O1_, L1_, N1_⟩ := bind_inv H
  clear H
  obtain ⟨B1_, hb1, L1_⟩ := gen_whileF L1_
  refine T_block ?_
  refine T_loopX (fun k => fun (i5 : Int) => whileF B1_ k i5 = some O1_) (fun (i5 : Int) => [(0, (sl tInt a0)), (1, (sl tInt b1)), (5, (intA i5))]) (fun (i5 : Int) => []) u 0 (w0 0) L1_ ?_
  rintro _ i5 L1_
  obtain ⟨k1, rfl, C1_, H, K1_⟩ := while_step L1_
  rw [hb1] at H
  refine T_seq ?_
  refine T_cutX (fun x => ((decide (i5 < (a0.length : Int))) && (decide (i5 < (b1.length : Int)))) = x) (fun (t15_2 : Bool) => [(0, (sl tInt a0)), (1, (sl tInt b1)), (5, (intA i5)), (15, (boolA t15_2))]) (fun (t15_2 : Bool) => []) ?_ ?_
  ·skip
   refine T_region ?_
   refine pv tb 2 rfl ?_
   refine Tp rfl rfl (pur_lenT (T := tInt) sl53 rfl rfl) rfl ?_
   refine pv tb 2 rfl ?_
   refine TO_split (t := decide (i5 < (a0.length : Int))) 10 rfl (fun g_4 => ?_) (fun g_4 => ?_)
   ·skip
    refine pv tb 2 rfl ?_
    refine TO_on rfl rfl (by decide) rfl rfl (TOp_pure (pur_lenT (T := tInt) sl53 rfl rfl) rfl ?_)
    refine pv tb 2 rfl ?_
    refine TO_nil ?_
    exact joined (decide (i5 < (b1.length : Int))) (w0 0) (by first | exact Eq.symm ((and_T g_4 rfl)))
   ·skip
    refine pv tb 5 rfl ?_
    refine TO_nil ?_
    exact joined false (w0 0) (by first | exact Eq.symm ((and_F g_4 rfl)))
  ·rintro _ rfl
   refine T_cond (t := ((decide (i5 < (a0.length : Int))) && (decide (i5 < (b1.length : Int))))) rfl (fun c_5 => ?_) (fun c_5 => ?_)
   ·replace H := cond_t c_5 H
    refine T_skip ?_
    refine T_seq ?_
    refine T_block ?_
    refine T_seq ?_
    refine T_seq ?_
    refine T_regionD mixed (by kernel_rfl) ?_
    obtain ⟨v_6, h_7, H⟩ := bind_inv H
    obtain ⟨n_8, hz_9, hv_10⟩ := getI_inv h_7
    refine pq tb 2 rfl ?_
    refine TQ_pure rfl (pur_ixT (T := tInt) sl53 rfl rfl hz_9 hv_10 rfl) rfl ?_
    refine TQ_pure rfl (pur_ldT (T := tInt) (i := n_8) (off := 0) rfl one3 rfl rfl hv_10 rfl) rfl ?_
    obtain ⟨v_11, h_12, H⟩ := bind_inv H
    obtain ⟨n_13, hz_14, hv_15⟩ := getI_inv h_12
    refine pq tb 2 rfl ?_
    refine TQ_pure rfl (pur_ixT (T := tInt) sl53 rfl rfl hz_14 hv_15 rfl) rfl ?_
    refine TQ_pure rfl (pur_ldT (T := tInt) (i := n_13) (off := 0) rfl one3 rfl rfl hv_15 rfl) rfl ?_
    refine pq tb 1 rfl ?_
    refine TQ_nil ?_
    refine T_cond (t := decide (v_6 < v_11)) rfl (fun c_16 => ?_) (fun c_16 => ?_)
    ·replace H := cond_t c_16 H
     refine sr ?_
     refine pv tb 1 rfl ?_
     refine TO_nil ?_
     refine T_ret ?_
     refine then_ret ?_
     refine block_ret ?_
     refine then_ret ?_
     refine then_ret ?_
     refine block_ret ?_
     refine then_ret ?_
     obtain rfl := some_inj H
     obtain rfl := some_inj K1_
     replace H := onS_r N1_
     obtain rfl := some_inj H
     refine end_ret (.tmp .nil) rfl rfl ⟨?_, rfl⟩
     rfl
    ·replace H := cond_f c_16 H
     refine T_skip ?_
     refine T_seq ?_
     refine T_regionD mixed (by kernel_rfl) ?_
     refine pq tb 2 rfl ?_
     refine TQ_pure rfl (pur_ixT (T := tInt) sl53 rfl rfl hz_9 hv_10 rfl) rfl ?_
     refine TQ_pure rfl (pur_ldT (T := tInt) (i := n_8) (off := 0) rfl one3 rfl rfl hv_10 rfl) rfl ?_
     refine pq tb 2 rfl ?_
     refine TQ_pure rfl (pur_ixT (T := tInt) sl53 rfl rfl hz_14 hv_15 rfl) rfl ?_
     refine TQ_pure rfl (pur_ldT (T := tInt) (i := n_13) (off := 0) rfl one3 rfl rfl hv_15 rfl) rfl ?_
     refine pq tb 1 rfl ?_
     refine TQ_nil ?_
     refine te [(0, (sl tInt a0)), (1, (sl tInt b1)), (5, (intA i5)), (35, (boolA (decide (v_11 < v_6))))] rfl ?_
     refine T_cond (t := decide (v_11 < v_6)) rfl (fun c_17 => ?_) (fun c_17 => ?_)
     ·replace H := cond_t c_17 H
      refine sr ?_
      refine pv tb 1 rfl ?_
      refine TO_nil ?_
      refine T_ret ?_
      refine block_ret ?_
      refine then_ret ?_
      refine then_ret ?_
      refine block_ret ?_
      refine then_ret ?_
      obtain rfl := some_inj H
      obtain rfl := some_inj K1_
      replace H := onS_r N1_
      obtain rfl := some_inj H
      refine end_ret (.tmp .nil) rfl rfl ⟨?_, rfl⟩
      rfl
     ·replace H := cond_f c_17 H
      refine T_skip ?_
      refine T_region ?_
      refine pv tb 3 rfl ?_
      refine TO_nil ?_
      obtain rfl := some_inj H
      exact again k1 (w64 (i5 + 1)) (Nat.lt_succ_self _) (w0 0) K1_
   ·replace H := cond_f c_5 H
    refine T_exit ?_
    refine then_exit ?_
    refine then_exit ?_
    refine block_exit ?_
    obtain rfl := some_inj H
    obtain rfl := some_inj K1_
    replace H := onS_l N1_
    refine T_seq ?_
    refine sr ?_
    refine pv tb 1 rfl ?_
    refine Tp rfl rfl (pur_lenT (T := tInt) sl53 rfl rfl) rfl ?_
    refine pv tb 1 rfl ?_
    refine Tp rfl rfl (pur_lenT (T := tInt) sl53 rfl rfl) rfl ?_
    refine pv tb 1 rfl ?_
    refine TO_nil ?_
    refine T_cond (t := decide ((a0.length : Int) < (b1.length : Int))) rfl (fun c_18 => ?_) (fun c_18 => ?_)
    ·replace H := cond_t c_18 H
     refine sr ?_
     refine pv tb 1 rfl ?_
     refine TO_nil ?_
     refine T_ret ?_
     refine then_ret ?_
     obtain rfl := some_inj H
     refine end_ret (.tmp .nil) rfl rfl ⟨?_, rfl⟩
     rfl
    ·replace H := cond_f c_18 H
     refine T_skip ?_
     refine T_seq ?_
     refine sr ?_
     refine pv tb 1 rfl ?_
     refine Tp rfl rfl (pur_lenT (T := tInt) sl53 rfl rfl) rfl ?_
     refine pv tb 1 rfl ?_
     refine Tp rfl rfl (pur_lenT (T := tInt) sl53 rfl rfl) rfl ?_
     refine pv tb 1 rfl ?_
     refine TO_nil ?_
     refine T_cond (t := decide ((b1.length : Int) < (a0.length : Int))) rfl (fun c_19 => ?_) (fun c_19 => ?_)
     ·replace H := cond_t c_19 H
      refine sr ?_
      refine pv tb 1 rfl ?_
      refine TO_nil ?_
      refine T_ret ?_
      refine then_ret ?_
      obtain rfl := some_inj H
      refine end_ret (.tmp .nil) rfl rfl ⟨?_, rfl⟩
      rfl
     ·replace H := cond_f c_19 H
      refine T_skip ?_
      refine sr ?_
      refine pv tb 1 rfl ?_
      refine TO_nil ?_
      refine T_ret ?_
      obtain rfl := some_inj H
      refine end_ret (.tmp .nil) rfl rfl ⟨?_, rfl⟩
      rfl

set_option maxHeartbeats 1000000 in
theorem m_spec_CompareFacts_ok (u : Nat) (a0 : Fact) (b1 : Fact) (r : Int) (H : m_spec_CompareFacts u a0 b1 = some r) : FnV prg 61 [(.g (tFact.enc a0)), (.g (tFact.enc b1))] (intA r) := by
  unfold m_spec_CompareFacts at H
  refine fnV_of_T Try.func61 rfl rfl (Nat.le_of_ble_eq_true rfl) ?_
  refine te [(0, (.g (tFact.enc a0))), (1, (.g (tFact.enc b1)))] rfl ?_
  refine sr ?_
  refine TO_cons rfl (TOp_box rfl (boxAll rfl) rfl rfl ?_)
  refine TO_cons rfl (TOp_box rfl (boxAll rfl) rfl rfl ?_)
  refine pv tb 1 rfl ?_
  refine TO_nil ?_
  refine T_seq ?_
  refine sr ?_
  refine pv tb 5 rfl ?_
  refine TO_nil ?_
  refine T_cond (t := decide (a0.relation < b1.relation)) rfl (fun c_1 => ?_) (fun c_1 => ?_)
  ·replace H := cond_t c_1 H
   refine sr ?_
   refine pv tb 1 rfl ?_
   refine TO_nil ?_
   refine T_ret ?_
   refine then_ret ?_
   obtain rfl := some_inj H
   refine end_ret (.tmp .nil) rfl rfl ⟨?_, rfl⟩
   rfl
  ·replace H := cond_f c_1 H
   refine T_skip ?_
   refine T_seq ?_
   refine sr ?_
   refine pv tb 5 rfl ?_
   refine TO_nil ?_
   refine T_cond (t := decide (b1.relation < a0.relation)) rfl (fun c_2 => ?_) (fun c_2 => ?_)
   ·replace H := cond_t c_2 H
    refine sr ?_
    refine pv tb 1 rfl ?_
    refine TO_nil ?_
    refine te [(4, (intA 1))] rfl ?_
    refine T_ret ?_
    refine then_ret ?_
    obtain rfl := some_inj H
    refine end_ret (.tmp .nil) rfl rfl ⟨?_, rfl⟩
    rfl
   ·replace H := cond_f c_2 H
    refine T_skip ?_
    refine sr ?_
    obtain ⟨r_3, h_4, H⟩ := bind_inv H
    refine pv tb 4 rfl ?_
    refine TO_cons rfl (TOp_callV (call_static ent30 rfl) (m_spec_l3Ints_ok u _ _ _ h_4) rfl rfl rfl ?_)
    refine pv tb 1 rfl ?_
    refine TO_nil ?_
    refine te [(4, (intA r_3))] rfl ?_
    refine T_ret ?_
    obtain rfl := some_inj H
    refine end_ret (.tmp .nil) rfl rfl ⟨?_, rfl⟩
    rfl

set_option maxHeartbeats 1000000 in
theorem m_spec_l1In_ok (x0 : Int) (low1 : Int) (high2 : Int) (r : Bool) (H : m_spec_l1In x0 low1 high2 = some r) : FnV prg 41 [(intA x0), (intA low1), (intA high2)] (boolA r) := by
  unfold m_spec_l1In at H
  refine fnV_of_T Try.func41 rfl rfl (Nat.le_of_ble_eq_true rfl) ?_
  refine te [(0, (intA x0)), (1, (intA low1)), (2, (intA high2))] rfl ?_
  refine sr ?_
  refine pv tb 1 rfl ?_
  refine TO_nil ?_
  refine T_cutX (fun x => ((decide (low1 ≤ x0)) && (decide (x0 ≤ high2))) = x) (fun (t6_1 : Bool) => [(6, (boolA t6_1))]) (fun (t6_1 : Bool) => []) ?_ ?_
  ·skip
   refine T_region ?_
   refine pv tb 4 rfl ?_
   refine TO_split (t := decide (low1 ≤ x0)) 10 rfl (fun g_3 => ?_) (fun g_3 => ?_)
   ·skip
    refine pv tb 5 rfl ?_
    refine TO_nil ?_
    exact joined (decide (x0 ≤ high2)) (w0 0) (by first | exact Eq.symm ((and_T g_3 rfl)))
   ·skip
    refine pv tb 5 rfl ?_
    refine TO_nil ?_
    exact joined false (w0 0) (by first | exact Eq.symm ((and_F g_3 rfl)))
  ·rintro _ rfl
   refine T_ret ?_
   obtain rfl := some_inj H
   refine end_ret (.tmp .nil) rfl rfl ⟨?_, rfl⟩
   rfl

set_option maxHeartbeats 1000000 in
theorem m_spec_IsValidRelation_ok (s0 : Relation) (r : Bool) (H : m_spec_IsValidRelation s0 = some r) : FnV prg 114 [(.g (tRelation.enc s0))] (boolA r) := by
  unfold m_spec_IsValidRelation at H
  refine fnV_of_T Try.func114 rfl rfl (Nat.le_of_ble_eq_true rfl) ?_
  refine te [(0, (.g (tRelation.enc s0)))] rfl ?_
  refine sr ?_
  refine TO_cons rfl (TOp_box rfl (boxAll rfl) rfl rfl ?_)
  refine pv tb 1 rfl ?_
  refine TO_nil ?_
  obtain ⟨t2_1, J_1, H_2⟩ := bind_inv H
  refine T_cutX (fun x => t2_1 = x) (fun (t2_1 : Bool) => [(2, (boolA t2_1))]) (fun (t2_1 : Bool) => []) ?_ ?_
  ·replace H := J_1
   refine T_region ?_
   refine pv tb 2 rfl ?_
   refine Tp rfl rfl (pur_len_s (by kernel_rfl) rfl rfl) rfl ?_
   refine pv tb 2 rfl ?_
   refine TO_split (t := decide ((s0.name.size : Int) = 1)) 7 rfl (fun g_3 => ?_) (fun g_3 => ?_)
   ·replace H := cond_t g_3 H
    obtain ⟨b_4, h_5, H⟩ := bind_inv H
    refine pv tb 2 rfl ?_
    refine TO_on rfl rfl (by decide) rfl rfl (TOp_pure (pur_ixS (by kernel_rfl) rfl rfl h_5 rfl) rfl ?_)
    refine pv tb 3 rfl ?_
    refine TO_split (t := decide (97 ≤ b_4)) 13 rfl (fun g_6 => ?_) (fun g_6 => ?_)
    ·replace H := cond_t g_6 H
     obtain ⟨b_7, h_8, H⟩ := bind_inv H
     refine pv tb 2 rfl ?_
     refine TO_on rfl rfl (by decide) rfl rfl (TOp_pure (pur_ixS (by kernel_rfl) rfl rfl h_8 rfl) rfl ?_)
     refine pv tb 3 rfl ?_
     refine TO_split (t := decide (b_7 ≤ 122)) 19 rfl (fun g_9 => ?_) (fun g_9 => ?_)
     ·replace H := cond_t g_9 H
      obtain ⟨r_10, h_11, H⟩ := bind_inv H
      refine pv tb 2 rfl ?_
      refine TO_on rfl rfl (by decide) rfl rfl (TOp_callV (call_static ent41 rfl) (m_spec_l1In_ok _ _ _ _ h_11) rfl rfl rfl ?_)
      refine pv tb 2 rfl ?_
      refine TO_split (t := r_10) 24 rfl (fun g_12 => ?_) (fun g_12 => ?_)
      ·replace H := cond_t g_12 H
       obtain ⟨r_13, h_14, H⟩ := bind_inv H
       refine pv tb 4 rfl ?_
       refine TO_on rfl rfl (by decide) rfl rfl (TOp_callV (call_static ent41 rfl) (m_spec_l1In_ok _ _ _ _ h_14) rfl rfl rfl ?_)
       refine pv tb 2 rfl ?_
       refine TO_nil ?_
       exact joined r_13 (w0 0) (some_inj H).symm
      ·replace H := cond_f g_12 H
       refine pv tb 7 rfl ?_
       refine TO_nil ?_
       exact joined false (w0 0) (some_inj H).symm
     ·replace H := cond_f g_9 H
      refine pv tb 8 rfl ?_
      refine toe [(24, (boolA false)), (26, (.v undef)), (27, (.v undef))] rfl ?_
      refine pv tb 4 rfl ?_
      refine TO_nil ?_
      exact joined false (w0 0) (some_inj H).symm
    ·replace H := cond_f g_6 H
     refine pv tb 8 rfl ?_
     refine toe [(1, (.b 0 0)), (19, (boolA false)), (21, (.v undef))] rfl ?_
     refine pv tb 10 rfl ?_
     refine TO_nil ?_
     exact joined false (w0 0) (some_inj H).symm
   ·replace H := cond_f g_3 H
    refine pv tb 16 rfl ?_
    refine toe [(1, (.b 0 0)), (23, (boolA false))] rfl ?_
    refine pv tb 8 rfl ?_
    refine TO_nil ?_
    exact joined false (w0 0) (some_inj H).symm
  ·rintro _ rfl
   replace H := H_2
   refine T_ret ?_
   obtain rfl := some_inj H
   refine end_ret (.tmp .nil) rfl rfl ⟨?_, rfl⟩
   rfl

set_option maxHeartbeats 1000000 in
theorem m_spec_AreValidRelations_ok (l0 : (List Relation)) (r : Bool) (H : m_spec_AreValidRelations l0 = some r) : FnV prg 84 [(sl tRelation l0)] (boolA r) := by
  unfold m_spec_AreValidRelations at H
  refine fnV_of_T Try.func84 rfl rfl (Nat.le_of_ble_eq_true rfl) ?_
  refine te [(0, (sl tRelation l0))] rfl ?_
  refine sr ?_
  refine pv tb 1 rfl ?_
  refine TO_nil ?_
  refine T_seq ?_
  refine sr ?_
  refine pv tb 1 rfl ?_
  refine TO_nil ?_
  obtain ⟨O2_, L2_, N2_⟩ := bind_inv H
  clear H
  obtain ⟨B2_, hb2, L2_⟩ := gen_forL L2_
  refine T_block ?_
  refine T_loopX (fun k => fun (i_1 : Nat) => k = l0.length - i_1 ∧ forL B2_ (l0.drop i_1) (i_1 : Int) () = some O2_) (fun (i_1 : Nat) => [(0, (sl tRelation l0)), (3, (intA (i_1 : Int)))]) (fun (i_1 : Nat) => []) _ (0 : Nat) (w0 0) ⟨rfl, L2_⟩ ?_
  rintro _ i_1 ⟨rfl, L2_⟩
  refine T_fact (len_sl (T := tRelation) (.tmp 0) rfl) (fun hl2 => ?_)
  refine T_seq ?_
  refine sr ?_
  refine pv tb 2 rfl ?_
  refine Tp rfl rfl (pur_lenT (T := tRelation) sl38 rfl rfl) rfl ?_
  refine pv tb 1 rfl ?_
  refine TO_nil ?_
  refine T_cond (t := decide ((i_1 : Int) < (l0.length : Int))) rfl (fun d2 => ?_) (fun d2 => ?_)
  ·replace d2 := of_decide_eq_true d2
   obtain ⟨x_i_1, hx_i_1⟩ : ∃ v, (l0)[i_1]? = some v := ⟨_, List.getElem?_eq_getElem (by omega)⟩
   obtain ⟨C2_, H, K2_⟩ := forL_step L2_ hx_i_1
   rw [hb2] at H
   refine T_skip ?_
   refine T_seq ?_
   refine T_block ?_
   obtain ⟨t33_3, J_3, H_4⟩ := bind_inv H
   refine T_cutX (fun x => t33_3 = x) (fun (t33_3 : Bool) => [(0, (sl tRelation l0)), (3, (intA (i_1 : Int))), (33, (boolA t33_3))]) (fun (t33_3 : Bool) => []) ?_ ?_
   ·replace H := J_3
    refine T_regionD mixed (by kernel_rfl) ?_
    refine pq tb 2 rfl ?_
    refine TQ_pure rfl (pur_ixT (T := tRelation) sl38 rfl rfl rfl hx_i_1 rfl) rfl ?_
    refine TQ_pure rfl (pur_ldTK (T := tRelation) (i := i_1) (off := 0) rfl agg89 rfl rfl hx_i_1 (by decide) rfl) rfl ?_
    obtain ⟨r_5, h_6, H⟩ := bind_inv H
    refine TQ_callV rfl (call_static ent114 rfl) (m_spec_IsValidRelation_ok _ _ h_6) rfl rfl ?_
    refine pq tb 2 rfl ?_
    refine TQ_split (t := (!r_5)) 16 rfl (fun g_7 => ?_) (fun g_7 => ?_)
    ·replace H := cond_t g_7 H
     refine pq tb 8 rfl ?_
     refine tqe [(0, (sl tRelation l0)), (3, (intA (i_1 : Int))), (16, (boolA true)), (19, (.v undef)), (24, (.v undef))] rfl ?_
     refine pq tb 9 rfl ?_
     refine TQ_nil ?_
     exact joined true (w0 0) (some_inj H).symm
    ·replace H := cond_f g_7 H
     refine pq tb 3 rfl ?_
     refine TQ_split (t := decide (0 < (i_1 : Int))) 19 rfl (fun g_8 => ?_) (fun g_8 => ?_)
     ·replace H := cond_t g_8 H
      refine pq tb 2 rfl ?_
      refine TQ_on rfl rfl (by decide) rfl (pur_sub rfl rfl rfl (fits64 (by omega) (by omega))) rfl ?_
      obtain ⟨v_9, h_10, H⟩ := bind_inv H
      obtain ⟨n_11, hz_12, hv_13⟩ := getI_inv h_10
      refine TQ_on rfl rfl (by decide) rfl (pur_ixT (T := tRelation) sl38 rfl rfl hz_12 hv_13 rfl) rfl ?_
      refine pq tb 1 rfl ?_
      refine TQ_on rfl rfl (by decide) rfl (pur_ldT (T := tRelation) (i := n_11) (off := 0) rfl one9 rfl rfl hv_13 rfl) rfl ?_
      refine pq tb 2 rfl ?_
      refine tqe [(0, (sl tRelation l0)), (3, (intA (i_1 : Int))), (16, (boolA false)), (19, (boolA true)), (25, (strA v_9.name)), (26, (sl tRelation l0)), (27, (intA (i_1 : Int)))] rfl ?_
      refine TQ_on rfl rfl (by decide) rfl (pur_ixT (T := tRelation) sl38 rfl rfl rfl hx_i_1 rfl) rfl ?_
      refine pq tb 1 rfl ?_
      refine TQ_on rfl rfl (by decide) rfl (pur_ldT (T := tRelation) (i := i_1) (off := 0) rfl one9 rfl rfl hx_i_1 rfl) rfl ?_
      refine TQ_on rfl rfl (by decide) rfl (pur_geqS rfl rfl rfl) rfl ?_
      refine pq tb 2 rfl ?_
      refine TQ_nil ?_
      exact joined (!ltS v_9.name x_i_1.name) (w0 0) (some_inj H).symm
     ·replace H := cond_f g_8 H
      refine pq tb 8 rfl ?_
      refine tqe [(0, (sl tRelation l0)), (3, (intA (i_1 : Int))), (16, (boolA false)), (19, (boolA false)), (25, (.v undef)), (26, (.v undef)), (27, (.v undef))] rfl ?_
      refine pq tb 6 rfl ?_
      refine TQ_nil ?_
      exact joined false (w0 0) (some_inj H).symm
   ·rintro _ rfl
    replace H := H_4
    refine T_cond (t := t33_3) rfl (fun c_14 => ?_) (fun c_14 => ?_)
    ·replace H := cond_t c_14 H
     refine sr ?_
     refine pv tb 1 rfl ?_
     refine TO_nil ?_
     refine T_ret ?_
     refine block_ret ?_
     refine then_ret ?_
     refine then_ret ?_
     refine block_ret ?_
     refine then_ret ?_
     obtain rfl := some_inj H
     obtain rfl := some_inj K2_
     replace H := onS_r N2_
     obtain rfl := some_inj H
     refine end_ret (.tmp .nil) rfl rfl ⟨?_, rfl⟩
     rfl
    ·replace H := cond_f c_14 H
     refine T_skip ?_
     refine T_region ?_
     refine pv tb 1 rfl ?_
     refine Tp rfl rfl (pur_add rfl rfl rfl (fits64 (by omega) (by omega))) rfl ?_
     refine pv tb 1 rfl ?_
     refine TO_nil ?_
     obtain rfl := some_inj H
     exact again (l0.length - (i_1 + 1)) (i_1 + 1) (by omega) (w0 0) ⟨rfl, K2_⟩
  ·replace d2 := of_decide_eq_false d2
   obtain rfl := forL_end L2_ (by omega)
   refine T_exit ?_
   refine then_exit ?_
   refine then_exit ?_
   refine block_exit ?_
   replace H := onS_l N2_
   refine sr ?_
   refine pv tb 1 rfl ?_
   refine Tp rfl rfl (pur_lenT (T := tRelation) sl38 rfl rfl) rfl ?_
   refine pv tb 2 rfl ?_
   refine TO_nil ?_
   refine T_ret ?_
   obtain rfl := some_inj H
   refine end_ret (.tmp .nil) rfl rfl ⟨?_, rfl⟩
   rfl

set_option maxHeartbeats 1000000 in
theorem m_spec_IsValidFact_ok (u : Nat) (l0 : (List Relation)) (f1 : Fact) (r : Bool) (H : m_spec_IsValidFact u l0 f1 = some r) : FnV prg 83 [(sl tRelation l0), (.g (tFact.enc f1))] (boolA r) := by
  unfold m_spec_IsValidFact at H
  refine fnV_of_T Try.func83 rfl rfl (Nat.le_of_ble_eq_true rfl) ?_
  refine te [(0, (sl tRelation l0)), (1, (.g (tFact.enc f1)))] rfl ?_
  refine sr ?_
  refine TO_cons rfl (TOp_box rfl (boxAll rfl) rfl rfl ?_)
  refine pv tb 1 rfl ?_
  refine TO_nil ?_
  refine T_seq ?_
  obtain ⟨t29_1, J_1, H_2⟩ := bind_inv H
  refine T_cutX (fun x => t29_1 = x) (fun (t29_1 : Bool) => [(3, (.b 0 0)), (29, (boolA t29_1))]) (fun (t29_1 : Bool) => [.box [(intA f1.relation), (sl tInt f1.values)]]) ?_ ?_
  ·replace H := J_1
   refine T_regionD mixed (by kernel_rfl) ?_
   obtain ⟨r_3, h_4, H⟩ := bind_inv H
   refine pq tb 1 rfl ?_
   refine TQ_callV rfl (call_static ent84 rfl) (m_spec_AreValidRelations_ok _ _ h_4) rfl rfl ?_
   refine pq tb 2 rfl ?_
   refine TQ_split (t := (!r_3)) 9 rfl (fun g_5 => ?_) (fun g_5 => ?_)
   ·replace H := cond_t g_5 H
    refine pq tb 16 rfl ?_
    refine tqe [(3, (.b 0 0)), (18, (boolA true)), (21, (.v undef)), (25, (.v undef))] rfl ?_
    refine pq tb 4 rfl ?_
    refine TQ_nil ?_
    exact joined true (w0 1) (some_inj H).symm
   ·replace H := cond_f g_5 H
    refine pq tb 3 rfl ?_
    refine TQ_on rfl rfl (by decide) rfl (pur_lenT (T := tRelation) sl38 rfl rfl) rfl ?_
    refine TQ_fact (len_sl (T := tRelation) (.tmp 0) rfl) (fun hl_6 => ?_)
    refine TQ_on rfl rfl (by decide) rfl (pur_sub rfl rfl rfl (fits64 (by omega) (by omega))) rfl ?_
    obtain ⟨r_7, h_8, H⟩ := bind_inv H
    refine TQ_onV rfl rfl (by decide) rfl (call_static ent41 rfl) (m_spec_l1In_ok _ _ _ _ h_8) rfl rfl ?_
    refine pq tb 3 rfl ?_
    refine TQ_split (t := (!r_7)) 18 rfl (fun g_9 => ?_) (fun g_9 => ?_)
    ·replace H := cond_t g_9 H
     refine pq tb 8 rfl ?_
     refine tqe [(3, (.b 0 0)), (18, (boolA true)), (21, (.v undef)), (26, (.v undef))] rfl ?_
     refine pq tb 3 rfl ?_
     refine TQ_nil ?_
     exact joined true (w0 1) (some_inj H).symm
    ·replace H := cond_f g_9 H
     refine pq tb 2 rfl ?_
     refine TQ_on rfl rfl (by decide) rfl (pur_lenT (T := tInt) sl53 rfl rfl) rfl ?_
     obtain ⟨v_10, h_11, H⟩ := bind_inv H
     obtain ⟨n_12, hz_13, hv_14⟩ := getI_inv h_11
     refine pq tb 3 rfl ?_
     refine TQ_on rfl rfl (by decide) rfl (pur_ixT (T := tRelation) sl38 rfl rfl hz_13 hv_14 rfl) rfl ?_
     refine pq tb 1 rfl ?_
     refine tqe [(3, (.b 0 0)), (18, (boolA false)), (21, (intA (f1.values.length : Int))), (26, (.q (flat tRelation.enc l0) (n_12 * tRelation.k + 1)))] rfl ?_
     refine TQ_on rfl rfl (by decide) rfl (pur_ldT (T := tRelation) (i := n_12) (off := 1) rfl one3 rfl rfl hv_14 rfl) rfl ?_
     refine pq tb 2 rfl ?_
     refine TQ_nil ?_
     exact joined (decide ((f1.values.length : Int) ≠ v_10.arity)) (w0 1) (some_inj H).symm
  ·rintro _ rfl
   replace H := H_2
   refine T_cond (t := t29_1) rfl (fun c_15 => ?_) (fun c_15 => ?_)
   ·replace H := cond_t c_15 H
    refine sr ?_
    refine pv tb 1 rfl ?_
    refine TO_nil ?_
    refine T_ret ?_
    refine then_ret ?_
    obtain rfl := some_inj H
    refine end_ret (.tmp .nil) rfl rfl ⟨?_, rfl⟩
    rfl
   ·replace H := cond_f c_15 H
    refine T_skip ?_
    refine T_seq ?_
    refine sr ?_
    refine pv tb 1 rfl ?_
    refine TO_nil ?_
    obtain ⟨O16_, L16_, N16_⟩ := bind_inv H
    clear H
    obtain ⟨B16_, hb16, L16_⟩ := gen_whileF L16_
    refine T_block ?_
    refine T_loopX (fun k => fun (i5 : Int) => whileF B16_ k i5 = some O16_) (fun (i5 : Int) => [(3, (.b 0 0)), (5, (intA i5))]) (fun (i5 : Int) => [.box [(intA f1.relation), (sl tInt f1.values)]]) u 0 (w0 1) L16_ ?_
    rintro _ i5 L16_
    obtain ⟨k16, rfl, C16_, H, K16_⟩ := while_step L16_
    rw [hb16] at H
    refine T_seq ?_
    refine sr ?_
    refine pv tb 3 rfl ?_
    refine Tp rfl rfl (pur_lenT (T := tInt) sl53 rfl rfl) rfl ?_
    refine pv tb 1 rfl ?_
    refine TO_nil ?_
    refine T_cond (t := decide (i5 < (f1.values.length : Int))) rfl (fun c_17 => ?_) (fun c_17 => ?_)
    ·replace H := cond_t c_17 H
     refine T_skip ?_
     refine T_seq ?_
     refine T_block ?_
     refine sr ?_
     obtain ⟨v_18, h_19, H⟩ := bind_inv H
     obtain ⟨n_20, hz_21, hv_22⟩ := getI_inv h_19
     refine pv tb 3 rfl ?_
     refine Tp rfl rfl (pur_ixT (T := tInt) sl53 rfl rfl hz_21 hv_22 rfl) rfl ?_
     refine Tp rfl rfl (pur_ldT (T := tInt) (i := n_20) (off := 0) rfl one3 rfl rfl hv_22 rfl) rfl ?_
     obtain ⟨r_23, h_24, H⟩ := bind_inv H
     refine TO_cons rfl (TOp_callV (call_static ent41 rfl) (m_spec_l1In_ok _ _ _ _ h_24) rfl rfl rfl ?_)
     refine pv tb 1 rfl ?_
     refine TO_nil ?_
     refine T_cond (t := (!r_23)) rfl (fun c_25 => ?_) (fun c_25 => ?_)
     ·replace H := cond_t c_25 H
      refine sr ?_
      refine pv tb 1 rfl ?_
      refine TO_nil ?_
      refine T_ret ?_
      refine block_ret ?_
      refine then_ret ?_
      refine then_ret ?_
      refine block_ret ?_
      refine then_ret ?_
      obtain rfl := some_inj H
      obtain rfl := some_inj K16_
      replace H := onS_r N16_
      obtain rfl := some_inj H
      refine end_ret (.tmp .nil) rfl rfl ⟨?_, rfl⟩
      rfl
     ·replace H := cond_f c_25 H
      refine T_skip ?_
      refine T_region ?_
      refine pv tb 3 rfl ?_
      refine TO_nil ?_
      obtain rfl := some_inj H
      exact again k16 (w64 (i5 + 1)) (Nat.lt_succ_self _) (w0 1) K16_
    ·replace H := cond_f c_17 H
     refine T_exit ?_
     refine then_exit ?_
     refine then_exit ?_
     refine block_exit ?_
     obtain rfl := some_inj H
     obtain rfl := some_inj K16_
     replace H := onS_l N16_
     refine sr ?_
     refine pv tb 1 rfl ?_
     refine TO_nil ?_
     refine T_ret ?_
     obtain rfl := some_inj H
     refine end_ret (.tmp .nil) rfl rfl ⟨?_, rfl⟩
     rfl

set_option maxHeartbeats 1000000 in
theorem m_spec_IsValidDatabase_ok (u : Nat) (d0 : Database) (r : Bool) (H : m_spec_IsValidDatabase u d0 = some r) : FnV prg 40 [(.g (tDatabase.enc d0))] (boolA r) := by
  unfold m_spec_IsValidDatabase at H
  refine fnV_of_T Try.func40 rfl rfl (Nat.le_of_ble_eq_true rfl) ?_
  refine te [(0, (.g (tDatabase.enc d0)))] rfl ?_
  refine sr ?_
  refine TO_cons rfl (TOp_box rfl (boxAll rfl) rfl rfl ?_)
  refine pv tb 1 rfl ?_
  refine TO_nil ?_
  refine T_seq ?_
  refine sr ?_
  refine pv tb 1 rfl ?_
  refine TO_nil ?_
  obtain ⟨O1_, L1_, N1_⟩ := bind_inv H
  clear H
  obtain ⟨B1_, hb1, L1_⟩ := gen_whileF L1_
  refine T_block ?_
  refine T_loopX (fun k => fun (i3 : Int) => whileF B1_ k i3 = some O1_) (fun (i3 : Int) => [(1, (.b 0 0)), (3, (intA i3))]) (fun (i3 : Int) => [.box [(sl tRelation d0.relations), (sl tFact d0.facts)]]) u 0 (w0 1) L1_ ?_
  rintro _ i3 L1_
  obtain ⟨k1, rfl, C1_, H, K1_⟩ := while_step L1_
  rw [hb1] at H
  refine T_seq ?_
  refine sr ?_
  refine pv tb 3 rfl ?_
  refine Tp rfl rfl (pur_lenT (T := tFact) sl39 rfl rfl) rfl ?_
  refine pv tb 1 rfl ?_
  refine TO_nil ?_
  refine T_cond (t := decide (i3 < (d0.facts.length : Int))) rfl (fun c_2 => ?_) (fun c_2 => ?_)
  ·replace H := cond_t c_2 H
   refine T_skip ?_
   refine T_seq ?_
   refine T_block ?_
   obtain ⟨t38_3, J_3, H_4⟩ := bind_inv H
   refine T_cutX (fun x => t38_3 = x) (fun (t38_3 : Bool) => [(1, (.b 0 0)), (3, (intA i3)), (38, (boolA t38_3))]) (fun (t38_3 : Bool) => [.box [(sl tRelation d0.relations), (sl tFact d0.facts)]]) ?_ ?_
   ·replace H := J_3
    refine T_regionD mixed (by kernel_rfl) ?_
    obtain ⟨v_5, h_6, H⟩ := bind_inv H
    obtain ⟨n_7, hz_8, hv_9⟩ := getI_inv h_6
    refine pq tb 5 rfl ?_
    refine TQ_pure rfl (pur_ixT (T := tFact) sl39 rfl rfl hz_8 hv_9 rfl) rfl ?_
    refine TQ_pure rfl (pur_ldTK (T := tFact) (i := n_7) (off := 0) rfl agg55 rfl rfl hv_9 (by decide) rfl) rfl ?_
    obtain ⟨r_10, h_11, H⟩ := bind_inv H
    refine TQ_callV rfl (call_static ent83 rfl) (m_spec_IsValidFact_ok u _ _ _ h_11) rfl rfl ?_
    refine pq tb 2 rfl ?_
    refine TQ_split (t := (!r_10)) 20 rfl (fun g_12 => ?_) (fun g_12 => ?_)
    ·replace H := cond_t g_12 H
     refine pq tb 8 rfl ?_
     refine tqe [(1, (.b 0 0)), (3, (intA i3)), (20, (boolA true)), (23, (.v undef)), (28, (.v undef))] rfl ?_
     refine pq tb 10 rfl ?_
     refine TQ_nil ?_
     exact joined true (w0 1) (some_inj H).symm
    ·replace H := cond_f g_12 H
     refine pq tb 3 rfl ?_
     refine TQ_split (t := decide (0 < i3)) 23 rfl (fun g_13 => ?_) (fun g_13 => ?_)
     ·replace H := cond_t g_13 H
      obtain ⟨v_14, h_15, H⟩ := bind_inv H
      obtain ⟨n_16, hz_17, hv_18⟩ := getI_inv h_15
      refine pq tb 4 rfl ?_
      refine TQ_on rfl rfl (by decide) rfl (pur_ixT (T := tFact) sl39 rfl rfl hz_17 hv_18 rfl) rfl ?_
      refine TQ_on rfl rfl (by decide) rfl (pur_ldTK (T := tFact) (i := n_16) (off := 0) rfl agg55 rfl rfl hv_18 (by decide) rfl) rfl ?_
      refine pq tb 2 rfl ?_
      refine tqe [(1, (.b 0 0)), (3, (intA i3)), (20, (boolA false)), (23, (boolA true)), (29, (.g (tFact.enc v_14))), (31, (sl tFact d0.facts))] rfl ?_
      refine pq tb 1 rfl ?_
      refine TQ_on rfl rfl (by decide) rfl (pur_ixT (T := tFact) sl39 rfl rfl hz_8 hv_9 rfl) rfl ?_
      refine TQ_on rfl rfl (by decide) rfl (pur_ldTK (T := tFact) (i := n_7) (off := 0) rfl agg55 rfl rfl hv_9 (by decide) rfl) rfl ?_
      obtain ⟨r_19, h_20, H⟩ := bind_inv H
      refine TQ_onV rfl rfl (by decide) rfl (call_static ent61 rfl) (m_spec_CompareFacts_ok u _ _ _ h_20) rfl rfl ?_
      refine pq tb 3 rfl ?_
      refine TQ_nil ?_
      exact joined (decide (0 ≤ r_19)) (w0 1) (some_inj H).symm
     ·replace H := cond_f g_13 H
      refine pq tb 8 rfl ?_
      refine tqe [(1, (.b 0 0)), (3, (intA i3)), (20, (boolA false)), (23, (boolA false)), (29, (.v undef)), (31, (.v undef))] rfl ?_
      refine pq tb 7 rfl ?_
      refine TQ_nil ?_
      exact joined false (w0 1) (some_inj H).symm
   ·rintro _ rfl
    replace H := H_4
    refine T_cond (t := t38_3) rfl (fun c_21 => ?_) (fun c_21 => ?_)
    ·replace H := cond_t c_21 H
     refine sr ?_
     refine pv tb 1 rfl ?_
     refine TO_nil ?_
     refine T_ret ?_
     refine block_ret ?_
     refine then_ret ?_
     refine then_ret ?_
     refine block_ret ?_
     refine then_ret ?_
     obtain rfl := some_inj H
     obtain rfl := some_inj K1_
     replace H := onS_r N1_
     obtain rfl := some_inj H
     refine end_ret (.tmp .nil) rfl rfl ⟨?_, rfl⟩
     rfl
    ·replace H := cond_f c_21 H
     refine T_skip ?_
     refine T_region ?_
     refine pv tb 3 rfl ?_
     refine TO_nil ?_
     obtain rfl := some_inj H
     exact again k1 (w64 (i3 + 1)) (Nat.lt_succ_self _) (w0 1) K1_
  ·replace H := cond_f c_2 H
   refine T_exit ?_
   refine then_exit ?_
   refine then_exit ?_
   refine block_exit ?_
   obtain rfl := some_inj H
   obtain rfl := some_inj K1_
   replace H := onS_l N1_
   obtain ⟨t2_22, J_22, H_23⟩ := bind_inv H
   refine T_cutX (fun x => t2_22 = x) (fun (t2_22 : Bool) => [(2, (boolA t2_22))]) (fun (t2_22 : Bool) => []) ?_ ?_
   ·replace H := J_22
    refine T_region ?_
    obtain ⟨r_24, h_25, H⟩ := bind_inv H
    refine pv tb 2 rfl ?_
    refine TO_cons rfl (TOp_callV (call_static ent84 rfl) (m_spec_AreValidRelations_ok _ _ h_25) rfl rfl rfl ?_)
    refine pv tb 1 rfl ?_
    refine TO_split (t := r_24) 42 rfl (fun g_26 => ?_) (fun g_26 => ?_)
    ·replace H := cond_t g_26 H
     refine pv tb 2 rfl ?_
     refine TO_on rfl rfl (by decide) rfl rfl (TOp_pure (pur_lenT (T := tFact) sl39 rfl rfl) rfl ?_)
     refine pv tb 3 rfl ?_
     refine TO_nil ?_
     exact joined (decide ((d0.facts.length : Int) ≤ 14)) (w0 0) (some_inj H).symm
    ·replace H := cond_f g_26 H
     refine pv tb 6 rfl ?_
     refine TO_nil ?_
     exact joined false (w0 0) (some_inj H).symm
   ·rintro _ rfl
    replace H := H_23
    refine T_ret ?_
    obtain rfl := some_inj H
    refine end_ret (.tmp .nil) rfl rfl ⟨?_, rfl⟩
    rfl

set_option maxHeartbeats 1000000 in
theorem m_spec_l4Copy_own (u : Nat) (d0 : Database) (r : Database) (H : m_spec_l4Copy u d0 = some r) : FnO prg 42 [(.g (tDatabase.enc d0))] (.g [(.m [0] 0 r.relations.length tRelation.k), (.m [1] 0 r.facts.length tFact.k)]) [.row (flat tRelation.own r.relations), .row (flat tFact.own r.facts)] := by
  unfold m_spec_l4Copy at H
  refine fnO_of_T Try.func42 rfl rfl (Nat.le_of_ble_eq_true rfl) ?_
  refine te [(0, (.g (tDatabase.enc d0)))] rfl ?_
  refine sr ?_
  refine TO_cons rfl (TOp_box rfl (boxAll rfl) rfl rfl ?_)
  refine TO_cons rfl (TOp_alloc zero41 rfl rfl ?_)
  refine TO_nil ?_
  refine sr ?_
  refine TO_cons rfl (TOp_lit (nn := 0) (k := 3) sl38 zero89 rfl rfl rfl rfl (by decide) ?_)
  refine TO_st (σ' := [.box [(sl tRelation d0.relations), (sl tFact d0.facts)], .box [.n, .n], .row (flat tRelation.enc ([] : (List Relation)))]) rfl ?_
  obtain ⟨us_1, h_2, H⟩ := bind_inv H
  refine pv tb 2 rfl ?_
  refine TO_cons rfl (TOp_appZ (T := tRelation) (f := tRelation.enc) (xs := ([] : (List Relation))) (ys := d0.relations) tRelation.len sl38 zero89 rfl bytes89 (by decide) rfl rfl rfl rfl (src_T (T := tRelation) rfl) (flat_cell tRelation _) h_2 (lb rfl) ?_)
  refine toe [(1, (.b 0 0)), (2, (.b 1 0)), (6, (.b 0 0)), (7, (sl tRelation d0.relations)), (8, (.m [2] 0 us_1.length tRelation.k))] rfl ?_
  refine TO_st (σ' := [.box [(sl tRelation d0.relations), (sl tFact d0.facts)], .box [.n, .n], .row (flat tRelation.enc us_1), .dead]) rfl ?_
  refine Tp rfl rfl (pur_build bld41 rfl rfl) rfl ?_
  refine TO_cons rfl (TOp_alloc zero41 rfl rfl ?_)
  refine TO_cons rfl (TOp_storeB sz41 rfl rfl rfl rfl rfl rfl rfl (by decide) (lb rfl) rfl ?_)
  refine TO_st (σ' := [.box [(sl tRelation d0.relations), (sl tFact d0.facts)], .box [.n, .n], .row (flat tRelation.enc us_1), .dead, .box [(.m [2] 0 us_1.length tRelation.k), .n]]) rfl ?_
  refine TO_nil ?_
  refine T_seq ?_
  refine sr ?_
  refine pv tb 1 rfl ?_
  refine TO_nil ?_
  refine T_row0 ?_
  refine T_boxle (xs := [(.m [2] 0 us_1.length tRelation.k), .n]) (ys := [(.m [2] 0 us_1.length tRelation.k), (.m [5] 0 ([] : (List Fact)).length tFact.k)]) 4 rfl (leCons (leR rfl) (leCons leM leNil)) ?_
  refine T_st (σ' := [.box [(sl tRelation d0.relations), (sl tFact d0.facts)], .box [.n, .n], .row (flat tRelation.enc us_1), .dead, .box [(.m [2] 0 us_1.length tRelation.k), (.m [5] 0 ([] : (List Fact)).length tFact.k)], .row (flat tFact.own ([] : (List Fact)))]) rfl ?_
  obtain ⟨O3_, L3_, N3_⟩ := bind_inv H
  clear H
  obtain ⟨B3_, hb3, L3_⟩ := gen_whileF L3_
  refine T_block ?_
  refine T_loopX (fun k => fun (⟨i4, box4_facts⟩ : Int × (List Fact)) => whileF B3_ k (i4, box4_facts) = some O3_) (fun (⟨i4, box4_facts⟩ : Int × (List Fact)) => [(1, (.b 0 0)), (2, (.b 1 0)), (3, (.b 4 0)), (4, (intA i4))]) (fun (⟨i4, box4_facts⟩ : Int × (List Fact)) => [.box [(sl tRelation d0.relations), (sl tFact d0.facts)], .box [.n, .n], .row (flat tRelation.enc us_1), .dead, .box [(.m [2] 0 us_1.length tRelation.k), (.m [5] 0 box4_facts.length tFact.k)], .row (flat tFact.own box4_facts)]) u (0, ([] : (List Fact))) (w0 6) L3_ ?_
  rintro _ ⟨i4, box4_facts⟩ L3_
  obtain ⟨k3, rfl, C3_, H, K3_⟩ := while_step L3_
  rw [hb3] at H
  refine T_seq ?_
  refine sr ?_
  refine pv tb 3 rfl ?_
  refine Tp rfl rfl (pur_lenT (T := tFact) sl39 rfl rfl) rfl ?_
  refine pv tb 1 rfl ?_
  refine TO_nil ?_
  refine T_cond (t := decide (i4 < (d0.facts.length : Int))) rfl (fun c_4 => ?_) (fun c_4 => ?_)
  ·replace H := cond_t c_4 H
   refine T_skip ?_
   refine T_seq ?_
   refine T_block ?_
   obtain ⟨v_5, h_6, H⟩ := bind_inv H
   obtain ⟨n_7, hz_8, hv_9⟩ := getI_inv h_6
   obtain ⟨us_10, h_11, H⟩ := bind_inv H
   obtain ⟨us_12, h_13, H⟩ := bind_inv H
   refine T_pad ?_
   refine T_pad ?_
   refine T_pad ?_
   refine T_pad ?_
   refine T_regionPh 6 20 mixed rfl (by kernel_rfl) ?_
   refine pa tb [0, 1, 2, 3, 4] 15 rfl (by kernel_rfl) rfl ?_
   refine tf 5 rfl (pur_ixT (T := tFact) sl39 rfl rfl hz_8 hv_9 rfl) rfl rfl (by kernel_rfl) ?_
   refine pa tb [6] 13 rfl (by kernel_rfl) rfl ?_
   refine tf 7 rfl (pur_ldT (T := tFact) (i := n_7) (off := 0) rfl one3 rfl rfl hv_9 rfl) rfl rfl (by kernel_rfl) ?_
   refine pa tb [9, 10, 11] 9 rfl (by kernel_rfl) rfl ?_
   refine tf 12 rfl (pur_ixT (T := tFact) sl39 rfl rfl hz_8 hv_9 rfl) rfl rfl (by kernel_rfl) ?_
   refine pa tb [13] 7 rfl (by kernel_rfl) rfl ?_
   refine tf 14 rfl (pur_ldT (T := tFact) (i := n_7) (off := 1) rfl one53 rfl rfl hv_9 rfl) rfl rfl (by kernel_rfl) ?_
   refine t1 8 (by kernel_rfl) rfl rfl (TOp_lit (nn := 0) (k := 1) sl53 zero3 rfl rfl rfl rfl (by decide) ?_)
   refine tmw 6 10 (by decide) (lb rfl) rfl rfl (lb rfl) rfl ?_
   refine t1 15 (by kernel_rfl) rfl rfl (TOp_appY (T := tInt) (f := tInt.enc) (xs := ([] : (List Int))) (ys := v_5.values) tInt.len sl53 zero3 rfl bytes3 (by decide) rfl rfl rfl rfl (src_T (T := tInt) rfl) (flat_cell tInt _) h_11 ?_)
   refine tmw 6 11 (by decide) (lb rfl) rfl rfl (lb rfl) rfl ?_
   refine tae [(1, (.b 0 0)), (2, (.b 1 0)), (3, (.b 4 0)), (4, (intA i4)), (18, (.m [5] 0 box4_facts.length tFact.k)), (24, (intA v_5.relation)), (32, (.m [6] 0 us_10.length tInt.k))] rfl ?_
   refine TA_st (σ' := [.dead, .dead, .row (flat tRelation.enc us_1), .dead, .dead, .row (flat tFact.own box4_facts), .row (flat tInt.enc us_10), .dead, .dead, .dead, .dead, .dead]) rfl ?_
   refine tf 16 rfl (pur_build bld55 rfl rfl) rfl rfl (by kernel_rfl) ?_
   refine t1 17 (by kernel_rfl) rfl rfl (TOp_ghost (E' := [(1, (.b 0 0)), (2, (.b 1 0)), (3, (.b 4 0)), (4, (intA i4)), (18, (.m [5] 0 box4_facts.length tFact.k)), (33, (.g [(intA v_5.relation), (.m [6] 0 us_10.length tInt.k)]))]) (σ' := [.dead, .dead, .row (flat tRelation.enc us_1), .dead, .dead, .row (flat tFact.own box4_facts), .row (flat tInt.enc us_10), .dead, .dead, .dead]) (by exact Ghost.weak (w0 10)) (TOp_litB (nn := 1) (k := 2) sl39 zero55 rfl rfl rfl rfl (by decide) ?_))
   refine TA_st (σ' := [.dead, .dead, .row (flat tRelation.enc us_1), .dead, .dead, .row (flat tFact.own box4_facts), .row (flat tInt.enc us_10), .dead, .dead, .dead, .box [(intA v_5.relation), (.m [6] 0 us_10.length tInt.k)]]) rfl ?_
   refine tmw 9 5 (by decide) (lb rfl) rfl rfl (lb rfl) rfl ?_
   refine t1 18 (by kernel_rfl) rfl rfl (TOp_boxify 9 rfl (lb rfl) (TOp_appB (T := tFact) (xs := box4_facts) (v := ({ relation := v_5.relation, values := us_10 } : Fact)) sl39 zero55 rfl bytes55 (by decide) rfl rfl rfl rfl rfl rfl rfl rfl h_13 (lb rfl) ?_))
   refine tae [(1, (.b 0 0)), (2, (.b 1 0)), (3, (.b 4 0)), (4, (intA i4)), (35, .m [11] 0 (box4_facts.length + 1) tFact.k)] rfl ?_
   refine TA_st (σ' := [.dead, .dead, .row (flat tRelation.enc us_1), .dead, .dead, .dead, .row (flat tInt.enc us_10), .dead, .dead, .dead, .box [(intA v_5.relation), (.m [6] 0 us_10.length tInt.k)], .box (flat tFact.own box4_facts ++ [(intA v_5.relation), (.m [6] 0 us_10.length tInt.k)])]) rfl ?_
   refine TA_absorbA (pr := flat tFact.own box4_facts) 11 1 6 rfl rfl rfl (by decide) tInt.pos (flat_len tInt.len _) (lb rfl) (lb rfl) rfl (nms_dead (nms_dead (nms_row (nms_dead (nms_dead (nms_dead (nms_row (nms_dead (nms_dead (nms_dead (nms_box rfl (nms_box (namesA namesL_own rfl) nms_nil)))))))))))) ?_
   refine TA_st (σ' := [.dead, .dead, .row (flat tRelation.enc us_1), .dead, .dead, .dead, .dead, .dead, .dead, .dead, .box [(intA v_5.relation), (.m [6] 0 us_10.length tInt.k)], .box (flat tFact.own box4_facts ++ [(intA v_5.relation), .o tInt.k (flat tInt.enc us_10)])]) rfl ?_
   refine TA_rowifyT (T := tFact) (xs := box4_facts) (v := ({ relation := v_5.relation, values := us_10 } : Fact)) 11 rfl rfl h_13 (lb rfl) ?_
   refine TA_st (σ' := [.dead, .dead, .row (flat tRelation.enc us_1), .dead, .dead, .dead, .dead, .dead, .dead, .dead, .box [(intA v_5.relation), (.m [6] 0 us_10.length tInt.k)], .row (flat tFact.own us_12)]) rfl ?_
   refine TA_move 9 11 (by decide) (lb rfl) rfl rfl (lb rfl) ?_
   refine TA_env (E' := [(1, (.b 0 0)), (2, (.b 1 0)), (3, (.b 4 0)), (4, (intA i4)), (35, (.m [9] 0 us_12.length tFact.k))]) ⟨rfl, rfl, rfl, rfl, (congrArg (fun q => A.m [9] 0 q tFact.k) (app_len h_13)), trivial⟩ ?_
   refine TA_kill 10 (lb rfl) ?_
   refine TA_st (σ' := [.dead, .dead, .row (flat tRelation.enc us_1), .dead, .dead, .dead, .dead, .dead, .dead, .row (flat tFact.own us_12), .dead, .dead]) rfl ?_
   refine pa tb [19] 0 rfl (by kernel_rfl) rfl ?_
   refine TA_nil (by kernel_rfl) ?_
   refine TA_st (σ' := [.box [(sl tRelation d0.relations), (sl tFact d0.facts)], .box [.n, .n], .row (flat tRelation.enc us_1), .dead, .box [(.m [2] 0 us_1.length tRelation.k), (.m [5] 0 box4_facts.length tFact.k)], .dead, .dead, .dead, .dead, .row (flat tFact.own us_12), .dead, .dead]) rfl ?_
   refine tmv 5 9 (by decide) (lb rfl) rfl rfl (lb rfl) ?_
   refine TA_st (σ' := [.box [(sl tRelation d0.relations), (sl tFact d0.facts)], .box [.n, .n], .row (flat tRelation.enc us_1), .dead, .box [(.m [2] 0 us_1.length tRelation.k), .j], .row (flat tFact.own us_12), .dead, .dead, .dead, .dead, .dead, .dead]) rfl ?_
   refine t1 20 (by kernel_rfl) rfl rfl (TOp_storeB sz39 rfl rfl rfl rfl rfl rfl rfl (by decide) (lb rfl) rfl ?_)
   refine TA_st (σ' := [.box [(sl tRelation d0.relations), (sl tFact d0.facts)], .box [.n, .n], .row (flat tRelation.enc us_1), .dead, .box [(.m [2] 0 us_1.length tRelation.k), (.m [5] 0 us_12.length tFact.k)], .row (flat tFact.own us_12), .dead, .dead, .dead, .dead, .dead, .dead]) rfl ?_
   refine TA_nil (by kernel_rfl) ?_
   refine T_region ?_
   refine pv tb 3 rfl ?_
   refine TO_nil ?_
   obtain rfl := some_inj H
   exact again k3 ((w64 (i4 + 1)), us_12) (Nat.lt_succ_self _) (w0 6) K3_
  ·replace H := cond_f c_4 H
   refine T_exit ?_
   refine then_exit ?_
   refine then_exit ?_
   refine block_exit ?_
   obtain rfl := some_inj H
   obtain rfl := some_inj K3_
   replace H := onS_l N3_
   refine sr ?_
   refine pv tb 1 rfl ?_
   refine TO_cons rfl (TOp_storeB sz41 rfl rfl rfl rfl rfl rfl rfl (by decide) (lb rfl) rfl ?_)
   refine TO_st (σ' := [.box [(sl tRelation d0.relations), (sl tFact d0.facts)], .box [(.m [2] 0 us_1.length tRelation.k), (.m [5] 0 box4_facts.length tFact.k)], .row (flat tRelation.enc us_1), .dead, .box [(.m [2] 0 us_1.length tRelation.k), (.m [5] 0 box4_facts.length tFact.k)], .row (flat tFact.own box4_facts)]) rfl ?_
   refine TO_nil ?_
   refine T_ret ?_
   obtain rfl := some_inj H
   exact end_pick (.cellK rfl agg41 rfl (lb rfl) .nil) rfl [2, 5] (by decide) rfl rfl rfl rfl rfl rfl
theorem m_spec_l4Copy_ok (u : Nat) (d0 : Database) (r : Database) (H : m_spec_l4Copy u d0 = some r) : FnV prg 42 [(.g (tDatabase.enc d0))] (.g (tDatabase.enc r)) := (m_spec_l4Copy_own u d0 r H).frz (frzOK_g (frz_cons (frzT (T := tRelation) rfl) (frz_cons (frzT (T := tFact) rfl) frz_nil)).1 (frz_cons (frzT (T := tRelation) rfl) (frz_cons (frzT (T := tFact) rfl) frz_nil)).2)

set_option maxHeartbeats 1000000 in
theorem m_spec_l4Copy_enc (u : Nat) (d0 : Database) (r : Database) (H : m_spec_l4Copy u d0 = some r) : FnO prg 42 [(.g (tDatabase.enc d0))] (.g [(.m [0] 0 r.relations.length tRelation.k), (.m [1] 0 r.facts.length tFact.k)]) [.row (flat tRelation.enc r.relations), .row (flat tFact.enc r.facts)] := by
  unfold m_spec_l4Copy at H
  refine fnO_of_T Try.func42 rfl rfl (Nat.le_of_ble_eq_true rfl) ?_
  refine te [(0, (.g (tDatabase.enc d0)))] rfl ?_
  refine sr ?_
  refine TO_cons rfl (TOp_box rfl (boxAll rfl) rfl rfl ?_)
  refine TO_cons rfl (TOp_alloc zero41 rfl rfl ?_)
  refine TO_nil ?_
  refine sr ?_
  refine TO_cons rfl (TOp_lit (nn := 0) (k := 3) sl38 zero89 rfl rfl rfl rfl (by decide) ?_)
  refine TO_st (σ' := [.box [(sl tRelation d0.relations), (sl tFact d0.facts)], .box [.n, .n], .row (flat tRelation.enc ([] : (List Relation)))]) rfl ?_
  obtain ⟨us_1, h_2, H⟩ := bind_inv H
  refine pv tb 2 rfl ?_
  refine TO_cons rfl (TOp_appZ (T := tRelation) (f := tRelation.enc) (xs := ([] : (List Relation))) (ys := d0.relations) tRelation.len sl38 zero89 rfl bytes89 (by decide) rfl rfl rfl rfl (src_T (T := tRelation) rfl) (flat_cell tRelation _) h_2 (lb rfl) ?_)
  refine toe [(1, (.b 0 0)), (2, (.b 1 0)), (6, (.b 0 0)), (7, (sl tRelation d0.relations)), (8, (.m [2] 0 us_1.length tRelation.k))] rfl ?_
  refine TO_st (σ' := [.box [(sl tRelation d0.relations), (sl tFact d0.facts)], .box [.n, .n], .row (flat tRelation.enc us_1), .dead]) rfl ?_
  refine Tp rfl rfl (pur_build bld41 rfl rfl) rfl ?_
  refine TO_cons rfl (TOp_alloc zero41 rfl rfl ?_)
  refine TO_cons rfl (TOp_storeB sz41 rfl rfl rfl rfl rfl rfl rfl (by decide) (lb rfl) rfl ?_)
  refine TO_st (σ' := [.box [(sl tRelation d0.relations), (sl tFact d0.facts)], .box [.n, .n], .row (flat tRelation.enc us_1), .dead, .box [(.m [2] 0 us_1.length tRelation.k), .n]]) rfl ?_
  refine TO_nil ?_
  refine T_seq ?_
  refine sr ?_
  refine pv tb 1 rfl ?_
  refine TO_nil ?_
  refine T_row0 ?_
  refine T_boxle (xs := [(.m [2] 0 us_1.length tRelation.k), .n]) (ys := [(.m [2] 0 us_1.length tRelation.k), (.m [5] 0 ([] : (List Fact)).length tFact.k)]) 4 rfl (leCons (leR rfl) (leCons leM leNil)) ?_
  refine T_st (σ' := [.box [(sl tRelation d0.relations), (sl tFact d0.facts)], .box [.n, .n], .row (flat tRelation.enc us_1), .dead, .box [(.m [2] 0 us_1.length tRelation.k), (.m [5] 0 ([] : (List Fact)).length tFact.k)], .row (flat tFact.enc ([] : (List Fact)))]) rfl ?_
  obtain ⟨O3_, L3_, N3_⟩ := bind_inv H
  clear H
  obtain ⟨B3_, hb3, L3_⟩ := gen_whileF L3_
  refine T_block ?_
  refine T_loopX (fun k => fun (⟨i4, box4_facts⟩ : Int × (List Fact)) => whileF B3_ k (i4, box4_facts) = some O3_) (fun (⟨i4, box4_facts⟩ : Int × (List Fact)) => [(1, (.b 0 0)), (2, (.b 1 0)), (3, (.b 4 0)), (4, (intA i4))]) (fun (⟨i4, box4_facts⟩ : Int × (List Fact)) => [.box [(sl tRelation d0.relations), (sl tFact d0.facts)], .box [.n, .n], .row (flat tRelation.enc us_1), .dead, .box [(.m [2] 0 us_1.length tRelation.k), (.m [5] 0 box4_facts.length tFact.k)], .row (flat tFact.enc box4_facts)]) u (0, ([] : (List Fact))) (w0 6) L3_ ?_
  rintro _ ⟨i4, box4_facts⟩ L3_
  obtain ⟨k3, rfl, C3_, H, K3_⟩ := while_step L3_
  rw [hb3] at H
  refine T_seq ?_
  refine sr ?_
  refine pv tb 3 rfl ?_
  refine Tp rfl rfl (pur_lenT (T := tFact) sl39 rfl rfl) rfl ?_
  refine pv tb 1 rfl ?_
  refine TO_nil ?_
  refine T_cond (t := decide (i4 < (d0.facts.length : Int))) rfl (fun c_4 => ?_) (fun c_4 => ?_)
  ·replace H := cond_t c_4 H
   refine T_skip ?_
   refine T_seq ?_
   refine T_block ?_
   obtain ⟨v_5, h_6, H⟩ := bind_inv H
   obtain ⟨n_7, hz_8, hv_9⟩ := getI_inv h_6
   obtain ⟨us_10, h_11, H⟩ := bind_inv H
   obtain ⟨us_12, h_13, H⟩ := bind_inv H
   refine T_pad ?_
   refine T_pad ?_
   refine T_pad ?_
   refine T_pad ?_
   refine T_regionPh 6 20 mixed rfl (by kernel_rfl) ?_
   refine pa tb [0, 1, 2, 3, 4] 15 rfl (by kernel_rfl) rfl ?_
   refine tf 5 rfl (pur_ixT (T := tFact) sl39 rfl rfl hz_8 hv_9 rfl) rfl rfl (by kernel_rfl) ?_
   refine pa tb [6] 13 rfl (by kernel_rfl) rfl ?_
   refine tf 7 rfl (pur_ldT (T := tFact) (i := n_7) (off := 0) rfl one3 rfl rfl hv_9 rfl) rfl rfl (by kernel_rfl) ?_
   refine pa tb [9, 10, 11] 9 rfl (by kernel_rfl) rfl ?_
   refine tf 12 rfl (pur_ixT (T := tFact) sl39 rfl rfl hz_8 hv_9 rfl) rfl rfl (by kernel_rfl) ?_
   refine pa tb [13] 7 rfl (by kernel_rfl) rfl ?_
   refine tf 14 rfl (pur_ldT (T := tFact) (i := n_7) (off := 1) rfl one53 rfl rfl hv_9 rfl) rfl rfl (by kernel_rfl) ?_
   refine t1 8 (by kernel_rfl) rfl rfl (TOp_lit (nn := 0) (k := 1) sl53 zero3 rfl rfl rfl rfl (by decide) ?_)
   refine tmw 6 10 (by decide) (lb rfl) rfl rfl (lb rfl) rfl ?_
   refine t1 15 (by kernel_rfl) rfl rfl (TOp_appY (T := tInt) (f := tInt.enc) (xs := ([] : (List Int))) (ys := v_5.values) tInt.len sl53 zero3 rfl bytes3 (by decide) rfl rfl rfl rfl (src_T (T := tInt) rfl) (flat_cell tInt _) h_11 ?_)
   refine tmw 6 11 (by decide) (lb rfl) rfl rfl (lb rfl) rfl ?_
   refine tae [(1, (.b 0 0)), (2, (.b 1 0)), (3, (.b 4 0)), (4, (intA i4)), (18, (.m [5] 0 box4_facts.length tFact.k)), (24, (intA v_5.relation)), (32, (.m [6] 0 us_10.length tInt.k))] rfl ?_
   refine TA_st (σ' := [.dead, .dead, .row (flat tRelation.enc us_1), .dead, .dead, .row (flat tFact.enc box4_facts), .row (flat tInt.enc us_10), .dead, .dead, .dead, .dead, .dead]) rfl ?_
   refine tf 16 rfl (pur_build bld55 rfl rfl) rfl rfl (by kernel_rfl) ?_
   refine TA_ghost (E' := [(1, (.b 0 0)), (2, (.b 1 0)), (3, (.b 4 0)), (4, (intA i4)), (18, (.m [5] 0 box4_facts.length tFact.k)), (33, (.g [(intA v_5.relation), (.m [6] 0 us_10.length tInt.k)]))]) (σ' := [.dead, .dead, .row (flat tRelation.enc us_1), .dead, .dead, .row (flat tFact.enc box4_facts), .row (flat tInt.enc us_10), .dead, .dead, .dead, .dead, .dead]) (Ghost.weak (WeakL.to 12 (lb rfl) rfl rfl rfl rfl ⟨leR rfl, leR rfl, leR rfl, leR rfl, leR rfl, leR rfl, trivial⟩)) ?_
   refine TA_frz1 6 (E' := [(1, (.b 0 0)), (2, (.b 1 0)), (3, (.b 4 0)), (4, (intA i4)), (18, (.m [5] 0 box4_facts.length tFact.k)), (33, (.g [(intA v_5.relation), (sl tInt us_10)]))]) rfl rfl (lb rfl) ?_ ?_
   ·exact ⟨(.keep rfl), (.keep rfl), (.keep rfl), (.keep rfl), (.keep rfl), (fz1G (fzC (.keep rfl) (fzC fz1E fzN))), trivial⟩
   refine TA_st (σ' := [.dead, .dead, .row (flat tRelation.enc us_1), .dead, .dead, .row (flat tFact.enc box4_facts), .dead, .dead, .dead, .dead, .dead, .dead]) rfl ?_
   refine t1 17 (by kernel_rfl) rfl rfl (TOp_lit (nn := 1) (k := 2) sl39 zero55 rfl rfl rfl rfl (by decide) ?_)
   refine tmw 8 12 (by decide) (lb rfl) rfl rfl (lb rfl) rfl ?_
   refine t1 18 (by kernel_rfl) rfl rfl (TOp_appY (T := tFact) (f := tFact.enc) (xs := box4_facts) (ys := ([({ relation := v_5.relation, values := us_10 } : Fact)] : (List Fact))) tFact.len sl39 zero55 rfl bytes55 (by decide) rfl rfl rfl rfl (src_mT (f := tFact.enc) tFact.len rfl rfl (flat_cell tFact _)) (flat_cell tFact _) h_13 ?_)
   refine tmw 9 13 (by decide) (lb rfl) rfl rfl (lb rfl) rfl ?_
   refine tae [(1, (.b 0 0)), (2, (.b 1 0)), (3, (.b 4 0)), (4, (intA i4)), (35, (.m [9] 0 us_12.length tFact.k))] rfl ?_
   refine TA_st (σ' := [.dead, .dead, .row (flat tRelation.enc us_1), .dead, .dead, .dead, .dead, .dead, .row (flat tFact.enc ([({ relation := v_5.relation, values := us_10 } : Fact)] : (List Fact))), .row (flat tFact.enc us_12), .dead, .dead, .dead, .dead]) rfl ?_
   refine pa tb [19] 0 rfl (by kernel_rfl) rfl ?_
   refine TA_nil (by kernel_rfl) ?_
   refine TA_st (σ' := [.box [(sl tRelation d0.relations), (sl tFact d0.facts)], .box [.n, .n], .row (flat tRelation.enc us_1), .dead, .box [(.m [2] 0 us_1.length tRelation.k), (.m [5] 0 box4_facts.length tFact.k)], .dead, .dead, .dead, .row (flat tFact.enc ([({ relation := v_5.relation, values := us_10 } : Fact)] : (List Fact))), .row (flat tFact.enc us_12), .dead, .dead, .dead, .dead]) rfl ?_
   refine tmv 5 9 (by decide) (lb rfl) rfl rfl (lb rfl) ?_
   refine TA_st (σ' := [.box [(sl tRelation d0.relations), (sl tFact d0.facts)], .box [.n, .n], .row (flat tRelation.enc us_1), .dead, .box [(.m [2] 0 us_1.length tRelation.k), .j], .row (flat tFact.enc us_12), .dead, .dead, .row (flat tFact.enc ([({ relation := v_5.relation, values := us_10 } : Fact)] : (List Fact))), .dead, .dead, .dead, .dead, .dead]) rfl ?_
   refine t1 20 (by kernel_rfl) rfl rfl (TOp_storeB sz39 rfl rfl rfl rfl rfl rfl rfl (by decide) (lb rfl) rfl ?_)
   refine TA_st (σ' := [.box [(sl tRelation d0.relations), (sl tFact d0.facts)], .box [.n, .n], .row (flat tRelation.enc us_1), .dead, .box [(.m [2] 0 us_1.length tRelation.k), (.m [5] 0 us_12.length tFact.k)], .row (flat tFact.enc us_12), .dead, .dead, .row (flat tFact.enc ([({ relation := v_5.relation, values := us_10 } : Fact)] : (List Fact))), .dead, .dead, .dead, .dead, .dead]) rfl ?_
   refine TA_nil (by kernel_rfl) ?_
   refine T_region ?_
   refine pv tb 3 rfl ?_
   refine TO_nil ?_
   obtain rfl := some_inj H
   exact again k3 ((w64 (i4 + 1)), us_12) (Nat.lt_succ_self _) (w0 6) K3_
  ·replace H := cond_f c_4 H
   refine T_exit ?_
   refine then_exit ?_
   refine then_exit ?_
   refine block_exit ?_
   obtain rfl := some_inj H
   obtain rfl := some_inj K3_
   replace H := onS_l N3_
   refine sr ?_
   refine pv tb 1 rfl ?_
   refine TO_cons rfl (TOp_storeB sz41 rfl rfl rfl rfl rfl rfl rfl (by decide) (lb rfl) rfl ?_)
   refine TO_st (σ' := [.box [(sl tRelation d0.relations), (sl tFact d0.facts)], .box [(.m [2] 0 us_1.length tRelation.k), (.m [5] 0 box4_facts.length tFact.k)], .row (flat tRelation.enc us_1), .dead, .box [(.m [2] 0 us_1.length tRelation.k), (.m [5] 0 box4_facts.length tFact.k)], .row (flat tFact.enc box4_facts)]) rfl ?_
   refine TO_nil ?_
   refine T_ret ?_
   obtain rfl := some_inj H
   exact end_pick (.cellK rfl agg41 rfl (lb rfl) .nil) rfl [2, 5] (by decide) rfl rfl rfl rfl rfl rfl

set_option maxHeartbeats 1000000 in
theorem m_spec_FactIndex_ok (u : Nat) (d0 : Database) (f1 : Fact) (r : Int) (H : m_spec_FactIndex u d0 f1 = some r) : FnV prg 115 [(.g (tDatabase.enc d0)), (.g (tFact.enc f1))] (intA r) := by
  unfold m_spec_FactIndex at H
  refine fnV_of_T Try.func115 rfl rfl (Nat.le_of_ble_eq_true rfl) ?_
  refine te [(0, (.g (tDatabase.enc d0))), (1, (.g (tFact.enc f1)))] rfl ?_
  refine sr ?_
  refine TO_cons rfl (TOp_box rfl (boxAll rfl) rfl rfl ?_)
  refine TO_cons rfl (TOp_box rfl (boxAll rfl) rfl rfl ?_)
  refine pv tb 1 rfl ?_
  refine TO_nil ?_
  refine T_seq ?_
  refine sr ?_
  refine pv tb 1 rfl ?_
  refine TO_nil ?_
  obtain ⟨O1_, L1_, N1_⟩ := bind_inv H
  clear H
  obtain ⟨B1_, hb1, L1_⟩ := gen_whileF L1_
  refine T_block ?_
  refine T_loopX (fun k => fun (i5 : Int) => whileF B1_ k i5 = some O1_) (fun (i5 : Int) => [(2, (.b 0 0)), (3, (.b 1 0)), (5, (intA i5))]) (fun (i5 : Int) => [.box [(sl tRelation d0.relations), (sl tFact d0.facts)], .box [(intA f1.relation), (sl tInt f1.values)]]) u 0 (w0 2) L1_ ?_
  rintro _ i5 L1_
  obtain ⟨k1, rfl, C1_, H, K1_⟩ := while_step L1_
  rw [hb1] at H
  refine T_seq ?_
  refine sr ?_
  refine pv tb 3 rfl ?_
  refine Tp rfl rfl (pur_lenT (T := tFact) sl39 rfl rfl) rfl ?_
  refine pv tb 1 rfl ?_
  refine TO_nil ?_
  refine T_cond (t := decide (i5 < (d0.facts.length : Int))) rfl (fun c_2 => ?_) (fun c_2 => ?_)
  ·replace H := cond_t c_2 H
   refine T_skip ?_
   refine T_seq ?_
   refine T_block ?_
   refine T_seq ?_
   refine T_regionD mixed (by kernel_rfl) ?_
   obtain ⟨v_3, h_4, H⟩ := bind_inv H
   obtain ⟨n_5, hz_6, hv_7⟩ := getI_inv h_4
   refine pq tb 3 rfl ?_
   refine TQ_pure rfl (pur_ixT (T := tFact) sl39 rfl rfl hz_6 hv_7 rfl) rfl ?_
   refine TQ_pure rfl (pur_ldTK (T := tFact) (i := n_5) (off := 0) rfl agg55 rfl rfl hv_7 (by decide) rfl) rfl ?_
   obtain ⟨r_8, h_9, H⟩ := bind_inv H
   refine pq tb 1 rfl ?_
   refine TQ_callV rfl (call_static ent61 rfl) (m_spec_CompareFacts_ok u _ _ _ h_9) rfl rfl ?_
   refine pq tb 1 rfl ?_
   refine TQ_nil ?_
   refine T_cond (t := decide (r_8 = 0)) rfl (fun c_10 => ?_) (fun c_10 => ?_)
   ·replace H := cond_t c_10 H
    refine sr ?_
    refine pv tb 2 rfl ?_
    refine TO_nil ?_
    refine te [(4, (intA i5))] rfl ?_
    refine T_ret ?_
    refine block_ret ?_
    refine then_ret ?_
    refine then_ret ?_
    refine block_ret ?_
    refine then_ret ?_
    obtain rfl := some_inj H
    obtain rfl := some_inj K1_
    replace H := onS_r N1_
    obtain rfl := some_inj H
    refine end_ret (.tmp .nil) rfl rfl ⟨?_, rfl⟩
    rfl
   ·replace H := cond_f c_10 H
    refine T_skip ?_
    refine T_region ?_
    refine pv tb 3 rfl ?_
    refine TO_nil ?_
    obtain rfl := some_inj H
    exact again k1 (w64 (i5 + 1)) (Nat.lt_succ_self _) (w0 2) K1_
  ·replace H := cond_f c_2 H
   refine T_exit ?_
   refine then_exit ?_
   refine then_exit ?_
   refine block_exit ?_
   obtain rfl := some_inj H
   obtain rfl := some_inj K1_
   replace H := onS_l N1_
   refine sr ?_
   refine pv tb 1 rfl ?_
   refine TO_nil ?_
   refine T_ret ?_
   obtain rfl := some_inj H
   refine end_ret (.tmp .nil) rfl rfl ⟨?_, rfl⟩
   rfl

set_option maxHeartbeats 1000000 in
theorem m_spec_ContainsFact_ok (u : Nat) (d0 : Database) (f1 : Fact) (r : Bool) (H : m_spec_ContainsFact u d0 f1 = some r) : FnV prg 85 [(.g (tDatabase.enc d0)), (.g (tFact.enc f1))] (boolA r) := by
  unfold m_spec_ContainsFact at H
  refine fnV_of_T Try.func85 rfl rfl (Nat.le_of_ble_eq_true rfl) ?_
  refine te [(0, (.g (tDatabase.enc d0))), (1, (.g (tFact.enc f1)))] rfl ?_
  refine sr ?_
  refine TO_cons rfl (TOp_box rfl (boxAll rfl) rfl rfl ?_)
  refine TO_cons rfl (TOp_box rfl (boxAll rfl) rfl rfl ?_)
  refine pv tb 1 rfl ?_
  refine TO_nil ?_
  obtain ⟨t4_1, J_1, H_2⟩ := bind_inv H
  refine T_cutX (fun x => t4_1 = x) (fun (t4_1 : Bool) => [(4, (boolA t4_1))]) (fun (t4_1 : Bool) => []) ?_ ?_
  ·replace H := J_1
   refine T_region ?_
   obtain ⟨r_3, h_4, H⟩ := bind_inv H
   refine pv tb 1 rfl ?_
   refine TO_cons rfl (TOp_callV (call_static ent40 rfl) (m_spec_IsValidDatabase_ok u _ _ h_4) rfl rfl rfl ?_)
   refine pv tb 1 rfl ?_
   refine TO_split (t := r_3) 7 rfl (fun g_5 => ?_) (fun g_5 => ?_)
   ·replace H := cond_t g_5 H
    obtain ⟨r_6, h_7, H⟩ := bind_inv H
    refine pv tb 2 rfl ?_
    refine TO_on rfl rfl (by decide) rfl rfl (TOp_callV (call_static ent115 rfl) (m_spec_FactIndex_ok u _ _ _ h_7) rfl rfl rfl ?_)
    refine pv tb 3 rfl ?_
    refine TO_nil ?_
    exact joined (decide (0 ≤ r_6)) (w0 0) (some_inj H).symm
   ·replace H := cond_f g_5 H
    refine pv tb 6 rfl ?_
    refine TO_nil ?_
    exact joined false (w0 0) (some_inj H).symm
  ·rintro _ rfl
   replace H := H_2
   refine T_ret ?_
   obtain rfl := some_inj H
   refine end_ret (.tmp .nil) rfl rfl ⟨?_, rfl⟩
   rfl

set_option maxHeartbeats 1000000 in
theorem m_spec_InsertFact_own (u : Nat) (d0 : Database) (f1 : Fact) (r : (Database × Bool)) (H : m_spec_InsertFact u d0 f1 = some r) : FnO prg 43 [(.g (tDatabase.enc d0)), (.g (tFact.enc f1))] (.t [(.g [(.m [0] 0 r.1.relations.length tRelation.k), (.m [1] 0 r.1.facts.length tFact.k)]), (boolA r.2)]) [.row (flat tRelation.enc r.1.relations), .row (flat tFact.enc r.1.facts)] := by
  unfold m_spec_InsertFact at H
  refine fnO_of_T Try.func43 rfl rfl (Nat.le_of_ble_eq_true rfl) ?_
  refine te [(0, (.g (tDatabase.enc d0))), (1, (.g (tFact.enc f1)))] rfl ?_
  refine sr ?_
  refine TO_cons rfl (TOp_box rfl (boxAll rfl) rfl rfl ?_)
  refine TO_cons rfl (TOp_box rfl (boxAll rfl) rfl rfl ?_)
  refine TO_cons rfl (TOp_alloc zero41 rfl rfl ?_)
  refine pv tb 1 rfl ?_
  refine TO_nil ?_
  refine sr ?_
  obtain ⟨r_1, h_2, H⟩ := bind_inv H
  refine pv tb 1 rfl ?_
  refine TO_cons rfl (TOp_callO (call_static ent42 rfl) rfl (m_spec_l4Copy_enc u _ _ h_2) rfl rfl rfl ?_)
  refine toe [(2, (.b 0 0)), (3, (.b 1 0)), (4, (.b 2 0)), (9, (.g (tDatabase.enc d0))), (10, (.g [(.m [3] 0 r_1.relations.length tRelation.k), (.m [4] 0 r_1.facts.length tFact.k)]))] rfl ?_
  refine TO_st (σ' := [.box [(sl tRelation d0.relations), (sl tFact d0.facts)], .box [(intA f1.relation), (sl tInt f1.values)], .box [.n, .n], .row (flat tRelation.enc r_1.relations), .row (flat tFact.enc r_1.facts)]) rfl ?_
  refine TO_cons rfl (TOp_alloc zero41 rfl rfl ?_)
  refine TO_cons rfl (TOp_storeB sz41 rfl rfl rfl rfl rfl rfl rfl (by decide) (lb rfl) rfl ?_)
  refine TO_st (σ' := [.box [(sl tRelation d0.relations), (sl tFact d0.facts)], .box [(intA f1.relation), (sl tInt f1.values)], .box [.n, .n], .row (flat tRelation.enc r_1.relations), .row (flat tFact.enc r_1.facts), .box [(.m [3] 0 r_1.relations.length tRelation.k), (.m [4] 0 r_1.facts.length tFact.k)]]) rfl ?_
  refine TO_nil ?_
  refine T_seq ?_
  obtain ⟨t31_3, J_3, H_4⟩ := bind_inv H
  refine T_cutX (fun x => t31_3 = x) (fun (t31_3 : Bool) => [(3, (.b 1 0)), (4, (.b 2 0)), (6, (.b 5 0)), (31, (boolA t31_3))]) (fun (t31_3 : Bool) => [.box [(sl tRelation d0.relations), (sl tFact d0.facts)], .box [(intA f1.relation), (sl tInt f1.values)], .box [.n, .n], .row (flat tRelation.enc r_1.relations), .row (flat tFact.enc r_1.facts), .box [(.m [3] 0 r_1.relations.length tRelation.k), (.m [4] 0 r_1.facts.length tFact.k)]]) ?_ ?_
  ·replace H := J_3
   refine T_region ?_
   obtain ⟨r_5, h_6, H⟩ := bind_inv H
   refine pv tb 1 rfl ?_
   refine TO_cons rfl (TOp_callV (call_static ent40 rfl) (m_spec_IsValidDatabase_ok u _ _ h_6) rfl rfl rfl ?_)
   refine pv tb 2 rfl ?_
   refine TO_split (t := (!r_5)) 14 rfl (fun g_7 => ?_) (fun g_7 => ?_)
   ·replace H := cond_t g_7 H
    refine pv tb 17 rfl ?_
    refine TO_nil ?_
    exact joined true (w0 6) (some_inj H).symm
   ·replace H := cond_f g_7 H
    obtain ⟨r_8, h_9, H⟩ := bind_inv H
    refine pv tb 3 rfl ?_
    refine TO_on rfl rfl (by decide) rfl rfl (TOp_callV (call_static ent83 rfl) (m_spec_IsValidFact_ok u _ _ _ h_9) rfl rfl rfl ?_)
    refine pv tb 3 rfl ?_
    refine TO_split (t := (!r_8)) 21 rfl (fun g_10 => ?_) (fun g_10 => ?_)
    ·replace H := cond_t g_10 H
     refine pv tb 10 rfl ?_
     refine TO_nil ?_
     exact joined true (w0 6) (some_inj H).symm
    ·replace H := cond_f g_10 H
     obtain ⟨r_11, h_12, H⟩ := bind_inv H
     refine pv tb 2 rfl ?_
     refine TO_on rfl rfl (by decide) rfl rfl (TOp_callV (call_static ent85 rfl) (m_spec_ContainsFact_ok u _ _ _ h_12) rfl rfl rfl ?_)
     refine pv tb 2 rfl ?_
     refine TO_split (t := r_11) 26 rfl (fun g_13 => ?_) (fun g_13 => ?_)
     ·replace H := cond_t g_13 H
      refine pv tb 5 rfl ?_
      refine TO_nil ?_
      exact joined true (w0 6) (some_inj H).symm
     ·replace H := cond_f g_13 H
      refine pv tb 2 rfl ?_
      refine TO_on rfl rfl (by decide) rfl rfl (TOp_pure (pur_lenT (T := tFact) sl39 rfl rfl) rfl ?_)
      refine pv tb 2 rfl ?_
      refine TO_nil ?_
      exact joined (decide ((d0.facts.length : Int) = 14)) (w0 6) (some_inj H).symm
  ·rintro _ rfl
   replace H := H_4
   refine T_cond (t := t31_3) rfl (fun c_14 => ?_) (fun c_14 => ?_)
   ·replace H := cond_t c_14 H
    refine sr ?_
    refine pv tb 1 rfl ?_
    refine TO_cons rfl (TOp_storeB sz41 rfl rfl rfl rfl rfl rfl rfl (by decide) (lb rfl) rfl ?_)
    refine TO_st (σ' := [.box [(sl tRelation d0.relations), (sl tFact d0.facts)], .box [(intA f1.relation), (sl tInt f1.values)], .box [(.m [3] 0 r_1.relations.length tRelation.k), (.m [4] 0 r_1.facts.length tFact.k)], .row (flat tRelation.enc r_1.relations), .row (flat tFact.enc r_1.facts), .box [(.m [3] 0 r_1.relations.length tRelation.k), (.m [4] 0 r_1.facts.length tFact.k)]]) rfl ?_
    refine pv tb 1 rfl ?_
    refine TO_nil ?_
    refine T_ret ?_
    refine then_ret ?_
    obtain rfl := some_inj H
    exact end_pick (.cellK rfl agg41 rfl (lb rfl) (.tmp .nil)) rfl [3, 4] (by decide) rfl rfl rfl rfl rfl rfl
   ·replace H := cond_f c_14 H
    refine T_skip ?_
    refine sr ?_
    refine pv tb 1 rfl ?_
    refine TO_nil ?_
    obtain ⟨O15_, L15_, N15_⟩ := bind_inv H
    clear H
    obtain ⟨B15_, hb15, L15_⟩ := gen_whileF L15_
    refine T_cutX (fun (x : Int) => O15_ = .inl x) (fun (k7 : Int) => [(3, (.b 1 0)), (4, (.b 2 0)), (6, (.b 5 0)), (7, (intA k7))]) (fun (k7 : Int) => [.box [(sl tRelation d0.relations), (sl tFact d0.facts)], .box [(intA f1.relation), (sl tInt f1.values)], .box [.n, .n], .row (flat tRelation.enc r_1.relations), .row (flat tFact.enc r_1.facts), .box [(.m [3] 0 r_1.relations.length tRelation.k), (.m [4] 0 r_1.facts.length tFact.k)]]) ?_ ?_
    ·skip
     refine T_block ?_
     refine T_loopX (fun k => fun (k7 : Int) => whileF B15_ k k7 = some O15_) (fun (k7 : Int) => [(3, (.b 1 0)), (4, (.b 2 0)), (6, (.b 5 0)), (7, (intA k7))]) (fun (k7 : Int) => [.box [(sl tRelation d0.relations), (sl tFact d0.facts)], .box [(intA f1.relation), (sl tInt f1.values)], .box [.n, .n], .row (flat tRelation.enc r_1.relations), .row (flat tFact.enc r_1.facts), .box [(.m [3] 0 r_1.relations.length tRelation.k), (.m [4] 0 r_1.facts.length tFact.k)]]) u 0 (w0 6) L15_ ?_
     rintro _ k7 L15_
     obtain ⟨k15, rfl, C15_, H, K15_⟩ := while_step L15_
     rw [hb15] at H
     refine T_seq ?_
     obtain ⟨t47_16, J_16, H_17⟩ := bind_inv H
     refine T_cutX (fun x => t47_16 = x) (fun (t47_16 : Bool) => [(3, (.b 1 0)), (4, (.b 2 0)), (6, (.b 5 0)), (7, (intA k7)), (47, (boolA t47_16))]) (fun (t47_16 : Bool) => [.box [(sl tRelation d0.relations), (sl tFact d0.facts)], .box [(intA f1.relation), (sl tInt f1.values)], .box [.n, .n], .row (flat tRelation.enc r_1.relations), .row (flat tFact.enc r_1.facts), .box [(.m [3] 0 r_1.relations.length tRelation.k), (.m [4] 0 r_1.facts.length tFact.k)]]) ?_ ?_
     ·replace H := J_16
      refine T_regionD mixed (by kernel_rfl) ?_
      refine pq tb 3 rfl ?_
      refine TQ_pure rfl (pur_len_m sl39 rfl rfl) rfl ?_
      refine pq tb 2 rfl ?_
      refine TQ_split (t := decide (k7 < (r_1.facts.length : Int))) 38 rfl (fun g_18 => ?_) (fun g_18 => ?_)
      ·replace H := cond_t g_18 H
       obtain ⟨v_19, h_20, H⟩ := bind_inv H
       obtain ⟨n_21, hz_22, hv_23⟩ := getI_inv h_20
       refine pq tb 3 rfl ?_
       refine TQ_on rfl rfl (by decide) rfl (pur_ixM (T := tFact) sl39 rfl rfl hz_22 hv_23 rfl) rfl ?_
       refine TQ_on rfl rfl (by decide) rfl (pur_ldEK (f := tFact.enc) (k := tFact.k) (i := n_21) (off := 0) tFact.len rfl agg55 rfl rfl rfl hv_23 (by decide) rfl) rfl ?_
       obtain ⟨r_24, h_25, H⟩ := bind_inv H
       refine pq tb 1 rfl ?_
       refine TQ_onV rfl rfl (by decide) rfl (call_static ent61 rfl) (m_spec_CompareFacts_ok u _ _ _ h_25) rfl rfl ?_
       refine pq tb 2 rfl ?_
       refine TQ_nil ?_
       exact joined (decide (r_24 < 0)) (w0 6) (some_inj H).symm
      ·replace H := cond_f g_18 H
       refine pq tb 9 rfl ?_
       refine TQ_nil ?_
       exact joined false (w0 6) (some_inj H).symm
     ·rintro _ rfl
      replace H := H_17
      refine T_cond (t := t47_16) rfl (fun c_26 => ?_) (fun c_26 => ?_)
      ·replace H := cond_t c_26 H
       refine T_skip ?_
       refine T_block ?_
       refine T_region ?_
       refine pv tb 3 rfl ?_
       refine TO_nil ?_
       obtain rfl := some_inj H
       exact again k15 (w64 (k7 + 1)) (Nat.lt_succ_self _) (w0 6) K15_
      ·replace H := cond_f c_26 H
       refine T_exit ?_
       refine then_exit ?_
       refine then_exit ?_
       refine block_exit ?_
       obtain rfl := some_inj H
       obtain rfl := some_inj K15_
       exact joined k7 (w0 6) rfl
    ·rintro k7 rfl
     replace H := onS_l N15_
     obtain ⟨us_27, h_28, H⟩ := bind_inv H
     obtain ⟨ys_29, h_30, H⟩ := bind_inv H
     obtain ⟨i_31, j_32, hi_33, hj_34, hij_35, hjl_36, hys_37, _⟩ := cutI_inv h_30
     obtain ⟨us_38, h_39, H⟩ := bind_inv H
     refine T_pad ?_
     refine T_cutX (fun (_ : Unit) => True) (fun _ => [(4, (.b 2 0)), (6, (.b 5 0)), (7, (intA k7)), (8, (.m [6] 0 us_38.length tFact.k))]) (fun _ => [.box [(sl tRelation d0.relations), (sl tFact d0.facts)], .box [(intA f1.relation), (sl tInt f1.values)], .box [.n, .n], .row (flat tRelation.enc r_1.relations), .row (flat tFact.enc r_1.facts), .box [(.m [3] 0 r_1.relations.length tRelation.k), (.m [4] 0 r_1.facts.length tFact.k)], .row (flat tFact.enc us_38)]) ?_ ?_
     ·skip
      refine T_regionP 6 mixed rfl ?_
      refine pa tb [0, 1, 3, 4, 8, 9, 10] 7 rfl (by kernel_rfl) rfl ?_
      refine tf 11 rfl (pur_cutM (lo := (some (.tmp 60))) (hi := none) sl39 rfl ⟨_, congrArg (fun z => A.v (.int .i64 z)) hi_33⟩ hj_34.symm hij_35 hjl_36 rfl) rfl rfl (by kernel_rfl) ?_
      refine t1 2 (by kernel_rfl) rfl rfl (TOp_lit (nn := 0) (k := 1) sl53 zero3 rfl rfl rfl rfl (by decide) ?_)
      refine t1 5 (by kernel_rfl) rfl rfl (TOp_appY (T := tInt) (f := tInt.enc) (xs := ([] : (List Int))) (ys := f1.values) tInt.len sl53 zero3 rfl bytes3 (by decide) rfl rfl rfl rfl (src_T (T := tInt) rfl) (flat_cell tInt _) h_28 ?_)
      refine tmw 7 8 (by decide) (lb rfl) rfl rfl (lb rfl) rfl ?_
      refine tf 6 rfl (pur_build bld55 rfl rfl) rfl rfl (by kernel_rfl) ?_
      refine TA_ghost (E' := [(4, (.b 2 0)), (6, (.b 5 0)), (7, (intA k7)), (56, (.g [(intA f1.relation), (.m [7] 0 us_27.length tInt.k)])), (61, (.m [4] (i_31 * tFact.k) (j_32 - i_31) tFact.k))]) (σ' := [.dead, .dead, .dead, .row (flat tRelation.enc r_1.relations), .row (flat tFact.enc r_1.facts), .dead, .dead, .row (flat tInt.enc us_27), .dead]) (Ghost.weak (WeakL.to 9 (lb rfl) rfl rfl rfl rfl ⟨leR rfl, leR rfl, leR rfl, leR rfl, leR rfl, trivial⟩)) ?_
      refine TA_frz1 7 (E' := [(4, (.b 2 0)), (6, (.b 5 0)), (7, (intA k7)), (56, (.g [(intA f1.relation), (sl tInt us_27)])), (61, (.m [4] (i_31 * tFact.k) (j_32 - i_31) tFact.k))]) rfl rfl (lb rfl) ?_ ?_
      ·exact ⟨(.keep rfl), (.keep rfl), (.keep rfl), (fz1G (fzC (.keep rfl) (fzC fz1E fzN))), (.keep rfl), trivial⟩
      refine TA_st (σ' := [.dead, .dead, .dead, .row (flat tRelation.enc r_1.relations), .row (flat tFact.enc r_1.facts), .dead, .dead, .dead, .dead]) rfl ?_
      refine t1 7 (by kernel_rfl) rfl rfl (TOp_lit (nn := 1) (k := 2) sl39 zero55 rfl rfl rfl rfl (by decide) ?_)
      refine t1 12 (by kernel_rfl) rfl rfl (TOp_appY (T := tFact) (f := tFact.enc) (xs := ([({ relation := f1.relation, values := us_27 } : Fact)] : (List Fact))) (ys := ys_29) tFact.len sl39 zero55 rfl bytes55 (by decide) rfl rfl rfl rfl (src_cut (T := tFact) (xs := r_1.facts) (i := i_31) (j := j_32) rfl rfl hij_35 hjl_36 hys_37) (flat_cell tFact _) h_39 ?_)
      refine tmw 9 10 (by decide) (lb rfl) rfl rfl (lb rfl) rfl ?_
      refine pa tb [13] 0 rfl (by kernel_rfl) rfl ?_
      refine TA_ghost (E' := [(4, (.b 2 0)), (6, (.b 5 0)), (7, (intA k7)), (8, (.m [6] 0 us_38.length tFact.k))]) (σ' := [.dead, .dead, .dead, .row (flat tRelation.enc r_1.relations), .row (flat tFact.enc r_1.facts), .dead, .row (flat tFact.enc us_38), .dead, .dead, .dead, .dead]) (Ghost.move 6 9 (by decide) (lb rfl) rfl rfl (lb rfl) (Ghost.weak (WeakL.to 11 (lb rfl) rfl rfl rfl rfl ⟨leR rfl, leR rfl, leR rfl, leR rfl, trivial⟩))) ?_
      exact TA_nil (by kernel_rfl) (joined () (w0 7) trivial)
     ·rintro _ _
      refine sr ?_
      refine TO_cons rfl (TOp_lit (nn := 0) (k := 2) sl39 zero55 rfl rfl rfl rfl (by decide) ?_)
      refine TO_st (σ' := [.box [(sl tRelation d0.relations), (sl tFact d0.facts)], .box [(intA f1.relation), (sl tInt f1.values)], .box [.n, .n], .row (flat tRelation.enc r_1.relations), .row (flat tFact.enc r_1.facts), .box [(.m [3] 0 r_1.relations.length tRelation.k), (.m [4] 0 r_1.facts.length tFact.k)], .row (flat tFact.enc us_38), .row (flat tFact.enc ([] : (List Fact)))]) rfl ?_
      obtain ⟨ys_40, h_41, H⟩ := bind_inv H
      obtain ⟨i_42, j_43, hi_44, hj_45, hij_46, hjl_47, hys_48, _⟩ := cutI_inv h_41
      refine pv tb 3 rfl ?_
      refine Tp rfl rfl (pur_cutM (lo := none) (hi := (some (.tmp 66))) sl39 rfl hi_44.symm ⟨_, congrArg (fun z => A.v (.int .i64 z)) hj_45⟩ hij_46 hjl_47 rfl) rfl ?_
      obtain ⟨us_49, h_50, H⟩ := bind_inv H
      refine TO_cons rfl (TOp_appZ (T := tFact) (f := tFact.enc) (xs := ([] : (List Fact))) (ys := ys_40) tFact.len sl39 zero55 rfl bytes55 (by decide) rfl rfl rfl rfl (src_cut (T := tFact) (xs := r_1.facts) (i := i_42) (j := j_43) rfl rfl hij_46 hjl_47 hys_48) (flat_cell tFact _) h_50 (lb rfl) ?_)
      refine toe [(4, (.b 2 0)), (6, (.b 5 0)), (7, (intA k7)), (8, (.m [6] 0 us_38.length tFact.k)), (64, (.b 5 1)), (65, (.m [4] 0 r_1.facts.length tFact.k)), (66, (intA k7)), (67, (.m [4] (i_42 * tFact.k) (j_43 - i_42) tFact.k)), (68, (.m [7] 0 us_49.length tFact.k))] rfl ?_
      refine TO_st (σ' := [.box [(sl tRelation d0.relations), (sl tFact d0.facts)], .box [(intA f1.relation), (sl tInt f1.values)], .box [.n, .n], .row (flat tRelation.enc r_1.relations), .row (flat tFact.enc r_1.facts), .box [(.m [3] 0 r_1.relations.length tRelation.k), (.m [4] 0 r_1.facts.length tFact.k)], .row (flat tFact.enc us_38), .row (flat tFact.enc us_49), .dead]) rfl ?_
      obtain ⟨us_51, h_52, H⟩ := bind_inv H
      refine pv tb 1 rfl ?_
      refine TO_cons rfl (TOp_appZ (T := tFact) (f := tFact.enc) (xs := us_49) (ys := us_38) tFact.len sl39 zero55 rfl bytes55 (by decide) rfl rfl rfl rfl (src_mT (f := tFact.enc) tFact.len rfl rfl (flat_cell tFact _)) (flat_cell tFact _) h_52 (lb rfl) ?_)
      refine toe [(4, (.b 2 0)), (6, (.b 5 0)), (7, (intA k7)), (8, (.m [6] 0 us_38.length tFact.k)), (64, (.b 5 1)), (65, (.m [4] 0 r_1.facts.length tFact.k)), (66, (intA k7)), (67, (.m [4] (i_42 * tFact.k) (j_43 - i_42) tFact.k)), (69, (.m [6] 0 us_38.length tFact.k)), (70, (.m [7] 0 us_51.length tFact.k))] rfl ?_
      refine TO_st (σ' := [.box [(sl tRelation d0.relations), (sl tFact d0.facts)], .box [(intA f1.relation), (sl tInt f1.values)], .box [.n, .n], .row (flat tRelation.enc r_1.relations), .row (flat tFact.enc r_1.facts), .box [(.m [3] 0 r_1.relations.length tRelation.k), (.m [4] 0 r_1.facts.length tFact.k)], .row (flat tFact.enc us_38), .row (flat tFact.enc us_51), .dead, .dead]) rfl ?_
      refine pv tb 1 rfl ?_
      refine TO_cons rfl (TOp_storeB sz39 rfl rfl rfl rfl rfl rfl rfl (by decide) (lb rfl) rfl ?_)
      refine TO_st (σ' := [.box [(sl tRelation d0.relations), (sl tFact d0.facts)], .box [(intA f1.relation), (sl tInt f1.values)], .box [.n, .n], .row (flat tRelation.enc r_1.relations), .row (flat tFact.enc r_1.facts), .box [(.m [3] 0 r_1.relations.length tRelation.k), (.m [7] 0 us_51.length tFact.k)], .row (flat tFact.enc us_38), .row (flat tFact.enc us_51), .dead, .dead]) rfl ?_
      refine TO_nil ?_
      refine sr ?_
      refine pv tb 1 rfl ?_
      refine TO_cons rfl (TOp_storeB sz41 rfl rfl rfl rfl rfl rfl rfl (by decide) (lb rfl) rfl ?_)
      refine TO_st (σ' := [.box [(sl tRelation d0.relations), (sl tFact d0.facts)], .box [(intA f1.relation), (sl tInt f1.values)], .box [(.m [3] 0 r_1.relations.length tRelation.k), (.m [7] 0 us_51.length tFact.k)], .row (flat tRelation.enc r_1.relations), .row (flat tFact.enc r_1.facts), .box [(.m [3] 0 r_1.relations.length tRelation.k), (.m [7] 0 us_51.length tFact.k)], .row (flat tFact.enc us_38), .row (flat tFact.enc us_51), .dead, .dead]) rfl ?_
      refine pv tb 1 rfl ?_
      refine TO_nil ?_
      refine T_ret ?_
      obtain rfl := some_inj H
      exact end_pick (.cellK rfl agg41 rfl (lb rfl) (.tmp .nil)) rfl [3, 7] (by decide) rfl rfl rfl rfl rfl rfl
theorem m_spec_InsertFact_ok (u : Nat) (d0 : Database) (f1 : Fact) (r : (Database × Bool)) (H : m_spec_InsertFact u d0 f1 = some r) : FnV prg 43 [(.g (tDatabase.enc d0)), (.g (tFact.enc f1))] (.t [(.g (tDatabase.enc r.1)), (boolA r.2)]) := (m_spec_InsertFact_own u d0 f1 r H).frz (frzOK_t (frz_cons (frzOK_g (frz_cons (frzTE (T := tRelation) rfl) (frz_cons (frzTE (T := tFact) rfl) frz_nil)).1 (frz_cons (frzTE (T := tRelation) rfl) (frz_cons (frzTE (T := tFact) rfl) frz_nil)).2) (frz_cons (frz_loose rfl) frz_nil)).1 (frz_cons (frzOK_g (frz_cons (frzTE (T := tRelation) rfl) (frz_cons (frzTE (T := tFact) rfl) frz_nil)).1 (frz_cons (frzTE (T := tRelation) rfl) (frz_cons (frzTE (T := tFact) rfl) frz_nil)).2) (frz_cons (frz_loose rfl) frz_nil)).2)

set_option maxHeartbeats 1000000 in
theorem m_spec_MergeValues_own (u : Nat) (d0 : Database) (a1 : Int) (b2 : Int) (r : (Database × Bool)) (H : m_spec_MergeValues u d0 a1 b2 = some r) : FnO prg 16 [(.g (tDatabase.enc d0)), (intA a1), (intA b2)] (.t [(.g [(.m [0] 0 r.1.relations.length tRelation.k), (.m [1] 0 r.1.facts.length tFact.k)]), (boolA r.2)]) [.row (flat tRelation.enc r.1.relations), .row (flat tFact.enc r.1.facts)] := by
  unfold m_spec_MergeValues at H
  refine fnO_of_T Try.func16 rfl rfl (Nat.le_of_ble_eq_true rfl) ?_
  refine te [(0, (.g (tDatabase.enc d0))), (1, (intA a1)), (2, (intA b2))] rfl ?_
  refine sr ?_
  refine TO_cons rfl (TOp_box rfl (boxAll rfl) rfl rfl ?_)
  refine TO_cons rfl (TOp_alloc zero41 rfl rfl ?_)
  refine pv tb 1 rfl ?_
  refine TO_nil ?_
  refine T_seq ?_
  obtain ⟨t25_1, J_1, H_2⟩ := bind_inv H
  refine T_cutX (fun x => t25_1 = x) (fun (t25_1 : Bool) => [(1, (intA a1)), (2, (intA b2)), (3, (.b 0 0)), (6, (.b 1 0)), (25, (boolA t25_1))]) (fun (t25_1 : Bool) => [.box [(sl tRelation d0.relations), (sl tFact d0.facts)], .box [.n, .n]]) ?_ ?_
  ·replace H := J_1
   refine T_region ?_
   obtain ⟨r_3, h_4, H⟩ := bind_inv H
   refine pv tb 1 rfl ?_
   refine TO_cons rfl (TOp_callV (call_static ent40 rfl) (m_spec_IsValidDatabase_ok u _ _ h_4) rfl rfl rfl ?_)
   refine pv tb 2 rfl ?_
   refine TO_split (t := (!r_3)) 16 rfl (fun g_5 => ?_) (fun g_5 => ?_)
   ·replace H := cond_t g_5 H
    refine pv tb 9 rfl ?_
    refine TO_nil ?_
    exact joined true (w0 2) (some_inj H).symm
   ·replace H := cond_f g_5 H
    obtain ⟨r_6, h_7, H⟩ := bind_inv H
    refine pv tb 1 rfl ?_
    refine TO_on rfl rfl (by decide) rfl rfl (TOp_callV (call_static ent41 rfl) (m_spec_l1In_ok _ _ _ _ h_7) rfl rfl rfl ?_)
    refine pv tb 3 rfl ?_
    refine TO_split (t := (!r_6)) 21 rfl (fun g_8 => ?_) (fun g_8 => ?_)
    ·replace H := cond_t g_8 H
     refine pv tb 4 rfl ?_
     refine TO_nil ?_
     exact joined true (w0 2) (some_inj H).symm
    ·replace H := cond_f g_8 H
     obtain ⟨r_9, h_10, H⟩ := bind_inv H
     refine pv tb 1 rfl ?_
     refine TO_on rfl rfl (by decide) rfl rfl (TOp_callV (call_static ent41 rfl) (m_spec_l1In_ok _ _ _ _ h_10) rfl rfl rfl ?_)
     refine pv tb 2 rfl ?_
     refine TO_nil ?_
     exact joined (!r_9) (w0 2) (some_inj H).symm
  ·rintro _ rfl
   replace H := H_2
   refine T_cond (t := t25_1) rfl (fun c_11 => ?_) (fun c_11 => ?_)
   ·replace H := cond_t c_11 H
    refine sr ?_
    obtain ⟨r_12, h_13, H⟩ := bind_inv H
    refine pv tb 1 rfl ?_
    refine TO_cons rfl (TOp_callO (call_static ent42 rfl) rfl (m_spec_l4Copy_enc u _ _ h_13) rfl rfl rfl ?_)
    refine toe [(1, (intA a1)), (2, (intA b2)), (3, (.b 0 0)), (6, (.b 1 0)), (25, (boolA t25_1)), (26, (.g (tDatabase.enc d0))), (27, (.g [(.m [2] 0 r_12.relations.length tRelation.k), (.m [3] 0 r_12.facts.length tFact.k)]))] rfl ?_
    refine TO_st (σ' := [.box [(sl tRelation d0.relations), (sl tFact d0.facts)], .box [.n, .n], .row (flat tRelation.enc r_12.relations), .row (flat tFact.enc r_12.facts)]) rfl ?_
    refine TO_cons rfl (TOp_storeB sz41 rfl rfl rfl rfl rfl rfl rfl (by decide) (lb rfl) rfl ?_)
    refine TO_st (σ' := [.box [(sl tRelation d0.relations), (sl tFact d0.facts)], .box [(.m [2] 0 r_12.relations.length tRelation.k), (.m [3] 0 r_12.facts.length tFact.k)], .row (flat tRelation.enc r_12.relations), .row (flat tFact.enc r_12.facts)]) rfl ?_
    refine pv tb 1 rfl ?_
    refine TO_nil ?_
    refine T_ret ?_
    refine then_ret ?_
    obtain rfl := some_inj H
    exact end_pick (.cellK rfl agg41 rfl (lb rfl) (.tmp .nil)) rfl [2, 3] (by decide) rfl rfl rfl rfl rfl rfl
   ·replace H := cond_f c_11 H
    refine T_skip ?_
    refine sr ?_
    refine TO_cons rfl (TOp_lit (nn := 0) (k := 3) sl38 zero89 rfl rfl rfl rfl (by decide) ?_)
    refine TO_st (σ' := [.box [(sl tRelation d0.relations), (sl tFact d0.facts)], .box [.n, .n], .row (flat tRelation.enc ([] : (List Relation)))]) rfl ?_
    obtain ⟨us_14, h_15, H⟩ := bind_inv H
    refine pv tb 2 rfl ?_
    refine TO_cons rfl (TOp_appZ (T := tRelation) (f := tRelation.enc) (xs := ([] : (List Relation))) (ys := d0.relations) tRelation.len sl38 zero89 rfl bytes89 (by decide) rfl rfl rfl rfl (src_T (T := tRelation) rfl) (flat_cell tRelation _) h_15 (lb rfl) ?_)
    refine toe [(1, (intA a1)), (2, (intA b2)), (3, (.b 0 0)), (6, (.b 1 0)), (29, (.b 0 0)), (30, (sl tRelation d0.relations)), (31, (.m [2] 0 us_14.length tRelation.k))] rfl ?_
    refine TO_st (σ' := [.box [(sl tRelation d0.relations), (sl tFact d0.facts)], .box [.n, .n], .row (flat tRelation.enc us_14), .dead]) rfl ?_
    refine Tp rfl rfl (pur_build bld41 rfl rfl) rfl ?_
    refine TO_cons rfl (TOp_alloc zero41 rfl rfl ?_)
    refine TO_cons rfl (TOp_storeB sz41 rfl rfl rfl rfl rfl rfl rfl (by decide) (lb rfl) rfl ?_)
    refine TO_st (σ' := [.box [(sl tRelation d0.relations), (sl tFact d0.facts)], .box [.n, .n], .row (flat tRelation.enc us_14), .dead, .box [(.m [2] 0 us_14.length tRelation.k), .n]]) rfl ?_
    refine TO_nil ?_
    refine T_seq ?_
    refine sr ?_
    refine pv tb 1 rfl ?_
    refine TO_nil ?_
    refine T_row0 ?_
    refine T_boxle (xs := [(.m [2] 0 us_14.length tRelation.k), .n]) (ys := [(.m [2] 0 us_14.length tRelation.k), (.m [5] 0 ([] : (List Fact)).length tFact.k)]) 4 rfl (leCons (leR rfl) (leCons leM leNil)) ?_
    refine T_st (σ' := [.box [(sl tRelation d0.relations), (sl tFact d0.facts)], .box [.n, .n], .row (flat tRelation.enc us_14), .dead, .box [(.m [2] 0 us_14.length tRelation.k), (.m [5] 0 ([] : (List Fact)).length tFact.k)], .row (flat tFact.enc ([] : (List Fact)))]) rfl ?_
    obtain ⟨O16_, L16_, N16_⟩ := bind_inv H
    clear H
    obtain ⟨B16_, hb16, L16_⟩ := gen_whileF L16_
    refine T_block ?_
    refine T_loopX (fun k => fun (⟨i9, box4_relations, box4_facts⟩ : Int × (List Relation) × (List Fact)) => whileF B16_ k (i9, box4_relations, box4_facts) = some O16_) (fun (⟨i9, box4_relations, box4_facts⟩ : Int × (List Relation) × (List Fact)) => [(1, (intA a1)), (2, (intA b2)), (3, (.b 0 0)), (6, (.b 1 0)), (8, (.b 4 0)), (9, (intA i9))]) (fun (⟨i9, box4_relations, box4_facts⟩ : Int × (List Relation) × (List Fact)) => [.box [(sl tRelation d0.relations), (sl tFact d0.facts)], .box [.n, .n], .row (flat tRelation.enc box4_relations), .dead, .box [(.m [2] 0 box4_relations.length tRelation.k), (.m [5] 0 box4_facts.length tFact.k)], .row (flat tFact.enc box4_facts)]) u (0, us_14, ([] : (List Fact))) (w0 6) L16_ ?_
    rintro _ ⟨i9, box4_relations, box4_facts⟩ L16_
    obtain ⟨k16, rfl, C16_, H, K16_⟩ := while_step L16_
    rw [hb16] at H
    refine T_seq ?_
    refine sr ?_
    refine pv tb 3 rfl ?_
    refine Tp rfl rfl (pur_lenT (T := tFact) sl39 rfl rfl) rfl ?_
    refine pv tb 1 rfl ?_
    refine TO_nil ?_
    refine T_cond (t := decide (i9 < (d0.facts.length : Int))) rfl (fun c_17 => ?_) (fun c_17 => ?_)
    ·replace H := cond_t c_17 H
     refine T_skip ?_
     refine T_seq ?_
     refine T_block ?_
     refine sr ?_
     obtain ⟨v_18, h_19, H⟩ := bind_inv H
     obtain ⟨n_20, hz_21, hv_22⟩ := getI_inv h_19
     refine pv tb 3 rfl ?_
     refine Tp rfl rfl (pur_ixT (T := tFact) sl39 rfl rfl hz_21 hv_22 rfl) rfl ?_
     refine pv tb 1 rfl ?_
     refine Tp rfl rfl (pur_ldT (T := tFact) (i := n_20) (off := 0) rfl one3 rfl rfl hv_22 rfl) rfl ?_
     refine Tp rfl rfl (pur_build bld55 rfl rfl) rfl ?_
     refine TO_cons rfl (TOp_alloc zero55 rfl rfl ?_)
     refine TO_cons rfl (TOp_storeB sz55 rfl rfl rfl rfl rfl rfl rfl (by decide) (lb rfl) rfl ?_)
     refine TO_st (σ' := [.box [(sl tRelation d0.relations), (sl tFact d0.facts)], .box [.n, .n], .row (flat tRelation.enc box4_relations), .dead, .box [(.m [2] 0 box4_relations.length tRelation.k), (.m [5] 0 box4_facts.length tFact.k)], .row (flat tFact.enc box4_facts), .box [(intA v_18.relation), .n]]) rfl ?_
     refine TO_nil ?_
     refine T_seq ?_
     refine sr ?_
     refine pv tb 1 rfl ?_
     refine TO_nil ?_
     refine T_row0 ?_
     refine T_boxle (xs := [(intA v_18.relation), .n]) (ys := [(intA v_18.relation), (.m [7] 0 ([] : (List Int)).length tInt.k)]) 6 rfl (leCons (leR rfl) (leCons leM leNil)) ?_
     refine T_st (σ' := [.box [(sl tRelation d0.relations), (sl tFact d0.facts)], .box [.n, .n], .row (flat tRelation.enc box4_relations), .dead, .box [(.m [2] 0 box4_relations.length tRelation.k), (.m [5] 0 box4_facts.length tFact.k)], .row (flat tFact.enc box4_facts), .box [(intA v_18.relation), (.m [7] 0 ([] : (List Int)).length tInt.k)], .row (flat tInt.enc ([] : (List Int)))]) rfl ?_
     obtain ⟨O23_, L23_, N23_⟩ := bind_inv H
     clear H
     obtain ⟨B23_, hb23, L23_⟩ := gen_whileF L23_
     refine T_block ?_
     refine T_loopX (fun k => fun (⟨k11, box6_values⟩ : Int × (List Int)) => whileF B23_ k (k11, box6_values) = some O23_) (fun (⟨k11, box6_values⟩ : Int × (List Int)) => [(1, (intA a1)), (2, (intA b2)), (3, (.b 0 0)), (6, (.b 1 0)), (8, (.b 4 0)), (9, (intA i9)), (10, (.b 6 0)), (11, (intA k11))]) (fun (⟨k11, box6_values⟩ : Int × (List Int)) => [.box [(sl tRelation d0.relations), (sl tFact d0.facts)], .box [.n, .n], .row (flat tRelation.enc box4_relations), .dead, .box [(.m [2] 0 box4_relations.length tRelation.k), (.m [5] 0 box4_facts.length tFact.k)], .row (flat tFact.enc box4_facts), .box [(intA v_18.relation), (.m [7] 0 box6_values.length tInt.k)], .row (flat tInt.enc box6_values)]) u (0, ([] : (List Int))) (w0 8) L23_ ?_
     rintro _ ⟨k11, box6_values⟩ L23_
     obtain ⟨k23, rfl, C23_, H, K23_⟩ := while_step L23_
     rw [hb23] at H
     refine T_seq ?_
     refine sr ?_
     refine pv tb 4 rfl ?_
     refine Tp rfl rfl (pur_ixT (T := tFact) sl39 rfl rfl hz_21 hv_22 rfl) rfl ?_
     refine pv tb 1 rfl ?_
     refine Tp rfl rfl (pur_ldT (T := tFact) (i := n_20) (off := 1) rfl one53 rfl rfl hv_22 rfl) rfl ?_
     refine Tp rfl rfl (pur_lenT (T := tInt) sl53 rfl rfl) rfl ?_
     refine pv tb 1 rfl ?_
     refine TO_nil ?_
     refine T_cond (t := decide (k11 < (v_18.values.length : Int))) rfl (fun c_24 => ?_) (fun c_24 => ?_)
     ·replace H := cond_t c_24 H
      refine T_skip ?_
      refine T_seq ?_
      refine T_block ?_
      refine sr ?_
      refine pv tb 3 rfl ?_
      refine Tp rfl rfl (pur_ixT (T := tFact) sl39 rfl rfl hz_21 hv_22 rfl) rfl ?_
      refine pv tb 1 rfl ?_
      refine Tp rfl rfl (pur_ldT (T := tFact) (i := n_20) (off := 1) rfl one53 rfl rfl hv_22 rfl) rfl ?_
      obtain ⟨v_25, h_26, H⟩ := bind_inv H
      obtain ⟨n_27, hz_28, hv_29⟩ := getI_inv h_26
      refine pv tb 1 rfl ?_
      refine Tp rfl rfl (pur_ixT (T := tInt) sl53 rfl rfl hz_28 hv_29 rfl) rfl ?_
      refine Tp rfl rfl (pur_ldT (T := tInt) (i := n_27) (off := 0) rfl one3 rfl rfl hv_29 rfl) rfl ?_
      refine pv tb 1 rfl ?_
      refine TO_nil ?_
      refine te [(1, (intA a1)), (2, (intA b2)), (3, (.b 0 0)), (6, (.b 1 0)), (8, (.b 4 0)), (9, (intA i9)), (10, (.b 6 0)), (11, (intA k11)), (12, (intA v_25))] rfl ?_
      refine T_seq ?_
      refine sr ?_
      refine pv tb 3 rfl ?_
      refine TO_nil ?_
      refine T_cond (t := decide (v_25 = a1)) rfl (fun c_30 => ?_) (fun c_30 => ?_)
      ·replace H := cond_t c_30 H
       refine T_region ?_
       refine pv tb 2 rfl ?_
       refine TO_nil ?_
       refine T_region ?_
       refine pv tb 3 rfl ?_
       refine TO_cons rfl (TOp_lit (nn := 1) (k := 1) sl53 zero3 rfl rfl rfl rfl (by decide) ?_)
       refine TO_st (σ' := [.box [(sl tRelation d0.relations), (sl tFact d0.facts)], .box [.n, .n], .row (flat tRelation.enc box4_relations), .dead, .box [(.m [2] 0 box4_relations.length tRelation.k), (.m [5] 0 box4_facts.length tFact.k)], .row (flat tFact.enc box4_facts), .box [(intA v_18.relation), (.m [7] 0 box6_values.length tInt.k)], .row (flat tInt.enc box6_values), .row (flat tInt.enc ([b2] : (List Int)))]) rfl ?_
       obtain ⟨us_31, h_32, H⟩ := bind_inv H
       refine TO_cons rfl (TOp_appZ (T := tInt) (f := tInt.enc) (xs := box6_values) (ys := ([b2] : (List Int))) tInt.len sl53 zero3 rfl bytes3 (by decide) rfl rfl rfl rfl (src_mT (f := tInt.enc) tInt.len rfl rfl (flat_cell tInt _)) (flat_cell tInt _) h_32 (lb rfl) ?_)
       refine toe [(1, (intA a1)), (2, (intA b2)), (3, (.b 0 0)), (6, (.b 1 0)), (8, (.b 4 0)), (9, (intA i9)), (10, (.b 6 0)), (11, (intA k11)), (12, (intA b2)), (71, (.b 6 1)), (73, (intA b2)), (74, (.m [8] 0 ([b2] : (List Int)).length tInt.k)), (75, (.m [7] 0 us_31.length tInt.k))] rfl ?_
       refine TO_st (σ' := [.box [(sl tRelation d0.relations), (sl tFact d0.facts)], .box [.n, .n], .row (flat tRelation.enc box4_relations), .dead, .box [(.m [2] 0 box4_relations.length tRelation.k), (.m [5] 0 box4_facts.length tFact.k)], .row (flat tFact.enc box4_facts), .box [(intA v_18.relation), .j], .row (flat tInt.enc us_31), .row (flat tInt.enc ([b2] : (List Int))), .dead]) rfl ?_
       refine pv tb 1 rfl ?_
       refine TO_cons rfl (TOp_storeB sz53 rfl rfl rfl rfl rfl rfl rfl (by decide) (lb rfl) rfl ?_)
       refine TO_st (σ' := [.box [(sl tRelation d0.relations), (sl tFact d0.facts)], .box [.n, .n], .row (flat tRelation.enc box4_relations), .dead, .box [(.m [2] 0 box4_relations.length tRelation.k), (.m [5] 0 box4_facts.length tFact.k)], .row (flat tFact.enc box4_facts), .box [(intA v_18.relation), (.m [7] 0 us_31.length tInt.k)], .row (flat tInt.enc us_31), .row (flat tInt.enc ([b2] : (List Int))), .dead]) rfl ?_
       refine TO_nil ?_
       refine T_region ?_
       refine pv tb 3 rfl ?_
       refine TO_nil ?_
       obtain rfl := some_inj H
       exact again k23 ((w64 (k11 + 1)), us_31) (Nat.lt_succ_self _) (w0 8) K23_
      ·replace H := cond_f c_30 H
       refine T_skip ?_
       refine T_region ?_
       refine pv tb 3 rfl ?_
       refine TO_cons rfl (TOp_lit (nn := 1) (k := 1) sl53 zero3 rfl rfl rfl rfl (by decide) ?_)
       refine TO_st (σ' := [.box [(sl tRelation d0.relations), (sl tFact d0.facts)], .box [.n, .n], .row (flat tRelation.enc box4_relations), .dead, .box [(.m [2] 0 box4_relations.length tRelation.k), (.m [5] 0 box4_facts.length tFact.k)], .row (flat tFact.enc box4_facts), .box [(intA v_18.relation), (.m [7] 0 box6_values.length tInt.k)], .row (flat tInt.enc box6_values), .row (flat tInt.enc ([v_25] : (List Int)))]) rfl ?_
       obtain ⟨us_33, h_34, H⟩ := bind_inv H
       refine TO_cons rfl (TOp_appZ (T := tInt) (f := tInt.enc) (xs := box6_values) (ys := ([v_25] : (List Int))) tInt.len sl53 zero3 rfl bytes3 (by decide) rfl rfl rfl rfl (src_mT (f := tInt.enc) tInt.len rfl rfl (flat_cell tInt _)) (flat_cell tInt _) h_34 (lb rfl) ?_)
       refine toe [(1, (intA a1)), (2, (intA b2)), (3, (.b 0 0)), (6, (.b 1 0)), (8, (.b 4 0)), (9, (intA i9)), (10, (.b 6 0)), (11, (intA k11)), (12, (intA v_25)), (71, (.b 6 1)), (73, (intA v_25)), (74, (.m [8] 0 ([v_25] : (List Int)).length tInt.k)), (75, (.m [7] 0 us_33.length tInt.k))] rfl ?_
       refine TO_st (σ' := [.box [(sl tRelation d0.relations), (sl tFact d0.facts)], .box [.n, .n], .row (flat tRelation.enc box4_relations), .dead, .box [(.m [2] 0 box4_relations.length tRelation.k), (.m [5] 0 box4_facts.length tFact.k)], .row (flat tFact.enc box4_facts), .box [(intA v_18.relation), .j], .row (flat tInt.enc us_33), .row (flat tInt.enc ([v_25] : (List Int))), .dead]) rfl ?_
       refine pv tb 1 rfl ?_
       refine TO_cons rfl (TOp_storeB sz53 rfl rfl rfl rfl rfl rfl rfl (by decide) (lb rfl) rfl ?_)
       refine TO_st (σ' := [.box [(sl tRelation d0.relations), (sl tFact d0.facts)], .box [.n, .n], .row (flat tRelation.enc box4_relations), .dead, .box [(.m [2] 0 box4_relations.length tRelation.k), (.m [5] 0 box4_facts.length tFact.k)], .row (flat tFact.enc box4_facts), .box [(intA v_18.relation), (.m [7] 0 us_33.length tInt.k)], .row (flat tInt.enc us_33), .row (flat tInt.enc ([v_25] : (List Int))), .dead]) rfl ?_
       refine TO_nil ?_
       refine T_region ?_
       refine pv tb 3 rfl ?_
       refine TO_nil ?_
       obtain rfl := some_inj H
       exact again k23 ((w64 (k11 + 1)), us_33) (Nat.lt_succ_self _) (w0 8) K23_
     ·replace H := cond_f c_24 H
      refine T_exit ?_
      refine then_exit ?_
      refine then_exit ?_
      refine block_exit ?_
      obtain rfl := some_inj H
      obtain rfl := some_inj K23_
      replace H := onS_l N23_
      refine T_region ?_
      refine pv tb 2 rfl ?_
      refine TO_frzB 2 (E' := [(1, (intA a1)), (2, (intA b2)), (3, (.b 0 0)), (6, (.b 1 0)), (8, (.b 4 0)), (9, (intA i9)), (10, (.b 6 0)), (78, (.g [(sl tRelation box4_relations), (.m [5] 0 box4_facts.length tFact.k)])), (79, (.g [(intA v_18.relation), (.m [7] 0 box6_values.length tInt.k)]))]) (σ' := [.box [(sl tRelation d0.relations), (sl tFact d0.facts)], .box [.n, .n], .dead, .dead, .box [(sl tRelation box4_relations), (.m [5] 0 box4_facts.length tFact.k)], .row (flat tFact.enc box4_facts), .box [(intA v_18.relation), (.m [7] 0 box6_values.length tInt.k)], .row (flat tInt.enc box6_values)]) rfl (lb rfl) ?_ ?_ ?_
      ·exact ⟨(.keep rfl), (.keep rfl), (.keep rfl), (.keep rfl), (.keep rfl), (.keep rfl), (.keep rfl), (fz1G (fzC fz1E (fzC (.keep rfl) fzN))), (.keep rfl), trivial⟩
      ·exact ⟨(fzK rfl), (fzK rfl), trivial, trivial, (fzC fz1E (fzC (.keep rfl) fzN)), rfl, (fzK rfl), rfl, trivial⟩
      refine TO_frzB 5 (E' := [(1, (intA a1)), (2, (intA b2)), (3, (.b 0 0)), (6, (.b 1 0)), (8, (.b 4 0)), (9, (intA i9)), (10, (.b 6 0)), (78, (.g [(sl tRelation box4_relations), (sl tFact box4_facts)])), (79, (.g [(intA v_18.relation), (.m [7] 0 box6_values.length tInt.k)]))]) (σ' := [.box [(sl tRelation d0.relations), (sl tFact d0.facts)], .box [.n, .n], .dead, .dead, .box [(sl tRelation box4_relations), (sl tFact box4_facts)], .dead, .box [(intA v_18.relation), (.m [7] 0 box6_values.length tInt.k)], .row (flat tInt.enc box6_values)]) rfl (lb rfl) ?_ ?_ ?_
      ·exact ⟨(.keep rfl), (.keep rfl), (.keep rfl), (.keep rfl), (.keep rfl), (.keep rfl), (.keep rfl), (fz1G (fzC (.keep rfl) (fzC fz1E fzN))), (.keep rfl), trivial⟩
      ·exact ⟨(fzK rfl), (fzK rfl), trivial, trivial, (fzC (.keep rfl) (fzC fz1E fzN)), trivial, (fzK rfl), rfl, trivial⟩
      refine TO_frzB 7 (E' := [(1, (intA a1)), (2, (intA b2)), (3, (.b 0 0)), (6, (.b 1 0)), (8, (.b 4 0)), (9, (intA i9)), (10, (.b 6 0)), (78, (.g [(sl tRelation box4_relations), (sl tFact box4_facts)])), (79, (.g [(intA v_18.relation), (sl tInt box6_values)]))]) (σ' := [.box [(sl tRelation d0.relations), (sl tFact d0.facts)], .box [.n, .n], .dead, .dead, .box [(sl tRelation box4_relations), (sl tFact box4_facts)], .dead, .box [(intA v_18.relation), (sl tInt box6_values)], .dead]) rfl (lb rfl) ?_ ?_ ?_
      ·exact ⟨(.keep rfl), (.keep rfl), (.keep rfl), (.keep rfl), (.keep rfl), (.keep rfl), (.keep rfl), (.keep rfl), (fz1G (fzC (.keep rfl) (fzC fz1E fzN))), trivial⟩
      ·exact ⟨(fzK rfl), (fzK rfl), trivial, trivial, (fzK rfl), trivial, (fzC (.keep rfl) (fzC fz1E fzN)), trivial, trivial⟩
      obtain ⟨r_35, h_36, H⟩ := bind_inv H
      refine TO_cons rfl (TOp_callO (call_static ent43 rfl) rfl (m_spec_InsertFact_own u _ _ _ h_36) rfl rfl rfl ?_)
      refine toe [(1, (intA a1)), (2, (intA b2)), (3, (.b 0 0)), (6, (.b 1 0)), (8, (.b 4 0)), (9, (intA i9)), (10, (.b 6 0)), (78, (.g [(sl tRelation box4_relations), (sl tFact box4_facts)])), (79, (.g [(intA v_18.relation), (sl tInt box6_values)])), (80, (.t [(.g [(.m [8] 0 r_35.1.relations.length tRelation.k), (.m [9] 0 r_35.1.facts.length tFact.k)]), (boolA r_35.2)]))] rfl ?_
      refine TO_st (σ' := [.box [(sl tRelation d0.relations), (sl tFact d0.facts)], .box [.n, .n], .dead, .dead, .box [(sl tRelation box4_relations), (sl tFact box4_facts)], .dead, .box [(intA v_18.relation), (sl tInt box6_values)], .dead, .row (flat tRelation.enc r_35.1.relations), .row (flat tFact.enc r_35.1.facts)]) rfl ?_
      refine pv tb 3 rfl ?_
      refine TO_cons rfl (TOp_storeB sz41 rfl rfl rfl rfl rfl rfl rfl (by decide) (lb rfl) rfl ?_)
      refine TO_st (σ' := [.box [(sl tRelation d0.relations), (sl tFact d0.facts)], .box [.n, .n], .dead, .dead, .box [(.m [8] 0 r_35.1.relations.length tRelation.k), (.m [9] 0 r_35.1.facts.length tFact.k)], .dead, .box [(intA v_18.relation), (sl tInt box6_values)], .dead, .row (flat tRelation.enc r_35.1.relations), .row (flat tFact.enc r_35.1.facts)]) rfl ?_
      refine TO_nil ?_
      refine T_move' 2 8 (by decide) (lb rfl) rfl rfl (lb rfl) ?_
      refine te [(1, (intA a1)), (2, (intA b2)), (3, (.b 0 0)), (6, (.b 1 0)), (8, (.b 4 0)), (9, (intA i9))] rfl ?_
      refine T_st (σ' := [.box [(sl tRelation d0.relations), (sl tFact d0.facts)], .box [.n, .n], .row (flat tRelation.enc r_35.1.relations), .dead, .box [(.m [2] 0 r_35.1.relations.length tRelation.k), (.m [9] 0 r_35.1.facts.length tFact.k)], .dead, .box [(intA v_18.relation), (sl tInt box6_values)], .dead, .dead, .row (flat tFact.enc r_35.1.facts)]) rfl ?_
      refine T_move' 5 9 (by decide) (lb rfl) rfl rfl (lb rfl) ?_
      refine te [(1, (intA a1)), (2, (intA b2)), (3, (.b 0 0)), (6, (.b 1 0)), (8, (.b 4 0)), (9, (intA i9))] rfl ?_
      refine T_st (σ' := [.box [(sl tRelation d0.relations), (sl tFact d0.facts)], .box [.n, .n], .row (flat tRelation.enc r_35.1.relations), .dead, .box [(.m [2] 0 r_35.1.relations.length tRelation.k), (.m [5] 0 r_35.1.facts.length tFact.k)], .row (flat tFact.enc r_35.1.facts), .box [(intA v_18.relation), (sl tInt box6_values)], .dead, .dead, .dead]) rfl ?_
      refine T_region ?_
      refine pv tb 3 rfl ?_
      refine TO_nil ?_
      obtain rfl := some_inj H
      exact again k16 ((w64 (i9 + 1)), r_35.1.relations, r_35.1.facts) (Nat.lt_succ_self _) (w0 6) K16_
    ·replace H := cond_f c_17 H
     refine T_exit ?_
     refine then_exit ?_
     refine then_exit ?_
     refine block_exit ?_
     obtain rfl := some_inj H
     obtain rfl := some_inj K16_
     replace H := onS_l N16_
     refine sr ?_
     refine pv tb 1 rfl ?_
     refine TO_cons rfl (TOp_storeB sz41 rfl rfl rfl rfl rfl rfl rfl (by decide) (lb rfl) rfl ?_)
     refine TO_st (σ' := [.box [(sl tRelation d0.relations), (sl tFact d0.facts)], .box [(.m [2] 0 box4_relations.length tRelation.k), (.m [5] 0 box4_facts.length tFact.k)], .row (flat tRelation.enc box4_relations), .dead, .box [(.m [2] 0 box4_relations.length tRelation.k), (.m [5] 0 box4_facts.length tFact.k)], .row (flat tFact.enc box4_facts)]) rfl ?_
     refine pv tb 1 rfl ?_
     refine TO_nil ?_
     refine T_ret ?_
     obtain rfl := some_inj H
     exact end_pick (.cellK rfl agg41 rfl (lb rfl) (.tmp .nil)) rfl [2, 5] (by decide) rfl rfl rfl rfl rfl rfl
theorem m_spec_MergeValues_ok (u : Nat) (d0 : Database) (a1 : Int) (b2 : Int) (r : (Database × Bool)) (H : m_spec_MergeValues u d0 a1 b2 = some r) : FnV prg 16 [(.g (tDatabase.enc d0)), (intA a1), (intA b2)] (.t [(.g (tDatabase.enc r.1)), (boolA r.2)]) := (m_spec_MergeValues_own u d0 a1 b2 r H).frz (frzOK_t (frz_cons (frzOK_g (frz_cons (frzTE (T := tRelation) rfl) (frz_cons (frzTE (T := tFact) rfl) frz_nil)).1 (frz_cons (frzTE (T := tRelation) rfl) (frz_cons (frzTE (T := tFact) rfl) frz_nil)).2) (frz_cons (frz_loose rfl) frz_nil)).1 (frz_cons (frzOK_g (frz_cons (frzTE (T := tRelation) rfl) (frz_cons (frzTE (T := tFact) rfl) frz_nil)).1 (frz_cons (frzTE (T := tRelation) rfl) (frz_cons (frzTE (T := tFact) rfl) frz_nil)).2) (frz_cons (frz_loose rfl) frz_nil)).2)

set_option maxHeartbeats 1000000 in
theorem m_cmp_isNaN_int_ok (x0 : Int) (r : Bool) (H : m_cmp_isNaN_int x0 = some r) : FnV prg 144 [(intA x0)] (boolA r) := by
  unfold m_cmp_isNaN_int at H
  refine fnV_of_T Try.func144 rfl rfl (Nat.le_of_ble_eq_true rfl) ?_
  refine te [(0, (intA x0))] rfl ?_
  refine sr ?_
  refine pv tb 1 rfl ?_
  refine TO_nil ?_
  refine sr ?_
  refine pv tb 4 rfl ?_
  refine TO_nil ?_
  refine T_ret ?_
  obtain rfl := some_inj H
  refine end_ret (.tmp .nil) rfl rfl ⟨?_, rfl⟩
  rfl

set_option maxHeartbeats 1000000 in
theorem m_cmp_Compare_int_ok (x0 : Int) (y1 : Int) (r : Int) (H : m_cmp_Compare_int x0 y1 = some r) : FnV prg 112 [(intA x0), (intA y1)] (intA r) := by
  unfold m_cmp_Compare_int at H
  refine fnV_of_T Try.func112 rfl rfl (Nat.le_of_ble_eq_true rfl) ?_
  refine te [(0, (intA x0)), (1, (intA y1))] rfl ?_
  refine sr ?_
  refine pv tb 1 rfl ?_
  refine TO_nil ?_
  refine sr ?_
  obtain ⟨r_1, h_2, H⟩ := bind_inv H
  refine pv tb 1 rfl ?_
  refine TO_cons rfl (TOp_callV (call_static ent144 rfl) (m_cmp_isNaN_int_ok _ _ h_2) rfl rfl rfl ?_)
  refine pv tb 1 rfl ?_
  refine TO_nil ?_
  refine sr ?_
  obtain ⟨r_3, h_4, H⟩ := bind_inv H
  refine pv tb 1 rfl ?_
  refine TO_cons rfl (TOp_callV (call_static ent144 rfl) (m_cmp_isNaN_int_ok _ _ h_4) rfl rfl rfl ?_)
  refine pv tb 1 rfl ?_
  refine TO_nil ?_
  refine T_seq ?_
  refine sr ?_
  refine pv tb 1 rfl ?_
  refine TO_nil ?_
  refine T_cond (t := r_1) rfl (fun c_5 => ?_) (fun c_5 => ?_)
  ·replace H := cond_t c_5 H
   refine T_seq ?_
   refine sr ?_
   refine pv tb 1 rfl ?_
   refine TO_nil ?_
   refine T_cond (t := r_3) rfl (fun c_6 => ?_) (fun c_6 => ?_)
   ·replace H := cond_t c_6 H
    refine sr ?_
    refine pv tb 1 rfl ?_
    refine TO_nil ?_
    refine T_ret ?_
    refine then_ret ?_
    refine then_ret ?_
    obtain rfl := some_inj H
    refine end_ret (.tmp .nil) rfl rfl ⟨?_, rfl⟩
    rfl
   ·replace H := cond_f c_6 H
    refine T_skip ?_
    refine sr ?_
    refine pv tb 1 rfl ?_
    refine TO_nil ?_
    refine T_ret ?_
    refine then_ret ?_
    obtain rfl := some_inj H
    refine end_ret (.tmp .nil) rfl rfl ⟨?_, rfl⟩
    rfl
  ·replace H := cond_f c_5 H
   refine T_skip ?_
   refine T_seq ?_
   refine sr ?_
   refine pv tb 1 rfl ?_
   refine TO_nil ?_
   refine T_cond (t := r_3) rfl (fun c_7 => ?_) (fun c_7 => ?_)
   ·replace H := cond_t c_7 H
    refine sr ?_
    refine pv tb 1 rfl ?_
    refine TO_nil ?_
    refine T_ret ?_
    refine then_ret ?_
    obtain rfl := some_inj H
    refine end_ret (.tmp .nil) rfl rfl ⟨?_, rfl⟩
    rfl
   ·replace H := cond_f c_7 H
    refine T_skip ?_
    refine T_seq ?_
    refine sr ?_
    refine pv tb 3 rfl ?_
    refine TO_nil ?_
    refine T_cond (t := decide (x0 < y1)) rfl (fun c_8 => ?_) (fun c_8 => ?_)
    ·replace H := cond_t c_8 H
     refine sr ?_
     refine pv tb 1 rfl ?_
     refine TO_nil ?_
     refine T_ret ?_
     refine then_ret ?_
     obtain rfl := some_inj H
     refine end_ret (.tmp .nil) rfl rfl ⟨?_, rfl⟩
     rfl
    ·replace H := cond_f c_8 H
     refine T_skip ?_
     refine T_seq ?_
     refine sr ?_
     refine pv tb 3 rfl ?_
     refine TO_nil ?_
     refine te [(19, (boolA (decide (y1 < x0))))] rfl ?_
     refine T_cond (t := decide (y1 < x0)) rfl (fun c_9 => ?_) (fun c_9 => ?_)
     ·replace H := cond_t c_9 H
      refine sr ?_
      refine pv tb 1 rfl ?_
      refine TO_nil ?_
      refine T_ret ?_
      refine then_ret ?_
      obtain rfl := some_inj H
      refine end_ret (.tmp .nil) rfl rfl ⟨?_, rfl⟩
      rfl
     ·replace H := cond_f c_9 H
      refine T_skip ?_
      refine sr ?_
      refine pv tb 1 rfl ?_
      refine TO_nil ?_
      refine T_ret ?_
      obtain rfl := some_inj H
      refine end_ret (.tmp .nil) rfl rfl ⟨?_, rfl⟩
      rfl

set_option maxHeartbeats 1000000 in
theorem m_slices_Compare_Sint_int_ok (s10 : (List Int)) (s21 : (List Int)) (r : Int) (H : m_slices_Compare_Sint_int s10 s21 = some r) : FnV prg 78 [(sl tInt s10), (sl tInt s21)] (intA r) := by
  unfold m_slices_Compare_Sint_int at H
  refine fnV_of_T Try.func78 rfl rfl (Nat.le_of_ble_eq_true rfl) ?_
  refine te [(0, (sl tInt s10)), (1, (sl tInt s21))] rfl ?_
  refine sr ?_
  refine pv tb 1 rfl ?_
  refine TO_nil ?_
  refine T_seq ?_
  refine sr ?_
  refine pv tb 1 rfl ?_
  refine Tp rfl rfl (pur_lenT (T := tInt) sl53 rfl rfl) rfl ?_
  refine pv tb 1 rfl ?_
  refine TO_nil ?_
  obtain ⟨O2_, L2_, N2_⟩ := bind_inv H
  clear H
  obtain ⟨B2_, hb2, L2_⟩ := gen_forL L2_
  refine T_block ?_
  refine T_loopX (fun k => fun (t_1 : Nat) => k = s10.length - t_1 ∧ forL B2_ (s10.drop t_1) (t_1 : Int) () = some O2_) (fun (t_1 : Nat) => [(0, (sl tInt s10)), (1, (sl tInt s21)), (9, (sl tInt s10)), (10, (intA (s10.length : Int))), (11, (intA (t_1 : Int)))]) (fun (t_1 : Nat) => []) _ (0 : Nat) (w0 0) ⟨rfl, L2_⟩ ?_
  rintro _ t_1 ⟨rfl, L2_⟩
  refine T_fact (len_sl (T := tInt) (.tmp 0) rfl) (fun hl2 => ?_)
  refine sr ?_
  refine pv tb 1 rfl ?_
  refine TO_nil ?_
  refine T_seq ?_
  refine T_cond (t := decide ((t_1 : Int) < (s10.length : Int))) rfl (fun d2 => ?_) (fun d2 => ?_)
  ·replace d2 := of_decide_eq_true d2
   obtain ⟨x_t_1, hx_t_1⟩ : ∃ v, (s10)[t_1]? = some v := ⟨_, List.getElem?_eq_getElem (by omega)⟩
   obtain ⟨C2_, H, K2_⟩ := forL_step L2_ hx_t_1
   rw [hb2] at H
   refine T_skip ?_
   refine T_seq ?_
   refine T_block ?_
   refine sr ?_
   refine pv tb 1 rfl ?_
   refine Tp rfl rfl (pur_ixT (T := tInt) sl53 rfl rfl rfl hx_t_1 rfl) rfl ?_
   refine Tp rfl rfl (pur_ldT (T := tInt) (i := t_1) (off := 0) rfl one3 rfl rfl hx_t_1 rfl) rfl ?_
   refine pv tb 2 rfl ?_
   refine TO_nil ?_
   refine T_seq ?_
   refine sr ?_
   refine pv tb 2 rfl ?_
   refine Tp rfl rfl (pur_lenT (T := tInt) sl53 rfl rfl) rfl ?_
   refine pv tb 1 rfl ?_
   refine TO_nil ?_
   refine T_cond (t := decide ((s21.length : Int) ≤ (t_1 : Int))) rfl (fun c_3 => ?_) (fun c_3 => ?_)
   ·replace H := cond_t c_3 H
    refine sr ?_
    refine pv tb 1 rfl ?_
    refine TO_nil ?_
    refine te [(4, (intA 1))] rfl ?_
    refine T_ret ?_
    refine then_ret ?_
    refine block_ret ?_
    refine then_ret ?_
    refine then_ret ?_
    refine block_ret ?_
    refine then_ret ?_
    obtain rfl := some_inj H
    obtain rfl := some_inj K2_
    replace H := onS_r N2_
    obtain rfl := some_inj H
    refine end_ret (.tmp .nil) rfl rfl ⟨?_, rfl⟩
    rfl
   ·replace H := cond_f c_3 H
    refine T_skip ?_
    refine sr ?_
    obtain ⟨v_4, h_5, H⟩ := bind_inv H
    obtain ⟨n_6, hz_7, hv_8⟩ := getI_inv h_5
    refine pv tb 2 rfl ?_
    refine Tp rfl rfl (pur_ixT (T := tInt) sl53 rfl rfl hz_7 hv_8 rfl) rfl ?_
    refine Tp rfl rfl (pur_ldT (T := tInt) (i := n_6) (off := 0) rfl one3 rfl rfl hv_8 rfl) rfl ?_
    refine pv tb 1 rfl ?_
    refine TO_nil ?_
    refine sr ?_
    obtain ⟨r_9, h_10, H⟩ := bind_inv H
    refine pv tb 2 rfl ?_
    refine TO_cons rfl (TOp_callV (call_static ent112 rfl) (m_cmp_Compare_int_ok _ _ _ h_10) rfl rfl rfl ?_)
    refine pv tb 1 rfl ?_
    refine TO_nil ?_
    refine te [(0, (sl tInt s10)), (1, (sl tInt s21)), (8, (intA r_9)), (9, (sl tInt s10)), (10, (intA (s10.length : Int))), (11, (intA (t_1 : Int)))] rfl ?_
    refine sr ?_
    refine pv tb 2 rfl ?_
    refine TO_nil ?_
    refine T_cond (t := decide (r_9 ≠ 0)) rfl (fun c_11 => ?_) (fun c_11 => ?_)
    ·replace H := cond_t c_11 H
     refine sr ?_
     refine pv tb 2 rfl ?_
     refine TO_nil ?_
     refine T_ret ?_
     refine block_ret ?_
     refine then_ret ?_
     refine then_ret ?_
     refine block_ret ?_
     refine then_ret ?_
     obtain rfl := some_inj H
     obtain rfl := some_inj K2_
     replace H := onS_r N2_
     obtain rfl := some_inj H
     refine end_ret (.tmp .nil) rfl rfl ⟨?_, rfl⟩
     rfl
    ·replace H := cond_f c_11 H
     refine T_skip ?_
     refine T_region ?_
     refine Tp rfl rfl (pur_add rfl rfl rfl (fits64 (by omega) (by omega))) rfl ?_
     refine pv tb 1 rfl ?_
     refine TO_nil ?_
     obtain rfl := some_inj H
     exact again (s10.length - (t_1 + 1)) (t_1 + 1) (by omega) (w0 0) ⟨rfl, K2_⟩
  ·replace d2 := of_decide_eq_false d2
   obtain rfl := forL_end L2_ (by omega)
   refine T_exit ?_
   refine then_exit ?_
   refine then_exit ?_
   refine block_exit ?_
   replace H := onS_l N2_
   refine T_seq ?_
   refine sr ?_
   refine pv tb 1 rfl ?_
   refine Tp rfl rfl (pur_lenT (T := tInt) sl53 rfl rfl) rfl ?_
   refine pv tb 1 rfl ?_
   refine Tp rfl rfl (pur_lenT (T := tInt) sl53 rfl rfl) rfl ?_
   refine pv tb 1 rfl ?_
   refine TO_nil ?_
   refine T_cond (t := decide ((s10.length : Int) < (s21.length : Int))) rfl (fun c_12 => ?_) (fun c_12 => ?_)
   ·replace H := cond_t c_12 H
    refine sr ?_
    refine pv tb 1 rfl ?_
    refine TO_nil ?_
    refine T_ret ?_
    refine then_ret ?_
    obtain rfl := some_inj H
    refine end_ret (.tmp .nil) rfl rfl ⟨?_, rfl⟩
    rfl
   ·replace H := cond_f c_12 H
    refine T_skip ?_
    refine sr ?_
    refine pv tb 1 rfl ?_
    refine TO_nil ?_
    refine T_ret ?_
    obtain rfl := some_inj H
    refine end_ret (.tmp .nil) rfl rfl ⟨?_, rfl⟩
    rfl

set_option maxHeartbeats 1000000 in
theorem m_impl_compare_ok (a0 : Int) (b1 : Int) (r : Int) (H : m_impl_compare a0 b1 = some r) : FnV prg 90 [(intA a0), (intA b1)] (intA r) := by
  unfold m_impl_compare at H
  refine fnV_of_T Try.func90 rfl rfl (Nat.le_of_ble_eq_true rfl) ?_
  refine te [(0, (intA a0)), (1, (intA b1))] rfl ?_
  refine sr ?_
  refine pv tb 1 rfl ?_
  refine TO_nil ?_
  refine T_seq ?_
  refine T_block ?_
  refine sr ?_
  refine pv tb 4 rfl ?_
  refine TO_nil ?_
  refine T_cond (t := decide (a0 < b1)) rfl (fun c_1 => ?_) (fun c_1 => ?_)
  ·replace H := cond_t c_1 H
   refine sr ?_
   refine pv tb 1 rfl ?_
   refine TO_nil ?_
   refine T_ret ?_
   refine block_ret ?_
   refine then_ret ?_
   obtain rfl := some_inj H
   refine end_ret (.tmp .nil) rfl rfl ⟨?_, rfl⟩
   rfl
  ·replace H := cond_f c_1 H
   refine sr ?_
   refine pv tb 4 rfl ?_
   refine TO_nil ?_
   refine T_cond (t := decide (b1 < a0)) rfl (fun c_2 => ?_) (fun c_2 => ?_)
   ·replace H := cond_t c_2 H
    refine sr ?_
    refine pv tb 1 rfl ?_
    refine TO_nil ?_
    refine T_ret ?_
    refine block_ret ?_
    refine then_ret ?_
    obtain rfl := some_inj H
    refine end_ret (.tmp .nil) rfl rfl ⟨?_, rfl⟩
    rfl
   ·replace H := cond_f c_2 H
    refine T_skip ?_
    refine sr ?_
    refine pv tb 1 rfl ?_
    refine TO_nil ?_
    refine T_ret ?_
    obtain rfl := some_inj H
    refine end_ret (.tmp .nil) rfl rfl ⟨?_, rfl⟩
    rfl

set_option maxHeartbeats 1000000 in
theorem m_impl_CompareFacts_ok (a0 : Fact) (b1 : Fact) (r : Int) (H : m_impl_CompareFacts a0 b1 = some r) : FnV prg 49 [(.g (tFact.enc a0)), (.g (tFact.enc b1))] (intA r) := by
  unfold m_impl_CompareFacts at H
  refine fnV_of_T Try.func49 rfl rfl (Nat.le_of_ble_eq_true rfl) ?_
  refine te [(0, (.g (tFact.enc a0))), (1, (.g (tFact.enc b1)))] rfl ?_
  refine sr ?_
  refine TO_cons rfl (TOp_box rfl (boxAll rfl) rfl rfl ?_)
  refine TO_cons rfl (TOp_box rfl (boxAll rfl) rfl rfl ?_)
  refine pv tb 1 rfl ?_
  refine TO_nil ?_
  refine T_seq ?_
  refine sr ?_
  refine pv tb 5 rfl ?_
  refine TO_nil ?_
  refine T_cond (t := decide (a0.relation ≠ b1.relation)) rfl (fun c_1 => ?_) (fun c_1 => ?_)
  ·replace H := cond_t c_1 H
   refine sr ?_
   obtain ⟨r_2, h_3, H⟩ := bind_inv H
   refine pv tb 4 rfl ?_
   refine TO_cons rfl (TOp_callV (call_static ent90 rfl) (m_impl_compare_ok _ _ _ h_3) rfl rfl rfl ?_)
   refine pv tb 1 rfl ?_
   refine TO_nil ?_
   refine te [(4, (intA r_2))] rfl ?_
   refine T_ret ?_
   refine then_ret ?_
   obtain rfl := some_inj H
   refine end_ret (.tmp .nil) rfl rfl ⟨?_, rfl⟩
   rfl
  ·replace H := cond_f c_1 H
   refine T_skip ?_
   refine sr ?_
   obtain ⟨r_4, h_5, H⟩ := bind_inv H
   refine pv tb 4 rfl ?_
   refine TO_cons rfl (TOp_callV (call_static ent78 rfl) (m_slices_Compare_Sint_int_ok _ _ _ h_5) rfl rfl rfl ?_)
   refine pv tb 1 rfl ?_
   refine TO_nil ?_
   refine te [(4, (intA r_4))] rfl ?_
   refine T_ret ?_
   obtain rfl := some_inj H
   refine end_ret (.tmp .nil) rfl rfl ⟨?_, rfl⟩
   rfl

set_option maxHeartbeats 1000000 in
theorem m_impl_within_ok (n0 : Int) (low1 : Int) (high2 : Int) (r : Bool) (H : m_impl_within n0 low1 high2 = some r) : FnV prg 47 [(intA n0), (intA low1), (intA high2)] (boolA r) := by
  unfold m_impl_within at H
  refine fnV_of_T Try.func47 rfl rfl (Nat.le_of_ble_eq_true rfl) ?_
  refine te [(0, (intA n0)), (1, (intA low1)), (2, (intA high2))] rfl ?_
  refine sr ?_
  refine pv tb 1 rfl ?_
  refine TO_nil ?_
  refine T_cutX (fun x => ((decide (low1 ≤ n0)) && (decide (n0 ≤ high2))) = x) (fun (t6_1 : Bool) => [(6, (boolA t6_1))]) (fun (t6_1 : Bool) => []) ?_ ?_
  ·skip
   refine T_region ?_
   refine pv tb 4 rfl ?_
   refine TO_split (t := decide (low1 ≤ n0)) 10 rfl (fun g_3 => ?_) (fun g_3 => ?_)
   ·skip
    refine pv tb 5 rfl ?_
    refine TO_nil ?_
    exact joined (decide (n0 ≤ high2)) (w0 0) (by first | exact Eq.symm ((and_T g_3 rfl)))
   ·skip
    refine pv tb 5 rfl ?_
    refine TO_nil ?_
    exact joined false (w0 0) (by first | exact Eq.symm ((and_F g_3 rfl)))
  ·rintro _ rfl
   refine T_ret ?_
   obtain rfl := some_inj H
   refine end_ret (.tmp .nil) rfl rfl ⟨?_, rfl⟩
   rfl

set_option maxHeartbeats 1000000 in
theorem m_impl_IsValidRelation_ok (relation0 : Relation) (r : Bool) (H : m_impl_IsValidRelation relation0 = some r) : FnV prg 98 [(.g (tRelation.enc relation0))] (boolA r) := by
  unfold m_impl_IsValidRelation at H
  refine fnV_of_T Try.func98 rfl rfl (Nat.le_of_ble_eq_true rfl) ?_
  refine te [(0, (.g (tRelation.enc relation0)))] rfl ?_
  refine sr ?_
  refine TO_cons rfl (TOp_box rfl (boxAll rfl) rfl rfl ?_)
  refine pv tb 1 rfl ?_
  refine TO_nil ?_
  obtain ⟨t2_1, J_1, H_2⟩ := bind_inv H
  refine T_cutX (fun x => t2_1 = x) (fun (t2_1 : Bool) => [(2, (boolA t2_1))]) (fun (t2_1 : Bool) => []) ?_ ?_
  ·replace H := J_1
   refine T_region ?_
   refine pv tb 2 rfl ?_
   refine Tp rfl rfl (pur_len_s (by kernel_rfl) rfl rfl) rfl ?_
   refine pv tb 2 rfl ?_
   refine TO_split (t := decide ((relation0.name.size : Int) = 1)) 7 rfl (fun g_3 => ?_) (fun g_3 => ?_)
   ·replace H := cond_t g_3 H
    obtain ⟨b_4, h_5, H⟩ := bind_inv H
    refine pv tb 2 rfl ?_
    refine TO_on rfl rfl (by decide) rfl rfl (TOp_pure (pur_ixS (by kernel_rfl) rfl rfl h_5 rfl) rfl ?_)
    refine pv tb 3 rfl ?_
    refine TO_split (t := decide (97 ≤ b_4)) 13 rfl (fun g_6 => ?_) (fun g_6 => ?_)
    ·replace H := cond_t g_6 H
     obtain ⟨b_7, h_8, H⟩ := bind_inv H
     refine pv tb 2 rfl ?_
     refine TO_on rfl rfl (by decide) rfl rfl (TOp_pure (pur_ixS (by kernel_rfl) rfl rfl h_8 rfl) rfl ?_)
     refine pv tb 3 rfl ?_
     refine TO_split (t := decide (b_7 ≤ 122)) 19 rfl (fun g_9 => ?_) (fun g_9 => ?_)
     ·replace H := cond_t g_9 H
      obtain ⟨r_10, h_11, H⟩ := bind_inv H
      refine pv tb 2 rfl ?_
      refine TO_on rfl rfl (by decide) rfl rfl (TOp_callV (call_static ent47 rfl) (m_impl_within_ok _ _ _ _ h_11) rfl rfl rfl ?_)
      refine pv tb 2 rfl ?_
      refine TO_split (t := r_10) 24 rfl (fun g_12 => ?_) (fun g_12 => ?_)
      ·replace H := cond_t g_12 H
       obtain ⟨r_13, h_14, H⟩ := bind_inv H
       refine pv tb 4 rfl ?_
       refine TO_on rfl rfl (by decide) rfl rfl (TOp_callV (call_static ent47 rfl) (m_impl_within_ok _ _ _ _ h_14) rfl rfl rfl ?_)
       refine pv tb 2 rfl ?_
       refine TO_nil ?_
       exact joined r_13 (w0 0) (some_inj H).symm
      ·replace H := cond_f g_12 H
       refine pv tb 7 rfl ?_
       refine TO_nil ?_
       exact joined false (w0 0) (some_inj H).symm
     ·replace H := cond_f g_9 H
      refine pv tb 8 rfl ?_
      refine toe [(24, (boolA false)), (26, (.v undef)), (27, (.v undef))] rfl ?_
      refine pv tb 4 rfl ?_
      refine TO_nil ?_
      exact joined false (w0 0) (some_inj H).symm
    ·replace H := cond_f g_6 H
     refine pv tb 8 rfl ?_
     refine toe [(1, (.b 0 0)), (19, (boolA false)), (21, (.v undef))] rfl ?_
     refine pv tb 10 rfl ?_
     refine TO_nil ?_
     exact joined false (w0 0) (some_inj H).symm
   ·replace H := cond_f g_3 H
    refine pv tb 16 rfl ?_
    refine toe [(1, (.b 0 0)), (23, (boolA false))] rfl ?_
    refine pv tb 8 rfl ?_
    refine TO_nil ?_
    exact joined false (w0 0) (some_inj H).symm
  ·rintro _ rfl
   replace H := H_2
   refine T_ret ?_
   obtain rfl := some_inj H
   refine end_ret (.tmp .nil) rfl rfl ⟨?_, rfl⟩
   rfl

set_option maxHeartbeats 1000000 in
theorem m_impl_AreValidRelations_ok (relations0 : (List Relation)) (r : Bool) (H : m_impl_AreValidRelations relations0 = some r) : FnV prg 62 [(sl tRelation relations0)] (boolA r) := by
  unfold m_impl_AreValidRelations at H
  refine fnV_of_T Try.func62 rfl rfl (Nat.le_of_ble_eq_true rfl) ?_
  refine te [(0, (sl tRelation relations0))] rfl ?_
  refine sr ?_
  refine pv tb 1 rfl ?_
  refine TO_nil ?_
  refine T_seq ?_
  refine sr ?_
  refine pv tb 1 rfl ?_
  refine Tp rfl rfl (pur_lenT (T := tRelation) sl38 rfl rfl) rfl ?_
  refine pv tb 1 rfl ?_
  refine TO_nil ?_
  obtain ⟨O2_, L2_, N2_⟩ := bind_inv H
  clear H
  obtain ⟨B2_, hb2, L2_⟩ := gen_forL L2_
  refine T_block ?_
  refine T_loopX (fun k => fun (t_1 : Nat) => k = relations0.length - t_1 ∧ forL B2_ (relations0.drop t_1) (t_1 : Int) () = some O2_) (fun (t_1 : Nat) => [(0, (sl tRelation relations0)), (5, (sl tRelation relations0)), (6, (intA (relations0.length : Int))), (7, (intA (t_1 : Int)))]) (fun (t_1 : Nat) => []) _ (0 : Nat) (w0 0) ⟨rfl, L2_⟩ ?_
  rintro _ t_1 ⟨rfl, L2_⟩
  refine T_fact (len_sl (T := tRelation) (.tmp 0) rfl) (fun hl2 => ?_)
  refine sr ?_
  refine pv tb 1 rfl ?_
  refine TO_nil ?_
  refine T_seq ?_
  refine T_cond (t := decide ((t_1 : Int) < (relations0.length : Int))) rfl (fun d2 => ?_) (fun d2 => ?_)
  ·replace d2 := of_decide_eq_true d2
   obtain ⟨x_t_1, hx_t_1⟩ : ∃ v, (relations0)[t_1]? = some v := ⟨_, List.getElem?_eq_getElem (by omega)⟩
   obtain ⟨C2_, H, K2_⟩ := forL_step L2_ hx_t_1
   rw [hb2] at H
   refine T_skip ?_
   refine T_seq ?_
   refine T_block ?_
   refine sr ?_
   refine pv tb 1 rfl ?_
   refine Tp rfl rfl (pur_ixT (T := tRelation) sl38 rfl rfl rfl hx_t_1 rfl) rfl ?_
   refine Tp rfl rfl (pur_ldTK (T := tRelation) (i := t_1) (off := 0) rfl agg89 rfl rfl hx_t_1 (by decide) rfl) rfl ?_
   refine TO_cons rfl (TOp_alloc zero89 rfl rfl ?_)
   refine pv tb 1 rfl ?_
   refine TO_cons rfl (TOp_storeB sz89 rfl rfl rfl rfl rfl rfl rfl (by decide) (lb rfl) rfl ?_)
   refine TO_st (σ' := [.box [(strA x_t_1.name), (intA x_t_1.arity), (intA x_t_1.keyLength)]]) rfl ?_
   refine TO_nil ?_
   obtain ⟨t29_3, J_3, H_4⟩ := bind_inv H
   refine T_cutX (fun x => t29_3 = x) (fun (t29_3 : Bool) => [(0, (sl tRelation relations0)), (5, (sl tRelation relations0)), (6, (intA (relations0.length : Int))), (7, (intA (t_1 : Int))), (29, (boolA t29_3))]) (fun (t29_3 : Bool) => []) ?_ ?_
   ·replace H := J_3
    refine T_regionD mixed (by kernel_rfl) ?_
    obtain ⟨r_5, h_6, H⟩ := bind_inv H
    refine pq tb 1 rfl ?_
    refine TQ_callV rfl (call_static ent98 rfl) (m_impl_IsValidRelation_ok _ _ h_6) rfl rfl ?_
    refine pq tb 2 rfl ?_
    refine TQ_split (t := (!r_5)) 15 rfl (fun g_7 => ?_) (fun g_7 => ?_)
    ·replace H := cond_t g_7 H
     refine pq tb 14 rfl ?_
     refine TQ_nil ?_
     exact joined true (w0 0) (some_inj H).symm
    ·replace H := cond_f g_7 H
     refine pq tb 3 rfl ?_
     refine TQ_split (t := decide (0 < (t_1 : Int))) 18 rfl (fun g_8 => ?_) (fun g_8 => ?_)
     ·replace H := cond_t g_8 H
      refine pq tb 2 rfl ?_
      refine TQ_on rfl rfl (by decide) rfl (pur_sub rfl rfl rfl (fits64 (by omega) (by omega))) rfl ?_
      obtain ⟨v_9, h_10, H⟩ := bind_inv H
      obtain ⟨n_11, hz_12, hv_13⟩ := getI_inv h_10
      refine TQ_on rfl rfl (by decide) rfl (pur_ixT (T := tRelation) sl38 rfl rfl hz_12 hv_13 rfl) rfl ?_
      refine pq tb 1 rfl ?_
      refine TQ_on rfl rfl (by decide) rfl (pur_ldT (T := tRelation) (i := n_11) (off := 0) rfl one9 rfl rfl hv_13 rfl) rfl ?_
      refine pq tb 2 rfl ?_
      refine tqe [(0, (sl tRelation relations0)), (5, (sl tRelation relations0)), (6, (intA (relations0.length : Int))), (7, (intA (t_1 : Int))), (15, (boolA false)), (18, (boolA true)), (24, (strA v_9.name)), (26, (strA x_t_1.name))] rfl ?_
      refine TQ_on rfl rfl (by decide) rfl (pur_geqS rfl rfl rfl) rfl ?_
      refine pq tb 2 rfl ?_
      refine TQ_nil ?_
      exact joined (!ltS v_9.name x_t_1.name) (w0 0) (some_inj H).symm
     ·replace H := cond_f g_8 H
      refine pq tb 8 rfl ?_
      refine tqe [(0, (sl tRelation relations0)), (5, (sl tRelation relations0)), (6, (intA (relations0.length : Int))), (7, (intA (t_1 : Int))), (15, (boolA false)), (18, (boolA false)), (24, (.v undef)), (26, (.v undef))] rfl ?_
      refine pq tb 3 rfl ?_
      refine TQ_nil ?_
      exact joined false (w0 0) (some_inj H).symm
   ·rintro _ rfl
    replace H := H_4
    refine T_cond (t := t29_3) rfl (fun c_14 => ?_) (fun c_14 => ?_)
    ·replace H := cond_t c_14 H
     refine sr ?_
     refine pv tb 1 rfl ?_
     refine TO_nil ?_
     refine T_ret ?_
     refine block_ret ?_
     refine then_ret ?_
     refine then_ret ?_
     refine block_ret ?_
     refine then_ret ?_
     obtain rfl := some_inj H
     obtain rfl := some_inj K2_
     replace H := onS_r N2_
     obtain rfl := some_inj H
     refine end_ret (.tmp .nil) rfl rfl ⟨?_, rfl⟩
     rfl
    ·replace H := cond_f c_14 H
     refine T_skip ?_
     refine T_region ?_
     refine Tp rfl rfl (pur_add rfl rfl rfl (fits64 (by omega) (by omega))) rfl ?_
     refine pv tb 1 rfl ?_
     refine TO_nil ?_
     obtain rfl := some_inj H
     exact again (relations0.length - (t_1 + 1)) (t_1 + 1) (by omega) (w0 0) ⟨rfl, K2_⟩
  ·replace d2 := of_decide_eq_false d2
   obtain rfl := forL_end L2_ (by omega)
   refine T_exit ?_
   refine then_exit ?_
   refine then_exit ?_
   refine block_exit ?_
   replace H := onS_l N2_
   refine sr ?_
   refine pv tb 1 rfl ?_
   refine Tp rfl rfl (pur_lenT (T := tRelation) sl38 rfl rfl) rfl ?_
   refine pv tb 2 rfl ?_
   refine TO_nil ?_
   refine T_ret ?_
   obtain rfl := some_inj H
   refine end_ret (.tmp .nil) rfl rfl ⟨?_, rfl⟩
   rfl
end Go.Proofs.Ytmecnecfkgneoaa

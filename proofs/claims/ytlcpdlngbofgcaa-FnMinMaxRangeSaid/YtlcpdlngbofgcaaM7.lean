/- Walks. -/
import Derived.Test.YtlcpdlngbofgcaaM1
import Derived.Test.YtlcpdlngbofgcaaM5
import Derived.Test.YtlcpdlngbofgcaaM6
set_option linter.unusedVariables false
set_option linter.unusedSimpArgs false
set_option maxRecDepth 4000
namespace Go.Proofs.Ytlcpdlngbofgcaa
open Go Go.Proofs Go.Sep
set_option maxHeartbeats 1000000 in
/-- spec.l3Fact -/
theorem m_spec_l3Fact_x (u : Nat) (c0 : l1Cur) (l1 : (List Relation)) (val2 : Int) (r : (Fact × l1Cur)) (H : m_spec_l3Fact u c0 l1 val2 = some r) : FnS prg 128 [(.b 0 0), (sl tRelation l1), (intA val2)] [.box [(sl (tI .u8) c0.b), (intA c0.i), (intA c0.h)]] (.g [(intA r.1.relation), (.m [1] 0 r.1.values.length tInt.k)]) [.box [(sl (tI .u8) r.2.b), (intA r.2.i), (intA r.2.h)], .row (flat tInt.enc r.1.values)] := by
  unfold m_spec_l3Fact at H
  refine fnS_of_T Try.func128 rfl rfl (Nat.le_of_ble_eq_true rfl) ?_
  refine te [(0, (.b 0 0)), (1, (sl tRelation l1)), (2, (intA val2))] rfl ?_
  refine T_st (σ' := [.box [(sl (tI .u8) c0.b), (intA c0.i), (intA c0.h)]]) rfl ?_
  refine sr ?_
  refine TO_cons rfl (TOp_alloc zero60 rfl rfl ?_)
  refine TO_nil ?_
  refine te [(0, (.b 0 0)), (1, (sl tRelation l1)), (2, (intA val2)), (6, (.b 1 0))] rfl ?_
  refine sr ?_
  refine Tp rfl rfl (pur_move rfl) rfl ?_
  refine Tp rfl rfl (pur_move rfl) rfl ?_
  refine Tp rfl rfl (pur_lenT (T := tRelation) sl29 rfl rfl) rfl ?_
  obtain ⟨r_1, h_2, H⟩ := bind_inv H
  refine TO_cons rfl (TOp_callS [0] (call_static ent83 rfl) (by decide) rfl rfl rfl rfl rfl rfl (m_spec_l1Below_x _ _ _ h_2) rfl rfl ?_)
  refine toe [(0, (.b 0 0)), (1, (sl tRelation l1)), (2, (intA val2)), (6, (.b 1 0)), (8, (.b 0 0)), (9, (sl tRelation l1)), (10, (intA (l1.length : Int))), (11, (intA r_1.1))] rfl ?_
  refine TO_st (σ' := [.box [(sl (tI .u8) r_1.2.b), (intA r_1.2.i), (intA r_1.2.h)], .box [(intA 0), .n]]) rfl ?_
  refine Tp rfl rfl (pur_build bld60 rfl rfl) rfl ?_
  refine TO_cons rfl (TOp_alloc zero60 rfl rfl ?_)
  refine TO_cons rfl (TOp_storeB sz60 rfl rfl rfl rfl rfl rfl rfl (by decide) (lb rfl) rfl ?_)
  refine TO_st (σ' := [.box [(sl (tI .u8) r_1.2.b), (intA r_1.2.i), (intA r_1.2.h)], .box [(intA 0), .n], .box [(intA r_1.1), .n]]) rfl ?_
  refine TO_nil ?_
  refine te [(0, (.b 0 0)), (1, (sl tRelation l1)), (2, (intA val2)), (6, (.b 1 0)), (7, (.b 2 0))] rfl ?_
  refine T_row0 ?_
  refine T_boxle (xs := [(intA r_1.1), .n]) (ys := [(intA r_1.1), (.m [3] 0 ([] : (List Int)).length tInt.k)]) 2 rfl (leCons (leR rfl) (leCons leM leNil)) ?_
  refine T_st (σ' := [.box [(sl (tI .u8) r_1.2.b), (intA r_1.2.i), (intA r_1.2.h)], .box [(intA 0), .n], .box [(intA r_1.1), (.m [3] 0 ([] : (List Int)).length tInt.k)], .row (flat tInt.enc ([] : (List Int)))]) rfl ?_
  obtain ⟨O3_, L3_, N3_⟩ := bind_inv H
  clear H
  obtain ⟨B3_, hb3, L3_⟩ := gen_whileF L3_
  refine T_cutX (fun (x : l1Cur × (List Int)) => O3_ = .inl x) (fun (x_ : l1Cur × (List Int)) => [(6, (.b 1 0)), (7, (.b 2 0))]) (fun (x_ : l1Cur × (List Int)) => [.box [(sl (tI .u8) x_.1.b), (intA x_.1.i), (intA x_.1.h)], .box [(intA 0), .n], .box [(intA r_1.1), (.m [3] 0 x_.2.length tInt.k)], .row (flat tInt.enc x_.2)]) ?_ ?_
  ·skip
   refine T_block ?_
   refine T_loopX (fun k => fun (x_ : l1Cur × (List Int)) => whileF B3_ k (x_.1, x_.2) = some O3_) (fun (x_ : l1Cur × (List Int)) => [(0, (.b 0 0)), (1, (sl tRelation l1)), (2, (intA val2)), (6, (.b 1 0)), (7, (.b 2 0))]) (fun (x_ : l1Cur × (List Int)) => [.box [(sl (tI .u8) x_.1.b), (intA x_.1.i), (intA x_.1.h)], .box [(intA 0), .n], .box [(intA r_1.1), (.m [3] 0 x_.2.length tInt.k)], .row (flat tInt.enc x_.2)]) u (r_1.2, ([] : (List Int))) (wp 4 (lb rfl) rfl rfl rfl rfl rfl) L3_ ?_
   rintro _ ⟨box0, box2_values⟩ L3_
   obtain ⟨k3, rfl, C3_, H, K3_⟩ := while_step L3_
   rw [hb3] at H
   refine te [(0, (.b 0 0)), (1, (sl tRelation l1)), (2, (intA val2)), (6, (.b 1 0)), (7, (.b 2 0))] rfl ?_
   refine T_st (σ' := [.box [(sl (tI .u8) box0.b), (intA box0.i), (intA box0.h)], .box [(intA 0), .n], .box [(intA r_1.1), (.m [3] 0 box2_values.length tInt.k)], .row (flat tInt.enc box2_values)]) rfl ?_
   refine T_seq ?_
   refine T_seq ?_
   refine T_regionD mixed (by kernel_rfl) ?_
   refine TQ_pure rfl (pur_fa_b fld60_1 rfl rfl) rfl ?_
   refine TQ_pure rfl (pur_ld_b one33 rfl rfl rfl rfl) rfl ?_
   refine TQ_pure rfl (pur_len_m sl33 rfl rfl) rfl ?_
   refine TQ_pure rfl (pur_move rfl) rfl ?_
   refine TQ_pure rfl (pur_fa_b fld60_0 rfl rfl) rfl ?_
   refine TQ_pure rfl (pur_ld_b one3 rfl rfl rfl rfl) rfl ?_
   obtain ⟨v_4, h_5, H⟩ := bind_inv H
   obtain ⟨n_6, hz_7, hv_8⟩ := getI_inv h_5
   refine TQ_pure rfl (pur_ixT (T := tRelation) sl29 rfl rfl hz_7 hv_8 rfl) rfl ?_
   refine TQ_pure rfl (pur_fa_q fld97_1 rfl rfl) rfl ?_
   refine TQ_pure rfl (pur_ldT (T := tRelation) (i := n_6) (off := 1) rfl one3 rfl rfl hv_8 rfl) rfl ?_
   refine TQ_pure rfl (pur_lss rfl rfl rfl) rfl ?_
   refine TQ_nil ?_
   refine te [(0, (.b 0 0)), (1, (sl tRelation l1)), (2, (intA val2)), (6, (.b 1 0)), (7, (.b 2 0)), (22, (boolA (decide ((box2_values.length : Int) < v_4.arity))))] rfl ?_
   refine T_cond (t := decide ((box2_values.length : Int) < v_4.arity)) rfl (fun c_9 => ?_) (fun c_9 => ?_)
   ·replace H := cond_t c_9 H
    refine T_skip ?_
    refine te [(0, (.b 0 0)), (1, (sl tRelation l1)), (2, (intA val2)), (6, (.b 1 0)), (7, (.b 2 0))] rfl ?_
    refine T_block ?_
    obtain ⟨r_10, h_11, H⟩ := bind_inv H
    obtain ⟨us_12, h_13, H⟩ := bind_inv H
    refine T_pad ?_
    refine T_regionP mixed ?_
    refine TA_have 3 #[true, true, true, true, true, true, false, false, false] [(0, (.b 0 0)), (1, (sl tRelation l1)), (2, (intA val2)), (6, (.b 1 0)), (7, (.b 2 0)), (24, (.m [3] 0 box2_values.length tInt.k)), (28, (.m [4] 0 ([r_10.1] : (List Int)).length tInt.k))] [.box [(sl (tI .u8) r_10.2.b), (intA r_10.2.i), (intA r_10.2.h)], .box [(intA 0), .n], .box [(intA r_1.1), (.m [3] 0 box2_values.length tInt.k)], .row (flat tInt.enc box2_values), .row (flat tInt.enc ([r_10.1] : (List Int)))] ?_ (fun hj0_3 => ?_)
    ·skip
     refine t1 6 (by kernel_rfl) rfl rfl (TOp_appY (T := tInt) (f := tInt.enc) (xs := box2_values) (ys := ([r_10.1] : (List Int))) tInt.len sl33 zero3 rfl bytes3 (by decide) rfl rfl rfl rfl (src_mT (f := tInt.enc) tInt.len rfl rfl (flat_cell tInt _)) (flat_cell tInt _) h_13 ?_)
     refine tmv 3 5 (by decide) (lb rfl) rfl rfl (lb rfl) ?_
     refine tf 7 rfl (purI_fa_b fld60_1 rfl rfl) rfl rfl (by kernel_rfl) ?_
     refine t1 8 (by kernel_rfl) rfl rfl (TOp_storeB sz33 rfl rfl rfl rfl rfl rfl rfl (by decide) (lb rfl) rfl ?_)
     refine TA_st (σ' := [.box [(sl (tI .u8) r_10.2.b), (intA r_10.2.i), (intA r_10.2.h)], .box [(intA 0), .n], .box [(intA r_1.1), (.m [3] 0 us_12.length tInt.k)], .row (flat tInt.enc us_12), .row (flat tInt.enc ([r_10.1] : (List Int))), .dead]) rfl ?_
     refine TA_nil (by kernel_rfl) ?_
     obtain rfl := some_inj H
     exact again k3 (r_10.2, us_12) (Nat.lt_succ_self _) (wp 4 (lb rfl) rfl rfl rfl rfl rfl) K3_
    refine TA_have 4 #[true, true, true, true, true, false, false, false, false] [(0, (.b 0 0)), (1, (sl tRelation l1)), (2, (intA val2)), (6, (.b 1 0)), (7, (.b 2 0)), (24, (.m [3] 0 box2_values.length tInt.k)), (27, (intA r_10.1))] [.box [(sl (tI .u8) r_10.2.b), (intA r_10.2.i), (intA r_10.2.h)], .box [(intA 0), .n], .box [(intA r_1.1), (.m [3] 0 box2_values.length tInt.k)], .row (flat tInt.enc box2_values), .dead] ?_ (fun hj1_3 => ?_)
    ·skip
     refine t1 5 (by kernel_rfl) rfl rfl (TOp_lit (nn := 1) (k := 1) sl33 zero3 rfl rfl rfl rfl (by decide) ?_)
     refine tmv 4 5 (by decide) (lb rfl) rfl rfl (lb rfl) ?_
     exact tj hj0_3 rfl (wp 5 (lb rfl) rfl rfl rfl rfl rfl)
    refine tf 0 rfl (purI_fa_b fld60_1 rfl rfl) rfl rfl (by kernel_rfl) ?_
    refine tf 2 rfl (purI_move rfl) rfl rfl (by kernel_rfl) ?_
    refine tf 3 rfl (purI_move rfl) rfl rfl (by kernel_rfl) ?_
    refine TA_all [1, 4] (by kernel_rfl) (by decide) ⟨?_, ?_, trivial⟩
    ·skip
     refine ⟨_, rfl, rfl, (TOp_pure (pur_ld_b one33 rfl rfl rfl rfl) rfl ?_)⟩
     refine t1 4 (by kernel_rfl) rfl rfl (TOp_callS [0] (call_static ent83 rfl) (by decide) rfl rfl rfl rfl rfl rfl (m_spec_l1Below_x _ _ _ h_11) rfl rfl ?_)
     refine tae [(0, (.b 0 0)), (1, (sl tRelation l1)), (2, (intA val2)), (6, (.b 1 0)), (7, (.b 2 0)), (23, (.b 2 1)), (24, (.m [3] 0 box2_values.length tInt.k)), (25, (.b 0 0)), (26, (intA val2)), (27, (intA r_10.1))] rfl ?_
     refine TA_st (σ' := [.box [(sl (tI .u8) r_10.2.b), (intA r_10.2.i), (intA r_10.2.h)], .box [(intA 0), .n], .box [(intA r_1.1), (.m [3] 0 box2_values.length tInt.k)], .row (flat tInt.enc box2_values), .dead]) rfl ?_
     exact tj hj1_3 rfl (wp 5 (lb rfl) rfl rfl rfl rfl rfl)
    ·skip
     refine ⟨_, rfl, rfl, (TOp_callS [0] (call_static ent83 rfl) (by decide) rfl rfl rfl rfl rfl rfl (m_spec_l1Below_x _ _ _ h_11) rfl rfl ?_)⟩
     refine tae [(0, (.b 0 0)), (1, (sl tRelation l1)), (2, (intA val2)), (6, (.b 1 0)), (7, (.b 2 0)), (23, (.b 2 1)), (25, (.b 0 0)), (26, (intA val2)), (27, (intA r_10.1))] rfl ?_
     refine TA_st (σ' := [.box [(sl (tI .u8) r_10.2.b), (intA r_10.2.i), (intA r_10.2.h)], .box [(intA 0), .n], .box [(intA r_1.1), (.m [3] 0 box2_values.length tInt.k)], .row (flat tInt.enc box2_values), .dead]) rfl ?_
     refine TA_all [1, 5] (by kernel_rfl) (by decide) ⟨?_, ?_, trivial⟩
     ·skip
      refine ⟨_, rfl, rfl, (TOp_pure (pur_ld_b one33 rfl rfl rfl rfl) rfl ?_)⟩
      exact tj hj1_3 rfl (wp 5 (lb rfl) rfl rfl rfl rfl rfl)
     ·skip
      refine ⟨_, rfl, rfl, (TOp_lit (nn := 1) (k := 1) sl33 zero3 rfl rfl rfl rfl (by decide) ?_)⟩
      refine tmv 4 5 (by decide) (lb rfl) rfl rfl (lb rfl) ?_
      refine t1 1 (by kernel_rfl) rfl rfl (TOp_pure (pur_ld_b one33 rfl rfl rfl rfl) rfl ?_)
      exact tj hj0_3 rfl (wp 5 (lb rfl) rfl rfl rfl rfl rfl)
   ·replace H := cond_f c_9 H
    refine T_exit ?_
    refine then_exit ?_
    refine then_exit ?_
    refine block_exit ?_
    obtain rfl := some_inj H
    obtain rfl := some_inj K3_
    exact joined (box0, box2_values) (wp 4 (lb rfl) rfl rfl rfl rfl rfl) rfl
  ·rintro ⟨box0, box2_values⟩ rfl
   replace H := onS_l N3_
   refine te [(6, (.b 1 0)), (7, (.b 2 0))] rfl ?_
   refine sr ?_
   refine Tp rfl rfl (pur_ldK_b agg60 rfl rfl (lb rfl) rfl) rfl ?_
   refine TO_cons rfl (TOp_storeB sz60 rfl rfl rfl rfl rfl rfl rfl (by decide) (lb rfl) rfl ?_)
   refine TO_st (σ' := [.box [(sl (tI .u8) box0.b), (intA box0.i), (intA box0.h)], .box [(intA r_1.1), (.m [3] 0 box2_values.length tInt.k)], .box [(intA r_1.1), (.m [3] 0 box2_values.length tInt.k)], .row (flat tInt.enc box2_values)]) rfl ?_
   refine TO_nil ?_
   refine te [(6, (.b 1 0))] rfl ?_
   refine T_ret ?_
   obtain rfl := some_inj H
   exact end_pickX (.cellK rfl agg60 rfl (lb rfl) .nil) rfl [0, 3] (by decide) (lb rfl) rfl (lb rfl) rfl rfl rfl rfl rfl rfl

set_option maxHeartbeats 1000000 in
/-- spec.l4Db -/
theorem m_spec_l4Db_x (u : Nat) (c0 : l1Cur) (r : (Database × l1Cur)) (H : m_spec_l4Db u c0 = some r) : FnS prg 110 [(.b 0 0)] [.box [(sl (tI .u8) c0.b), (intA c0.i), (intA c0.h)]] (.g [(.m [1] 0 r.1.relations.length tRelation.k), (.m [2] 0 r.1.facts.length tFact.k)]) [.box [(sl (tI .u8) r.2.b), (intA r.2.i), (intA r.2.h)], .row (flat tRelation.enc r.1.relations), .row (flat tFact.enc r.1.facts)] := by
  unfold m_spec_l4Db at H
  refine fnS_of_T Try.func110 rfl rfl (Nat.le_of_ble_eq_true rfl) ?_
  refine te [(0, (.b 0 0))] rfl ?_
  refine T_st (σ' := [.box [(sl (tI .u8) c0.b), (intA c0.i), (intA c0.h)]]) rfl ?_
  refine sr ?_
  refine TO_cons rfl (TOp_alloc zero32 rfl rfl ?_)
  refine TO_nil ?_
  refine te [(0, (.b 0 0)), (2, (.b 1 0))] rfl ?_
  refine sr ?_
  refine Tp rfl rfl (pur_move rfl) rfl ?_
  obtain ⟨r_1, h_2, H⟩ := bind_inv H
  refine TO_cons rfl (TOp_callS [0] (call_static ent126 rfl) (by decide) rfl rfl rfl rfl rfl rfl (m_spec_l2Sigs_x _ _ h_2) rfl rfl ?_)
  refine toe [(0, (.b 0 0)), (2, (.b 1 0)), (6, (.b 0 0)), (7, (.m [2] 0 r_1.1.length tRelation.k))] rfl ?_
  refine TO_st (σ' := [.box [(sl (tI .u8) r_1.2.b), (intA r_1.2.i), (intA r_1.2.h)], .box [.n, .n], .row (flat tRelation.enc r_1.1)]) rfl ?_
  refine Tp rfl rfl (pur_build bld32 rfl rfl) rfl ?_
  refine TO_cons rfl (TOp_alloc zero32 rfl rfl ?_)
  refine TO_cons rfl (TOp_storeB sz32 rfl rfl rfl rfl rfl rfl rfl (by decide) (lb rfl) rfl ?_)
  refine TO_st (σ' := [.box [(sl (tI .u8) r_1.2.b), (intA r_1.2.i), (intA r_1.2.h)], .box [.n, .n], .row (flat tRelation.enc r_1.1), .box [(.m [2] 0 r_1.1.length tRelation.k), .n]]) rfl ?_
  refine TO_nil ?_
  refine te [(0, (.b 0 0)), (2, (.b 1 0)), (3, (.b 3 0))] rfl ?_
  refine sr ?_
  refine Tp rfl rfl (pur_move rfl) rfl ?_
  refine TO_cons rfl (TOp_lit (nn := 4) (k := 1) sl33 zero3 rfl rfl rfl rfl (by decide) ?_)
  refine TO_st (σ' := [.box [(sl (tI .u8) r_1.2.b), (intA r_1.2.i), (intA r_1.2.h)], .box [.n, .n], .row (flat tRelation.enc r_1.1), .box [(.m [2] 0 r_1.1.length tRelation.k), .n], .row (flat tInt.enc ([2, 2, 3, 3] : (List Int)))]) rfl ?_
  refine TO_frz1 4 (E' := [(0, (.b 0 0)), (2, (.b 1 0)), (3, (.b 3 0)), (9, (.b 0 0)), (10, (sl tInt ([2, 2, 3, 3] : (List Int))))]) rfl rfl (lb rfl) ⟨(.keep rfl), (.keep rfl), (.keep rfl), (.keep rfl), fz1E, trivial⟩ ?_
  refine TO_st (σ' := [.box [(sl (tI .u8) r_1.2.b), (intA r_1.2.i), (intA r_1.2.h)], .box [.n, .n], .row (flat tRelation.enc r_1.1), .box [(.m [2] 0 r_1.1.length tRelation.k), .n], .dead]) rfl ?_
  obtain ⟨r_3, h_4, H⟩ := bind_inv H
  refine TO_cons rfl (TOp_callS [0] (call_static ent88 rfl) (by decide) rfl rfl rfl rfl rfl rfl (m_spec_l1PickInt_x _ _ _ h_4) rfl rfl ?_)
  refine toe [(0, (.b 0 0)), (2, (.b 1 0)), (3, (.b 3 0)), (9, (.b 0 0)), (10, (sl tInt ([2, 2, 3, 3] : (List Int)))), (11, (intA r_3.1))] rfl ?_
  refine TO_st (σ' := [.box [(sl (tI .u8) r_3.2.b), (intA r_3.2.i), (intA r_3.2.h)], .box [.n, .n], .row (flat tRelation.enc r_1.1), .box [(.m [2] 0 r_1.1.length tRelation.k), .n], .dead]) rfl ?_
  refine Tp rfl rfl (pur_assign rfl) rfl ?_
  refine TO_nil ?_
  refine te [(0, (.b 0 0)), (2, (.b 1 0)), (3, (.b 3 0)), (4, (intA r_3.1))] rfl ?_
  refine T_seq ?_
  refine sr ?_
  refine Tp rfl rfl (pur_move rfl) rfl ?_
  obtain ⟨r_5, h_6, H⟩ := bind_inv H
  refine TO_cons rfl (TOp_callS [0] (call_static ent83 rfl) (by decide) rfl rfl rfl rfl rfl rfl (m_spec_l1Below_x _ _ _ h_6) rfl rfl ?_)
  refine toe [(0, (.b 0 0)), (2, (.b 1 0)), (3, (.b 3 0)), (4, (intA r_3.1)), (12, (.b 0 0)), (13, (intA r_5.1))] rfl ?_
  refine TO_st (σ' := [.box [(sl (tI .u8) r_5.2.b), (intA r_5.2.i), (intA r_5.2.h)], .box [.n, .n], .row (flat tRelation.enc r_1.1), .box [(.m [2] 0 r_1.1.length tRelation.k), .n], .dead]) rfl ?_
  refine Tp rfl rfl (pur_wadd rfl rfl rfl) rfl ?_
  refine Tp rfl rfl (pur_assign rfl) rfl ?_
  refine TO_nil ?_
  refine te [(0, (.b 0 0)), (2, (.b 1 0)), (3, (.b 3 0)), (4, (intA r_3.1)), (5, (intA (w64 (2 + r_5.1))))] rfl ?_
  refine T_row0 ?_
  refine T_boxle (xs := [(.m [2] 0 r_1.1.length tRelation.k), .n]) (ys := [(.m [2] 0 r_1.1.length tRelation.k), (.m [5] 0 ([] : (List Fact)).length tFact.k)]) 3 rfl (leCons (leR rfl) (leCons leM leNil)) ?_
  refine T_st (σ' := [.box [(sl (tI .u8) r_5.2.b), (intA r_5.2.i), (intA r_5.2.h)], .box [.n, .n], .row (flat tRelation.enc r_1.1), .box [(.m [2] 0 r_1.1.length tRelation.k), (.m [5] 0 ([] : (List Fact)).length tFact.k)], .dead, .row (flat tFact.enc ([] : (List Fact)))]) rfl ?_
  obtain ⟨O7_, L7_, N7_⟩ := bind_inv H
  clear H
  obtain ⟨B7_, hb7, L7_⟩ := gen_whileF L7_
  refine T_block ?_
  refine T_loopX (fun k => fun (x_ : Int × l1Cur × (List Relation) × (List Fact)) => whileF B7_ k (x_.1, x_.2.1, x_.2.2.1, x_.2.2.2) = some O7_) (fun (x_ : Int × l1Cur × (List Relation) × (List Fact)) => [(0, (.b 0 0)), (2, (.b 1 0)), (3, (.b 3 0)), (4, (intA r_3.1)), (5, (intA x_.1))]) (fun (x_ : Int × l1Cur × (List Relation) × (List Fact)) => [.box [(sl (tI .u8) x_.2.1.b), (intA x_.2.1.i), (intA x_.2.1.h)], .box [.n, .n], .row (flat tRelation.enc x_.2.2.1), .box [(.m [2] 0 x_.2.2.1.length tRelation.k), (.m [5] 0 x_.2.2.2.length tFact.k)], .dead, .row (flat tFact.enc x_.2.2.2)]) u ((w64 (2 + r_5.1)), r_5.2, r_1.1, ([] : (List Fact))) (wp 6 (lb rfl) rfl rfl rfl rfl rfl) L7_ ?_
  rintro _ ⟨n5, box0, box3_relations, box3_facts⟩ L7_
  obtain ⟨k7, rfl, C7_, H, K7_⟩ := while_step L7_
  rw [hb7] at H
  refine te [(0, (.b 0 0)), (2, (.b 1 0)), (3, (.b 3 0)), (4, (intA r_3.1)), (5, (intA n5))] rfl ?_
  refine T_st (σ' := [.box [(sl (tI .u8) box0.b), (intA box0.i), (intA box0.h)], .box [.n, .n], .row (flat tRelation.enc box3_relations), .box [(.m [2] 0 box3_relations.length tRelation.k), (.m [5] 0 box3_facts.length tFact.k)], .dead, .row (flat tFact.enc box3_facts)]) rfl ?_
  refine T_seq ?_
  refine sr ?_
  refine Tp rfl rfl (pur_move rfl) rfl ?_
  refine Tp rfl rfl (pur_gtr rfl rfl rfl) rfl ?_
  refine TO_nil ?_
  refine te [(0, (.b 0 0)), (2, (.b 1 0)), (3, (.b 3 0)), (4, (intA r_3.1)), (5, (intA n5)), (16, (boolA (decide (0 < n5))))] rfl ?_
  refine T_cond (t := decide (0 < n5)) rfl (fun c_8 => ?_) (fun c_8 => ?_)
  ·replace H := cond_t c_8 H
   refine T_skip ?_
   refine te [(0, (.b 0 0)), (2, (.b 1 0)), (3, (.b 3 0)), (4, (intA r_3.1)), (5, (intA n5))] rfl ?_
   refine T_seq ?_
   refine T_block ?_
   obtain ⟨r_9, h_10, H⟩ := bind_inv H
   obtain ⟨r_11, h_12, H⟩ := bind_inv H
   refine T_pad ?_
   refine T_pad ?_
   refine T_pad ?_
   refine T_pad ?_
   refine T_pad ?_
   refine T_regionP mixed ?_
   refine TA_have 5 #[true, true, true, true, true, true, false, false, false, false, false] [(0, (.b 0 0)), (2, (.b 1 0)), (3, (.b 3 0)), (4, (intA r_3.1)), (5, (intA n5)), (20, (.g [(sl tRelation box3_relations), (sl tFact box3_facts)])), (25, (.g [(intA r_9.1.relation), (sl tInt r_9.1.values)]))] [.box [(sl (tI .u8) r_9.2.b), (intA r_9.2.i), (intA r_9.2.h)], .box [.n, .n], .dead, .box [(sl tRelation box3_relations), (sl tFact box3_facts)], .dead, .dead, .dead, .dead, .dead, .dead, .dead] ?_ (fun hj0_6 => ?_)
   ·skip
    refine t1 6 (by kernel_rfl) rfl rfl (TOp_callO (call_static ent127 rfl) rfl (m_spec_InsertFact_own u _ _ _ h_12) rfl rfl rfl ?_)
    refine tae [(0, (.b 0 0)), (2, (.b 1 0)), (3, (.b 3 0)), (4, (intA r_3.1)), (5, (intA n5)), (20, (.g [(sl tRelation box3_relations), (sl tFact box3_facts)])), (25, (.g [(intA r_9.1.relation), (sl tInt r_9.1.values)])), (26, (.t [(.g [(.m [11] 0 r_11.1.relations.length tRelation.k), (.m [12] 0 r_11.1.facts.length tFact.k)]), (boolA r_11.2)]))] rfl ?_
    refine TA_st (σ' := [.box [(sl (tI .u8) r_9.2.b), (intA r_9.2.i), (intA r_9.2.h)], .box [.n, .n], .dead, .box [(sl tRelation box3_relations), (sl tFact box3_facts)], .dead, .dead, .dead, .dead, .dead, .dead, .dead, .row (flat tRelation.enc r_11.1.relations), .row (flat tFact.enc r_11.1.facts)]) rfl ?_
    refine tmv 9 11 (by decide) (lb rfl) rfl rfl (lb rfl) ?_
    refine tmv 10 12 (by decide) (lb rfl) rfl rfl (lb rfl) ?_
    refine tf 7 rfl (purI_move rfl) rfl rfl (by kernel_rfl) ?_
    refine tf 8 rfl (purI_extract rfl rfl rfl) rfl rfl (by kernel_rfl) ?_
    refine tf 9 rfl (purI_extract rfl rfl rfl) rfl rfl (by kernel_rfl) ?_
    refine t1 10 (by kernel_rfl) rfl rfl (TOp_storeB sz32 rfl rfl rfl rfl rfl rfl rfl (by decide) (lb rfl) rfl ?_)
    refine TA_st (σ' := [.box [(sl (tI .u8) r_9.2.b), (intA r_9.2.i), (intA r_9.2.h)], .box [.n, .n], .dead, .box [(.m [9] 0 r_11.1.relations.length tRelation.k), (.m [10] 0 r_11.1.facts.length tFact.k)], .dead, .dead, .dead, .dead, .dead, .row (flat tRelation.enc r_11.1.relations), .row (flat tFact.enc r_11.1.facts), .dead, .dead]) rfl ?_
    refine TA_ghost (E' := [(0, (.b 0 0)), (2, (.b 1 0)), (3, (.b 3 0)), (4, (intA r_3.1)), (5, (intA n5))]) (σ' := [.box [(sl (tI .u8) r_9.2.b), (intA r_9.2.i), (intA r_9.2.h)], .box [.n, .n], .dead, .box [(.m [6] 0 r_11.1.relations.length tRelation.k), (.m [10] 0 r_11.1.facts.length tFact.k)], .dead, .dead, .row (flat tRelation.enc r_11.1.relations), .dead, .dead, .dead, .row (flat tFact.enc r_11.1.facts), .dead, .dead]) (Ghost.move 6 9 (by decide) (lb rfl) rfl rfl (lb rfl) (Ghost.weak (WeakL.to 13 (lb rfl) rfl rfl rfl rfl ⟨leR rfl, leR rfl, leR rfl, leR rfl, leR rfl, trivial⟩))) ?_
    refine TA_ghost (E' := [(0, (.b 0 0)), (2, (.b 1 0)), (3, (.b 3 0)), (4, (intA r_3.1)), (5, (intA n5))]) (σ' := [.box [(sl (tI .u8) r_9.2.b), (intA r_9.2.i), (intA r_9.2.h)], .box [.n, .n], .dead, .box [(.m [6] 0 r_11.1.relations.length tRelation.k), (.m [7] 0 r_11.1.facts.length tFact.k)], .dead, .dead, .row (flat tRelation.enc r_11.1.relations), .row (flat tFact.enc r_11.1.facts), .dead, .dead, .dead, .dead, .dead]) (Ghost.move 7 10 (by decide) (lb rfl) rfl rfl (lb rfl) (Ghost.weak (WeakL.to 13 (lb rfl) rfl rfl rfl rfl ⟨leR rfl, leR rfl, leR rfl, leR rfl, leR rfl, trivial⟩))) ?_
    refine TA_nil (by kernel_rfl) ?_
    refine te [(0, (.b 0 0)), (2, (.b 1 0)), (3, (.b 3 0)), (4, (intA r_3.1)), (5, (intA n5))] rfl ?_
    refine T_move' 2 6 (by decide) (lb rfl) rfl rfl (lb rfl) ?_
    refine te [(0, (.b 0 0)), (2, (.b 1 0)), (3, (.b 3 0)), (4, (intA r_3.1)), (5, (intA n5))] rfl ?_
    refine T_st (σ' := [.box [(sl (tI .u8) r_9.2.b), (intA r_9.2.i), (intA r_9.2.h)], .box [.n, .n], .row (flat tRelation.enc r_11.1.relations), .box [(.m [2] 0 r_11.1.relations.length tRelation.k), (.m [7] 0 r_11.1.facts.length tFact.k)], .dead, .dead, .dead, .row (flat tFact.enc r_11.1.facts), .dead, .dead, .dead, .dead, .dead]) rfl ?_
    refine T_move' 5 7 (by decide) (lb rfl) rfl rfl (lb rfl) ?_
    refine te [(0, (.b 0 0)), (2, (.b 1 0)), (3, (.b 3 0)), (4, (intA r_3.1)), (5, (intA n5))] rfl ?_
    refine T_st (σ' := [.box [(sl (tI .u8) r_9.2.b), (intA r_9.2.i), (intA r_9.2.h)], .box [.n, .n], .row (flat tRelation.enc r_11.1.relations), .box [(.m [2] 0 r_11.1.relations.length tRelation.k), (.m [5] 0 r_11.1.facts.length tFact.k)], .dead, .row (flat tFact.enc r_11.1.facts), .dead, .dead, .dead, .dead, .dead, .dead, .dead]) rfl ?_
    refine T_region ?_
    refine Tp rfl rfl (pur_move rfl) rfl ?_
    refine Tp rfl rfl (pur_wsub rfl rfl rfl) rfl ?_
    refine Tp rfl rfl (pur_assign rfl) rfl ?_
    refine TO_nil ?_
    obtain rfl := some_inj H
    exact again k7 ((w64 (n5 - 1)), r_9.2, r_11.1.relations, r_11.1.facts) (Nat.lt_succ_self _) (wp 6 (lb rfl) rfl rfl rfl rfl rfl) K7_
   refine TA_have 6 #[true, true, true, true, true, false, false, false, false, false, false] [(0, (.b 0 0)), (2, (.b 1 0)), (3, (.b 3 0)), (4, (intA r_3.1)), (5, (intA n5)), (20, (.g [(sl tRelation box3_relations), (.m [5] 0 box3_facts.length tFact.k)])), (21, (.b 0 0)), (23, (sl tRelation box3_relations)), (24, (intA r_3.1))] [.box [(sl (tI .u8) box0.b), (intA box0.i), (intA box0.h)], .box [.n, .n], .dead, .box [(sl tRelation box3_relations), (.m [5] 0 box3_facts.length tFact.k)], .dead, .row (flat tFact.enc box3_facts), .dead, .dead, .dead, .dead, .dead] ?_ (fun hj1_6 => ?_)
   ·skip
    refine t1 5 (by kernel_rfl) rfl rfl (TOp_callS [0] (call_static ent128 rfl) (by decide) rfl rfl rfl rfl rfl rfl (m_spec_l3Fact_x u _ _ _ _ h_10) rfl rfl ?_)
    refine tae [(0, (.b 0 0)), (2, (.b 1 0)), (3, (.b 3 0)), (4, (intA r_3.1)), (5, (intA n5)), (20, (.g [(sl tRelation box3_relations), (.m [5] 0 box3_facts.length tFact.k)])), (21, (.b 0 0)), (23, (sl tRelation box3_relations)), (24, (intA r_3.1)), (25, (.g [(intA r_9.1.relation), (.m [11] 0 r_9.1.values.length tInt.k)]))] rfl ?_
    refine TA_st (σ' := [.box [(sl (tI .u8) r_9.2.b), (intA r_9.2.i), (intA r_9.2.h)], .box [.n, .n], .dead, .box [(sl tRelation box3_relations), (.m [5] 0 box3_facts.length tFact.k)], .dead, .row (flat tFact.enc box3_facts), .dead, .dead, .dead, .dead, .dead, .row (flat tInt.enc r_9.1.values)]) rfl ?_
    refine tmv 8 11 (by decide) (lb rfl) rfl rfl (lb rfl) ?_
    refine TA_ghost (E' := [(0, (.b 0 0)), (2, (.b 1 0)), (3, (.b 3 0)), (4, (intA r_3.1)), (5, (intA n5)), (20, (.g [(sl tRelation box3_relations), (.m [5] 0 box3_facts.length tFact.k)])), (21, (.b 0 0)), (23, (sl tRelation box3_relations)), (24, (intA r_3.1)), (25, (.g [(intA r_9.1.relation), (.m [8] 0 r_9.1.values.length tInt.k)]))]) (σ' := [.box [(sl (tI .u8) r_9.2.b), (intA r_9.2.i), (intA r_9.2.h)], .box [.n, .n], .dead, .box [(sl tRelation box3_relations), (.m [5] 0 box3_facts.length tFact.k)], .dead, .row (flat tFact.enc box3_facts), .dead, .dead, .row (flat tInt.enc r_9.1.values), .dead, .dead, .dead]) (Ghost.weak (WeakL.to 12 (lb rfl) rfl rfl rfl rfl ⟨leR rfl, leR rfl, leR rfl, leR rfl, leR rfl, leR rfl, leR rfl, leR rfl, leR rfl, leR rfl, trivial⟩)) ?_
    refine TA_frzB 5 (E' := [(0, (.b 0 0)), (2, (.b 1 0)), (3, (.b 3 0)), (4, (intA r_3.1)), (5, (intA n5)), (20, (.g [(sl tRelation box3_relations), (sl tFact box3_facts)])), (21, (.b 0 0)), (23, (sl tRelation box3_relations)), (24, (intA r_3.1)), (25, (.g [(intA r_9.1.relation), (.m [8] 0 r_9.1.values.length tInt.k)]))]) (σ' := [.box [(sl (tI .u8) r_9.2.b), (intA r_9.2.i), (intA r_9.2.h)], .box [.n, .n], .dead, .box [(sl tRelation box3_relations), (sl tFact box3_facts)], .dead, .dead, .dead, .dead, .row (flat tInt.enc r_9.1.values), .dead, .dead, .dead]) rfl (lb rfl) ?_ ?_ ?_
    ·exact ⟨(.keep rfl), (.keep rfl), (.keep rfl), (.keep rfl), (.keep rfl), (fz1G (fzC (.keep rfl) (fzC fz1E fzN))), (.keep rfl), (.keep rfl), (.keep rfl), (.keep rfl), trivial⟩
    ·exact ⟨(fzK rfl), (fzK rfl), trivial, (fzC (.keep rfl) (fzC fz1E fzN)), trivial, trivial, trivial, trivial, rfl, trivial, trivial, trivial, trivial⟩
    refine TA_ghost (E' := [(0, (.b 0 0)), (2, (.b 1 0)), (3, (.b 3 0)), (4, (intA r_3.1)), (5, (intA n5)), (20, (.g [(sl tRelation box3_relations), (sl tFact box3_facts)])), (21, (.b 0 0)), (23, (sl tRelation box3_relations)), (24, (intA r_3.1)), (25, (.g [(intA r_9.1.relation), (.m [8] 0 r_9.1.values.length tInt.k)]))]) (σ' := [.box [(sl (tI .u8) r_9.2.b), (intA r_9.2.i), (intA r_9.2.h)], .box [.n, .n], .dead, .box [(sl tRelation box3_relations), (sl tFact box3_facts)], .dead, .dead, .dead, .dead, .row (flat tInt.enc r_9.1.values), .dead, .dead, .dead]) (Ghost.weak (WeakL.to 12 (lb rfl) rfl rfl rfl rfl ⟨leR rfl, leR rfl, leR rfl, leR rfl, leR rfl, leR rfl, leR rfl, leR rfl, leR rfl, leR rfl, trivial⟩)) ?_
    refine TA_frz1 8 (E' := [(0, (.b 0 0)), (2, (.b 1 0)), (3, (.b 3 0)), (4, (intA r_3.1)), (5, (intA n5)), (20, (.g [(sl tRelation box3_relations), (sl tFact box3_facts)])), (21, (.b 0 0)), (23, (sl tRelation box3_relations)), (24, (intA r_3.1)), (25, (.g [(intA r_9.1.relation), (sl tInt r_9.1.values)]))]) rfl rfl (lb rfl) ?_ ?_
    ·exact ⟨(.keep rfl), (.keep rfl), (.keep rfl), (.keep rfl), (.keep rfl), (.keep rfl), (.keep rfl), (.keep rfl), (.keep rfl), (fz1G (fzC (.keep rfl) (fzC fz1E fzN))), trivial⟩
    refine TA_st (σ' := [.box [(sl (tI .u8) r_9.2.b), (intA r_9.2.i), (intA r_9.2.h)], .box [.n, .n], .dead, .box [(sl tRelation box3_relations), (sl tFact box3_facts)], .dead, .dead, .dead, .dead, .dead, .dead, .dead, .dead]) rfl ?_
    exact tj hj0_6 rfl (wp 11 (lb rfl) rfl rfl rfl rfl rfl)
   refine tf 1 rfl (purI_move rfl) rfl rfl (by kernel_rfl) ?_
   refine tf 2 rfl (purI_fa_b fld32_0 rfl rfl) rfl rfl (by kernel_rfl) ?_
   refine tf 4 rfl (purI_move rfl) rfl rfl (by kernel_rfl) ?_
   refine TA_all [0, 3] (by kernel_rfl) (by decide) ⟨?_, ?_, trivial⟩
   ·skip
    refine ⟨_, rfl, rfl, (TOp_pure (pur_ldK_b agg32 rfl rfl (lb rfl) rfl) rfl ?_)⟩
    refine t1 3 (by kernel_rfl) rfl rfl (TOp_pure (pur_ld_b one29 rfl rfl rfl rfl) rfl ?_)
    refine TA_ghost (E' := [(0, (.b 0 0)), (2, (.b 1 0)), (3, (.b 3 0)), (4, (intA r_3.1)), (5, (intA n5)), (20, (.g [(.m [2] 0 box3_relations.length tRelation.k), (.m [5] 0 box3_facts.length tFact.k)])), (21, (.b 0 0)), (22, (.b 3 0)), (23, (.m [2] 0 box3_relations.length tRelation.k)), (24, (intA r_3.1))]) (σ' := [.box [(sl (tI .u8) box0.b), (intA box0.i), (intA box0.h)], .box [.n, .n], .row (flat tRelation.enc box3_relations), .box [(.m [2] 0 box3_relations.length tRelation.k), (.m [5] 0 box3_facts.length tFact.k)], .dead, .row (flat tFact.enc box3_facts), .dead, .dead, .dead, .dead, .dead]) (Ghost.weak (WeakL.to 11 (lb rfl) rfl rfl rfl rfl ⟨leR rfl, leR rfl, leR rfl, leR rfl, leR rfl, leR rfl, leR rfl, leR rfl, leR rfl, leR rfl, trivial⟩)) ?_
    refine TA_frzB 2 (E' := [(0, (.b 0 0)), (2, (.b 1 0)), (3, (.b 3 0)), (4, (intA r_3.1)), (5, (intA n5)), (20, (.g [(sl tRelation box3_relations), (.m [5] 0 box3_facts.length tFact.k)])), (21, (.b 0 0)), (22, (.b 3 0)), (23, (sl tRelation box3_relations)), (24, (intA r_3.1))]) (σ' := [.box [(sl (tI .u8) box0.b), (intA box0.i), (intA box0.h)], .box [.n, .n], .dead, .box [(sl tRelation box3_relations), (.m [5] 0 box3_facts.length tFact.k)], .dead, .row (flat tFact.enc box3_facts), .dead, .dead, .dead, .dead, .dead]) rfl (lb rfl) ?_ ?_ ?_
    ·exact ⟨(.keep rfl), (.keep rfl), (.keep rfl), (.keep rfl), (.keep rfl), (fz1G (fzC fz1E (fzC (.keep rfl) fzN))), (.keep rfl), (.keep rfl), fz1E, (.keep rfl), trivial⟩
    ·exact ⟨(fzK rfl), (fzK rfl), trivial, (fzC fz1E (fzC (.keep rfl) fzN)), trivial, rfl, trivial, trivial, trivial, trivial, trivial, trivial⟩
    exact tj hj1_6 rfl (wp 11 (lb rfl) rfl rfl rfl rfl rfl)
   ·skip
    refine ⟨_, rfl, rfl, (TOp_pure (pur_ld_b one29 rfl rfl rfl rfl) rfl ?_)⟩
    refine TA_ghost (E' := [(0, (.b 0 0)), (2, (.b 1 0)), (3, (.b 3 0)), (4, (intA r_3.1)), (5, (intA n5)), (21, (.b 0 0)), (22, (.b 3 0)), (23, (.m [2] 0 box3_relations.length tRelation.k)), (24, (intA r_3.1))]) (σ' := [.box [(sl (tI .u8) box0.b), (intA box0.i), (intA box0.h)], .box [.n, .n], .row (flat tRelation.enc box3_relations), .box [(.m [2] 0 box3_relations.length tRelation.k), (.m [5] 0 box3_facts.length tFact.k)], .dead, .row (flat tFact.enc box3_facts), .dead, .dead, .dead, .dead, .dead]) (Ghost.weak (WeakL.to 11 (lb rfl) rfl rfl rfl rfl ⟨leR rfl, leR rfl, leR rfl, leR rfl, leR rfl, leR rfl, leR rfl, leR rfl, leR rfl, trivial⟩)) ?_
    refine TA_frzB 2 (E' := [(0, (.b 0 0)), (2, (.b 1 0)), (3, (.b 3 0)), (4, (intA r_3.1)), (5, (intA n5)), (21, (.b 0 0)), (22, (.b 3 0)), (23, (sl tRelation box3_relations)), (24, (intA r_3.1))]) (σ' := [.box [(sl (tI .u8) box0.b), (intA box0.i), (intA box0.h)], .box [.n, .n], .dead, .box [(sl tRelation box3_relations), (.m [5] 0 box3_facts.length tFact.k)], .dead, .row (flat tFact.enc box3_facts), .dead, .dead, .dead, .dead, .dead]) rfl (lb rfl) ?_ ?_ ?_
    ·exact ⟨(.keep rfl), (.keep rfl), (.keep rfl), (.keep rfl), (.keep rfl), (.keep rfl), (.keep rfl), fz1E, (.keep rfl), trivial⟩
    ·exact ⟨(fzK rfl), (fzK rfl), trivial, (fzC fz1E (fzC (.keep rfl) fzN)), trivial, rfl, trivial, trivial, trivial, trivial, trivial, trivial⟩
    refine TA_all [0, 5] (by kernel_rfl) (by decide) ⟨?_, ?_, trivial⟩
    ·skip
     refine ⟨_, rfl, rfl, (TOp_pure (pur_ldK_b agg32 rfl rfl (lb rfl) rfl) rfl ?_)⟩
     exact tj hj1_6 rfl (wp 11 (lb rfl) rfl rfl rfl rfl rfl)
    ·skip
     refine ⟨_, rfl, rfl, (TOp_callS [0] (call_static ent128 rfl) (by decide) rfl rfl rfl rfl rfl rfl (m_spec_l3Fact_x u _ _ _ _ h_10) rfl rfl ?_)⟩
     refine tae [(0, (.b 0 0)), (2, (.b 1 0)), (3, (.b 3 0)), (4, (intA r_3.1)), (5, (intA n5)), (21, (.b 0 0)), (22, (.b 3 0)), (23, (sl tRelation box3_relations)), (24, (intA r_3.1)), (25, (.g [(intA r_9.1.relation), (.m [11] 0 r_9.1.values.length tInt.k)]))] rfl ?_
     refine TA_st (σ' := [.box [(sl (tI .u8) r_9.2.b), (intA r_9.2.i), (intA r_9.2.h)], .box [.n, .n], .dead, .box [(sl tRelation box3_relations), (.m [5] 0 box3_facts.length tFact.k)], .dead, .row (flat tFact.enc box3_facts), .dead, .dead, .dead, .dead, .dead, .row (flat tInt.enc r_9.1.values)]) rfl ?_
     refine tmv 8 11 (by decide) (lb rfl) rfl rfl (lb rfl) ?_
     refine t1 0 (by kernel_rfl) rfl rfl (TOp_pure (pur_ldK_b agg32 rfl rfl (lb rfl) rfl) rfl ?_)
     refine TA_ghost (E' := [(0, (.b 0 0)), (2, (.b 1 0)), (3, (.b 3 0)), (4, (intA r_3.1)), (5, (intA n5)), (20, (.g [(sl tRelation box3_relations), (.m [5] 0 box3_facts.length tFact.k)])), (21, (.b 0 0)), (22, (.b 3 0)), (23, (sl tRelation box3_relations)), (24, (intA r_3.1)), (25, (.g [(intA r_9.1.relation), (.m [8] 0 r_9.1.values.length tInt.k)]))]) (σ' := [.box [(sl (tI .u8) r_9.2.b), (intA r_9.2.i), (intA r_9.2.h)], .box [.n, .n], .dead, .box [(sl tRelation box3_relations), (.m [5] 0 box3_facts.length tFact.k)], .dead, .row (flat tFact.enc box3_facts), .dead, .dead, .row (flat tInt.enc r_9.1.values), .dead, .dead, .dead]) (Ghost.weak (WeakL.to 12 (lb rfl) rfl rfl rfl rfl ⟨leR rfl, leR rfl, leR rfl, leR rfl, leR rfl, leR rfl, leR rfl, leR rfl, leR rfl, leR rfl, leR rfl, trivial⟩)) ?_
     refine TA_frzB 5 (E' := [(0, (.b 0 0)), (2, (.b 1 0)), (3, (.b 3 0)), (4, (intA r_3.1)), (5, (intA n5)), (20, (.g [(sl tRelation box3_relations), (sl tFact box3_facts)])), (21, (.b 0 0)), (22, (.b 3 0)), (23, (sl tRelation box3_relations)), (24, (intA r_3.1)), (25, (.g [(intA r_9.1.relation), (.m [8] 0 r_9.1.values.length tInt.k)]))]) (σ' := [.box [(sl (tI .u8) r_9.2.b), (intA r_9.2.i), (intA r_9.2.h)], .box [.n, .n], .dead, .box [(sl tRelation box3_relations), (sl tFact box3_facts)], .dead, .dead, .dead, .dead, .row (flat tInt.enc r_9.1.values), .dead, .dead, .dead]) rfl (lb rfl) ?_ ?_ ?_
     ·exact ⟨(.keep rfl), (.keep rfl), (.keep rfl), (.keep rfl), (.keep rfl), (fz1G (fzC (.keep rfl) (fzC fz1E fzN))), (.keep rfl), (.keep rfl), (.keep rfl), (.keep rfl), (.keep rfl), trivial⟩
     ·exact ⟨(fzK rfl), (fzK rfl), trivial, (fzC (.keep rfl) (fzC fz1E fzN)), trivial, trivial, trivial, trivial, rfl, trivial, trivial, trivial, trivial⟩
     refine TA_ghost (E' := [(0, (.b 0 0)), (2, (.b 1 0)), (3, (.b 3 0)), (4, (intA r_3.1)), (5, (intA n5)), (20, (.g [(sl tRelation box3_relations), (sl tFact box3_facts)])), (21, (.b 0 0)), (22, (.b 3 0)), (23, (sl tRelation box3_relations)), (24, (intA r_3.1)), (25, (.g [(intA r_9.1.relation), (.m [8] 0 r_9.1.values.length tInt.k)]))]) (σ' := [.box [(sl (tI .u8) r_9.2.b), (intA r_9.2.i), (intA r_9.2.h)], .box [.n, .n], .dead, .box [(sl tRelation box3_relations), (sl tFact box3_facts)], .dead, .dead, .dead, .dead, .row (flat tInt.enc r_9.1.values), .dead, .dead, .dead]) (Ghost.weak (WeakL.to 12 (lb rfl) rfl rfl rfl rfl ⟨leR rfl, leR rfl, leR rfl, leR rfl, leR rfl, leR rfl, leR rfl, leR rfl, leR rfl, leR rfl, leR rfl, trivial⟩)) ?_
     refine TA_frz1 8 (E' := [(0, (.b 0 0)), (2, (.b 1 0)), (3, (.b 3 0)), (4, (intA r_3.1)), (5, (intA n5)), (20, (.g [(sl tRelation box3_relations), (sl tFact box3_facts)])), (21, (.b 0 0)), (22, (.b 3 0)), (23, (sl tRelation box3_relations)), (24, (intA r_3.1)), (25, (.g [(intA r_9.1.relation), (sl tInt r_9.1.values)]))]) rfl rfl (lb rfl) ?_ ?_
     ·exact ⟨(.keep rfl), (.keep rfl), (.keep rfl), (.keep rfl), (.keep rfl), (.keep rfl), (.keep rfl), (.keep rfl), (.keep rfl), (.keep rfl), (fz1G (fzC (.keep rfl) (fzC fz1E fzN))), trivial⟩
     refine TA_st (σ' := [.box [(sl (tI .u8) r_9.2.b), (intA r_9.2.i), (intA r_9.2.h)], .box [.n, .n], .dead, .box [(sl tRelation box3_relations), (sl tFact box3_facts)], .dead, .dead, .dead, .dead, .dead, .dead, .dead, .dead]) rfl ?_
     exact tj hj0_6 rfl (wp 11 (lb rfl) rfl rfl rfl rfl rfl)
  ·replace H := cond_f c_8 H
   refine T_exit ?_
   refine then_exit ?_
   refine then_exit ?_
   refine block_exit ?_
   obtain rfl := some_inj H
   obtain rfl := some_inj K7_
   replace H := onS_l N7_
   refine te [(2, (.b 1 0)), (3, (.b 3 0))] rfl ?_
   refine sr ?_
   refine Tp rfl rfl (pur_ldK_b agg32 rfl rfl (lb rfl) rfl) rfl ?_
   refine TO_cons rfl (TOp_storeB sz32 rfl rfl rfl rfl rfl rfl rfl (by decide) (lb rfl) rfl ?_)
   refine TO_st (σ' := [.box [(sl (tI .u8) box0.b), (intA box0.i), (intA box0.h)], .box [(.m [2] 0 box3_relations.length tRelation.k), (.m [5] 0 box3_facts.length tFact.k)], .row (flat tRelation.enc box3_relations), .box [(.m [2] 0 box3_relations.length tRelation.k), (.m [5] 0 box3_facts.length tFact.k)], .dead, .row (flat tFact.enc box3_facts)]) rfl ?_
   refine TO_nil ?_
   refine te [(2, (.b 1 0))] rfl ?_
   refine T_ret ?_
   obtain rfl := some_inj H
   exact end_pickX (.cellK rfl agg32 rfl (lb rfl) .nil) rfl [0, 2, 5] (by decide) (lb rfl) rfl (lb rfl) rfl rfl rfl rfl rfl rfl

set_option maxHeartbeats 1000000 in
/-- spec.l3Any -/
theorem m_spec_l3Any_x (u : Nat) (c0 : l1Cur) (l1 : (List Relation)) (r : (Fact × l1Cur)) (H : m_spec_l3Any u c0 l1 = some r) : FnS prg 111 [(.b 0 0), (sl tRelation l1)] [.box [(sl (tI .u8) c0.b), (intA c0.i), (intA c0.h)]] (.g [(intA r.1.relation), (.m [1] 0 r.1.values.length tInt.k)]) [.box [(sl (tI .u8) r.2.b), (intA r.2.i), (intA r.2.h)], .row (flat tInt.enc r.1.values)] := by
  unfold m_spec_l3Any at H
  refine fnS_of_T Try.func111 rfl rfl (Nat.le_of_ble_eq_true rfl) ?_
  refine te [(0, (.b 0 0)), (1, (sl tRelation l1))] rfl ?_
  refine T_st (σ' := [.box [(sl (tI .u8) c0.b), (intA c0.i), (intA c0.h)]]) rfl ?_
  refine sr ?_
  refine TO_cons rfl (TOp_alloc zero60 rfl rfl ?_)
  refine TO_nil ?_
  refine te [(0, (.b 0 0)), (1, (sl tRelation l1)), (4, (.b 1 0))] rfl ?_
  refine sr ?_
  refine Tp rfl rfl (pur_move rfl) rfl ?_
  refine Tp rfl rfl (pur_move rfl) rfl ?_
  obtain ⟨r_1, h_2, H⟩ := bind_inv H
  refine TO_cons rfl (TOp_callS [0] (call_static ent128 rfl) (by decide) rfl rfl rfl rfl rfl rfl (m_spec_l3Fact_x u _ _ _ _ h_2) rfl rfl ?_)
  refine toe [(0, (.b 0 0)), (1, (sl tRelation l1)), (4, (.b 1 0)), (6, (.b 0 0)), (7, (sl tRelation l1)), (8, (.g [(intA r_1.1.relation), (.m [2] 0 r_1.1.values.length tInt.k)]))] rfl ?_
  refine TO_st (σ' := [.box [(sl (tI .u8) r_1.2.b), (intA r_1.2.i), (intA r_1.2.h)], .box [(intA 0), .n], .row (flat tInt.enc r_1.1.values)]) rfl ?_
  refine TO_cons rfl (TOp_alloc zero60 rfl rfl ?_)
  refine TO_cons rfl (TOp_storeB sz60 rfl rfl rfl rfl rfl rfl rfl (by decide) (lb rfl) rfl ?_)
  refine TO_st (σ' := [.box [(sl (tI .u8) r_1.2.b), (intA r_1.2.i), (intA r_1.2.h)], .box [(intA 0), .n], .row (flat tInt.enc r_1.1.values), .box [(intA r_1.1.relation), (.m [2] 0 r_1.1.values.length tInt.k)]]) rfl ?_
  refine TO_nil ?_
  refine te [(0, (.b 0 0)), (4, (.b 1 0)), (5, (.b 3 0))] rfl ?_
  refine T_seq ?_
  refine sr ?_
  refine Tp rfl rfl (pur_move rfl) rfl ?_
  obtain ⟨r_3, h_4, H⟩ := bind_inv H
  refine TO_cons rfl (TOp_callS [0] (call_static ent83 rfl) (by decide) rfl rfl rfl rfl rfl rfl (m_spec_l1Below_x _ _ _ h_4) rfl rfl ?_)
  refine toe [(0, (.b 0 0)), (4, (.b 1 0)), (5, (.b 3 0)), (9, (.b 0 0)), (10, (intA r_3.1))] rfl ?_
  refine TO_st (σ' := [.box [(sl (tI .u8) r_3.2.b), (intA r_3.2.i), (intA r_3.2.h)], .box [(intA 0), .n], .row (flat tInt.enc r_1.1.values), .box [(intA r_1.1.relation), (.m [2] 0 r_1.1.values.length tInt.k)]]) rfl ?_
  refine TO_nil ?_
  refine te [(0, (.b 0 0)), (4, (.b 1 0)), (5, (.b 3 0)), (10, (intA r_3.1))] rfl ?_
  refine T_block ?_
  refine sr ?_
  refine Tp rfl rfl (pur_eql rfl rfl rfl) rfl ?_
  refine Tp rfl rfl (pur_assign rfl) rfl ?_
  refine TO_nil ?_
  refine te [(0, (.b 0 0)), (4, (.b 1 0)), (5, (.b 3 0)), (10, (intA r_3.1)), (11, (boolA (decide (r_3.1 = 0))))] rfl ?_
  refine T_cond (t := decide (r_3.1 = 0)) rfl (fun c_5 => ?_) (fun c_5 => ?_)
  ·replace H := cond_t c_5 H
   refine T_region ?_
   refine Tp rfl rfl (pur_move rfl) rfl ?_
   obtain ⟨r_6, h_7, H⟩ := bind_inv H
   refine TO_cons rfl (TOp_callS [0] (call_static ent83 rfl) (by decide) rfl rfl rfl rfl rfl rfl (m_spec_l1Below_x _ _ _ h_7) rfl rfl ?_)
   refine toe [(0, (.b 0 0)), (4, (.b 1 0)), (5, (.b 3 0)), (10, (intA r_3.1)), (11, (boolA (decide (r_3.1 = 0)))), (13, (.b 0 0)), (14, (intA r_6.1))] rfl ?_
   refine TO_st (σ' := [.box [(sl (tI .u8) r_6.2.b), (intA r_6.2.i), (intA r_6.2.h)], .box [(intA 0), .n], .row (flat tInt.enc r_1.1.values), .box [(intA r_1.1.relation), (.m [2] 0 r_1.1.values.length tInt.k)]]) rfl ?_
   refine Tp rfl rfl (pur_wsub rfl rfl rfl) rfl ?_
   refine Tp rfl rfl (pur_fa_b fld60_0 rfl rfl) rfl ?_
   refine TO_cons rfl (TOp_storeB sz3 rfl rfl rfl rfl rfl rfl rfl (by decide) (lb rfl) rfl ?_)
   refine TO_st (σ' := [.box [(sl (tI .u8) r_6.2.b), (intA r_6.2.i), (intA r_6.2.h)], .box [(intA 0), .n], .row (flat tInt.enc r_1.1.values), .box [(intA (w64 (r_6.1 - 1))), (.m [2] 0 r_1.1.values.length tInt.k)]]) rfl ?_
   refine TO_nil ?_
   refine te [(4, (.b 1 0)), (5, (.b 3 0))] rfl ?_
   refine sr ?_
   refine Tp rfl rfl (pur_ldK_b agg60 rfl rfl (lb rfl) rfl) rfl ?_
   refine TO_cons rfl (TOp_storeB sz60 rfl rfl rfl rfl rfl rfl rfl (by decide) (lb rfl) rfl ?_)
   refine TO_st (σ' := [.box [(sl (tI .u8) r_6.2.b), (intA r_6.2.i), (intA r_6.2.h)], .box [(intA (w64 (r_6.1 - 1))), (.m [2] 0 r_1.1.values.length tInt.k)], .row (flat tInt.enc r_1.1.values), .box [(intA (w64 (r_6.1 - 1))), (.m [2] 0 r_1.1.values.length tInt.k)]]) rfl ?_
   refine TO_nil ?_
   refine te [(4, (.b 1 0))] rfl ?_
   refine T_ret ?_
   obtain rfl := some_inj H
   exact end_pickX (.cellK rfl agg60 rfl (lb rfl) .nil) rfl [0, 2] (by decide) (lb rfl) rfl (lb rfl) rfl rfl rfl rfl rfl rfl
  ·replace H := cond_f c_5 H
   refine sr ?_
   refine Tp rfl rfl (pur_eql rfl rfl rfl) rfl ?_
   refine Tp rfl rfl (pur_assign rfl) rfl ?_
   refine TO_nil ?_
   refine te [(0, (.b 0 0)), (4, (.b 1 0)), (5, (.b 3 0)), (10, (intA r_3.1)), (17, (boolA (decide (r_3.1 = 1))))] rfl ?_
   refine T_cond (t := decide (r_3.1 = 1)) rfl (fun c_8 => ?_) (fun c_8 => ?_)
   ·replace H := cond_t c_8 H
    refine T_region ?_
    refine Tp rfl rfl (pur_fa_b fld60_1 rfl rfl) rfl ?_
    refine Tp rfl rfl (pur_ld_b one33 rfl rfl rfl rfl) rfl ?_
    refine TO_cons rfl (TOp_lit (nn := 1) (k := 1) sl33 zero3 rfl rfl rfl rfl (by decide) ?_)
    refine TO_st (σ' := [.box [(sl (tI .u8) r_3.2.b), (intA r_3.2.i), (intA r_3.2.h)], .box [(intA 0), .n], .row (flat tInt.enc r_1.1.values), .box [(intA r_1.1.relation), (.m [2] 0 r_1.1.values.length tInt.k)], .row (flat tInt.enc ([1] : (List Int)))]) rfl ?_
    obtain ⟨us_9, h_10, H⟩ := bind_inv H
    refine TO_cons rfl (TOp_appZ (T := tInt) (f := tInt.enc) (xs := r_1.1.values) (ys := ([1] : (List Int))) tInt.len sl33 zero3 rfl bytes3 (by decide) rfl rfl rfl rfl (src_mT (f := tInt.enc) tInt.len rfl rfl (flat_cell tInt _)) (flat_cell tInt _) h_10 (lb rfl) ?_)
    refine toe [(0, (.b 0 0)), (4, (.b 1 0)), (5, (.b 3 0)), (10, (intA r_3.1)), (17, (boolA (decide (r_3.1 = 1)))), (19, (.b 3 1)), (21, (.m [4] 0 ([1] : (List Int)).length tInt.k)), (22, (.m [2] 0 us_9.length tInt.k))] rfl ?_
    refine TO_st (σ' := [.box [(sl (tI .u8) r_3.2.b), (intA r_3.2.i), (intA r_3.2.h)], .box [(intA 0), .n], .row (flat tInt.enc us_9), .box [(intA r_1.1.relation), .j], .row (flat tInt.enc ([1] : (List Int))), .dead]) rfl ?_
    refine Tp rfl rfl (pur_fa_b fld60_1 rfl rfl) rfl ?_
    refine TO_cons rfl (TOp_storeB sz33 rfl rfl rfl rfl rfl rfl rfl (by decide) (lb rfl) rfl ?_)
    refine TO_st (σ' := [.box [(sl (tI .u8) r_3.2.b), (intA r_3.2.i), (intA r_3.2.h)], .box [(intA 0), .n], .row (flat tInt.enc us_9), .box [(intA r_1.1.relation), (.m [2] 0 us_9.length tInt.k)], .row (flat tInt.enc ([1] : (List Int))), .dead]) rfl ?_
    refine TO_nil ?_
    refine te [(4, (.b 1 0)), (5, (.b 3 0))] rfl ?_
    refine sr ?_
    refine Tp rfl rfl (pur_ldK_b agg60 rfl rfl (lb rfl) rfl) rfl ?_
    refine TO_cons rfl (TOp_storeB sz60 rfl rfl rfl rfl rfl rfl rfl (by decide) (lb rfl) rfl ?_)
    refine TO_st (σ' := [.box [(sl (tI .u8) r_3.2.b), (intA r_3.2.i), (intA r_3.2.h)], .box [(intA r_1.1.relation), (.m [2] 0 us_9.length tInt.k)], .row (flat tInt.enc us_9), .box [(intA r_1.1.relation), (.m [2] 0 us_9.length tInt.k)], .row (flat tInt.enc ([1] : (List Int))), .dead]) rfl ?_
    refine TO_nil ?_
    refine te [(4, (.b 1 0))] rfl ?_
    refine T_ret ?_
    obtain rfl := some_inj H
    exact end_pickX (.cellK rfl agg60 rfl (lb rfl) .nil) rfl [0, 2] (by decide) (lb rfl) rfl (lb rfl) rfl rfl rfl rfl rfl rfl
   ·replace H := cond_f c_8 H
    refine sr ?_
    refine Tp rfl rfl (pur_eql rfl rfl rfl) rfl ?_
    refine Tp rfl rfl (pur_assign rfl) rfl ?_
    refine TO_nil ?_
    refine te [(0, (.b 0 0)), (4, (.b 1 0)), (5, (.b 3 0)), (24, (boolA (decide (r_3.1 = 2))))] rfl ?_
    refine T_cond (t := decide (r_3.1 = 2)) rfl (fun c_11 => ?_) (fun c_11 => ?_)
    ·replace H := cond_t c_11 H
     obtain ⟨r_12, h_13, H⟩ := bind_inv H
     obtain ⟨v_14, h_15, H⟩ := bind_inv H
     obtain ⟨n_16, hz_17, hv_18⟩ := getI_inv h_15
     refine T_pad ?_
     refine T_regionP mixed ?_
     refine TA_have 2 #[true, true, true, true, true, false, false] [(4, (.b 1 0)), (5, (.b 3 0)), (27, (.m [2] 0 r_1.1.values.length tInt.k)), (30, (intA r_12.1))] [.box [(sl (tI .u8) r_12.2.b), (intA r_12.2.i), (intA r_12.2.h)], .box [(intA 0), .n], .row (flat tInt.enc r_1.1.values), .box [(intA r_1.1.relation), (.m [2] 0 r_1.1.values.length tInt.k)], .dead] ?_ (fun hj0_8 => ?_)
     ·skip
      refine tf 5 rfl (purI_ixM (T := tInt) sl33 rfl rfl hz_17 hv_18 rfl) rfl rfl (by kernel_rfl) ?_
      refine t1 6 (by kernel_rfl) rfl rfl (TOp_setT (f := tInt.enc) (z := 0) (y := r_12.1) tInt.len tInt.pos hz_17 sz3 rfl rfl rfl rfl rfl hv_18 rfl rfl ?_)
      refine TA_env (E' := [(4, (.b 1 0)), (5, (.b 3 0)), (27, (.m [2] 0 (r_1.1.values.set (0 : Int).toNat r_12.1).length tInt.k)), (30, (intA r_12.1))]) ⟨rfl, rfl, (congrArg (fun q => A.m [2] 0 q tInt.k) (List.length_set ..).symm), rfl, trivial⟩ ?_
      refine TA_st (σ' := [.box [(sl (tI .u8) r_12.2.b), (intA r_12.2.i), (intA r_12.2.h)], .box [(intA 0), .n], .row (flat tInt.enc (r_1.1.values.set (0 : Int).toNat r_12.1)), .box [(intA r_1.1.relation), (.m [2] 0 r_1.1.values.length tInt.k)], .dead]) rfl ?_
      refine TA_st (σ' := [.box [(sl (tI .u8) r_12.2.b), (intA r_12.2.i), (intA r_12.2.h)], .box [(intA 0), .n], .row (flat tInt.enc (r_1.1.values.set (0 : Int).toNat r_12.1)), .box [(intA r_1.1.relation), (.m [2] 0 (r_1.1.values.set (0 : Int).toNat r_12.1).length tInt.k)], .dead]) (by simp only [List.length_set]) ?_
      refine TA_nil (by kernel_rfl) ?_
      refine te [(4, (.b 1 0)), (5, (.b 3 0))] rfl ?_
      refine sr ?_
      refine Tp rfl rfl (pur_ldK_b agg60 rfl rfl (lb rfl) rfl) rfl ?_
      refine TO_cons rfl (TOp_storeB sz60 rfl rfl rfl rfl rfl rfl rfl (by decide) (lb rfl) rfl ?_)
      refine TO_st (σ' := [.box [(sl (tI .u8) r_12.2.b), (intA r_12.2.i), (intA r_12.2.h)], .box [(intA r_1.1.relation), (.m [2] 0 (r_1.1.values.set (0 : Int).toNat r_12.1).length tInt.k)], .row (flat tInt.enc (r_1.1.values.set (0 : Int).toNat r_12.1)), .box [(intA r_1.1.relation), (.m [2] 0 (r_1.1.values.set (0 : Int).toNat r_12.1).length tInt.k)], .dead]) rfl ?_
      refine TO_nil ?_
      refine te [(4, (.b 1 0))] rfl ?_
      refine T_ret ?_
      obtain rfl := some_inj H
      exact end_pickX (.cellK rfl agg60 rfl (lb rfl) .nil) rfl [0, 2] (by decide) (lb rfl) rfl (lb rfl) rfl rfl rfl rfl rfl rfl
     refine TA_have 3 #[true, true, true, true, false, false, false] [(4, (.b 1 0)), (5, (.b 3 0)), (27, (.m [2] 0 r_1.1.values.length tInt.k)), (28, (.b 0 0)), (29, (sl tInt ([-1, 10, 9] : (List Int))))] [.box [(sl (tI .u8) r_3.2.b), (intA r_3.2.i), (intA r_3.2.h)], .box [(intA 0), .n], .row (flat tInt.enc r_1.1.values), .box [(intA r_1.1.relation), (.m [2] 0 r_1.1.values.length tInt.k)], .dead] ?_ (fun hj1_8 => ?_)
     ·skip
      refine t1 4 (by kernel_rfl) rfl rfl (TOp_callS [0] (call_static ent88 rfl) (by decide) rfl rfl rfl rfl rfl rfl (m_spec_l1PickInt_x _ _ _ h_13) rfl rfl ?_)
      refine tae [(4, (.b 1 0)), (5, (.b 3 0)), (27, (.m [2] 0 r_1.1.values.length tInt.k)), (28, (.b 0 0)), (29, (sl tInt ([-1, 10, 9] : (List Int)))), (30, (intA r_12.1))] rfl ?_
      refine TA_st (σ' := [.box [(sl (tI .u8) r_12.2.b), (intA r_12.2.i), (intA r_12.2.h)], .box [(intA 0), .n], .row (flat tInt.enc r_1.1.values), .box [(intA r_1.1.relation), (.m [2] 0 r_1.1.values.length tInt.k)], .dead]) rfl ?_
      exact tj hj0_8 rfl (wp 5 (lb rfl) rfl rfl rfl rfl rfl)
     refine tf 0 rfl (purI_fa_b fld60_1 rfl rfl) rfl rfl (by kernel_rfl) ?_
     refine tf 2 rfl (purI_move rfl) rfl rfl (by kernel_rfl) ?_
     refine TA_all [1, 3] (by kernel_rfl) (by decide) ⟨?_, ?_, trivial⟩
     ·skip
      refine ⟨_, rfl, rfl, (TOp_pure (pur_ld_b one33 rfl rfl rfl rfl) rfl ?_)⟩
      refine t1 3 (by kernel_rfl) rfl rfl (TOp_lit (nn := 3) (k := 1) sl33 zero3 rfl rfl rfl rfl (by decide) ?_)
      refine tmv 4 5 (by decide) (lb rfl) rfl rfl (lb rfl) ?_
      refine TA_ghost (E' := [(0, (.b 0 0)), (4, (.b 1 0)), (5, (.b 3 0)), (24, (boolA (decide (r_3.1 = 2)))), (26, (.b 3 1)), (27, (.m [2] 0 r_1.1.values.length tInt.k)), (28, (.b 0 0)), (29, (.m [4] 0 ([-1, 10, 9] : (List Int)).length tInt.k))]) (σ' := [.box [(sl (tI .u8) r_3.2.b), (intA r_3.2.i), (intA r_3.2.h)], .box [(intA 0), .n], .row (flat tInt.enc r_1.1.values), .box [(intA r_1.1.relation), (.m [2] 0 r_1.1.values.length tInt.k)], .row (flat tInt.enc ([-1, 10, 9] : (List Int))), .dead]) (Ghost.weak (WeakL.to 6 (lb rfl) rfl rfl rfl rfl ⟨leR rfl, leR rfl, leR rfl, leR rfl, leR rfl, leR rfl, leR rfl, leR rfl, trivial⟩)) ?_
      refine TA_frz1 4 (E' := [(0, (.b 0 0)), (4, (.b 1 0)), (5, (.b 3 0)), (24, (boolA (decide (r_3.1 = 2)))), (26, (.b 3 1)), (27, (.m [2] 0 r_1.1.values.length tInt.k)), (28, (.b 0 0)), (29, (sl tInt ([-1, 10, 9] : (List Int))))]) rfl rfl (lb rfl) ⟨(.keep rfl), (.keep rfl), (.keep rfl), (.keep rfl), (.keep rfl), (.keep rfl), (.keep rfl), fz1E, trivial⟩ ?_
      refine TA_st (σ' := [.box [(sl (tI .u8) r_3.2.b), (intA r_3.2.i), (intA r_3.2.h)], .box [(intA 0), .n], .row (flat tInt.enc r_1.1.values), .box [(intA r_1.1.relation), (.m [2] 0 r_1.1.values.length tInt.k)], .dead, .dead]) rfl ?_
      exact tj hj1_8 rfl (wp 5 (lb rfl) rfl rfl rfl rfl rfl)
     ·skip
      refine ⟨_, rfl, rfl, (TOp_lit (nn := 3) (k := 1) sl33 zero3 rfl rfl rfl rfl (by decide) ?_)⟩
      refine tmv 4 5 (by decide) (lb rfl) rfl rfl (lb rfl) ?_
      refine TA_ghost (E' := [(0, (.b 0 0)), (4, (.b 1 0)), (5, (.b 3 0)), (24, (boolA (decide (r_3.1 = 2)))), (26, (.b 3 1)), (28, (.b 0 0)), (29, (.m [4] 0 ([-1, 10, 9] : (List Int)).length tInt.k))]) (σ' := [.box [(sl (tI .u8) r_3.2.b), (intA r_3.2.i), (intA r_3.2.h)], .box [(intA 0), .n], .row (flat tInt.enc r_1.1.values), .box [(intA r_1.1.relation), (.m [2] 0 r_1.1.values.length tInt.k)], .row (flat tInt.enc ([-1, 10, 9] : (List Int))), .dead]) (Ghost.weak (WeakL.to 6 (lb rfl) rfl rfl rfl rfl ⟨leR rfl, leR rfl, leR rfl, leR rfl, leR rfl, leR rfl, leR rfl, trivial⟩)) ?_
      refine TA_frz1 4 (E' := [(0, (.b 0 0)), (4, (.b 1 0)), (5, (.b 3 0)), (24, (boolA (decide (r_3.1 = 2)))), (26, (.b 3 1)), (28, (.b 0 0)), (29, (sl tInt ([-1, 10, 9] : (List Int))))]) rfl rfl (lb rfl) ⟨(.keep rfl), (.keep rfl), (.keep rfl), (.keep rfl), (.keep rfl), (.keep rfl), fz1E, trivial⟩ ?_
      refine TA_st (σ' := [.box [(sl (tI .u8) r_3.2.b), (intA r_3.2.i), (intA r_3.2.h)], .box [(intA 0), .n], .row (flat tInt.enc r_1.1.values), .box [(intA r_1.1.relation), (.m [2] 0 r_1.1.values.length tInt.k)], .dead, .dead]) rfl ?_
      refine TA_all [1, 4] (by kernel_rfl) (by decide) ⟨?_, ?_, trivial⟩
      ·skip
       refine ⟨_, rfl, rfl, (TOp_pure (pur_ld_b one33 rfl rfl rfl rfl) rfl ?_)⟩
       exact tj hj1_8 rfl (wp 5 (lb rfl) rfl rfl rfl rfl rfl)
      ·skip
       refine ⟨_, rfl, rfl, (TOp_callS [0] (call_static ent88 rfl) (by decide) rfl rfl rfl rfl rfl rfl (m_spec_l1PickInt_x _ _ _ h_13) rfl rfl ?_)⟩
       refine tae [(0, (.b 0 0)), (4, (.b 1 0)), (5, (.b 3 0)), (24, (boolA (decide (r_3.1 = 2)))), (26, (.b 3 1)), (28, (.b 0 0)), (29, (sl tInt ([-1, 10, 9] : (List Int)))), (30, (intA r_12.1))] rfl ?_
       refine TA_st (σ' := [.box [(sl (tI .u8) r_12.2.b), (intA r_12.2.i), (intA r_12.2.h)], .box [(intA 0), .n], .row (flat tInt.enc r_1.1.values), .box [(intA r_1.1.relation), (.m [2] 0 r_1.1.values.length tInt.k)], .dead, .dead]) rfl ?_
       refine t1 1 (by kernel_rfl) rfl rfl (TOp_pure (pur_ld_b one33 rfl rfl rfl rfl) rfl ?_)
       exact tj hj0_8 rfl (wp 5 (lb rfl) rfl rfl rfl rfl rfl)
    ·replace H := cond_f c_11 H
     refine T_skip ?_
     refine te [(4, (.b 1 0)), (5, (.b 3 0))] rfl ?_
     refine sr ?_
     refine Tp rfl rfl (pur_ldK_b agg60 rfl rfl (lb rfl) rfl) rfl ?_
     refine TO_cons rfl (TOp_storeB sz60 rfl rfl rfl rfl rfl rfl rfl (by decide) (lb rfl) rfl ?_)
     refine TO_st (σ' := [.box [(sl (tI .u8) r_3.2.b), (intA r_3.2.i), (intA r_3.2.h)], .box [(intA r_1.1.relation), (.m [2] 0 r_1.1.values.length tInt.k)], .row (flat tInt.enc r_1.1.values), .box [(intA r_1.1.relation), (.m [2] 0 r_1.1.values.length tInt.k)]]) rfl ?_
     refine TO_nil ?_
     refine te [(4, (.b 1 0))] rfl ?_
     refine T_ret ?_
     obtain rfl := some_inj H
     exact end_pickX (.cellK rfl agg60 rfl (lb rfl) .nil) rfl [0, 2] (by decide) (lb rfl) rfl (lb rfl) rfl rfl rfl rfl rfl rfl

set_option maxHeartbeats 1000000 in
/-- spec.l1Pick -/
theorem m_spec_l1Pick_x (c0 : l1Cur) (list1 : (List ByteArray)) (r : (ByteArray × l1Cur)) (H : m_spec_l1Pick c0 list1 = some r) : FnS prg 129 [(.b 0 0), (sl tStr list1)] [.box [(sl (tI .u8) c0.b), (intA c0.i), (intA c0.h)]] (strA r.1) [.box [(sl (tI .u8) r.2.b), (intA r.2.i), (intA r.2.h)]] := by
  unfold m_spec_l1Pick at H
  refine fnS_of_T Try.func129 rfl rfl (Nat.le_of_ble_eq_true rfl) ?_
  refine te [(0, (.b 0 0)), (1, (sl tStr list1))] rfl ?_
  refine T_st (σ' := [.box [(sl (tI .u8) c0.b), (intA c0.i), (intA c0.h)]]) rfl ?_
  refine sr ?_
  refine Tp rfl rfl (pur_assign rfl) rfl ?_
  refine TO_nil ?_
  refine te [(0, (.b 0 0)), (1, (sl tStr list1))] rfl ?_
  refine sr ?_
  refine Tp rfl rfl (pur_move rfl) rfl ?_
  refine Tp rfl rfl (pur_move rfl) rfl ?_
  refine Tp rfl rfl (pur_move rfl) rfl ?_
  refine Tp rfl rfl (pur_lenT (T := tStr) sl135 rfl rfl) rfl ?_
  obtain ⟨r_1, h_2, H⟩ := bind_inv H
  refine TO_cons rfl (TOp_callS [0] (call_static ent83 rfl) (by decide) rfl rfl rfl rfl rfl rfl (m_spec_l1Below_x _ _ _ h_2) rfl rfl ?_)
  refine toe [(0, (.b 0 0)), (1, (sl tStr list1)), (5, (sl tStr list1)), (6, (.b 0 0)), (7, (sl tStr list1)), (8, (intA (list1.length : Int))), (9, (intA r_1.1))] rfl ?_
  refine TO_st (σ' := [.box [(sl (tI .u8) r_1.2.b), (intA r_1.2.i), (intA r_1.2.h)]]) rfl ?_
  obtain ⟨v_3, h_4, H⟩ := bind_inv H
  obtain ⟨n_5, hz_6, hv_7⟩ := getI_inv h_4
  refine Tp rfl rfl (pur_ixT (T := tStr) sl135 rfl rfl hz_6 hv_7 rfl) rfl ?_
  refine Tp rfl rfl (pur_ldT (T := tStr) (i := n_5) (off := 0) rfl one9 rfl rfl hv_7 rfl) rfl ?_
  refine Tp rfl rfl (pur_assign rfl) rfl ?_
  refine TO_nil ?_
  refine te [(4, (strA v_3))] rfl ?_
  refine T_ret ?_
  obtain rfl := some_inj H
  exact end_pickX (.tmp .nil) rfl [0] (by decide) (lb rfl) rfl (lb rfl) rfl rfl rfl rfl rfl rfl

set_option maxHeartbeats 1000000 in
/-- spec.l2Any -/
theorem m_spec_l2Any_x (c0 : l1Cur) (r : (Relation × l1Cur)) (H : m_spec_l2Any c0 = some r) : FnS prg 112 [(.b 0 0)] [.box [(sl (tI .u8) c0.b), (intA c0.i), (intA c0.h)]] (.g (tRelation.enc r.1)) [.box [(sl (tI .u8) r.2.b), (intA r.2.i), (intA r.2.h)]] := by
  unfold m_spec_l2Any at H
  refine fnS_of_T Try.func112 rfl rfl (Nat.le_of_ble_eq_true rfl) ?_
  refine te [(0, (.b 0 0))] rfl ?_
  refine T_st (σ' := [.box [(sl (tI .u8) c0.b), (intA c0.i), (intA c0.h)]]) rfl ?_
  refine sr ?_
  refine TO_cons rfl (TOp_alloc zero97 rfl rfl ?_)
  refine TO_nil ?_
  refine te [(0, (.b 0 0)), (2, (.b 1 0))] rfl ?_
  refine sr ?_
  refine Tp rfl rfl (pur_move rfl) rfl ?_
  refine TO_cons rfl (TOp_lit (nn := 6) (k := 1) sl135 zero9 rfl rfl rfl rfl (by decide) ?_)
  refine TO_st (σ' := [.box [(sl (tI .u8) c0.b), (intA c0.i), (intA c0.h)], .box [(strA ByteArray.empty), (intA 0), (intA 0)], .row (flat tStr.enc ([(⟨#[114]⟩ : ByteArray), (⟨#[122]⟩ : ByteArray), (⟨#[97]⟩ : ByteArray), (⟨#[]⟩ : ByteArray), (⟨#[82]⟩ : ByteArray), (⟨#[97, 98]⟩ : ByteArray)] : (List ByteArray)))]) rfl ?_
  refine TO_frz1 2 (E' := [(0, (.b 0 0)), (2, (.b 1 0)), (3, (.b 0 0)), (4, (sl tStr ([(⟨#[114]⟩ : ByteArray), (⟨#[122]⟩ : ByteArray), (⟨#[97]⟩ : ByteArray), (⟨#[]⟩ : ByteArray), (⟨#[82]⟩ : ByteArray), (⟨#[97, 98]⟩ : ByteArray)] : (List ByteArray))))]) rfl rfl (lb rfl) ⟨(.keep rfl), (.keep rfl), (.keep rfl), fz1E, trivial⟩ ?_
  refine TO_st (σ' := [.box [(sl (tI .u8) c0.b), (intA c0.i), (intA c0.h)], .box [(strA ByteArray.empty), (intA 0), (intA 0)], .dead]) rfl ?_
  obtain ⟨r_1, h_2, H⟩ := bind_inv H
  refine TO_cons rfl (TOp_callS [0] (call_static ent129 rfl) (by decide) rfl rfl rfl rfl rfl rfl (m_spec_l1Pick_x _ _ _ h_2) rfl rfl ?_)
  refine toe [(0, (.b 0 0)), (2, (.b 1 0)), (3, (.b 0 0)), (4, (sl tStr ([(⟨#[114]⟩ : ByteArray), (⟨#[122]⟩ : ByteArray), (⟨#[97]⟩ : ByteArray), (⟨#[]⟩ : ByteArray), (⟨#[82]⟩ : ByteArray), (⟨#[97, 98]⟩ : ByteArray)] : (List ByteArray)))), (5, (strA r_1.1))] rfl ?_
  refine TO_st (σ' := [.box [(sl (tI .u8) r_1.2.b), (intA r_1.2.i), (intA r_1.2.h)], .box [(strA ByteArray.empty), (intA 0), (intA 0)], .dead]) rfl ?_
  refine Tp rfl rfl (pur_move rfl) rfl ?_
  obtain ⟨r_3, h_4, H⟩ := bind_inv H
  refine TO_cons rfl (TOp_callS [0] (call_static ent83 rfl) (by decide) rfl rfl rfl rfl rfl rfl (m_spec_l1Below_x _ _ _ h_4) rfl rfl ?_)
  refine toe [(0, (.b 0 0)), (2, (.b 1 0)), (3, (.b 0 0)), (4, (sl tStr ([(⟨#[114]⟩ : ByteArray), (⟨#[122]⟩ : ByteArray), (⟨#[97]⟩ : ByteArray), (⟨#[]⟩ : ByteArray), (⟨#[82]⟩ : ByteArray), (⟨#[97, 98]⟩ : ByteArray)] : (List ByteArray)))), (5, (strA r_1.1)), (6, (.b 0 0)), (7, (intA r_3.1))] rfl ?_
  refine TO_st (σ' := [.box [(sl (tI .u8) r_3.2.b), (intA r_3.2.i), (intA r_3.2.h)], .box [(strA ByteArray.empty), (intA 0), (intA 0)], .dead]) rfl ?_
  refine Tp rfl rfl (pur_wsub rfl rfl rfl) rfl ?_
  refine Tp rfl rfl (pur_move rfl) rfl ?_
  obtain ⟨r_5, h_6, H⟩ := bind_inv H
  refine TO_cons rfl (TOp_callS [0] (call_static ent83 rfl) (by decide) rfl rfl rfl rfl rfl rfl (m_spec_l1Below_x _ _ _ h_6) rfl rfl ?_)
  refine toe [(0, (.b 0 0)), (2, (.b 1 0)), (3, (.b 0 0)), (4, (sl tStr ([(⟨#[114]⟩ : ByteArray), (⟨#[122]⟩ : ByteArray), (⟨#[97]⟩ : ByteArray), (⟨#[]⟩ : ByteArray), (⟨#[82]⟩ : ByteArray), (⟨#[97, 98]⟩ : ByteArray)] : (List ByteArray)))), (5, (strA r_1.1)), (6, (.b 0 0)), (7, (intA r_3.1)), (8, (intA (w64 (r_3.1 - 1)))), (9, (.b 0 0)), (10, (intA r_5.1))] rfl ?_
  refine TO_st (σ' := [.box [(sl (tI .u8) r_5.2.b), (intA r_5.2.i), (intA r_5.2.h)], .box [(strA ByteArray.empty), (intA 0), (intA 0)], .dead]) rfl ?_
  refine toe [(2, (.b 1 0)), (5, (strA r_1.1)), (8, (intA (w64 (r_3.1 - 1)))), (10, (intA r_5.1))] rfl ?_
  refine Tp rfl rfl (pur_wsub rfl rfl rfl) rfl ?_
  refine Tp rfl rfl (pur_build bld97 rfl rfl) rfl ?_
  refine TO_cons rfl (TOp_storeB sz97 rfl rfl rfl rfl rfl rfl rfl (by decide) (lb rfl) rfl ?_)
  refine TO_st (σ' := [.box [(sl (tI .u8) r_5.2.b), (intA r_5.2.i), (intA r_5.2.h)], .box [(strA r_1.1), (intA (w64 (r_3.1 - 1))), (intA (w64 (r_5.1 - 1)))], .dead]) rfl ?_
  refine TO_nil ?_
  refine te [(2, (.b 1 0))] rfl ?_
  refine T_ret ?_
  obtain rfl := some_inj H
  exact end_pickX (.cellK rfl agg97 rfl (lb rfl) .nil) rfl [0] (by decide) (lb rfl) rfl (lb rfl) rfl rfl rfl rfl rfl rfl

set_option maxHeartbeats 1000000 in
/-- spec.l4Any -/
theorem m_spec_l4Any_x (u : Nat) (c0 : l1Cur) (r : (Database × l1Cur)) (H : m_spec_l4Any u c0 = some r) : FnS prg 86 [(.b 0 0)] [.box [(sl (tI .u8) c0.b), (intA c0.i), (intA c0.h)]] (.g (tDatabase.enc r.1)) [.box [(sl (tI .u8) r.2.b), (intA r.2.i), (intA r.2.h)]] := by
  unfold m_spec_l4Any at H
  refine fnS_of_T Try.func86 rfl rfl (Nat.le_of_ble_eq_true rfl) ?_
  refine te [(0, (.b 0 0))] rfl ?_
  refine T_st (σ' := [.box [(sl (tI .u8) c0.b), (intA c0.i), (intA c0.h)]]) rfl ?_
  refine sr ?_
  refine TO_cons rfl (TOp_alloc zero32 rfl rfl ?_)
  refine TO_nil ?_
  refine te [(0, (.b 0 0)), (2, (.b 1 0))] rfl ?_
  refine sr ?_
  refine Tp rfl rfl (pur_move rfl) rfl ?_
  obtain ⟨r_1, h_2, H⟩ := bind_inv H
  refine TO_cons rfl (TOp_callS [0] (call_static ent110 rfl) (by decide) rfl rfl rfl rfl rfl rfl (m_spec_l4Db_x u _ _ h_2) rfl rfl ?_)
  refine toe [(0, (.b 0 0)), (2, (.b 1 0)), (4, (.b 0 0)), (5, (.g [(.m [2] 0 r_1.1.relations.length tRelation.k), (.m [3] 0 r_1.1.facts.length tFact.k)]))] rfl ?_
  refine TO_st (σ' := [.box [(sl (tI .u8) r_1.2.b), (intA r_1.2.i), (intA r_1.2.h)], .box [.n, .n], .row (flat tRelation.enc r_1.1.relations), .row (flat tFact.enc r_1.1.facts)]) rfl ?_
  refine TO_cons rfl (TOp_alloc zero32 rfl rfl ?_)
  refine TO_cons rfl (TOp_storeB sz32 rfl rfl rfl rfl rfl rfl rfl (by decide) (lb rfl) rfl ?_)
  refine TO_st (σ' := [.box [(sl (tI .u8) r_1.2.b), (intA r_1.2.i), (intA r_1.2.h)], .box [.n, .n], .row (flat tRelation.enc r_1.1.relations), .row (flat tFact.enc r_1.1.facts), .box [(.m [2] 0 r_1.1.relations.length tRelation.k), (.m [3] 0 r_1.1.facts.length tFact.k)]]) rfl ?_
  refine TO_nil ?_
  refine te [(0, (.b 0 0)), (2, (.b 1 0)), (3, (.b 4 0))] rfl ?_
  refine T_seq ?_
  refine sr ?_
  refine Tp rfl rfl (pur_move rfl) rfl ?_
  obtain ⟨r_3, h_4, H⟩ := bind_inv H
  refine TO_cons rfl (TOp_callS [0] (call_static ent83 rfl) (by decide) rfl rfl rfl rfl rfl rfl (m_spec_l1Below_x _ _ _ h_4) rfl rfl ?_)
  refine toe [(0, (.b 0 0)), (2, (.b 1 0)), (3, (.b 4 0)), (6, (.b 0 0)), (7, (intA r_3.1))] rfl ?_
  refine TO_st (σ' := [.box [(sl (tI .u8) r_3.2.b), (intA r_3.2.i), (intA r_3.2.h)], .box [.n, .n], .row (flat tRelation.enc r_1.1.relations), .row (flat tFact.enc r_1.1.facts), .box [(.m [2] 0 r_1.1.relations.length tRelation.k), (.m [3] 0 r_1.1.facts.length tFact.k)]]) rfl ?_
  refine TO_nil ?_
  refine te [(0, (.b 0 0)), (2, (.b 1 0)), (3, (.b 4 0)), (7, (intA r_3.1))] rfl ?_
  refine T_block ?_
  refine sr ?_
  refine Tp rfl rfl (pur_eql rfl rfl rfl) rfl ?_
  refine Tp rfl rfl (pur_assign rfl) rfl ?_
  refine TO_nil ?_
  refine te [(0, (.b 0 0)), (2, (.b 1 0)), (3, (.b 4 0)), (7, (intA r_3.1)), (8, (boolA (decide (r_3.1 = 0))))] rfl ?_
  refine T_cond (t := decide (r_3.1 = 0)) rfl (fun c_5 => ?_) (fun c_5 => ?_)
  ·replace H := cond_t c_5 H
   obtain ⟨r_6, h_7, H⟩ := bind_inv H
   obtain ⟨us_8, h_9, H⟩ := bind_inv H
   refine T_pad ?_
   refine T_pad ?_
   refine T_regionP mixed ?_
   refine TA_have 3 #[true, true, true, true, true, true, true, false, false, false] [(2, (.b 1 0)), (3, (.b 4 0)), (11, (.m [3] 0 r_1.1.facts.length tFact.k)), (16, (.m [6] 0 ([r_6.1] : (List Fact)).length tFact.k))] [.box [(sl (tI .u8) r_6.2.b), (intA r_6.2.i), (intA r_6.2.h)], .box [.n, .n], .dead, .row (flat tFact.enc r_1.1.facts), .box [(sl tRelation r_1.1.relations), (.m [3] 0 r_1.1.facts.length tFact.k)], .dead, .row (flat tFact.enc ([r_6.1] : (List Fact)))] ?_ (fun hj0_4 => ?_)
   ·skip
    refine t1 7 (by kernel_rfl) rfl rfl (TOp_appY (T := tFact) (f := tFact.enc) (xs := r_1.1.facts) (ys := ([r_6.1] : (List Fact))) tFact.len sl30 zero60 rfl bytes60 (by decide) rfl rfl rfl rfl (src_mT (f := tFact.enc) tFact.len rfl rfl (flat_cell tFact _)) (flat_cell tFact _) h_9 ?_)
    refine tmv 3 7 (by decide) (lb rfl) rfl rfl (lb rfl) ?_
    refine tf 8 rfl (purI_fa_b fld32_1 rfl rfl) rfl rfl (by kernel_rfl) ?_
    refine t1 9 (by kernel_rfl) rfl rfl (TOp_storeB sz30 rfl rfl rfl rfl rfl rfl rfl (by decide) (lb rfl) rfl ?_)
    refine TA_st (σ' := [.box [(sl (tI .u8) r_6.2.b), (intA r_6.2.i), (intA r_6.2.h)], .box [.n, .n], .dead, .row (flat tFact.enc us_8), .box [(sl tRelation r_1.1.relations), (.m [3] 0 us_8.length tFact.k)], .dead, .row (flat tFact.enc ([r_6.1] : (List Fact))), .dead]) rfl ?_
    refine TA_nil (by kernel_rfl) ?_
    refine te [(2, (.b 1 0)), (3, (.b 4 0))] rfl ?_
    refine sr ?_
    refine Tp rfl rfl (pur_ldK_b agg32 rfl rfl (lb rfl) rfl) rfl ?_
    refine TO_cons rfl (TOp_storeB sz32 rfl rfl rfl rfl rfl rfl rfl (by decide) (lb rfl) rfl ?_)
    refine TO_st (σ' := [.box [(sl (tI .u8) r_6.2.b), (intA r_6.2.i), (intA r_6.2.h)], .box [(sl tRelation r_1.1.relations), (.m [3] 0 us_8.length tFact.k)], .dead, .row (flat tFact.enc us_8), .box [(sl tRelation r_1.1.relations), (.m [3] 0 us_8.length tFact.k)], .dead, .row (flat tFact.enc ([r_6.1] : (List Fact))), .dead]) rfl ?_
    refine TO_nil ?_
    refine te [(2, (.b 1 0))] rfl ?_
    refine T_frzB 3 (E' := [(2, (.b 1 0))]) (σ' := [.box [(sl (tI .u8) r_6.2.b), (intA r_6.2.i), (intA r_6.2.h)], .box [(sl tRelation r_1.1.relations), (sl tFact us_8)], .dead, .dead, .box [(sl tRelation r_1.1.relations), (sl tFact us_8)], .dead, .row (flat tFact.enc ([r_6.1] : (List Fact))), .dead]) rfl (lb rfl) ?_ ?_ ?_
    ·exact ⟨(.keep rfl), trivial⟩
    ·exact ⟨(fzK rfl), (fzC (.keep rfl) (fzC fz1E fzN)), trivial, trivial, (fzC (.keep rfl) (fzC fz1E fzN)), trivial, rfl, trivial, trivial⟩
    refine T_ret ?_
    obtain rfl := some_inj H
    exact end_pickX (.cellK rfl agg32 rfl (lb rfl) .nil) rfl [0] (by decide) (lb rfl) rfl (lb rfl) rfl rfl rfl rfl rfl rfl
   refine TA_have 4 #[true, true, true, true, true, true, false, false, false, false] [(2, (.b 1 0)), (3, (.b 4 0)), (11, (.m [3] 0 r_1.1.facts.length tFact.k)), (15, (.g [(intA r_6.1.relation), (sl tInt r_6.1.values)]))] [.box [(sl (tI .u8) r_6.2.b), (intA r_6.2.i), (intA r_6.2.h)], .box [.n, .n], .dead, .row (flat tFact.enc r_1.1.facts), .box [(sl tRelation r_1.1.relations), (.m [3] 0 r_1.1.facts.length tFact.k)], .dead, .dead] ?_ (fun hj1_4 => ?_)
   ·skip
    refine t1 6 (by kernel_rfl) rfl rfl (TOp_lit (nn := 1) (k := 2) sl30 zero60 rfl rfl rfl rfl (by decide) ?_)
    refine tmv 6 7 (by decide) (lb rfl) rfl rfl (lb rfl) ?_
    exact tj hj0_4 rfl (wp 7 (lb rfl) rfl rfl rfl rfl rfl)
   refine TA_have 5 #[true, true, true, true, true, false, false, false, false, false] [(2, (.b 1 0)), (3, (.b 4 0)), (11, (.m [3] 0 r_1.1.facts.length tFact.k)), (12, (.b 0 0)), (14, (sl tRelation r_1.1.relations))] [.box [(sl (tI .u8) r_3.2.b), (intA r_3.2.i), (intA r_3.2.h)], .box [.n, .n], .dead, .row (flat tFact.enc r_1.1.facts), .box [(sl tRelation r_1.1.relations), (.m [3] 0 r_1.1.facts.length tFact.k)], .dead, .dead] ?_ (fun hj2_4 => ?_)
   ·skip
    refine t1 5 (by kernel_rfl) rfl rfl (TOp_callS [0] (call_static ent111 rfl) (by decide) rfl rfl rfl rfl rfl rfl (m_spec_l3Any_x u _ _ _ h_7) rfl rfl ?_)
    refine tae [(2, (.b 1 0)), (3, (.b 4 0)), (11, (.m [3] 0 r_1.1.facts.length tFact.k)), (12, (.b 0 0)), (14, (sl tRelation r_1.1.relations)), (15, (.g [(intA r_6.1.relation), (.m [7] 0 r_6.1.values.length tInt.k)]))] rfl ?_
    refine TA_st (σ' := [.box [(sl (tI .u8) r_6.2.b), (intA r_6.2.i), (intA r_6.2.h)], .box [.n, .n], .dead, .row (flat tFact.enc r_1.1.facts), .box [(sl tRelation r_1.1.relations), (.m [3] 0 r_1.1.facts.length tFact.k)], .dead, .dead, .row (flat tInt.enc r_6.1.values)]) rfl ?_
    refine tmv 5 7 (by decide) (lb rfl) rfl rfl (lb rfl) ?_
    refine TA_ghost (E' := [(2, (.b 1 0)), (3, (.b 4 0)), (11, (.m [3] 0 r_1.1.facts.length tFact.k)), (12, (.b 0 0)), (14, (sl tRelation r_1.1.relations)), (15, (.g [(intA r_6.1.relation), (.m [5] 0 r_6.1.values.length tInt.k)]))]) (σ' := [.box [(sl (tI .u8) r_6.2.b), (intA r_6.2.i), (intA r_6.2.h)], .box [.n, .n], .dead, .row (flat tFact.enc r_1.1.facts), .box [(sl tRelation r_1.1.relations), (.m [3] 0 r_1.1.facts.length tFact.k)], .row (flat tInt.enc r_6.1.values), .dead, .dead]) (Ghost.weak (WeakL.to 8 (lb rfl) rfl rfl rfl rfl ⟨leR rfl, leR rfl, leR rfl, leR rfl, leR rfl, leR rfl, trivial⟩)) ?_
    refine TA_frz1 5 (E' := [(2, (.b 1 0)), (3, (.b 4 0)), (11, (.m [3] 0 r_1.1.facts.length tFact.k)), (12, (.b 0 0)), (14, (sl tRelation r_1.1.relations)), (15, (.g [(intA r_6.1.relation), (sl tInt r_6.1.values)]))]) rfl rfl (lb rfl) ?_ ?_
    ·exact ⟨(.keep rfl), (.keep rfl), (.keep rfl), (.keep rfl), (.keep rfl), (fz1G (fzC (.keep rfl) (fzC fz1E fzN))), trivial⟩
    refine TA_st (σ' := [.box [(sl (tI .u8) r_6.2.b), (intA r_6.2.i), (intA r_6.2.h)], .box [.n, .n], .dead, .row (flat tFact.enc r_1.1.facts), .box [(sl tRelation r_1.1.relations), (.m [3] 0 r_1.1.facts.length tFact.k)], .dead, .dead, .dead]) rfl ?_
    exact tj hj1_4 rfl (wp 7 (lb rfl) rfl rfl rfl rfl rfl)
   refine tf 0 rfl (purI_fa_b fld32_1 rfl rfl) rfl rfl (by kernel_rfl) ?_
   refine tf 2 rfl (purI_move rfl) rfl rfl (by kernel_rfl) ?_
   refine tf 3 rfl (purI_fa_b fld32_0 rfl rfl) rfl rfl (by kernel_rfl) ?_
   refine TA_all [1, 4] (by kernel_rfl) (by decide) ⟨?_, ?_, trivial⟩
   ·skip
    refine ⟨_, rfl, rfl, (TOp_pure (pur_ld_b one30 rfl rfl rfl rfl) rfl ?_)⟩
    refine t1 4 (by kernel_rfl) rfl rfl (TOp_pure (pur_ld_b one29 rfl rfl rfl rfl) rfl ?_)
    refine TA_ghost (E' := [(0, (.b 0 0)), (2, (.b 1 0)), (3, (.b 4 0)), (7, (intA r_3.1)), (8, (boolA (decide (r_3.1 = 0)))), (10, (.b 4 1)), (11, (.m [3] 0 r_1.1.facts.length tFact.k)), (12, (.b 0 0)), (13, (.b 4 0)), (14, (.m [2] 0 r_1.1.relations.length tRelation.k))]) (σ' := [.box [(sl (tI .u8) r_3.2.b), (intA r_3.2.i), (intA r_3.2.h)], .box [.n, .n], .row (flat tRelation.enc r_1.1.relations), .row (flat tFact.enc r_1.1.facts), .box [(.m [2] 0 r_1.1.relations.length tRelation.k), (.m [3] 0 r_1.1.facts.length tFact.k)], .dead, .dead]) (Ghost.weak (WeakL.to 7 (lb rfl) rfl rfl rfl rfl ⟨leR rfl, leR rfl, leR rfl, leR rfl, leR rfl, leR rfl, leR rfl, leR rfl, leR rfl, leR rfl, trivial⟩)) ?_
    refine TA_frzB 2 (E' := [(0, (.b 0 0)), (2, (.b 1 0)), (3, (.b 4 0)), (7, (intA r_3.1)), (8, (boolA (decide (r_3.1 = 0)))), (10, (.b 4 1)), (11, (.m [3] 0 r_1.1.facts.length tFact.k)), (12, (.b 0 0)), (13, (.b 4 0)), (14, (sl tRelation r_1.1.relations))]) (σ' := [.box [(sl (tI .u8) r_3.2.b), (intA r_3.2.i), (intA r_3.2.h)], .box [.n, .n], .dead, .row (flat tFact.enc r_1.1.facts), .box [(sl tRelation r_1.1.relations), (.m [3] 0 r_1.1.facts.length tFact.k)], .dead, .dead]) rfl (lb rfl) ?_ ?_ ?_
    ·exact ⟨(.keep rfl), (.keep rfl), (.keep rfl), (.keep rfl), (.keep rfl), (.keep rfl), (.keep rfl), (.keep rfl), (.keep rfl), fz1E, trivial⟩
    ·exact ⟨(fzK rfl), (fzK rfl), trivial, rfl, (fzC fz1E (fzC (.keep rfl) fzN)), trivial, trivial, trivial⟩
    exact tj hj2_4 rfl (wp 7 (lb rfl) rfl rfl rfl rfl rfl)
   ·skip
    refine ⟨_, rfl, rfl, (TOp_pure (pur_ld_b one29 rfl rfl rfl rfl) rfl ?_)⟩
    refine TA_ghost (E' := [(0, (.b 0 0)), (2, (.b 1 0)), (3, (.b 4 0)), (7, (intA r_3.1)), (8, (boolA (decide (r_3.1 = 0)))), (10, (.b 4 1)), (12, (.b 0 0)), (13, (.b 4 0)), (14, (.m [2] 0 r_1.1.relations.length tRelation.k))]) (σ' := [.box [(sl (tI .u8) r_3.2.b), (intA r_3.2.i), (intA r_3.2.h)], .box [.n, .n], .row (flat tRelation.enc r_1.1.relations), .row (flat tFact.enc r_1.1.facts), .box [(.m [2] 0 r_1.1.relations.length tRelation.k), (.m [3] 0 r_1.1.facts.length tFact.k)], .dead, .dead]) (Ghost.weak (WeakL.to 7 (lb rfl) rfl rfl rfl rfl ⟨leR rfl, leR rfl, leR rfl, leR rfl, leR rfl, leR rfl, leR rfl, leR rfl, leR rfl, trivial⟩)) ?_
    refine TA_frzB 2 (E' := [(0, (.b 0 0)), (2, (.b 1 0)), (3, (.b 4 0)), (7, (intA r_3.1)), (8, (boolA (decide (r_3.1 = 0)))), (10, (.b 4 1)), (12, (.b 0 0)), (13, (.b 4 0)), (14, (sl tRelation r_1.1.relations))]) (σ' := [.box [(sl (tI .u8) r_3.2.b), (intA r_3.2.i), (intA r_3.2.h)], .box [.n, .n], .dead, .row (flat tFact.enc r_1.1.facts), .box [(sl tRelation r_1.1.relations), (.m [3] 0 r_1.1.facts.length tFact.k)], .dead, .dead]) rfl (lb rfl) ?_ ?_ ?_
    ·exact ⟨(.keep rfl), (.keep rfl), (.keep rfl), (.keep rfl), (.keep rfl), (.keep rfl), (.keep rfl), (.keep rfl), fz1E, trivial⟩
    ·exact ⟨(fzK rfl), (fzK rfl), trivial, rfl, (fzC fz1E (fzC (.keep rfl) fzN)), trivial, trivial, trivial⟩
    refine TA_all [1, 5] (by kernel_rfl) (by decide) ⟨?_, ?_, trivial⟩
    ·skip
     refine ⟨_, rfl, rfl, (TOp_pure (pur_ld_b one30 rfl rfl rfl rfl) rfl ?_)⟩
     exact tj hj2_4 rfl (wp 7 (lb rfl) rfl rfl rfl rfl rfl)
    ·skip
     refine ⟨_, rfl, rfl, (TOp_callS [0] (call_static ent111 rfl) (by decide) rfl rfl rfl rfl rfl rfl (m_spec_l3Any_x u _ _ _ h_7) rfl rfl ?_)⟩
     refine tae [(0, (.b 0 0)), (2, (.b 1 0)), (3, (.b 4 0)), (7, (intA r_3.1)), (8, (boolA (decide (r_3.1 = 0)))), (10, (.b 4 1)), (12, (.b 0 0)), (13, (.b 4 0)), (14, (sl tRelation r_1.1.relations)), (15, (.g [(intA r_6.1.relation), (.m [7] 0 r_6.1.values.length tInt.k)]))] rfl ?_
     refine TA_st (σ' := [.box [(sl (tI .u8) r_6.2.b), (intA r_6.2.i), (intA r_6.2.h)], .box [.n, .n], .dead, .row (flat tFact.enc r_1.1.facts), .box [(sl tRelation r_1.1.relations), (.m [3] 0 r_1.1.facts.length tFact.k)], .dead, .dead, .row (flat tInt.enc r_6.1.values)]) rfl ?_
     refine tmv 5 7 (by decide) (lb rfl) rfl rfl (lb rfl) ?_
     refine TA_ghost (E' := [(0, (.b 0 0)), (2, (.b 1 0)), (3, (.b 4 0)), (7, (intA r_3.1)), (8, (boolA (decide (r_3.1 = 0)))), (10, (.b 4 1)), (12, (.b 0 0)), (13, (.b 4 0)), (14, (sl tRelation r_1.1.relations)), (15, (.g [(intA r_6.1.relation), (.m [5] 0 r_6.1.values.length tInt.k)]))]) (σ' := [.box [(sl (tI .u8) r_6.2.b), (intA r_6.2.i), (intA r_6.2.h)], .box [.n, .n], .dead, .row (flat tFact.enc r_1.1.facts), .box [(sl tRelation r_1.1.relations), (.m [3] 0 r_1.1.facts.length tFact.k)], .row (flat tInt.enc r_6.1.values), .dead, .dead]) (Ghost.weak (WeakL.to 8 (lb rfl) rfl rfl rfl rfl ⟨leR rfl, leR rfl, leR rfl, leR rfl, leR rfl, leR rfl, leR rfl, leR rfl, leR rfl, leR rfl, trivial⟩)) ?_
     refine TA_frz1 5 (E' := [(0, (.b 0 0)), (2, (.b 1 0)), (3, (.b 4 0)), (7, (intA r_3.1)), (8, (boolA (decide (r_3.1 = 0)))), (10, (.b 4 1)), (12, (.b 0 0)), (13, (.b 4 0)), (14, (sl tRelation r_1.1.relations)), (15, (.g [(intA r_6.1.relation), (sl tInt r_6.1.values)]))]) rfl rfl (lb rfl) ?_ ?_
     ·exact ⟨(.keep rfl), (.keep rfl), (.keep rfl), (.keep rfl), (.keep rfl), (.keep rfl), (.keep rfl), (.keep rfl), (.keep rfl), (fz1G (fzC (.keep rfl) (fzC fz1E fzN))), trivial⟩
     refine TA_st (σ' := [.box [(sl (tI .u8) r_6.2.b), (intA r_6.2.i), (intA r_6.2.h)], .box [.n, .n], .dead, .row (flat tFact.enc r_1.1.facts), .box [(sl tRelation r_1.1.relations), (.m [3] 0 r_1.1.facts.length tFact.k)], .dead, .dead, .dead]) rfl ?_
     refine TA_all [1, 6] (by kernel_rfl) (by decide) ⟨?_, ?_, trivial⟩
     ·skip
      refine ⟨_, rfl, rfl, (TOp_pure (pur_ld_b one30 rfl rfl rfl rfl) rfl ?_)⟩
      exact tj hj1_4 rfl (wp 7 (lb rfl) rfl rfl rfl rfl rfl)
     ·skip
      refine ⟨_, rfl, rfl, (TOp_lit (nn := 1) (k := 2) sl30 zero60 rfl rfl rfl rfl (by decide) ?_)⟩
      refine tmv 6 8 (by decide) (lb rfl) rfl rfl (lb rfl) ?_
      refine t1 1 (by kernel_rfl) rfl rfl (TOp_pure (pur_ld_b one30 rfl rfl rfl rfl) rfl ?_)
      exact tj hj0_4 rfl (wp 7 (lb rfl) rfl rfl rfl rfl rfl)
  ·replace H := cond_f c_5 H
   refine sr ?_
   refine Tp rfl rfl (pur_eql rfl rfl rfl) rfl ?_
   refine Tp rfl rfl (pur_assign rfl) rfl ?_
   refine TO_nil ?_
   refine te [(0, (.b 0 0)), (2, (.b 1 0)), (3, (.b 4 0)), (7, (intA r_3.1)), (19, (boolA (decide (r_3.1 = 1))))] rfl ?_
   refine T_cond (t := decide (r_3.1 = 1)) rfl (fun c_10 => ?_) (fun c_10 => ?_)
   ·replace H := cond_t c_10 H
    obtain ⟨r_11, h_12, H⟩ := bind_inv H
    obtain ⟨ys_13, h_14, H⟩ := bind_inv H
    obtain ⟨i_15, j_16, hi_17, hj_18, hij_19, hjl_20, hys_21, _⟩ := cutI_inv h_14
    refine T_regionP mixed ?_
    refine TA_have 3 #[true, true, true, true, false, false, false] [(2, (.b 1 0)), (3, (.b 4 0)), (22, (.m [2] 0 r_1.1.relations.length tRelation.k)), (24, (intA r_11.1))] [.box [(sl (tI .u8) r_11.2.b), (intA r_11.2.i), (intA r_11.2.h)], .box [.n, .n], .row (flat tRelation.enc r_1.1.relations), .row (flat tFact.enc r_1.1.facts), .box [(.m [2] 0 r_1.1.relations.length tRelation.k), (.m [3] 0 r_1.1.facts.length tFact.k)]] ?_ (fun hj0_6 => ?_)
    ·skip
     refine tf 4 rfl (purI_cutM (lo := none) (hi := (some (.tmp 24))) sl29 rfl hi_17.symm ⟨_, congrArg (fun z => A.v (.int .i64 z)) hj_18⟩ hij_19 hjl_20 rfl) rfl rfl (by kernel_rfl) ?_
     refine tf 5 rfl (purI_fa_b fld32_0 rfl rfl) rfl rfl (by kernel_rfl) ?_
     refine t1 6 (by kernel_rfl) rfl rfl (TOp_storeB sz29 rfl rfl rfl rfl rfl rfl rfl (by decide) (lb rfl) rfl ?_)
     refine TA_st (σ' := [.box [(sl (tI .u8) r_11.2.b), (intA r_11.2.i), (intA r_11.2.h)], .box [.n, .n], .row (flat tRelation.enc r_1.1.relations), .row (flat tFact.enc r_1.1.facts), .box [(.m [2] (i_15 * tRelation.k) (j_16 - i_15) tRelation.k), (.m [3] 0 r_1.1.facts.length tFact.k)]]) rfl ?_
     refine TA_nil (by kernel_rfl) ?_
     refine te [(2, (.b 1 0)), (3, (.b 4 0))] rfl ?_
     refine sr ?_
     refine Tp rfl rfl (pur_ldK_b agg32 rfl rfl (lb rfl) rfl) rfl ?_
     refine TO_cons rfl (TOp_storeB sz32 rfl rfl rfl rfl rfl rfl rfl (by decide) (lb rfl) rfl ?_)
     refine TO_st (σ' := [.box [(sl (tI .u8) r_11.2.b), (intA r_11.2.i), (intA r_11.2.h)], .box [(.m [2] (i_15 * tRelation.k) (j_16 - i_15) tRelation.k), (.m [3] 0 r_1.1.facts.length tFact.k)], .row (flat tRelation.enc r_1.1.relations), .row (flat tFact.enc r_1.1.facts), .box [(.m [2] (i_15 * tRelation.k) (j_16 - i_15) tRelation.k), (.m [3] 0 r_1.1.facts.length tFact.k)]]) rfl ?_
     refine TO_nil ?_
     refine te [(2, (.b 1 0))] rfl ?_
     refine T_frzB 2 (E' := [(2, (.b 1 0))]) (σ' := [.box [(sl (tI .u8) r_11.2.b), (intA r_11.2.i), (intA r_11.2.h)], .box [(sl tRelation ys_13), (.m [3] 0 r_1.1.facts.length tFact.k)], .dead, .row (flat tFact.enc r_1.1.facts), .box [(sl tRelation ys_13), (.m [3] 0 r_1.1.facts.length tFact.k)]]) rfl (lb rfl) ?_ ?_ ?_
     ·exact ⟨(.keep rfl), trivial⟩
     ·exact ⟨(fzK rfl), (fzC (fz1C hij_19 hjl_20 hys_21) (fzC (.keep rfl) fzN)), trivial, rfl, (fzC (fz1C hij_19 hjl_20 hys_21) (fzC (.keep rfl) fzN)), trivial⟩
     refine T_frzB 3 (E' := [(2, (.b 1 0))]) (σ' := [.box [(sl (tI .u8) r_11.2.b), (intA r_11.2.i), (intA r_11.2.h)], .box [(sl tRelation ys_13), (sl tFact r_1.1.facts)], .dead, .dead, .box [(sl tRelation ys_13), (sl tFact r_1.1.facts)]]) rfl (lb rfl) ?_ ?_ ?_
     ·exact ⟨(.keep rfl), trivial⟩
     ·exact ⟨(fzK rfl), (fzC (.keep rfl) (fzC fz1E fzN)), trivial, trivial, (fzC (.keep rfl) (fzC fz1E fzN)), trivial⟩
     refine T_ret ?_
     obtain rfl := some_inj H
     exact end_pickX (.cellK rfl agg32 rfl (lb rfl) .nil) rfl [0] (by decide) (lb rfl) rfl (lb rfl) rfl rfl rfl rfl rfl rfl
    refine tf 0 rfl (purI_fa_b fld32_0 rfl rfl) rfl rfl (by kernel_rfl) ?_
    refine tf 2 rfl (purI_move rfl) rfl rfl (by kernel_rfl) ?_
    refine TA_all [1, 3] (by kernel_rfl) (by decide) ⟨?_, ?_, trivial⟩
    ·skip
     refine ⟨_, rfl, rfl, (TOp_pure (pur_ld_b one29 rfl rfl rfl rfl) rfl ?_)⟩
     refine t1 3 (by kernel_rfl) rfl rfl (TOp_callS [0] (call_static ent83 rfl) (by decide) rfl rfl rfl rfl rfl rfl (m_spec_l1Below_x _ _ _ h_12) rfl rfl ?_)
     refine tae [(0, (.b 0 0)), (2, (.b 1 0)), (3, (.b 4 0)), (7, (intA r_3.1)), (19, (boolA (decide (r_3.1 = 1)))), (21, (.b 4 0)), (22, (.m [2] 0 r_1.1.relations.length tRelation.k)), (23, (.b 0 0)), (24, (intA r_11.1))] rfl ?_
     refine TA_st (σ' := [.box [(sl (tI .u8) r_11.2.b), (intA r_11.2.i), (intA r_11.2.h)], .box [.n, .n], .row (flat tRelation.enc r_1.1.relations), .row (flat tFact.enc r_1.1.facts), .box [(.m [2] 0 r_1.1.relations.length tRelation.k), (.m [3] 0 r_1.1.facts.length tFact.k)]]) rfl ?_
     exact tj hj0_6 rfl (wp 5 (lb rfl) rfl rfl rfl rfl rfl)
    ·skip
     refine ⟨_, rfl, rfl, (TOp_callS [0] (call_static ent83 rfl) (by decide) rfl rfl rfl rfl rfl rfl (m_spec_l1Below_x _ _ _ h_12) rfl rfl ?_)⟩
     refine tae [(0, (.b 0 0)), (2, (.b 1 0)), (3, (.b 4 0)), (7, (intA r_3.1)), (19, (boolA (decide (r_3.1 = 1)))), (21, (.b 4 0)), (23, (.b 0 0)), (24, (intA r_11.1))] rfl ?_
     refine TA_st (σ' := [.box [(sl (tI .u8) r_11.2.b), (intA r_11.2.i), (intA r_11.2.h)], .box [.n, .n], .row (flat tRelation.enc r_1.1.relations), .row (flat tFact.enc r_1.1.facts), .box [(.m [2] 0 r_1.1.relations.length tRelation.k), (.m [3] 0 r_1.1.facts.length tFact.k)]]) rfl ?_
     refine t1 1 (by kernel_rfl) rfl rfl (TOp_pure (pur_ld_b one29 rfl rfl rfl rfl) rfl ?_)
     exact tj hj0_6 rfl (wp 5 (lb rfl) rfl rfl rfl rfl rfl)
   ·replace H := cond_f c_10 H
    refine sr ?_
    refine Tp rfl rfl (pur_eql rfl rfl rfl) rfl ?_
    refine Tp rfl rfl (pur_assign rfl) rfl ?_
    refine TO_nil ?_
    refine te [(0, (.b 0 0)), (2, (.b 1 0)), (3, (.b 4 0)), (27, (boolA (decide (r_3.1 = 2))))] rfl ?_
    refine T_cond (t := decide (r_3.1 = 2)) rfl (fun c_22 => ?_) (fun c_22 => ?_)
    ·replace H := cond_t c_22 H
     obtain ⟨r_23, h_24, H⟩ := bind_inv H
     obtain ⟨r_25, h_26, H⟩ := bind_inv H
     obtain ⟨v_27, h_28, H⟩ := bind_inv H
     obtain ⟨n_29, hz_30, hv_31⟩ := getI_inv h_28
     refine T_regionP mixed ?_
     refine TA_have 2 #[true, true, true, true, true, true, false, false] [(2, (.b 1 0)), (3, (.b 4 0)), (30, (.m [2] 0 r_1.1.relations.length tRelation.k)), (32, (intA r_23.1)), (34, (.g (tRelation.enc r_25.1)))] [.box [(sl (tI .u8) r_25.2.b), (intA r_25.2.i), (intA r_25.2.h)], .box [.n, .n], .row (flat tRelation.enc r_1.1.relations), .row (flat tFact.enc r_1.1.facts), .box [(.m [2] 0 r_1.1.relations.length tRelation.k), (.m [3] 0 r_1.1.facts.length tFact.k)]] ?_ (fun hj0_8 => ?_)
     ·skip
      refine tf 6 rfl (purI_ixM (T := tRelation) sl29 rfl rfl hz_30 hv_31 rfl) rfl rfl (by kernel_rfl) ?_
      refine t1 7 (by kernel_rfl) rfl rfl (TOp_setT (f := tRelation.enc) (z := r_23.1) (y := r_25.1) tRelation.len tRelation.pos hz_30 sz97 rfl rfl rfl rfl rfl hv_31 rfl rfl ?_)
      refine TA_env (E' := [(2, (.b 1 0)), (3, (.b 4 0)), (30, (.m [2] 0 (r_1.1.relations.set (r_23.1).toNat r_25.1).length tRelation.k)), (32, (intA r_23.1)), (34, (.g (tRelation.enc r_25.1)))]) ⟨rfl, rfl, (congrArg (fun q => A.m [2] 0 q tRelation.k) (List.length_set ..).symm), rfl, rfl, trivial⟩ ?_
      refine TA_st (σ' := [.box [(sl (tI .u8) r_25.2.b), (intA r_25.2.i), (intA r_25.2.h)], .box [.n, .n], .row (flat tRelation.enc (r_1.1.relations.set (r_23.1).toNat r_25.1)), .row (flat tFact.enc r_1.1.facts), .box [(.m [2] 0 r_1.1.relations.length tRelation.k), (.m [3] 0 r_1.1.facts.length tFact.k)]]) rfl ?_
      refine TA_st (σ' := [.box [(sl (tI .u8) r_25.2.b), (intA r_25.2.i), (intA r_25.2.h)], .box [.n, .n], .row (flat tRelation.enc (r_1.1.relations.set (r_23.1).toNat r_25.1)), .row (flat tFact.enc r_1.1.facts), .box [(.m [2] 0 (r_1.1.relations.set (r_23.1).toNat r_25.1).length tRelation.k), (.m [3] 0 r_1.1.facts.length tFact.k)]]) (by simp only [List.length_set]) ?_
      refine TA_nil (by kernel_rfl) ?_
      refine te [(2, (.b 1 0)), (3, (.b 4 0))] rfl ?_
      refine sr ?_
      refine Tp rfl rfl (pur_ldK_b agg32 rfl rfl (lb rfl) rfl) rfl ?_
      refine TO_cons rfl (TOp_storeB sz32 rfl rfl rfl rfl rfl rfl rfl (by decide) (lb rfl) rfl ?_)
      refine TO_st (σ' := [.box [(sl (tI .u8) r_25.2.b), (intA r_25.2.i), (intA r_25.2.h)], .box [(.m [2] 0 (r_1.1.relations.set (r_23.1).toNat r_25.1).length tRelation.k), (.m [3] 0 r_1.1.facts.length tFact.k)], .row (flat tRelation.enc (r_1.1.relations.set (r_23.1).toNat r_25.1)), .row (flat tFact.enc r_1.1.facts), .box [(.m [2] 0 (r_1.1.relations.set (r_23.1).toNat r_25.1).length tRelation.k), (.m [3] 0 r_1.1.facts.length tFact.k)]]) rfl ?_
      refine TO_nil ?_
      refine te [(2, (.b 1 0))] rfl ?_
      refine T_frzB 2 (E' := [(2, (.b 1 0))]) (σ' := [.box [(sl (tI .u8) r_25.2.b), (intA r_25.2.i), (intA r_25.2.h)], .box [(sl tRelation (r_1.1.relations.set (r_23.1).toNat r_25.1)), (.m [3] 0 r_1.1.facts.length tFact.k)], .dead, .row (flat tFact.enc r_1.1.facts), .box [(sl tRelation (r_1.1.relations.set (r_23.1).toNat r_25.1)), (.m [3] 0 r_1.1.facts.length tFact.k)]]) rfl (lb rfl) ?_ ?_ ?_
      ·exact ⟨(.keep rfl), trivial⟩
      ·exact ⟨(fzK rfl), (fzC fz1E (fzC (.keep rfl) fzN)), trivial, rfl, (fzC fz1E (fzC (.keep rfl) fzN)), trivial⟩
      refine T_frzB 3 (E' := [(2, (.b 1 0))]) (σ' := [.box [(sl (tI .u8) r_25.2.b), (intA r_25.2.i), (intA r_25.2.h)], .box [(sl tRelation (r_1.1.relations.set (r_23.1).toNat r_25.1)), (sl tFact r_1.1.facts)], .dead, .dead, .box [(sl tRelation (r_1.1.relations.set (r_23.1).toNat r_25.1)), (sl tFact r_1.1.facts)]]) rfl (lb rfl) ?_ ?_ ?_
      ·exact ⟨(.keep rfl), trivial⟩
      ·exact ⟨(fzK rfl), (fzC (.keep rfl) (fzC fz1E fzN)), trivial, trivial, (fzC (.keep rfl) (fzC fz1E fzN)), trivial⟩
      refine T_ret ?_
      obtain rfl := some_inj H
      exact end_pickX (.cellK rfl agg32 rfl (lb rfl) .nil) rfl [0] (by decide) (lb rfl) rfl (lb rfl) rfl rfl rfl rfl rfl rfl
     refine TA_have 3 #[true, true, true, true, true, false, false, false] [(2, (.b 1 0)), (3, (.b 4 0)), (30, (.m [2] 0 r_1.1.relations.length tRelation.k)), (32, (intA r_23.1)), (33, (.b 0 0))] [.box [(sl (tI .u8) r_23.2.b), (intA r_23.2.i), (intA r_23.2.h)], .box [.n, .n], .row (flat tRelation.enc r_1.1.relations), .row (flat tFact.enc r_1.1.facts), .box [(.m [2] 0 r_1.1.relations.length tRelation.k), (.m [3] 0 r_1.1.facts.length tFact.k)]] ?_ (fun hj1_8 => ?_)
     ·skip
      refine t1 5 (by kernel_rfl) rfl rfl (TOp_callS [0] (call_static ent112 rfl) (by decide) rfl rfl rfl rfl rfl rfl (m_spec_l2Any_x _ _ h_26) rfl rfl ?_)
      refine tae [(2, (.b 1 0)), (3, (.b 4 0)), (30, (.m [2] 0 r_1.1.relations.length tRelation.k)), (32, (intA r_23.1)), (33, (.b 0 0)), (34, (.g (tRelation.enc r_25.1)))] rfl ?_
      refine TA_st (σ' := [.box [(sl (tI .u8) r_25.2.b), (intA r_25.2.i), (intA r_25.2.h)], .box [.n, .n], .row (flat tRelation.enc r_1.1.relations), .row (flat tFact.enc r_1.1.facts), .box [(.m [2] 0 r_1.1.relations.length tRelation.k), (.m [3] 0 r_1.1.facts.length tFact.k)]]) rfl ?_
      exact tj hj0_8 rfl (wp 5 (lb rfl) rfl rfl rfl rfl rfl)
     refine tf 0 rfl (purI_fa_b fld32_0 rfl rfl) rfl rfl (by kernel_rfl) ?_
     refine tf 2 rfl (purI_move rfl) rfl rfl (by kernel_rfl) ?_
     refine tf 4 rfl (purI_move rfl) rfl rfl (by kernel_rfl) ?_
     refine TA_all [1, 3] (by kernel_rfl) (by decide) ⟨?_, ?_, trivial⟩
     ·skip
      refine ⟨_, rfl, rfl, (TOp_pure (pur_ld_b one29 rfl rfl rfl rfl) rfl ?_)⟩
      refine t1 3 (by kernel_rfl) rfl rfl (TOp_callS [0] (call_static ent83 rfl) (by decide) rfl rfl rfl rfl rfl rfl (m_spec_l1Below_x _ _ _ h_24) rfl rfl ?_)
      refine tae [(0, (.b 0 0)), (2, (.b 1 0)), (3, (.b 4 0)), (27, (boolA (decide (r_3.1 = 2)))), (29, (.b 4 0)), (30, (.m [2] 0 r_1.1.relations.length tRelation.k)), (31, (.b 0 0)), (32, (intA r_23.1)), (33, (.b 0 0))] rfl ?_
      refine TA_st (σ' := [.box [(sl (tI .u8) r_23.2.b), (intA r_23.2.i), (intA r_23.2.h)], .box [.n, .n], .row (flat tRelation.enc r_1.1.relations), .row (flat tFact.enc r_1.1.facts), .box [(.m [2] 0 r_1.1.relations.length tRelation.k), (.m [3] 0 r_1.1.facts.length tFact.k)]]) rfl ?_
      exact tj hj1_8 rfl (wp 5 (lb rfl) rfl rfl rfl rfl rfl)
     ·skip
      refine ⟨_, rfl, rfl, (TOp_callS [0] (call_static ent83 rfl) (by decide) rfl rfl rfl rfl rfl rfl (m_spec_l1Below_x _ _ _ h_24) rfl rfl ?_)⟩
      refine tae [(0, (.b 0 0)), (2, (.b 1 0)), (3, (.b 4 0)), (27, (boolA (decide (r_3.1 = 2)))), (29, (.b 4 0)), (31, (.b 0 0)), (32, (intA r_23.1)), (33, (.b 0 0))] rfl ?_
      refine TA_st (σ' := [.box [(sl (tI .u8) r_23.2.b), (intA r_23.2.i), (intA r_23.2.h)], .box [.n, .n], .row (flat tRelation.enc r_1.1.relations), .row (flat tFact.enc r_1.1.facts), .box [(.m [2] 0 r_1.1.relations.length tRelation.k), (.m [3] 0 r_1.1.facts.length tFact.k)]]) rfl ?_
      refine TA_all [1, 5] (by kernel_rfl) (by decide) ⟨?_, ?_, trivial⟩
      ·skip
       refine ⟨_, rfl, rfl, (TOp_pure (pur_ld_b one29 rfl rfl rfl rfl) rfl ?_)⟩
       exact tj hj1_8 rfl (wp 5 (lb rfl) rfl rfl rfl rfl rfl)
      ·skip
       refine ⟨_, rfl, rfl, (TOp_callS [0] (call_static ent112 rfl) (by decide) rfl rfl rfl rfl rfl rfl (m_spec_l2Any_x _ _ h_26) rfl rfl ?_)⟩
       refine tae [(0, (.b 0 0)), (2, (.b 1 0)), (3, (.b 4 0)), (27, (boolA (decide (r_3.1 = 2)))), (29, (.b 4 0)), (31, (.b 0 0)), (32, (intA r_23.1)), (33, (.b 0 0)), (34, (.g (tRelation.enc r_25.1)))] rfl ?_
       refine TA_st (σ' := [.box [(sl (tI .u8) r_25.2.b), (intA r_25.2.i), (intA r_25.2.h)], .box [.n, .n], .row (flat tRelation.enc r_1.1.relations), .row (flat tFact.enc r_1.1.facts), .box [(.m [2] 0 r_1.1.relations.length tRelation.k), (.m [3] 0 r_1.1.facts.length tFact.k)]]) rfl ?_
       refine t1 1 (by kernel_rfl) rfl rfl (TOp_pure (pur_ld_b one29 rfl rfl rfl rfl) rfl ?_)
       exact tj hj0_8 rfl (wp 5 (lb rfl) rfl rfl rfl rfl rfl)
    ·replace H := cond_f c_22 H
     refine T_skip ?_
     refine te [(2, (.b 1 0)), (3, (.b 4 0))] rfl ?_
     refine sr ?_
     refine Tp rfl rfl (pur_ldK_b agg32 rfl rfl (lb rfl) rfl) rfl ?_
     refine TO_cons rfl (TOp_storeB sz32 rfl rfl rfl rfl rfl rfl rfl (by decide) (lb rfl) rfl ?_)
     refine TO_st (σ' := [.box [(sl (tI .u8) r_3.2.b), (intA r_3.2.i), (intA r_3.2.h)], .box [(.m [2] 0 r_1.1.relations.length tRelation.k), (.m [3] 0 r_1.1.facts.length tFact.k)], .row (flat tRelation.enc r_1.1.relations), .row (flat tFact.enc r_1.1.facts), .box [(.m [2] 0 r_1.1.relations.length tRelation.k), (.m [3] 0 r_1.1.facts.length tFact.k)]]) rfl ?_
     refine TO_nil ?_
     refine te [(2, (.b 1 0))] rfl ?_
     refine T_frzB 2 (E' := [(2, (.b 1 0))]) (σ' := [.box [(sl (tI .u8) r_3.2.b), (intA r_3.2.i), (intA r_3.2.h)], .box [(sl tRelation r_1.1.relations), (.m [3] 0 r_1.1.facts.length tFact.k)], .dead, .row (flat tFact.enc r_1.1.facts), .box [(sl tRelation r_1.1.relations), (.m [3] 0 r_1.1.facts.length tFact.k)]]) rfl (lb rfl) ?_ ?_ ?_
     ·exact ⟨(.keep rfl), trivial⟩
     ·exact ⟨(fzK rfl), (fzC fz1E (fzC (.keep rfl) fzN)), trivial, rfl, (fzC fz1E (fzC (.keep rfl) fzN)), trivial⟩
     refine T_frzB 3 (E' := [(2, (.b 1 0))]) (σ' := [.box [(sl (tI .u8) r_3.2.b), (intA r_3.2.i), (intA r_3.2.h)], .box [(sl tRelation r_1.1.relations), (sl tFact r_1.1.facts)], .dead, .dead, .box [(sl tRelation r_1.1.relations), (sl tFact r_1.1.facts)]]) rfl (lb rfl) ?_ ?_ ?_
     ·exact ⟨(.keep rfl), trivial⟩
     ·exact ⟨(fzK rfl), (fzC (.keep rfl) (fzC fz1E fzN)), trivial, trivial, (fzC (.keep rfl) (fzC fz1E fzN)), trivial⟩
     refine T_ret ?_
     obtain rfl := some_inj H
     exact end_pickX (.cellK rfl agg32 rfl (lb rfl) .nil) rfl [0] (by decide) (lb rfl) rfl (lb rfl) rfl rfl rfl rfl rfl rfl

set_option maxHeartbeats 1000000 in
/-- spec.l1Once -/
theorem m_spec_l1Once_x (c0 : l1Cur) (n1 : Int) (r : (Bool × l1Cur)) (H : m_spec_l1Once c0 n1 = some r) : FnS prg 87 [(.b 0 0), (intA n1)] [.box [(sl (tI .u8) c0.b), (intA c0.i), (intA c0.h)]] (boolA r.1) [.box [(sl (tI .u8) r.2.b), (intA r.2.i), (intA r.2.h)]] := by
  unfold m_spec_l1Once at H
  refine fnS_of_T Try.func87 rfl rfl (Nat.le_of_ble_eq_true rfl) ?_
  refine te [(0, (.b 0 0)), (1, (intA n1))] rfl ?_
  refine T_st (σ' := [.box [(sl (tI .u8) c0.b), (intA c0.i), (intA c0.h)]]) rfl ?_
  refine sr ?_
  refine Tp rfl rfl (pur_assign rfl) rfl ?_
  refine TO_nil ?_
  refine te [(0, (.b 0 0)), (1, (intA n1))] rfl ?_
  refine sr ?_
  refine Tp rfl rfl (pur_move rfl) rfl ?_
  refine Tp rfl rfl (pur_move rfl) rfl ?_
  obtain ⟨r_1, h_2, H⟩ := bind_inv H
  refine TO_cons rfl (TOp_callS [0] (call_static ent83 rfl) (by decide) rfl rfl rfl rfl rfl rfl (m_spec_l1Below_x _ _ _ h_2) rfl rfl ?_)
  refine toe [(0, (.b 0 0)), (1, (intA n1)), (5, (.b 0 0)), (6, (intA n1)), (7, (intA r_1.1))] rfl ?_
  refine TO_st (σ' := [.box [(sl (tI .u8) r_1.2.b), (intA r_1.2.i), (intA r_1.2.h)]]) rfl ?_
  refine Tp rfl rfl (pur_eql rfl rfl rfl) rfl ?_
  refine Tp rfl rfl (pur_assign rfl) rfl ?_
  refine TO_nil ?_
  refine te [(4, (boolA (decide (r_1.1 = 0))))] rfl ?_
  refine T_ret ?_
  obtain rfl := some_inj H
  exact end_pickX (.tmp .nil) rfl [0] (by decide) (lb rfl) rfl (lb rfl) rfl rfl rfl rfl rfl rfl

set_option maxHeartbeats 1000000 in
/-- spec.l27Draw -/
theorem m_spec_l27Draw_x (u : Nat) (code0 : (List Int)) (r : (l1Cur × Database × Int × Int)) (H : m_spec_l27Draw u code0 = some r) : FnS prg 53 [(sl (tI .u8) code0)] [] (.t [(.b 0 0), (.g (tDatabase.enc r.2.1)), (intA r.2.2.1), (intA r.2.2.2)]) [.box [(sl (tI .u8) r.1.b), (intA r.1.i), (intA r.1.h)]] := by
  unfold m_spec_l27Draw at H
  refine fnS_of_T Try.func53 rfl rfl (Nat.le_of_ble_eq_true rfl) ?_
  refine te [(0, (sl (tI .u8) code0))] rfl ?_
  refine T_st (σ' := []) rfl ?_
  refine sr ?_
  refine Tp rfl rfl (pur_assign rfl) rfl ?_
  refine TO_cons rfl (TOp_alloc zero32 rfl rfl ?_)
  refine Tp rfl rfl (pur_assign rfl) rfl ?_
  refine Tp rfl rfl (pur_assign rfl) rfl ?_
  refine TO_nil ?_
  refine te [(0, (sl (tI .u8) code0)), (3, (.b 0 0))] rfl ?_
  refine sr ?_
  refine Tp rfl rfl (pur_move rfl) rfl ?_
  obtain ⟨r_1, h_2, H⟩ := bind_inv H
  refine TO_cons rfl (TOp_callS [] (call_static ent85 rfl) (by decide) rfl rfl rfl rfl rfl rfl (m_spec_l1New_x u _ _ h_2) rfl rfl ?_)
  refine toe [(0, (sl (tI .u8) code0)), (3, (.b 0 0)), (9, (sl (tI .u8) code0)), (10, (.b 1 0))] rfl ?_
  refine TO_st (σ' := [.box [.n, .n], .box [(sl (tI .u8) r_1.b), (intA r_1.i), (intA r_1.h)]]) rfl ?_
  refine Tp rfl rfl (pur_assign rfl) rfl ?_
  refine TO_nil ?_
  refine te [(3, (.b 0 0)), (6, (.b 1 0))] rfl ?_
  refine sr ?_
  refine Tp rfl rfl (pur_move rfl) rfl ?_
  obtain ⟨r_3, h_4, H⟩ := bind_inv H
  refine TO_cons rfl (TOp_callS [1] (call_static ent86 rfl) (by decide) rfl rfl rfl rfl rfl rfl (m_spec_l4Any_x u _ _ h_4) rfl rfl ?_)
  refine toe [(3, (.b 0 0)), (6, (.b 1 0)), (11, (.b 1 0)), (12, (.g (tDatabase.enc r_3.1)))] rfl ?_
  refine TO_st (σ' := [.box [.n, .n], .box [(sl (tI .u8) r_3.2.b), (intA r_3.2.i), (intA r_3.2.h)]]) rfl ?_
  refine TO_cons rfl (TOp_alloc zero32 rfl rfl ?_)
  refine TO_cons rfl (TOp_storeB sz32 rfl rfl rfl rfl rfl rfl rfl (by decide) (lb rfl) rfl ?_)
  refine TO_st (σ' := [.box [.n, .n], .box [(sl (tI .u8) r_3.2.b), (intA r_3.2.i), (intA r_3.2.h)], .box [(sl tRelation r_3.1.relations), (sl tFact r_3.1.facts)]]) rfl ?_
  refine TO_nil ?_
  refine te [(3, (.b 0 0)), (6, (.b 1 0)), (7, (.b 2 0))] rfl ?_
  refine sr ?_
  refine Tp rfl rfl (pur_move rfl) rfl ?_
  obtain ⟨r_5, h_6, H⟩ := bind_inv H
  refine TO_cons rfl (TOp_callS [1] (call_static ent83 rfl) (by decide) rfl rfl rfl rfl rfl rfl (m_spec_l1Below_x _ _ _ h_6) rfl rfl ?_)
  refine toe [(3, (.b 0 0)), (6, (.b 1 0)), (7, (.b 2 0)), (13, (.b 1 0)), (14, (intA r_5.1))] rfl ?_
  refine TO_st (σ' := [.box [.n, .n], .box [(sl (tI .u8) r_5.2.b), (intA r_5.2.i), (intA r_5.2.h)], .box [(sl tRelation r_3.1.relations), (sl tFact r_3.1.facts)]]) rfl ?_
  refine Tp rfl rfl (pur_assign rfl) rfl ?_
  refine TO_nil ?_
  refine te [(3, (.b 0 0)), (6, (.b 1 0)), (7, (.b 2 0)), (8, (intA r_5.1))] rfl ?_
  refine T_seq ?_
  refine sr ?_
  refine Tp rfl rfl (pur_move rfl) rfl ?_
  obtain ⟨r_7, h_8, H⟩ := bind_inv H
  refine TO_cons rfl (TOp_callS [1] (call_static ent87 rfl) (by decide) rfl rfl rfl rfl rfl rfl (m_spec_l1Once_x _ _ _ h_8) rfl rfl ?_)
  refine toe [(3, (.b 0 0)), (6, (.b 1 0)), (7, (.b 2 0)), (8, (intA r_5.1)), (15, (.b 1 0)), (16, (boolA r_7.1))] rfl ?_
  refine TO_st (σ' := [.box [.n, .n], .box [(sl (tI .u8) r_7.2.b), (intA r_7.2.i), (intA r_7.2.h)], .box [(sl tRelation r_3.1.relations), (sl tFact r_3.1.facts)]]) rfl ?_
  refine TO_nil ?_
  refine te [(3, (.b 0 0)), (6, (.b 1 0)), (7, (.b 2 0)), (8, (intA r_5.1)), (16, (boolA r_7.1))] rfl ?_
  refine T_cond (t := r_7.1) rfl (fun c_9 => ?_) (fun c_9 => ?_)
  ·replace H := cond_t c_9 H
   refine T_region ?_
   refine Tp rfl rfl (pur_move rfl) rfl ?_
   refine TO_cons rfl (TOp_lit (nn := 2) (k := 1) sl33 zero3 rfl rfl rfl rfl (by decide) ?_)
   refine TO_st (σ' := [.box [.n, .n], .box [(sl (tI .u8) r_7.2.b), (intA r_7.2.i), (intA r_7.2.h)], .box [(sl tRelation r_3.1.relations), (sl tFact r_3.1.facts)], .row (flat tInt.enc ([-1, 4] : (List Int)))]) rfl ?_
   refine TO_frz1 3 (E' := [(3, (.b 0 0)), (6, (.b 1 0)), (7, (.b 2 0)), (8, (intA r_5.1)), (16, (boolA r_7.1)), (17, (.b 1 0)), (18, (sl tInt ([-1, 4] : (List Int))))]) rfl rfl (lb rfl) ⟨(.keep rfl), (.keep rfl), (.keep rfl), (.keep rfl), (.keep rfl), (.keep rfl), fz1E, trivial⟩ ?_
   refine TO_st (σ' := [.box [.n, .n], .box [(sl (tI .u8) r_7.2.b), (intA r_7.2.i), (intA r_7.2.h)], .box [(sl tRelation r_3.1.relations), (sl tFact r_3.1.facts)], .dead]) rfl ?_
   obtain ⟨r_10, h_11, H⟩ := bind_inv H
   refine TO_cons rfl (TOp_callS [1] (call_static ent88 rfl) (by decide) rfl rfl rfl rfl rfl rfl (m_spec_l1PickInt_x _ _ _ h_11) rfl rfl ?_)
   refine toe [(3, (.b 0 0)), (6, (.b 1 0)), (7, (.b 2 0)), (8, (intA r_5.1)), (16, (boolA r_7.1)), (17, (.b 1 0)), (18, (sl tInt ([-1, 4] : (List Int)))), (19, (intA r_10.1))] rfl ?_
   refine TO_st (σ' := [.box [.n, .n], .box [(sl (tI .u8) r_10.2.b), (intA r_10.2.i), (intA r_10.2.h)], .box [(sl tRelation r_3.1.relations), (sl tFact r_3.1.facts)], .dead]) rfl ?_
   refine Tp rfl rfl (pur_assign rfl) rfl ?_
   refine TO_nil ?_
   refine te [(3, (.b 0 0)), (6, (.b 1 0)), (7, (.b 2 0)), (8, (intA r_10.1))] rfl ?_
   obtain ⟨r_12, h_13, H⟩ := bind_inv H
   obtain ⟨r_14, h_15, H⟩ := bind_inv H
   refine T_cutX (fun (_ : Unit) => True) (fun _ => [(2, (.b 1 0)), (3, (.b 0 0)), (4, (intA r_10.1)), (5, (intA (w64 (r_12.1 - (w64 (r_14.1.tdiv 11))))))]) (fun _ => [.box [(sl tRelation r_3.1.relations), (sl tFact r_3.1.facts)], .box [(sl (tI .u8) r_14.2.b), (intA r_14.2.i), (intA r_14.2.h)], .box [(sl tRelation r_3.1.relations), (sl tFact r_3.1.facts)], .dead]) ?_ ?_
   ·skip
    refine T_regionP mixed ?_
    refine TA_have 1 #[true, true, true, true, true, true, true, true, true, true, true, true, false] [(2, (.b 1 0)), (3, (.b 0 0)), (4, (intA r_10.1)), (28, (intA (w64 (r_12.1 - (w64 (r_14.1.tdiv 11))))))] [.box [(sl tRelation r_3.1.relations), (sl tFact r_3.1.facts)], .box [(sl (tI .u8) r_14.2.b), (intA r_14.2.i), (intA r_14.2.h)], .box [(sl tRelation r_3.1.relations), (sl tFact r_3.1.facts)], .dead] ?_ (fun hj0_6 => ?_)
    ·skip
     refine tf 12 rfl (purI_assign rfl) rfl rfl (by kernel_rfl) ?_
     exact TA_nil (by kernel_rfl) (joined () (wp 4 (lb rfl) rfl rfl rfl rfl rfl) trivial)
    refine TA_have 3 #[true, true, true, true, true, true, true, true, true, true, false, false, false] [(2, (.b 1 0)), (3, (.b 0 0)), (21, (.g (tDatabase.enc r_3.1))), (22, (intA r_10.1)), (28, (intA (w64 (r_12.1 - (w64 (r_14.1.tdiv 11))))))] [.box [.n, .n], .box [(sl (tI .u8) r_14.2.b), (intA r_14.2.i), (intA r_14.2.h)], .box [(sl tRelation r_3.1.relations), (sl tFact r_3.1.facts)], .dead] ?_ (fun hj1_6 => ?_)
    ·skip
     refine t1 10 (by kernel_rfl) rfl rfl (TOp_storeB sz32 rfl rfl rfl rfl rfl rfl rfl (by decide) (lb rfl) rfl ?_)
     refine TA_st (σ' := [.box [(sl tRelation r_3.1.relations), (sl tFact r_3.1.facts)], .box [(sl (tI .u8) r_14.2.b), (intA r_14.2.i), (intA r_14.2.h)], .box [(sl tRelation r_3.1.relations), (sl tFact r_3.1.facts)], .dead]) rfl ?_
     refine tf 11 rfl (purI_assign rfl) rfl rfl (by kernel_rfl) ?_
     exact tj hj0_6 rfl (wp 4 (lb rfl) rfl rfl rfl rfl rfl)
    refine TA_have 5 #[true, true, true, true, true, true, true, false, false, true, false, false, false] [(2, (.b 1 0)), (3, (.b 0 0)), (21, (.g (tDatabase.enc r_3.1))), (22, (intA r_10.1)), (24, (intA r_12.1)), (26, (intA r_14.1))] [.box [.n, .n], .box [(sl (tI .u8) r_14.2.b), (intA r_14.2.i), (intA r_14.2.h)], .box [(sl tRelation r_3.1.relations), (sl tFact r_3.1.facts)], .dead] ?_ (fun hj2_6 => ?_)
    ·skip
     refine TA_all [7, 10] (by kernel_rfl) (by decide) ⟨?_, ?_, trivial⟩
     ·skip
      refine ⟨_, rfl, rfl, (TOp_pure (pur_wquo rfl rfl rfl (by decide)) rfl ?_)⟩
      refine tf 8 rfl (purI_wsub rfl rfl rfl) rfl rfl (by kernel_rfl) ?_
      exact tj hj1_6 rfl (wp 4 (lb rfl) rfl rfl rfl rfl rfl)
     ·skip
      refine ⟨_, rfl, rfl, (TOp_storeB sz32 rfl rfl rfl rfl rfl rfl rfl (by decide) (lb rfl) rfl ?_)⟩
      refine TA_st (σ' := [.box [(sl tRelation r_3.1.relations), (sl tFact r_3.1.facts)], .box [(sl (tI .u8) r_14.2.b), (intA r_14.2.i), (intA r_14.2.h)], .box [(sl tRelation r_3.1.relations), (sl tFact r_3.1.facts)], .dead]) rfl ?_
      refine tf 11 rfl (purI_assign rfl) rfl rfl (by kernel_rfl) ?_
      refine t1 7 (by kernel_rfl) rfl rfl (TOp_pure (pur_wquo rfl rfl rfl (by decide)) rfl ?_)
      refine tf 8 rfl (purI_wsub rfl rfl rfl) rfl rfl (by kernel_rfl) ?_
      exact tj hj0_6 rfl (wp 4 (lb rfl) rfl rfl rfl rfl rfl)
    refine TA_have 7 #[true, true, true, true, true, true, false, false, false, false, false, false, false] [(3, (.b 0 0)), (20, (.b 1 0)), (21, (.g (tDatabase.enc r_3.1))), (22, (intA r_10.1)), (24, (intA r_12.1)), (25, (.b 1 0))] [.box [.n, .n], .box [(sl (tI .u8) r_12.2.b), (intA r_12.2.i), (intA r_12.2.h)], .box [(sl tRelation r_3.1.relations), (sl tFact r_3.1.facts)], .dead] ?_ (fun hj3_6 => ?_)
    ·skip
     refine t1 6 (by kernel_rfl) rfl rfl (TOp_callS [1] (call_static ent83 rfl) (by decide) rfl rfl rfl rfl rfl rfl (m_spec_l1Below_x _ _ _ h_15) rfl rfl ?_)
     refine tae [(3, (.b 0 0)), (20, (.b 1 0)), (21, (.g (tDatabase.enc r_3.1))), (22, (intA r_10.1)), (24, (intA r_12.1)), (25, (.b 1 0)), (26, (intA r_14.1))] rfl ?_
     refine TA_st (σ' := [.box [.n, .n], .box [(sl (tI .u8) r_14.2.b), (intA r_14.2.i), (intA r_14.2.h)], .box [(sl tRelation r_3.1.relations), (sl tFact r_3.1.facts)], .dead]) rfl ?_
     refine tf 9 rfl (purI_assign rfl) rfl rfl (by kernel_rfl) ?_
     exact tj hj2_6 rfl (wp 4 (lb rfl) rfl rfl rfl rfl rfl)
    refine tf 0 rfl (purI_move rfl) rfl rfl (by kernel_rfl) ?_
    refine tf 2 rfl (purI_move rfl) rfl rfl (by kernel_rfl) ?_
    refine tf 3 rfl (purI_move rfl) rfl rfl (by kernel_rfl) ?_
    refine tf 5 rfl (purI_move rfl) rfl rfl (by kernel_rfl) ?_
    refine TA_all [1, 4] (by kernel_rfl) (by decide) ⟨?_, ?_, trivial⟩
    ·skip
     refine ⟨_, rfl, rfl, (TOp_pure (pur_ldK_b agg32 rfl rfl (lb rfl) rfl) rfl ?_)⟩
     refine t1 4 (by kernel_rfl) rfl rfl (TOp_callS [1] (call_static ent83 rfl) (by decide) rfl rfl rfl rfl rfl rfl (m_spec_l1Below_x _ _ _ h_13) rfl rfl ?_)
     refine tae [(3, (.b 0 0)), (6, (.b 1 0)), (7, (.b 2 0)), (8, (intA r_10.1)), (20, (.b 1 0)), (21, (.g (tDatabase.enc r_3.1))), (22, (intA r_10.1)), (23, (.b 1 0)), (24, (intA r_12.1)), (25, (.b 1 0))] rfl ?_
     refine TA_st (σ' := [.box [.n, .n], .box [(sl (tI .u8) r_12.2.b), (intA r_12.2.i), (intA r_12.2.h)], .box [(sl tRelation r_3.1.relations), (sl tFact r_3.1.facts)], .dead]) rfl ?_
     exact tj hj3_6 rfl (wp 4 (lb rfl) rfl rfl rfl rfl rfl)
    ·skip
     refine ⟨_, rfl, rfl, (TOp_callS [1] (call_static ent83 rfl) (by decide) rfl rfl rfl rfl rfl rfl (m_spec_l1Below_x _ _ _ h_13) rfl rfl ?_)⟩
     refine tae [(3, (.b 0 0)), (6, (.b 1 0)), (7, (.b 2 0)), (8, (intA r_10.1)), (20, (.b 1 0)), (22, (intA r_10.1)), (23, (.b 1 0)), (24, (intA r_12.1)), (25, (.b 1 0))] rfl ?_
     refine TA_st (σ' := [.box [.n, .n], .box [(sl (tI .u8) r_12.2.b), (intA r_12.2.i), (intA r_12.2.h)], .box [(sl tRelation r_3.1.relations), (sl tFact r_3.1.facts)], .dead]) rfl ?_
     refine TA_all [1, 6] (by kernel_rfl) (by decide) ⟨?_, ?_, trivial⟩
     ·skip
      refine ⟨_, rfl, rfl, (TOp_pure (pur_ldK_b agg32 rfl rfl (lb rfl) rfl) rfl ?_)⟩
      exact tj hj3_6 rfl (wp 4 (lb rfl) rfl rfl rfl rfl rfl)
     ·skip
      refine ⟨_, rfl, rfl, (TOp_callS [1] (call_static ent83 rfl) (by decide) rfl rfl rfl rfl rfl rfl (m_spec_l1Below_x _ _ _ h_15) rfl rfl ?_)⟩
      refine tae [(3, (.b 0 0)), (6, (.b 1 0)), (7, (.b 2 0)), (8, (intA r_10.1)), (20, (.b 1 0)), (22, (intA r_10.1)), (23, (.b 1 0)), (24, (intA r_12.1)), (25, (.b 1 0)), (26, (intA r_14.1))] rfl ?_
      refine TA_st (σ' := [.box [.n, .n], .box [(sl (tI .u8) r_14.2.b), (intA r_14.2.i), (intA r_14.2.h)], .box [(sl tRelation r_3.1.relations), (sl tFact r_3.1.facts)], .dead]) rfl ?_
      refine tf 9 rfl (purI_assign rfl) rfl rfl (by kernel_rfl) ?_
      refine tae [(2, (.b 1 0)), (3, (.b 0 0)), (7, (.b 2 0)), (22, (intA r_10.1)), (24, (intA r_12.1)), (26, (intA r_14.1))] rfl ?_
      refine TA_all [1, 7] (by kernel_rfl) (by decide) ⟨?_, ?_, trivial⟩
      ·skip
       refine ⟨_, rfl, rfl, (TOp_pure (pur_ldK_b agg32 rfl rfl (lb rfl) rfl) rfl ?_)⟩
       exact tj hj2_6 rfl (wp 4 (lb rfl) rfl rfl rfl rfl rfl)
      ·skip
       refine ⟨_, rfl, rfl, (TOp_pure (pur_wquo rfl rfl rfl (by decide)) rfl ?_)⟩
       refine tf 8 rfl (purI_wsub rfl rfl rfl) rfl rfl (by kernel_rfl) ?_
       refine t1 1 (by kernel_rfl) rfl rfl (TOp_pure (pur_ldK_b agg32 rfl rfl (lb rfl) rfl) rfl ?_)
       exact tj hj1_6 rfl (wp 4 (lb rfl) rfl rfl rfl rfl rfl)
   ·rintro _ _
    refine te [(2, (.b 1 0)), (3, (.b 0 0)), (4, (intA r_10.1)), (5, (intA (w64 (r_12.1 - (w64 (r_14.1.tdiv 11))))))] rfl ?_
    refine T_ret ?_
    obtain rfl := some_inj H
    exact end_pickX (.tmp (.cellK rfl agg32 rfl (lb rfl) (.tmp (.tmp .nil)))) rfl [1] (by decide) (lb rfl) rfl (lb rfl) rfl rfl rfl rfl rfl rfl
  ·replace H := cond_f c_9 H
   refine T_skip ?_
   refine te [(3, (.b 0 0)), (6, (.b 1 0)), (7, (.b 2 0)), (8, (intA r_5.1))] rfl ?_
   obtain ⟨r_16, h_17, H⟩ := bind_inv H
   obtain ⟨r_18, h_19, H⟩ := bind_inv H
   refine T_cutX (fun (_ : Unit) => True) (fun _ => [(2, (.b 1 0)), (3, (.b 0 0)), (4, (intA r_5.1)), (5, (intA (w64 (r_16.1 - (w64 (r_18.1.tdiv 11))))))]) (fun _ => [.box [(sl tRelation r_3.1.relations), (sl tFact r_3.1.facts)], .box [(sl (tI .u8) r_18.2.b), (intA r_18.2.i), (intA r_18.2.h)], .box [(sl tRelation r_3.1.relations), (sl tFact r_3.1.facts)]]) ?_ ?_
   ·skip
    refine T_regionP mixed ?_
    refine TA_have 1 #[true, true, true, true, true, true, true, true, true, true, true, true, false] [(2, (.b 1 0)), (3, (.b 0 0)), (4, (intA r_5.1)), (28, (intA (w64 (r_16.1 - (w64 (r_18.1.tdiv 11))))))] [.box [(sl tRelation r_3.1.relations), (sl tFact r_3.1.facts)], .box [(sl (tI .u8) r_18.2.b), (intA r_18.2.i), (intA r_18.2.h)], .box [(sl tRelation r_3.1.relations), (sl tFact r_3.1.facts)]] ?_ (fun hj0_6 => ?_)
    ·skip
     refine tf 12 rfl (purI_assign rfl) rfl rfl (by kernel_rfl) ?_
     exact TA_nil (by kernel_rfl) (joined () (wp 3 (lb rfl) rfl rfl rfl rfl rfl) trivial)
    refine TA_have 3 #[true, true, true, true, true, true, true, true, true, true, false, false, false] [(2, (.b 1 0)), (3, (.b 0 0)), (21, (.g (tDatabase.enc r_3.1))), (22, (intA r_5.1)), (28, (intA (w64 (r_16.1 - (w64 (r_18.1.tdiv 11))))))] [.box [.n, .n], .box [(sl (tI .u8) r_18.2.b), (intA r_18.2.i), (intA r_18.2.h)], .box [(sl tRelation r_3.1.relations), (sl tFact r_3.1.facts)]] ?_ (fun hj1_6 => ?_)
    ·skip
     refine t1 10 (by kernel_rfl) rfl rfl (TOp_storeB sz32 rfl rfl rfl rfl rfl rfl rfl (by decide) (lb rfl) rfl ?_)
     refine TA_st (σ' := [.box [(sl tRelation r_3.1.relations), (sl tFact r_3.1.facts)], .box [(sl (tI .u8) r_18.2.b), (intA r_18.2.i), (intA r_18.2.h)], .box [(sl tRelation r_3.1.relations), (sl tFact r_3.1.facts)]]) rfl ?_
     refine tf 11 rfl (purI_assign rfl) rfl rfl (by kernel_rfl) ?_
     exact tj hj0_6 rfl (wp 3 (lb rfl) rfl rfl rfl rfl rfl)
    refine TA_have 5 #[true, true, true, true, true, true, true, false, false, true, false, false, false] [(2, (.b 1 0)), (3, (.b 0 0)), (21, (.g (tDatabase.enc r_3.1))), (22, (intA r_5.1)), (24, (intA r_16.1)), (26, (intA r_18.1))] [.box [.n, .n], .box [(sl (tI .u8) r_18.2.b), (intA r_18.2.i), (intA r_18.2.h)], .box [(sl tRelation r_3.1.relations), (sl tFact r_3.1.facts)]] ?_ (fun hj2_6 => ?_)
    ·skip
     refine TA_all [7, 10] (by kernel_rfl) (by decide) ⟨?_, ?_, trivial⟩
     ·skip
      refine ⟨_, rfl, rfl, (TOp_pure (pur_wquo rfl rfl rfl (by decide)) rfl ?_)⟩
      refine tf 8 rfl (purI_wsub rfl rfl rfl) rfl rfl (by kernel_rfl) ?_
      exact tj hj1_6 rfl (wp 3 (lb rfl) rfl rfl rfl rfl rfl)
     ·skip
      refine ⟨_, rfl, rfl, (TOp_storeB sz32 rfl rfl rfl rfl rfl rfl rfl (by decide) (lb rfl) rfl ?_)⟩
      refine TA_st (σ' := [.box [(sl tRelation r_3.1.relations), (sl tFact r_3.1.facts)], .box [(sl (tI .u8) r_18.2.b), (intA r_18.2.i), (intA r_18.2.h)], .box [(sl tRelation r_3.1.relations), (sl tFact r_3.1.facts)]]) rfl ?_
      refine tf 11 rfl (purI_assign rfl) rfl rfl (by kernel_rfl) ?_
      refine t1 7 (by kernel_rfl) rfl rfl (TOp_pure (pur_wquo rfl rfl rfl (by decide)) rfl ?_)
      refine tf 8 rfl (purI_wsub rfl rfl rfl) rfl rfl (by kernel_rfl) ?_
      exact tj hj0_6 rfl (wp 3 (lb rfl) rfl rfl rfl rfl rfl)
    refine TA_have 7 #[true, true, true, true, true, true, false, false, false, false, false, false, false] [(3, (.b 0 0)), (20, (.b 1 0)), (21, (.g (tDatabase.enc r_3.1))), (22, (intA r_5.1)), (24, (intA r_16.1)), (25, (.b 1 0))] [.box [.n, .n], .box [(sl (tI .u8) r_16.2.b), (intA r_16.2.i), (intA r_16.2.h)], .box [(sl tRelation r_3.1.relations), (sl tFact r_3.1.facts)]] ?_ (fun hj3_6 => ?_)
    ·skip
     refine t1 6 (by kernel_rfl) rfl rfl (TOp_callS [1] (call_static ent83 rfl) (by decide) rfl rfl rfl rfl rfl rfl (m_spec_l1Below_x _ _ _ h_19) rfl rfl ?_)
     refine tae [(3, (.b 0 0)), (20, (.b 1 0)), (21, (.g (tDatabase.enc r_3.1))), (22, (intA r_5.1)), (24, (intA r_16.1)), (25, (.b 1 0)), (26, (intA r_18.1))] rfl ?_
     refine TA_st (σ' := [.box [.n, .n], .box [(sl (tI .u8) r_18.2.b), (intA r_18.2.i), (intA r_18.2.h)], .box [(sl tRelation r_3.1.relations), (sl tFact r_3.1.facts)]]) rfl ?_
     refine tf 9 rfl (purI_assign rfl) rfl rfl (by kernel_rfl) ?_
     exact tj hj2_6 rfl (wp 3 (lb rfl) rfl rfl rfl rfl rfl)
    refine tf 0 rfl (purI_move rfl) rfl rfl (by kernel_rfl) ?_
    refine tf 2 rfl (purI_move rfl) rfl rfl (by kernel_rfl) ?_
    refine tf 3 rfl (purI_move rfl) rfl rfl (by kernel_rfl) ?_
    refine tf 5 rfl (purI_move rfl) rfl rfl (by kernel_rfl) ?_
    refine TA_all [1, 4] (by kernel_rfl) (by decide) ⟨?_, ?_, trivial⟩
    ·skip
     refine ⟨_, rfl, rfl, (TOp_pure (pur_ldK_b agg32 rfl rfl (lb rfl) rfl) rfl ?_)⟩
     refine t1 4 (by kernel_rfl) rfl rfl (TOp_callS [1] (call_static ent83 rfl) (by decide) rfl rfl rfl rfl rfl rfl (m_spec_l1Below_x _ _ _ h_17) rfl rfl ?_)
     refine tae [(3, (.b 0 0)), (6, (.b 1 0)), (7, (.b 2 0)), (8, (intA r_5.1)), (20, (.b 1 0)), (21, (.g (tDatabase.enc r_3.1))), (22, (intA r_5.1)), (23, (.b 1 0)), (24, (intA r_16.1)), (25, (.b 1 0))] rfl ?_
     refine TA_st (σ' := [.box [.n, .n], .box [(sl (tI .u8) r_16.2.b), (intA r_16.2.i), (intA r_16.2.h)], .box [(sl tRelation r_3.1.relations), (sl tFact r_3.1.facts)]]) rfl ?_
     exact tj hj3_6 rfl (wp 3 (lb rfl) rfl rfl rfl rfl rfl)
    ·skip
     refine ⟨_, rfl, rfl, (TOp_callS [1] (call_static ent83 rfl) (by decide) rfl rfl rfl rfl rfl rfl (m_spec_l1Below_x _ _ _ h_17) rfl rfl ?_)⟩
     refine tae [(3, (.b 0 0)), (6, (.b 1 0)), (7, (.b 2 0)), (8, (intA r_5.1)), (20, (.b 1 0)), (22, (intA r_5.1)), (23, (.b 1 0)), (24, (intA r_16.1)), (25, (.b 1 0))] rfl ?_
     refine TA_st (σ' := [.box [.n, .n], .box [(sl (tI .u8) r_16.2.b), (intA r_16.2.i), (intA r_16.2.h)], .box [(sl tRelation r_3.1.relations), (sl tFact r_3.1.facts)]]) rfl ?_
     refine TA_all [1, 6] (by kernel_rfl) (by decide) ⟨?_, ?_, trivial⟩
     ·skip
      refine ⟨_, rfl, rfl, (TOp_pure (pur_ldK_b agg32 rfl rfl (lb rfl) rfl) rfl ?_)⟩
      exact tj hj3_6 rfl (wp 3 (lb rfl) rfl rfl rfl rfl rfl)
     ·skip
      refine ⟨_, rfl, rfl, (TOp_callS [1] (call_static ent83 rfl) (by decide) rfl rfl rfl rfl rfl rfl (m_spec_l1Below_x _ _ _ h_19) rfl rfl ?_)⟩
      refine tae [(3, (.b 0 0)), (6, (.b 1 0)), (7, (.b 2 0)), (8, (intA r_5.1)), (20, (.b 1 0)), (22, (intA r_5.1)), (23, (.b 1 0)), (24, (intA r_16.1)), (25, (.b 1 0)), (26, (intA r_18.1))] rfl ?_
      refine TA_st (σ' := [.box [.n, .n], .box [(sl (tI .u8) r_18.2.b), (intA r_18.2.i), (intA r_18.2.h)], .box [(sl tRelation r_3.1.relations), (sl tFact r_3.1.facts)]]) rfl ?_
      refine tf 9 rfl (purI_assign rfl) rfl rfl (by kernel_rfl) ?_
      refine tae [(2, (.b 1 0)), (3, (.b 0 0)), (7, (.b 2 0)), (22, (intA r_5.1)), (24, (intA r_16.1)), (26, (intA r_18.1))] rfl ?_
      refine TA_all [1, 7] (by kernel_rfl) (by decide) ⟨?_, ?_, trivial⟩
      ·skip
       refine ⟨_, rfl, rfl, (TOp_pure (pur_ldK_b agg32 rfl rfl (lb rfl) rfl) rfl ?_)⟩
       exact tj hj2_6 rfl (wp 3 (lb rfl) rfl rfl rfl rfl rfl)
      ·skip
       refine ⟨_, rfl, rfl, (TOp_pure (pur_wquo rfl rfl rfl (by decide)) rfl ?_)⟩
       refine tf 8 rfl (purI_wsub rfl rfl rfl) rfl rfl (by kernel_rfl) ?_
       refine t1 1 (by kernel_rfl) rfl rfl (TOp_pure (pur_ldK_b agg32 rfl rfl (lb rfl) rfl) rfl ?_)
       exact tj hj1_6 rfl (wp 3 (lb rfl) rfl rfl rfl rfl rfl)
   ·rintro _ _
    refine te [(2, (.b 1 0)), (3, (.b 0 0)), (4, (intA r_5.1)), (5, (intA (w64 (r_16.1 - (w64 (r_18.1.tdiv 11))))))] rfl ?_
    refine T_ret ?_
    obtain rfl := some_inj H
    exact end_pickX (.tmp (.cellK rfl agg32 rfl (lb rfl) (.tmp (.tmp .nil)))) rfl [1] (by decide) (lb rfl) rfl (lb rfl) rfl rfl rfl rfl rfl rfl

set_option maxHeartbeats 1000000 in
/-- spec.DrawSumRange -/
theorem m_spec_DrawSumRange_ok (u : Nat) (code0 : (List Int)) (r : (Database × Int × Int)) (H : m_spec_DrawSumRange u code0 = some r) : FnV prg 39 [(sl (tI .u8) code0)] (.t [(.g (tDatabase.enc r.1)), (intA r.2.1), (intA r.2.2)]) := by
  unfold m_spec_DrawSumRange at H
  refine fnV_of_T Try.func39 rfl rfl (Nat.le_of_ble_eq_true rfl) ?_
  refine te [(0, (sl (tI .u8) code0))] rfl ?_
  refine sr ?_
  refine TO_cons rfl (TOp_alloc zero32 rfl rfl ?_)
  refine Tp rfl rfl (pur_assign rfl) rfl ?_
  refine Tp rfl rfl (pur_assign rfl) rfl ?_
  refine TO_nil ?_
  refine te [(0, (sl (tI .u8) code0)), (2, (.b 0 0))] rfl ?_
  refine sr ?_
  refine Tp rfl rfl (pur_move rfl) rfl ?_
  obtain ⟨r_1, h_2, H⟩ := bind_inv H
  refine TO_cons rfl (TOp_callS [] (call_static ent53 rfl) (by decide) rfl rfl rfl rfl rfl rfl (m_spec_l27Draw_x u _ _ h_2) rfl rfl ?_)
  refine toe [(0, (sl (tI .u8) code0)), (2, (.b 0 0)), (10, (sl (tI .u8) code0)), (11, (.t [(.b 1 0), (.g (tDatabase.enc r_1.2.1)), (intA r_1.2.2.1), (intA r_1.2.2.2)]))] rfl ?_
  refine TO_st (σ' := [.box [.n, .n], .box [(sl (tI .u8) r_1.1.b), (intA r_1.1.i), (intA r_1.1.h)]]) rfl ?_
  refine Tp rfl rfl (pur_move rfl) rfl ?_
  refine Tp rfl rfl (pur_extract rfl rfl rfl) rfl ?_
  refine Tp rfl rfl (pur_extract rfl rfl rfl) rfl ?_
  refine Tp rfl rfl (pur_extract rfl rfl rfl) rfl ?_
  refine Tp rfl rfl (pur_extract rfl rfl rfl) rfl ?_
  refine TO_cons rfl (TOp_alloc zero32 rfl rfl ?_)
  refine toe [(2, (.b 0 0)), (6, (.b 2 0)), (12, (.b 1 0)), (13, (.g (tDatabase.enc r_1.2.1))), (14, (intA r_1.2.2.1)), (15, (intA r_1.2.2.2))] rfl ?_
  refine Tp rfl rfl (pur_assign rfl) rfl ?_
  refine TO_cons rfl (TOp_storeB sz32 rfl rfl rfl rfl rfl rfl rfl (by decide) (lb rfl) rfl ?_)
  refine TO_st (σ' := [.box [.n, .n], .box [(sl (tI .u8) r_1.1.b), (intA r_1.1.i), (intA r_1.1.h)], .box [(sl tRelation r_1.2.1.relations), (sl tFact r_1.2.1.facts)]]) rfl ?_
  refine Tp rfl rfl (pur_assign rfl) rfl ?_
  refine Tp rfl rfl (pur_assign rfl) rfl ?_
  refine TO_nil ?_
  refine te [(2, (.b 0 0)), (6, (.b 2 0)), (7, (intA r_1.2.2.1)), (8, (intA r_1.2.2.2))] rfl ?_
  refine sr ?_
  refine Tp rfl rfl (pur_ldK_b agg32 rfl rfl (lb rfl) rfl) rfl ?_
  refine Tp rfl rfl (pur_move rfl) rfl ?_
  refine Tp rfl rfl (pur_move rfl) rfl ?_
  refine TO_cons rfl (TOp_storeB sz32 rfl rfl rfl rfl rfl rfl rfl (by decide) (lb rfl) rfl ?_)
  refine TO_st (σ' := [.box [(sl tRelation r_1.2.1.relations), (sl tFact r_1.2.1.facts)], .box [(sl (tI .u8) r_1.1.b), (intA r_1.1.i), (intA r_1.1.h)], .box [(sl tRelation r_1.2.1.relations), (sl tFact r_1.2.1.facts)]]) rfl ?_
  refine Tp rfl rfl (pur_assign rfl) rfl ?_
  refine Tp rfl rfl (pur_assign rfl) rfl ?_
  refine TO_nil ?_
  refine te [(2, (.b 0 0)), (3, (intA r_1.2.2.1)), (4, (intA r_1.2.2.2))] rfl ?_
  refine T_ret ?_
  obtain rfl := some_inj H
  refine end_ret (.cellK rfl agg32 rfl (lb rfl) (.tmp (.tmp .nil))) rfl rfl ⟨?_, rfl⟩
  rfl

set_option maxHeartbeats 1000000 in
/-- spec.DrawMinRange -/
theorem m_spec_DrawMinRange_ok (u : Nat) (code0 : (List Int)) (r : (Database × Int × Int)) (H : m_spec_DrawMinRange u code0 = some r) : FnV prg 42 [(sl (tI .u8) code0)] (.t [(.g (tDatabase.enc r.1)), (intA r.2.1), (intA r.2.2)]) := by
  unfold m_spec_DrawMinRange at H
  refine fnV_of_T Try.func42 rfl rfl (Nat.le_of_ble_eq_true rfl) ?_
  refine te [(0, (sl (tI .u8) code0))] rfl ?_
  refine sr ?_
  refine TO_cons rfl (TOp_alloc zero32 rfl rfl ?_)
  refine Tp rfl rfl (pur_assign rfl) rfl ?_
  refine Tp rfl rfl (pur_assign rfl) rfl ?_
  refine TO_nil ?_
  refine te [(0, (sl (tI .u8) code0)), (2, (.b 0 0))] rfl ?_
  refine sr ?_
  refine Tp rfl rfl (pur_move rfl) rfl ?_
  obtain ⟨r_1, h_2, H⟩ := bind_inv H
  refine TO_cons rfl (TOp_callV (call_static ent39 rfl) (m_spec_DrawSumRange_ok u _ _ h_2) rfl rfl rfl ?_)
  refine Tp rfl rfl (pur_extract rfl rfl rfl) rfl ?_
  refine Tp rfl rfl (pur_extract rfl rfl rfl) rfl ?_
  refine Tp rfl rfl (pur_extract rfl rfl rfl) rfl ?_
  refine TO_cons rfl (TOp_storeB sz32 rfl rfl rfl rfl rfl rfl rfl (by decide) (lb rfl) rfl ?_)
  refine TO_st (σ' := [.box [(sl tRelation r_1.1.relations), (sl tFact r_1.1.facts)]]) rfl ?_
  refine Tp rfl rfl (pur_assign rfl) rfl ?_
  refine Tp rfl rfl (pur_assign rfl) rfl ?_
  refine TO_nil ?_
  refine te [(2, (.b 0 0)), (3, (intA r_1.2.1)), (4, (intA r_1.2.2))] rfl ?_
  refine T_ret ?_
  obtain rfl := some_inj H
  refine end_ret (.cellK rfl agg32 rfl (lb rfl) (.tmp (.tmp .nil))) rfl rfl ⟨?_, rfl⟩
  rfl
end Go.Proofs.Ytlcpdlngbofgcaa

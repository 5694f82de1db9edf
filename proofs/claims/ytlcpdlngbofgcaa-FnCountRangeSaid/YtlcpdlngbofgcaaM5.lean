import Derived.Test.YtlcpdlngbofgcaaM1
import Derived.Test.YtlcpdlngbofgcaaM2
import Derived.Test.YtlcpdlngbofgcaaM3
import Derived.Test.YtlcpdlngbofgcaaM4
set_option linter.unusedVariables false
set_option linter.unusedSimpArgs false
set_option maxRecDepth 4000
namespace Go.Proofs.Ytlcpdlngbofgcaa
open Go Go.Proofs Go.Sep
set_option maxHeartbeats 1000000 in
theorem m_spec_l3Any_x (u : Nat) (c0 : l1Cur) (l1 : (List Relation)) (r : (Fact × l1Cur)) (H : m_spec_l3Any u c0 l1 = some r) : FnS prg 111 [(.b 0 0), (sl tRelation l1)] [.box [(sl (tI .u8) c0.b), (intA c0.i), (intA c0.h)]] (.g [(intA r.1.relation), (.m [1] 0 r.1.values.length tInt.k)]) [.box [(sl (tI .u8) r.2.b), (intA r.2.i), (intA r.2.h)], .row (flat tInt.enc r.1.values)] := by
  unfold m_spec_l3Any at H
  refine fnS_of_T Try.func111 rfl rfl (Nat.le_of_ble_eq_true rfl) ?_
  refine te [(0, (.b 0 0)), (1, (sl tRelation l1))] rfl ?_
  refine T_st (σ' := [.box [(sl (tI .u8) c0.b), (intA c0.i), (intA c0.h)]]) rfl ?_
  refine sr ?_
  refine TO_cons rfl (TOp_alloc zero60 rfl rfl ?_)
  refine TO_nil ?_
  refine sr ?_
  obtain ⟨r_1, h_2, H⟩ := bind_inv H
  refine pv tb 2 rfl ?_
  refine TO_cons rfl (TOp_callS [0] (call_static ent128 rfl) (by decide) rfl rfl rfl rfl rfl rfl (m_spec_l3Fact_x u _ _ _ _ h_2) rfl rfl ?_)
  refine toe [(0, (.b 0 0)), (1, (sl tRelation l1)), (4, (.b 1 0)), (6, (.b 0 0)), (7, (sl tRelation l1)), (8, (.g [(intA r_1.1.relation), (.m [2] 0 r_1.1.values.length tInt.k)]))] rfl ?_
  refine TO_st (σ' := [.box [(sl (tI .u8) r_1.2.b), (intA r_1.2.i), (intA r_1.2.h)], .box [(intA 0), .n], .row (flat tInt.enc r_1.1.values)]) rfl ?_
  refine TO_cons rfl (TOp_alloc zero60 rfl rfl ?_)
  refine TO_cons rfl (TOp_storeB sz60 rfl rfl rfl rfl rfl rfl rfl (by decide) (lb rfl) rfl ?_)
  refine TO_st (σ' := [.box [(sl (tI .u8) r_1.2.b), (intA r_1.2.i), (intA r_1.2.h)], .box [(intA 0), .n], .row (flat tInt.enc r_1.1.values), .box [(intA r_1.1.relation), (.m [2] 0 r_1.1.values.length tInt.k)]]) rfl ?_
  refine TO_nil ?_
  refine T_seq ?_
  refine sr ?_
  obtain ⟨r_3, h_4, H⟩ := bind_inv H
  refine pv tb 1 rfl ?_
  refine TO_cons rfl (TOp_callS [0] (call_static ent83 rfl) (by decide) rfl rfl rfl rfl rfl rfl (m_spec_l1Below_x _ _ _ h_4) rfl rfl ?_)
  refine toe [(0, (.b 0 0)), (4, (.b 1 0)), (5, (.b 3 0)), (9, (.b 0 0)), (10, (intA r_3.1))] rfl ?_
  refine TO_st (σ' := [.box [(sl (tI .u8) r_3.2.b), (intA r_3.2.i), (intA r_3.2.h)], .box [(intA 0), .n], .row (flat tInt.enc r_1.1.values), .box [(intA r_1.1.relation), (.m [2] 0 r_1.1.values.length tInt.k)]]) rfl ?_
  refine TO_nil ?_
  refine T_block ?_
  refine sr ?_
  refine pv tb 2 rfl ?_
  refine TO_nil ?_
  refine T_cond (t := decide (r_3.1 = 0)) rfl (fun c_5 => ?_) (fun c_5 => ?_)
  ·replace H := cond_t c_5 H
   refine T_region ?_
   obtain ⟨r_6, h_7, H⟩ := bind_inv H
   refine pv tb 1 rfl ?_
   refine TO_cons rfl (TOp_callS [0] (call_static ent83 rfl) (by decide) rfl rfl rfl rfl rfl rfl (m_spec_l1Below_x _ _ _ h_7) rfl rfl ?_)
   refine toe [(0, (.b 0 0)), (4, (.b 1 0)), (5, (.b 3 0)), (10, (intA r_3.1)), (11, (boolA (decide (r_3.1 = 0)))), (13, (.b 0 0)), (14, (intA r_6.1))] rfl ?_
   refine TO_st (σ' := [.box [(sl (tI .u8) r_6.2.b), (intA r_6.2.i), (intA r_6.2.h)], .box [(intA 0), .n], .row (flat tInt.enc r_1.1.values), .box [(intA r_1.1.relation), (.m [2] 0 r_1.1.values.length tInt.k)]]) rfl ?_
   refine pv tb 2 rfl ?_
   refine TO_cons rfl (TOp_storeB sz3 rfl rfl rfl rfl rfl rfl rfl (by decide) (lb rfl) rfl ?_)
   refine TO_st (σ' := [.box [(sl (tI .u8) r_6.2.b), (intA r_6.2.i), (intA r_6.2.h)], .box [(intA 0), .n], .row (flat tInt.enc r_1.1.values), .box [(intA (w64 (r_6.1 - 1))), (.m [2] 0 r_1.1.values.length tInt.k)]]) rfl ?_
   refine TO_nil ?_
   refine sr ?_
   refine pv tb 1 rfl ?_
   refine TO_cons rfl (TOp_storeB sz60 rfl rfl rfl rfl rfl rfl rfl (by decide) (lb rfl) rfl ?_)
   refine TO_st (σ' := [.box [(sl (tI .u8) r_6.2.b), (intA r_6.2.i), (intA r_6.2.h)], .box [(intA (w64 (r_6.1 - 1))), (.m [2] 0 r_1.1.values.length tInt.k)], .row (flat tInt.enc r_1.1.values), .box [(intA (w64 (r_6.1 - 1))), (.m [2] 0 r_1.1.values.length tInt.k)]]) rfl ?_
   refine TO_nil ?_
   refine T_ret ?_
   obtain rfl := some_inj H
   exact end_pickX (.cellK rfl agg60 rfl (lb rfl) .nil) rfl [0, 2] (by decide) (lb rfl) rfl (lb rfl) rfl rfl rfl rfl rfl rfl
  ·replace H := cond_f c_5 H
   refine sr ?_
   refine pv tb 2 rfl ?_
   refine TO_nil ?_
   refine T_cond (t := decide (r_3.1 = 1)) rfl (fun c_8 => ?_) (fun c_8 => ?_)
   ·replace H := cond_t c_8 H
    refine T_region ?_
    refine pv tb 2 rfl ?_
    refine TO_cons rfl (TOp_lit (nn := 1) (k := 1) sl33 zero3 rfl rfl rfl rfl (by decide) ?_)
    refine TO_st (σ' := [.box [(sl (tI .u8) r_3.2.b), (intA r_3.2.i), (intA r_3.2.h)], .box [(intA 0), .n], .row (flat tInt.enc r_1.1.values), .box [(intA r_1.1.relation), (.m [2] 0 r_1.1.values.length tInt.k)], .row (flat tInt.enc ([1] : (List Int)))]) rfl ?_
    obtain ⟨us_9, h_10, H⟩ := bind_inv H
    refine TO_cons rfl (TOp_appZ (T := tInt) (f := tInt.enc) (xs := r_1.1.values) (ys := ([1] : (List Int))) tInt.len sl33 zero3 rfl bytes3 (by decide) rfl rfl rfl rfl (src_mT (f := tInt.enc) tInt.len rfl rfl (flat_cell tInt _)) (flat_cell tInt _) h_10 (lb rfl) ?_)
    refine toe [(0, (.b 0 0)), (4, (.b 1 0)), (5, (.b 3 0)), (10, (intA r_3.1)), (17, (boolA (decide (r_3.1 = 1)))), (19, (.b 3 1)), (21, (.m [4] 0 ([1] : (List Int)).length tInt.k)), (22, (.m [2] 0 us_9.length tInt.k))] rfl ?_
    refine TO_st (σ' := [.box [(sl (tI .u8) r_3.2.b), (intA r_3.2.i), (intA r_3.2.h)], .box [(intA 0), .n], .row (flat tInt.enc us_9), .box [(intA r_1.1.relation), .j], .row (flat tInt.enc ([1] : (List Int))), .dead]) rfl ?_
    refine pv tb 1 rfl ?_
    refine TO_cons rfl (TOp_storeB sz33 rfl rfl rfl rfl rfl rfl rfl (by decide) (lb rfl) rfl ?_)
    refine TO_st (σ' := [.box [(sl (tI .u8) r_3.2.b), (intA r_3.2.i), (intA r_3.2.h)], .box [(intA 0), .n], .row (flat tInt.enc us_9), .box [(intA r_1.1.relation), (.m [2] 0 us_9.length tInt.k)], .row (flat tInt.enc ([1] : (List Int))), .dead]) rfl ?_
    refine TO_nil ?_
    refine sr ?_
    refine pv tb 1 rfl ?_
    refine TO_cons rfl (TOp_storeB sz60 rfl rfl rfl rfl rfl rfl rfl (by decide) (lb rfl) rfl ?_)
    refine TO_st (σ' := [.box [(sl (tI .u8) r_3.2.b), (intA r_3.2.i), (intA r_3.2.h)], .box [(intA r_1.1.relation), (.m [2] 0 us_9.length tInt.k)], .row (flat tInt.enc us_9), .box [(intA r_1.1.relation), (.m [2] 0 us_9.length tInt.k)], .row (flat tInt.enc ([1] : (List Int))), .dead]) rfl ?_
    refine TO_nil ?_
    refine T_ret ?_
    obtain rfl := some_inj H
    exact end_pickX (.cellK rfl agg60 rfl (lb rfl) .nil) rfl [0, 2] (by decide) (lb rfl) rfl (lb rfl) rfl rfl rfl rfl rfl rfl
   ·replace H := cond_f c_8 H
    refine sr ?_
    refine pv tb 2 rfl ?_
    refine TO_nil ?_
    refine T_cond (t := decide (r_3.1 = 2)) rfl (fun c_11 => ?_) (fun c_11 => ?_)
    ·replace H := cond_t c_11 H
     obtain ⟨r_12, h_13, H⟩ := bind_inv H
     obtain ⟨v_14, h_15, H⟩ := bind_inv H
     obtain ⟨n_16, hz_17, hv_18⟩ := getI_inv h_15
     refine T_pad ?_
     refine T_regionP 0 mixed rfl ?_
     refine TA_have 2 #[true, true, true, true, true, false, false] [(4, (.b 1 0)), (5, (.b 3 0)), (27, (.m [2] 0 r_1.1.values.length tInt.k)), (30, (intA r_12.1))] [.box [(sl (tI .u8) r_12.2.b), (intA r_12.2.i), (intA r_12.2.h)], .box [(intA 0), .n], .row (flat tInt.enc r_1.1.values), .box [(intA r_1.1.relation), (.m [2] 0 r_1.1.values.length tInt.k)], .dead] ?_ (fun hj0_8 => ?_)
     ·skip
      refine tf 5 rfl (pur_ixM (T := tInt) sl33 rfl rfl hz_17 hv_18 rfl) rfl rfl (by kernel_rfl) ?_
      refine t1 6 (by kernel_rfl) rfl rfl (TOp_setT (f := tInt.enc) (z := 0) (y := r_12.1) tInt.len tInt.pos hz_17 sz3 rfl rfl rfl rfl rfl hv_18 rfl rfl ?_)
      refine TA_env (E' := [(4, (.b 1 0)), (5, (.b 3 0)), (27, (.m [2] 0 (r_1.1.values.set (0 : Int).toNat r_12.1).length tInt.k)), (30, (intA r_12.1))]) ⟨rfl, rfl, (congrArg (fun q => A.m [2] 0 q tInt.k) (List.length_set ..).symm), rfl, trivial⟩ ?_
      refine TA_st (σ' := [.box [(sl (tI .u8) r_12.2.b), (intA r_12.2.i), (intA r_12.2.h)], .box [(intA 0), .n], .row (flat tInt.enc (r_1.1.values.set (0 : Int).toNat r_12.1)), .box [(intA r_1.1.relation), (.m [2] 0 r_1.1.values.length tInt.k)], .dead]) rfl ?_
      refine TA_st (σ' := [.box [(sl (tI .u8) r_12.2.b), (intA r_12.2.i), (intA r_12.2.h)], .box [(intA 0), .n], .row (flat tInt.enc (r_1.1.values.set (0 : Int).toNat r_12.1)), .box [(intA r_1.1.relation), (.m [2] 0 (r_1.1.values.set (0 : Int).toNat r_12.1).length tInt.k)], .dead]) (by simp only [List.length_set]) ?_
      refine TA_nil (by kernel_rfl) ?_
      refine sr ?_
      refine pv tb 1 rfl ?_
      refine TO_cons rfl (TOp_storeB sz60 rfl rfl rfl rfl rfl rfl rfl (by decide) (lb rfl) rfl ?_)
      refine TO_st (σ' := [.box [(sl (tI .u8) r_12.2.b), (intA r_12.2.i), (intA r_12.2.h)], .box [(intA r_1.1.relation), (.m [2] 0 (r_1.1.values.set (0 : Int).toNat r_12.1).length tInt.k)], .row (flat tInt.enc (r_1.1.values.set (0 : Int).toNat r_12.1)), .box [(intA r_1.1.relation), (.m [2] 0 (r_1.1.values.set (0 : Int).toNat r_12.1).length tInt.k)], .dead]) rfl ?_
      refine TO_nil ?_
      refine T_ret ?_
      obtain rfl := some_inj H
      exact end_pickX (.cellK rfl agg60 rfl (lb rfl) .nil) rfl [0, 2] (by decide) (lb rfl) rfl (lb rfl) rfl rfl rfl rfl rfl rfl
     refine TA_have 3 #[true, true, true, true, false, false, false] [(4, (.b 1 0)), (5, (.b 3 0)), (27, (.m [2] 0 r_1.1.values.length tInt.k)), (28, (.b 0 0)), (29, (sl tInt ([-1, 10, 9] : (List Int))))] [.box [(sl (tI .u8) r_3.2.b), (intA r_3.2.i), (intA r_3.2.h)], .box [(intA 0), .n], .row (flat tInt.enc r_1.1.values), .box [(intA r_1.1.relation), (.m [2] 0 r_1.1.values.length tInt.k)], .dead] ?_ (fun hj1_8 => ?_)
     ·skip
      refine t1 4 (by kernel_rfl) rfl rfl (TOp_callS [0] (call_static ent88 rfl) (by decide) rfl rfl rfl rfl rfl rfl (m_spec_l1PickInt_x _ _ _ h_13) rfl rfl ?_)
      refine tae [(4, (.b 1 0)), (5, (.b 3 0)), (27, (.m [2] 0 r_1.1.values.length tInt.k)), (28, (.b 0 0)), (29, (sl tInt ([-1, 10, 9] : (List Int)))), (30, (intA r_12.1))] rfl ?_
      refine TA_st (σ' := [.box [(sl (tI .u8) r_12.2.b), (intA r_12.2.i), (intA r_12.2.h)], .box [(intA 0), .n], .row (flat tInt.enc r_1.1.values), .box [(intA r_1.1.relation), (.m [2] 0 r_1.1.values.length tInt.k)], .dead]) rfl ?_
      exact tj hj0_8 rfl (w0 5)
     refine pa tb [0, 2] 5 rfl (by kernel_rfl) rfl ?_
     refine TA_all [1, 3] (by kernel_rfl) (by decide) ⟨?_, ?_, trivial⟩
     ·skip
      refine ⟨_, rfl, rfl, (TOp_pure (pur_ld_b one33 rfl rfl rfl rfl) rfl ?_)⟩
      refine t1 3 (by kernel_rfl) rfl rfl (TOp_lit (nn := 3) (k := 1) sl33 zero3 rfl rfl rfl rfl (by decide) ?_)
      refine tmw 4 5 (by decide) (lb rfl) rfl rfl (lb rfl) rfl ?_
      refine TA_ghost (E' := [(0, (.b 0 0)), (4, (.b 1 0)), (5, (.b 3 0)), (24, (boolA (decide (r_3.1 = 2)))), (26, (.b 3 1)), (27, (.m [2] 0 r_1.1.values.length tInt.k)), (28, (.b 0 0)), (29, (.m [4] 0 ([-1, 10, 9] : (List Int)).length tInt.k))]) (σ' := [.box [(sl (tI .u8) r_3.2.b), (intA r_3.2.i), (intA r_3.2.h)], .box [(intA 0), .n], .row (flat tInt.enc r_1.1.values), .box [(intA r_1.1.relation), (.m [2] 0 r_1.1.values.length tInt.k)], .row (flat tInt.enc ([-1, 10, 9] : (List Int))), .dead]) (Ghost.weak (WeakL.to 6 (lb rfl) rfl rfl rfl rfl ⟨leR rfl, leR rfl, leR rfl, leR rfl, leR rfl, leR rfl, leR rfl, leR rfl, trivial⟩)) ?_
      refine TA_frz1 4 (E' := [(0, (.b 0 0)), (4, (.b 1 0)), (5, (.b 3 0)), (24, (boolA (decide (r_3.1 = 2)))), (26, (.b 3 1)), (27, (.m [2] 0 r_1.1.values.length tInt.k)), (28, (.b 0 0)), (29, (sl tInt ([-1, 10, 9] : (List Int))))]) rfl rfl (lb rfl) ⟨(.keep rfl), (.keep rfl), (.keep rfl), (.keep rfl), (.keep rfl), (.keep rfl), (.keep rfl), fz1E, trivial⟩ ?_
      refine TA_st (σ' := [.box [(sl (tI .u8) r_3.2.b), (intA r_3.2.i), (intA r_3.2.h)], .box [(intA 0), .n], .row (flat tInt.enc r_1.1.values), .box [(intA r_1.1.relation), (.m [2] 0 r_1.1.values.length tInt.k)], .dead, .dead]) rfl ?_
      exact tj hj1_8 rfl (w0 5)
     ·skip
      refine ⟨_, rfl, rfl, (TOp_lit (nn := 3) (k := 1) sl33 zero3 rfl rfl rfl rfl (by decide) ?_)⟩
      refine tmw 4 5 (by decide) (lb rfl) rfl rfl (lb rfl) rfl ?_
      refine TA_ghost (E' := [(0, (.b 0 0)), (4, (.b 1 0)), (5, (.b 3 0)), (24, (boolA (decide (r_3.1 = 2)))), (26, (.b 3 1)), (28, (.b 0 0)), (29, (.m [4] 0 ([-1, 10, 9] : (List Int)).length tInt.k))]) (σ' := [.box [(sl (tI .u8) r_3.2.b), (intA r_3.2.i), (intA r_3.2.h)], .box [(intA 0), .n], .row (flat tInt.enc r_1.1.values), .box [(intA r_1.1.relation), (.m [2] 0 r_1.1.values.length tInt.k)], .row (flat tInt.enc ([-1, 10, 9] : (List Int))), .dead]) (Ghost.weak (WeakL.to 6 (lb rfl) rfl rfl rfl rfl ⟨leR rfl, leR rfl, leR rfl, leR rfl, leR rfl, leR rfl, leR rfl, trivial⟩)) ?_
      refine TA_frz1 4 (E' := [(0, (.b 0 0)), (4, (.b 1 0)), (5, (.b 3 0)), (24, (boolA (decide (r_3.1 = 2)))), (26, (.b 3 1)), (28, (.b 0 0)), (29, (sl tInt ([-1, 10, 9] : (List Int))))]) rfl rfl (lb rfl) ⟨(.keep rfl), (.keep rfl), (.keep rfl), (.keep rfl), (.keep rfl), (.keep rfl), fz1E, trivial⟩ ?_
      refine TA_st (σ' := [.box [(sl (tI .u8) r_3.2.b), (intA r_3.2.i), (intA r_3.2.h)], .box [(intA 0), .n], .row (flat tInt.enc r_1.1.values), .box [(intA r_1.1.relation), (.m [2] 0 r_1.1.values.length tInt.k)], .dead, .dead]) rfl ?_
      refine TA_all [1, 4] (by kernel_rfl) (by decide) ⟨?_, ?_, trivial⟩
      ·skip
       refine ⟨_, rfl, rfl, (TOp_pure (pur_ld_b one33 rfl rfl rfl rfl) rfl ?_)⟩
       exact tj hj1_8 rfl (w0 5)
      ·skip
       refine ⟨_, rfl, rfl, (TOp_callS [0] (call_static ent88 rfl) (by decide) rfl rfl rfl rfl rfl rfl (m_spec_l1PickInt_x _ _ _ h_13) rfl rfl ?_)⟩
       refine tae [(0, (.b 0 0)), (4, (.b 1 0)), (5, (.b 3 0)), (24, (boolA (decide (r_3.1 = 2)))), (26, (.b 3 1)), (28, (.b 0 0)), (29, (sl tInt ([-1, 10, 9] : (List Int)))), (30, (intA r_12.1))] rfl ?_
       refine TA_st (σ' := [.box [(sl (tI .u8) r_12.2.b), (intA r_12.2.i), (intA r_12.2.h)], .box [(intA 0), .n], .row (flat tInt.enc r_1.1.values), .box [(intA r_1.1.relation), (.m [2] 0 r_1.1.values.length tInt.k)], .dead, .dead]) rfl ?_
       refine t1 1 (by kernel_rfl) rfl rfl (TOp_pure (pur_ld_b one33 rfl rfl rfl rfl) rfl ?_)
       exact tj hj0_8 rfl (w0 5)
    ·replace H := cond_f c_11 H
     refine T_skip ?_
     refine sr ?_
     refine pv tb 1 rfl ?_
     refine TO_cons rfl (TOp_storeB sz60 rfl rfl rfl rfl rfl rfl rfl (by decide) (lb rfl) rfl ?_)
     refine TO_st (σ' := [.box [(sl (tI .u8) r_3.2.b), (intA r_3.2.i), (intA r_3.2.h)], .box [(intA r_1.1.relation), (.m [2] 0 r_1.1.values.length tInt.k)], .row (flat tInt.enc r_1.1.values), .box [(intA r_1.1.relation), (.m [2] 0 r_1.1.values.length tInt.k)]]) rfl ?_
     refine TO_nil ?_
     refine T_ret ?_
     obtain rfl := some_inj H
     exact end_pickX (.cellK rfl agg60 rfl (lb rfl) .nil) rfl [0, 2] (by decide) (lb rfl) rfl (lb rfl) rfl rfl rfl rfl rfl rfl

set_option maxHeartbeats 1000000 in
theorem m_spec_l1Pick_x (c0 : l1Cur) (list1 : (List ByteArray)) (r : (ByteArray × l1Cur)) (H : m_spec_l1Pick c0 list1 = some r) : FnS prg 129 [(.b 0 0), (sl tStr list1)] [.box [(sl (tI .u8) c0.b), (intA c0.i), (intA c0.h)]] (strA r.1) [.box [(sl (tI .u8) r.2.b), (intA r.2.i), (intA r.2.h)]] := by
  unfold m_spec_l1Pick at H
  refine fnS_of_T Try.func129 rfl rfl (Nat.le_of_ble_eq_true rfl) ?_
  refine te [(0, (.b 0 0)), (1, (sl tStr list1))] rfl ?_
  refine T_st (σ' := [.box [(sl (tI .u8) c0.b), (intA c0.i), (intA c0.h)]]) rfl ?_
  refine sr ?_
  refine pv tb 1 rfl ?_
  refine TO_nil ?_
  refine sr ?_
  refine pv tb 3 rfl ?_
  refine Tp rfl rfl (pur_lenT (T := tStr) sl135 rfl rfl) rfl ?_
  obtain ⟨r_1, h_2, H⟩ := bind_inv H
  refine TO_cons rfl (TOp_callS [0] (call_static ent83 rfl) (by decide) rfl rfl rfl rfl rfl rfl (m_spec_l1Below_x _ _ _ h_2) rfl rfl ?_)
  refine toe [(0, (.b 0 0)), (1, (sl tStr list1)), (5, (sl tStr list1)), (6, (.b 0 0)), (7, (sl tStr list1)), (8, (intA (list1.length : Int))), (9, (intA r_1.1))] rfl ?_
  refine TO_st (σ' := [.box [(sl (tI .u8) r_1.2.b), (intA r_1.2.i), (intA r_1.2.h)]]) rfl ?_
  obtain ⟨v_3, h_4, H⟩ := bind_inv H
  obtain ⟨n_5, hz_6, hv_7⟩ := getI_inv h_4
  refine Tp rfl rfl (pur_ixT (T := tStr) sl135 rfl rfl hz_6 hv_7 rfl) rfl ?_
  refine Tp rfl rfl (pur_ldT (T := tStr) (i := n_5) (off := 0) rfl one9 rfl rfl hv_7 rfl) rfl ?_
  refine pv tb 1 rfl ?_
  refine TO_nil ?_
  refine T_ret ?_
  obtain rfl := some_inj H
  exact end_pickX (.tmp .nil) rfl [0] (by decide) (lb rfl) rfl (lb rfl) rfl rfl rfl rfl rfl rfl

set_option maxHeartbeats 1000000 in
theorem m_spec_l2Any_x (c0 : l1Cur) (r : (Relation × l1Cur)) (H : m_spec_l2Any c0 = some r) : FnS prg 112 [(.b 0 0)] [.box [(sl (tI .u8) c0.b), (intA c0.i), (intA c0.h)]] (.g (tRelation.enc r.1)) [.box [(sl (tI .u8) r.2.b), (intA r.2.i), (intA r.2.h)]] := by
  unfold m_spec_l2Any at H
  refine fnS_of_T Try.func112 rfl rfl (Nat.le_of_ble_eq_true rfl) ?_
  refine te [(0, (.b 0 0))] rfl ?_
  refine T_st (σ' := [.box [(sl (tI .u8) c0.b), (intA c0.i), (intA c0.h)]]) rfl ?_
  refine sr ?_
  refine TO_cons rfl (TOp_alloc zero97 rfl rfl ?_)
  refine TO_nil ?_
  refine sr ?_
  refine pv tb 1 rfl ?_
  refine TO_cons rfl (TOp_lit (nn := 6) (k := 1) sl135 zero9 rfl rfl rfl rfl (by decide) ?_)
  refine TO_st (σ' := [.box [(sl (tI .u8) c0.b), (intA c0.i), (intA c0.h)], .box [(strA ByteArray.empty), (intA 0), (intA 0)], .row (flat tStr.enc ([(⟨#[114]⟩ : ByteArray), (⟨#[122]⟩ : ByteArray), (⟨#[97]⟩ : ByteArray), (⟨#[]⟩ : ByteArray), (⟨#[82]⟩ : ByteArray), (⟨#[97, 98]⟩ : ByteArray)] : (List ByteArray)))]) rfl ?_
  refine TO_frz1 2 (E' := [(0, (.b 0 0)), (2, (.b 1 0)), (3, (.b 0 0)), (4, (sl tStr ([(⟨#[114]⟩ : ByteArray), (⟨#[122]⟩ : ByteArray), (⟨#[97]⟩ : ByteArray), (⟨#[]⟩ : ByteArray), (⟨#[82]⟩ : ByteArray), (⟨#[97, 98]⟩ : ByteArray)] : (List ByteArray))))]) rfl rfl (lb rfl) ⟨(.keep rfl), (.keep rfl), (.keep rfl), fz1E, trivial⟩ ?_
  refine TO_st (σ' := [.box [(sl (tI .u8) c0.b), (intA c0.i), (intA c0.h)], .box [(strA ByteArray.empty), (intA 0), (intA 0)], .dead]) rfl ?_
  obtain ⟨r_1, h_2, H⟩ := bind_inv H
  refine TO_cons rfl (TOp_callS [0] (call_static ent129 rfl) (by decide) rfl rfl rfl rfl rfl rfl (m_spec_l1Pick_x _ _ _ h_2) rfl rfl ?_)
  refine toe [(0, (.b 0 0)), (2, (.b 1 0)), (3, (.b 0 0)), (4, (sl tStr ([(⟨#[114]⟩ : ByteArray), (⟨#[122]⟩ : ByteArray), (⟨#[97]⟩ : ByteArray), (⟨#[]⟩ : ByteArray), (⟨#[82]⟩ : ByteArray), (⟨#[97, 98]⟩ : ByteArray)] : (List ByteArray)))), (5, (strA r_1.1))] rfl ?_
  refine TO_st (σ' := [.box [(sl (tI .u8) r_1.2.b), (intA r_1.2.i), (intA r_1.2.h)], .box [(strA ByteArray.empty), (intA 0), (intA 0)], .dead]) rfl ?_
  obtain ⟨r_3, h_4, H⟩ := bind_inv H
  refine pv tb 1 rfl ?_
  refine TO_cons rfl (TOp_callS [0] (call_static ent83 rfl) (by decide) rfl rfl rfl rfl rfl rfl (m_spec_l1Below_x _ _ _ h_4) rfl rfl ?_)
  refine toe [(0, (.b 0 0)), (2, (.b 1 0)), (3, (.b 0 0)), (4, (sl tStr ([(⟨#[114]⟩ : ByteArray), (⟨#[122]⟩ : ByteArray), (⟨#[97]⟩ : ByteArray), (⟨#[]⟩ : ByteArray), (⟨#[82]⟩ : ByteArray), (⟨#[97, 98]⟩ : ByteArray)] : (List ByteArray)))), (5, (strA r_1.1)), (6, (.b 0 0)), (7, (intA r_3.1))] rfl ?_
  refine TO_st (σ' := [.box [(sl (tI .u8) r_3.2.b), (intA r_3.2.i), (intA r_3.2.h)], .box [(strA ByteArray.empty), (intA 0), (intA 0)], .dead]) rfl ?_
  obtain ⟨r_5, h_6, H⟩ := bind_inv H
  refine pv tb 2 rfl ?_
  refine TO_cons rfl (TOp_callS [0] (call_static ent83 rfl) (by decide) rfl rfl rfl rfl rfl rfl (m_spec_l1Below_x _ _ _ h_6) rfl rfl ?_)
  refine toe [(0, (.b 0 0)), (2, (.b 1 0)), (3, (.b 0 0)), (4, (sl tStr ([(⟨#[114]⟩ : ByteArray), (⟨#[122]⟩ : ByteArray), (⟨#[97]⟩ : ByteArray), (⟨#[]⟩ : ByteArray), (⟨#[82]⟩ : ByteArray), (⟨#[97, 98]⟩ : ByteArray)] : (List ByteArray)))), (5, (strA r_1.1)), (6, (.b 0 0)), (7, (intA r_3.1)), (8, (intA (w64 (r_3.1 - 1)))), (9, (.b 0 0)), (10, (intA r_5.1))] rfl ?_
  refine TO_st (σ' := [.box [(sl (tI .u8) r_5.2.b), (intA r_5.2.i), (intA r_5.2.h)], .box [(strA ByteArray.empty), (intA 0), (intA 0)], .dead]) rfl ?_
  refine pv tb 1 rfl ?_
  refine Tp rfl rfl (pur_build bld97 rfl rfl) rfl ?_
  refine TO_cons rfl (TOp_storeB sz97 rfl rfl rfl rfl rfl rfl rfl (by decide) (lb rfl) rfl ?_)
  refine TO_st (σ' := [.box [(sl (tI .u8) r_5.2.b), (intA r_5.2.i), (intA r_5.2.h)], .box [(strA r_1.1), (intA (w64 (r_3.1 - 1))), (intA (w64 (r_5.1 - 1)))], .dead]) rfl ?_
  refine TO_nil ?_
  refine T_ret ?_
  obtain rfl := some_inj H
  exact end_pickX (.cellK rfl agg97 rfl (lb rfl) .nil) rfl [0] (by decide) (lb rfl) rfl (lb rfl) rfl rfl rfl rfl rfl rfl

set_option maxHeartbeats 1000000 in
theorem m_spec_l4Any_x (u : Nat) (c0 : l1Cur) (r : (Database × l1Cur)) (H : m_spec_l4Any u c0 = some r) : FnS prg 86 [(.b 0 0)] [.box [(sl (tI .u8) c0.b), (intA c0.i), (intA c0.h)]] (.g (tDatabase.enc r.1)) [.box [(sl (tI .u8) r.2.b), (intA r.2.i), (intA r.2.h)]] := by
  unfold m_spec_l4Any at H
  refine fnS_of_T Try.func86 rfl rfl (Nat.le_of_ble_eq_true rfl) ?_
  refine te [(0, (.b 0 0))] rfl ?_
  refine T_st (σ' := [.box [(sl (tI .u8) c0.b), (intA c0.i), (intA c0.h)]]) rfl ?_
  refine sr ?_
  refine TO_cons rfl (TOp_alloc zero32 rfl rfl ?_)
  refine TO_nil ?_
  refine sr ?_
  obtain ⟨r_1, h_2, H⟩ := bind_inv H
  refine pv tb 1 rfl ?_
  refine TO_cons rfl (TOp_callS [0] (call_static ent110 rfl) (by decide) rfl rfl rfl rfl rfl rfl (m_spec_l4Db_x u _ _ h_2) rfl rfl ?_)
  refine toe [(0, (.b 0 0)), (2, (.b 1 0)), (4, (.b 0 0)), (5, (.g [(.m [2] 0 r_1.1.relations.length tRelation.k), (.m [3] 0 r_1.1.facts.length tFact.k)]))] rfl ?_
  refine TO_st (σ' := [.box [(sl (tI .u8) r_1.2.b), (intA r_1.2.i), (intA r_1.2.h)], .box [.n, .n], .row (flat tRelation.enc r_1.1.relations), .row (flat tFact.enc r_1.1.facts)]) rfl ?_
  refine TO_cons rfl (TOp_alloc zero32 rfl rfl ?_)
  refine TO_cons rfl (TOp_storeB sz32 rfl rfl rfl rfl rfl rfl rfl (by decide) (lb rfl) rfl ?_)
  refine TO_st (σ' := [.box [(sl (tI .u8) r_1.2.b), (intA r_1.2.i), (intA r_1.2.h)], .box [.n, .n], .row (flat tRelation.enc r_1.1.relations), .row (flat tFact.enc r_1.1.facts), .box [(.m [2] 0 r_1.1.relations.length tRelation.k), (.m [3] 0 r_1.1.facts.length tFact.k)]]) rfl ?_
  refine TO_nil ?_
  refine T_seq ?_
  refine sr ?_
  obtain ⟨r_3, h_4, H⟩ := bind_inv H
  refine pv tb 1 rfl ?_
  refine TO_cons rfl (TOp_callS [0] (call_static ent83 rfl) (by decide) rfl rfl rfl rfl rfl rfl (m_spec_l1Below_x _ _ _ h_4) rfl rfl ?_)
  refine toe [(0, (.b 0 0)), (2, (.b 1 0)), (3, (.b 4 0)), (6, (.b 0 0)), (7, (intA r_3.1))] rfl ?_
  refine TO_st (σ' := [.box [(sl (tI .u8) r_3.2.b), (intA r_3.2.i), (intA r_3.2.h)], .box [.n, .n], .row (flat tRelation.enc r_1.1.relations), .row (flat tFact.enc r_1.1.facts), .box [(.m [2] 0 r_1.1.relations.length tRelation.k), (.m [3] 0 r_1.1.facts.length tFact.k)]]) rfl ?_
  refine TO_nil ?_
  refine T_block ?_
  refine sr ?_
  refine pv tb 2 rfl ?_
  refine TO_nil ?_
  refine T_cond (t := decide (r_3.1 = 0)) rfl (fun c_5 => ?_) (fun c_5 => ?_)
  ·replace H := cond_t c_5 H
   obtain ⟨r_6, h_7, H⟩ := bind_inv H
   obtain ⟨us_8, h_9, H⟩ := bind_inv H
   refine T_pad ?_
   refine T_pad ?_
   refine T_regionP 0 mixed rfl ?_
   refine TA_have 3 #[true, true, true, true, true, true, true, false, false, false] [(2, (.b 1 0)), (3, (.b 4 0)), (11, (.m [3] 0 r_1.1.facts.length tFact.k)), (16, (.m [6] 0 ([r_6.1] : (List Fact)).length tFact.k))] [.box [(sl (tI .u8) r_6.2.b), (intA r_6.2.i), (intA r_6.2.h)], .box [.n, .n], .dead, .row (flat tFact.enc r_1.1.facts), .box [(sl tRelation r_1.1.relations), (.m [3] 0 r_1.1.facts.length tFact.k)], .dead, .row (flat tFact.enc ([r_6.1] : (List Fact)))] ?_ (fun hj0_4 => ?_)
   ·skip
    refine t1 7 (by kernel_rfl) rfl rfl (TOp_appY (T := tFact) (f := tFact.enc) (xs := r_1.1.facts) (ys := ([r_6.1] : (List Fact))) tFact.len sl30 zero60 rfl bytes60 (by decide) rfl rfl rfl rfl (src_mT (f := tFact.enc) tFact.len rfl rfl (flat_cell tFact _)) (flat_cell tFact _) h_9 ?_)
    refine tmv 3 7 (by decide) (lb rfl) rfl rfl (lb rfl) ?_
    refine TA_st (σ' := [.box [(sl (tI .u8) r_6.2.b), (intA r_6.2.i), (intA r_6.2.h)], .box [.n, .n], .dead, .row (flat tFact.enc us_8), .box [(sl tRelation r_1.1.relations), .j], .dead, .row (flat tFact.enc ([r_6.1] : (List Fact))), .dead]) rfl ?_
    refine pa tb [8] 1 rfl (by kernel_rfl) rfl ?_
    refine t1 9 (by kernel_rfl) rfl rfl (TOp_storeB sz30 rfl rfl rfl rfl rfl rfl rfl (by decide) (lb rfl) rfl ?_)
    refine TA_st (σ' := [.box [(sl (tI .u8) r_6.2.b), (intA r_6.2.i), (intA r_6.2.h)], .box [.n, .n], .dead, .row (flat tFact.enc us_8), .box [(sl tRelation r_1.1.relations), (.m [3] 0 us_8.length tFact.k)], .dead, .row (flat tFact.enc ([r_6.1] : (List Fact))), .dead]) rfl ?_
    refine TA_nil (by kernel_rfl) ?_
    refine sr ?_
    refine pv tb 1 rfl ?_
    refine TO_cons rfl (TOp_storeB sz32 rfl rfl rfl rfl rfl rfl rfl (by decide) (lb rfl) rfl ?_)
    refine TO_st (σ' := [.box [(sl (tI .u8) r_6.2.b), (intA r_6.2.i), (intA r_6.2.h)], .box [(sl tRelation r_1.1.relations), (.m [3] 0 us_8.length tFact.k)], .dead, .row (flat tFact.enc us_8), .box [(sl tRelation r_1.1.relations), (.m [3] 0 us_8.length tFact.k)], .dead, .row (flat tFact.enc ([r_6.1] : (List Fact))), .dead]) rfl ?_
    refine TO_nil ?_
    refine T_frzB 3 (E' := [(2, (.b 1 0))]) (σ' := [.box [(sl (tI .u8) r_6.2.b), (intA r_6.2.i), (intA r_6.2.h)], .box [(sl tRelation r_1.1.relations), (sl tFact us_8)], .dead, .dead, .box [(sl tRelation r_1.1.relations), (sl tFact us_8)], .dead, .row (flat tFact.enc ([r_6.1] : (List Fact))), .dead]) rfl (lb rfl) ?_ ?_ ?_
    ·exact ⟨(.keep rfl), trivial⟩
    ·exact ⟨(fzK rfl), (fzC (.keep rfl) (fzC fz1E fzN)), trivial, trivial, (fzC (.keep rfl) (fzC fz1E fzN)), trivial, rfl, trivial, trivial⟩
    refine T_ret ?_
    obtain rfl := some_inj H
    exact end_pickX (.cellK rfl agg32 rfl (lb rfl) .nil) rfl [0] (by decide) (lb rfl) rfl (lb rfl) rfl rfl rfl rfl rfl rfl
   refine TA_have 4 #[true, true, true, true, true, true, false, false, false, false] [(2, (.b 1 0)), (3, (.b 4 0)), (11, (.m [3] 0 r_1.1.facts.length tFact.k)), (15, (.g [(intA r_6.1.relation), (sl tInt r_6.1.values)]))] [.box [(sl (tI .u8) r_6.2.b), (intA r_6.2.i), (intA r_6.2.h)], .box [.n, .n], .dead, .row (flat tFact.enc r_1.1.facts), .box [(sl tRelation r_1.1.relations), (.m [3] 0 r_1.1.facts.length tFact.k)], .dead, .dead] ?_ (fun hj1_4 => ?_)
   ·skip
    refine t1 6 (by kernel_rfl) rfl rfl (TOp_lit (nn := 1) (k := 2) sl30 zero60 rfl rfl rfl rfl (by decide) ?_)
    refine tmw 6 7 (by decide) (lb rfl) rfl rfl (lb rfl) rfl ?_
    exact tj hj0_4 rfl (w0 7)
   refine TA_have 5 #[true, true, true, true, true, false, false, false, false, false] [(2, (.b 1 0)), (3, (.b 4 0)), (11, (.m [3] 0 r_1.1.facts.length tFact.k)), (12, (.b 0 0)), (14, (sl tRelation r_1.1.relations))] [.box [(sl (tI .u8) r_3.2.b), (intA r_3.2.i), (intA r_3.2.h)], .box [.n, .n], .dead, .row (flat tFact.enc r_1.1.facts), .box [(sl tRelation r_1.1.relations), (.m [3] 0 r_1.1.facts.length tFact.k)], .dead, .dead] ?_ (fun hj2_4 => ?_)
   ·skip
    refine t1 5 (by kernel_rfl) rfl rfl (TOp_callS [0] (call_static ent111 rfl) (by decide) rfl rfl rfl rfl rfl rfl (m_spec_l3Any_x u _ _ _ h_7) rfl rfl ?_)
    refine tae [(2, (.b 1 0)), (3, (.b 4 0)), (11, (.m [3] 0 r_1.1.facts.length tFact.k)), (12, (.b 0 0)), (14, (sl tRelation r_1.1.relations)), (15, (.g [(intA r_6.1.relation), (.m [7] 0 r_6.1.values.length tInt.k)]))] rfl ?_
    refine TA_st (σ' := [.box [(sl (tI .u8) r_6.2.b), (intA r_6.2.i), (intA r_6.2.h)], .box [.n, .n], .dead, .row (flat tFact.enc r_1.1.facts), .box [(sl tRelation r_1.1.relations), (.m [3] 0 r_1.1.facts.length tFact.k)], .dead, .dead, .row (flat tInt.enc r_6.1.values)]) rfl ?_
    refine tmw 5 7 (by decide) (lb rfl) rfl rfl (lb rfl) rfl ?_
    refine TA_ghost (E' := [(2, (.b 1 0)), (3, (.b 4 0)), (11, (.m [3] 0 r_1.1.facts.length tFact.k)), (12, (.b 0 0)), (14, (sl tRelation r_1.1.relations)), (15, (.g [(intA r_6.1.relation), (.m [5] 0 r_6.1.values.length tInt.k)]))]) (σ' := [.box [(sl (tI .u8) r_6.2.b), (intA r_6.2.i), (intA r_6.2.h)], .box [.n, .n], .dead, .row (flat tFact.enc r_1.1.facts), .box [(sl tRelation r_1.1.relations), (.m [3] 0 r_1.1.facts.length tFact.k)], .row (flat tInt.enc r_6.1.values), .dead, .dead]) (Ghost.weak (WeakL.to 8 (lb rfl) rfl rfl rfl rfl ⟨leR rfl, leR rfl, leR rfl, leR rfl, leR rfl, leR rfl, trivial⟩)) ?_
    refine TA_frz1 5 (E' := [(2, (.b 1 0)), (3, (.b 4 0)), (11, (.m [3] 0 r_1.1.facts.length tFact.k)), (12, (.b 0 0)), (14, (sl tRelation r_1.1.relations)), (15, (.g [(intA r_6.1.relation), (sl tInt r_6.1.values)]))]) rfl rfl (lb rfl) ?_ ?_
    ·exact ⟨(.keep rfl), (.keep rfl), (.keep rfl), (.keep rfl), (.keep rfl), (fz1G (fzC (.keep rfl) (fzC fz1E fzN))), trivial⟩
    refine TA_st (σ' := [.box [(sl (tI .u8) r_6.2.b), (intA r_6.2.i), (intA r_6.2.h)], .box [.n, .n], .dead, .row (flat tFact.enc r_1.1.facts), .box [(sl tRelation r_1.1.relations), (.m [3] 0 r_1.1.facts.length tFact.k)], .dead, .dead, .dead]) rfl ?_
    exact tj hj1_4 rfl (w0 7)
   refine pa tb [0, 2, 3] 7 rfl (by kernel_rfl) rfl ?_
   refine TA_all [1, 4] (by kernel_rfl) (by decide) ⟨?_, ?_, trivial⟩
   ·skip
    refine ⟨_, rfl, rfl, (TOp_pure (pur_ld_b one30 rfl rfl rfl rfl) rfl ?_)⟩
    refine t1 4 (by kernel_rfl) rfl rfl (TOp_pure (pur_ld_b one29 rfl rfl rfl rfl) rfl ?_)
    refine TA_ghost (E' := [(0, (.b 0 0)), (2, (.b 1 0)), (3, (.b 4 0)), (7, (intA r_3.1)), (8, (boolA (decide (r_3.1 = 0)))), (10, (.b 4 1)), (11, (.m [3] 0 r_1.1.facts.length tFact.k)), (12, (.b 0 0)), (13, (.b 4 0)), (14, (.m [2] 0 r_1.1.relations.length tRelation.k))]) (σ' := [.box [(sl (tI .u8) r_3.2.b), (intA r_3.2.i), (intA r_3.2.h)], .box [.n, .n], .row (flat tRelation.enc r_1.1.relations), .row (flat tFact.enc r_1.1.facts), .box [(.m [2] 0 r_1.1.relations.length tRelation.k), (.m [3] 0 r_1.1.facts.length tFact.k)], .dead, .dead]) (Ghost.weak (WeakL.to 7 (lb rfl) rfl rfl rfl rfl ⟨leR rfl, leR rfl, leR rfl, leR rfl, leR rfl, leR rfl, leR rfl, leR rfl, leR rfl, leR rfl, trivial⟩)) ?_
    refine TA_frzB 2 (E' := [(0, (.b 0 0)), (2, (.b 1 0)), (3, (.b 4 0)), (7, (intA r_3.1)), (8, (boolA (decide (r_3.1 = 0)))), (10, (.b 4 1)), (11, (.m [3] 0 r_1.1.facts.length tFact.k)), (12, (.b 0 0)), (13, (.b 4 0)), (14, (sl tRelation r_1.1.relations))]) (σ' := [.box [(sl (tI .u8) r_3.2.b), (intA r_3.2.i), (intA r_3.2.h)], .box [.n, .n], .dead, .row (flat tFact.enc r_1.1.facts), .box [(sl tRelation r_1.1.relations), (.m [3] 0 r_1.1.facts.length tFact.k)], .dead, .dead]) rfl (lb rfl) ?_ ?_ ?_
    ·exact ⟨(.keep rfl), (.keep rfl), (.keep rfl), (.keep rfl), (.keep rfl), (.keep rfl), (.keep rfl), (.keep rfl), (.keep rfl), fz1E, trivial⟩
    ·exact ⟨(fzK rfl), (fzK rfl), trivial, rfl, (fzC fz1E (fzC (.keep rfl) fzN)), trivial, trivial, trivial⟩
    exact tj hj2_4 rfl (w0 7)
   ·skip
    refine ⟨_, rfl, rfl, (TOp_pure (pur_ld_b one29 rfl rfl rfl rfl) rfl ?_)⟩
    refine TA_ghost (E' := [(0, (.b 0 0)), (2, (.b 1 0)), (3, (.b 4 0)), (7, (intA r_3.1)), (8, (boolA (decide (r_3.1 = 0)))), (10, (.b 4 1)), (12, (.b 0 0)), (13, (.b 4 0)), (14, (.m [2] 0 r_1.1.relations.length tRelation.k))]) (σ' := [.box [(sl (tI .u8) r_3.2.b), (intA r_3.2.i), (intA r_3.2.h)], .box [.n, .n], .row (flat tRelation.enc r_1.1.relations), .row (flat tFact.enc r_1.1.facts), .box [(.m [2] 0 r_1.1.relations.length tRelation.k), (.m [3] 0 r_1.1.facts.length tFact.k)], .dead, .dead]) (Ghost.weak (WeakL.to 7 (lb rfl) rfl rfl rfl rfl ⟨leR rfl, leR rfl, leR rfl, leR rfl, leR rfl, leR rfl, leR rfl, leR rfl, leR rfl, trivial⟩)) ?_
    refine TA_frzB 2 (E' := [(0, (.b 0 0)), (2, (.b 1 0)), (3, (.b 4 0)), (7, (intA r_3.1)), (8, (boolA (decide (r_3.1 = 0)))), (10, (.b 4 1)), (12, (.b 0 0)), (13, (.b 4 0)), (14, (sl tRelation r_1.1.relations))]) (σ' := [.box [(sl (tI .u8) r_3.2.b), (intA r_3.2.i), (intA r_3.2.h)], .box [.n, .n], .dead, .row (flat tFact.enc r_1.1.facts), .box [(sl tRelation r_1.1.relations), (.m [3] 0 r_1.1.facts.length tFact.k)], .dead, .dead]) rfl (lb rfl) ?_ ?_ ?_
    ·exact ⟨(.keep rfl), (.keep rfl), (.keep rfl), (.keep rfl), (.keep rfl), (.keep rfl), (.keep rfl), (.keep rfl), fz1E, trivial⟩
    ·exact ⟨(fzK rfl), (fzK rfl), trivial, rfl, (fzC fz1E (fzC (.keep rfl) fzN)), trivial, trivial, trivial⟩
    refine TA_all [1, 5] (by kernel_rfl) (by decide) ⟨?_, ?_, trivial⟩
    ·skip
     refine ⟨_, rfl, rfl, (TOp_pure (pur_ld_b one30 rfl rfl rfl rfl) rfl ?_)⟩
     exact tj hj2_4 rfl (w0 7)
    ·skip
     refine ⟨_, rfl, rfl, (TOp_callS [0] (call_static ent111 rfl) (by decide) rfl rfl rfl rfl rfl rfl (m_spec_l3Any_x u _ _ _ h_7) rfl rfl ?_)⟩
     refine tae [(0, (.b 0 0)), (2, (.b 1 0)), (3, (.b 4 0)), (7, (intA r_3.1)), (8, (boolA (decide (r_3.1 = 0)))), (10, (.b 4 1)), (12, (.b 0 0)), (13, (.b 4 0)), (14, (sl tRelation r_1.1.relations)), (15, (.g [(intA r_6.1.relation), (.m [7] 0 r_6.1.values.length tInt.k)]))] rfl ?_
     refine TA_st (σ' := [.box [(sl (tI .u8) r_6.2.b), (intA r_6.2.i), (intA r_6.2.h)], .box [.n, .n], .dead, .row (flat tFact.enc r_1.1.facts), .box [(sl tRelation r_1.1.relations), (.m [3] 0 r_1.1.facts.length tFact.k)], .dead, .dead, .row (flat tInt.enc r_6.1.values)]) rfl ?_
     refine tmw 5 7 (by decide) (lb rfl) rfl rfl (lb rfl) rfl ?_
     refine TA_ghost (E' := [(0, (.b 0 0)), (2, (.b 1 0)), (3, (.b 4 0)), (7, (intA r_3.1)), (8, (boolA (decide (r_3.1 = 0)))), (10, (.b 4 1)), (12, (.b 0 0)), (13, (.b 4 0)), (14, (sl tRelation r_1.1.relations)), (15, (.g [(intA r_6.1.relation), (.m [5] 0 r_6.1.values.length tInt.k)]))]) (σ' := [.box [(sl (tI .u8) r_6.2.b), (intA r_6.2.i), (intA r_6.2.h)], .box [.n, .n], .dead, .row (flat tFact.enc r_1.1.facts), .box [(sl tRelation r_1.1.relations), (.m [3] 0 r_1.1.facts.length tFact.k)], .row (flat tInt.enc r_6.1.values), .dead, .dead]) (Ghost.weak (WeakL.to 8 (lb rfl) rfl rfl rfl rfl ⟨leR rfl, leR rfl, leR rfl, leR rfl, leR rfl, leR rfl, leR rfl, leR rfl, leR rfl, leR rfl, trivial⟩)) ?_
     refine TA_frz1 5 (E' := [(0, (.b 0 0)), (2, (.b 1 0)), (3, (.b 4 0)), (7, (intA r_3.1)), (8, (boolA (decide (r_3.1 = 0)))), (10, (.b 4 1)), (12, (.b 0 0)), (13, (.b 4 0)), (14, (sl tRelation r_1.1.relations)), (15, (.g [(intA r_6.1.relation), (sl tInt r_6.1.values)]))]) rfl rfl (lb rfl) ?_ ?_
     ·exact ⟨(.keep rfl), (.keep rfl), (.keep rfl), (.keep rfl), (.keep rfl), (.keep rfl), (.keep rfl), (.keep rfl), (.keep rfl), (fz1G (fzC (.keep rfl) (fzC fz1E fzN))), trivial⟩
     refine TA_st (σ' := [.box [(sl (tI .u8) r_6.2.b), (intA r_6.2.i), (intA r_6.2.h)], .box [.n, .n], .dead, .row (flat tFact.enc r_1.1.facts), .box [(sl tRelation r_1.1.relations), (.m [3] 0 r_1.1.facts.length tFact.k)], .dead, .dead, .dead]) rfl ?_
     refine TA_all [1, 6] (by kernel_rfl) (by decide) ⟨?_, ?_, trivial⟩
     ·skip
      refine ⟨_, rfl, rfl, (TOp_pure (pur_ld_b one30 rfl rfl rfl rfl) rfl ?_)⟩
      exact tj hj1_4 rfl (w0 7)
     ·skip
      refine ⟨_, rfl, rfl, (TOp_lit (nn := 1) (k := 2) sl30 zero60 rfl rfl rfl rfl (by decide) ?_)⟩
      refine tmw 6 8 (by decide) (lb rfl) rfl rfl (lb rfl) rfl ?_
      refine t1 1 (by kernel_rfl) rfl rfl (TOp_pure (pur_ld_b one30 rfl rfl rfl rfl) rfl ?_)
      exact tj hj0_4 rfl (w0 7)
  ·replace H := cond_f c_5 H
   refine sr ?_
   refine pv tb 2 rfl ?_
   refine TO_nil ?_
   refine T_cond (t := decide (r_3.1 = 1)) rfl (fun c_10 => ?_) (fun c_10 => ?_)
   ·replace H := cond_t c_10 H
    obtain ⟨r_11, h_12, H⟩ := bind_inv H
    obtain ⟨ys_13, h_14, H⟩ := bind_inv H
    obtain ⟨i_15, j_16, hi_17, hj_18, hij_19, hjl_20, hys_21, _⟩ := cutI_inv h_14
    refine T_regionP 0 mixed rfl ?_
    refine TA_have 3 #[true, true, true, true, false, false, false] [(2, (.b 1 0)), (3, (.b 4 0)), (22, (.m [2] 0 r_1.1.relations.length tRelation.k)), (24, (intA r_11.1))] [.box [(sl (tI .u8) r_11.2.b), (intA r_11.2.i), (intA r_11.2.h)], .box [.n, .n], .row (flat tRelation.enc r_1.1.relations), .row (flat tFact.enc r_1.1.facts), .box [(.m [2] 0 r_1.1.relations.length tRelation.k), (.m [3] 0 r_1.1.facts.length tFact.k)]] ?_ (fun hj0_6 => ?_)
    ·skip
     refine tf 4 rfl (pur_cutM (lo := none) (hi := (some (.tmp 24))) sl29 rfl hi_17.symm ⟨_, congrArg (fun z => A.v (.int .i64 z)) hj_18⟩ hij_19 hjl_20 rfl) rfl rfl (by kernel_rfl) ?_
     refine pa tb [5] 1 rfl (by kernel_rfl) rfl ?_
     refine t1 6 (by kernel_rfl) rfl rfl (TOp_storeB sz29 rfl rfl rfl rfl rfl rfl rfl (by decide) (lb rfl) rfl ?_)
     refine TA_st (σ' := [.box [(sl (tI .u8) r_11.2.b), (intA r_11.2.i), (intA r_11.2.h)], .box [.n, .n], .row (flat tRelation.enc r_1.1.relations), .row (flat tFact.enc r_1.1.facts), .box [(.m [2] (i_15 * tRelation.k) (j_16 - i_15) tRelation.k), (.m [3] 0 r_1.1.facts.length tFact.k)]]) rfl ?_
     refine TA_nil (by kernel_rfl) ?_
     refine sr ?_
     refine pv tb 1 rfl ?_
     refine TO_cons rfl (TOp_storeB sz32 rfl rfl rfl rfl rfl rfl rfl (by decide) (lb rfl) rfl ?_)
     refine TO_st (σ' := [.box [(sl (tI .u8) r_11.2.b), (intA r_11.2.i), (intA r_11.2.h)], .box [(.m [2] (i_15 * tRelation.k) (j_16 - i_15) tRelation.k), (.m [3] 0 r_1.1.facts.length tFact.k)], .row (flat tRelation.enc r_1.1.relations), .row (flat tFact.enc r_1.1.facts), .box [(.m [2] (i_15 * tRelation.k) (j_16 - i_15) tRelation.k), (.m [3] 0 r_1.1.facts.length tFact.k)]]) rfl ?_
     refine TO_nil ?_
     refine T_frzB 2 (E' := [(2, (.b 1 0))]) (σ' := [.box [(sl (tI .u8) r_11.2.b), (intA r_11.2.i), (intA r_11.2.h)], .box [(sl tRelation ys_13), (.m [3] 0 r_1.1.facts.length tFact.k)], .dead, .row (flat tFact.enc r_1.1.facts), .box [(sl tRelation ys_13), (.m [3] 0 r_1.1.facts.length tFact.k)]]) rfl (lb rfl) ?_ ?_ ?_
     ·exact ⟨(.keep rfl), trivial⟩
     ·exact ⟨(fzK rfl), (fzC (fz1C hij_19 hjl_20 hys_21) (fzC (.keep rfl) fzN)), trivial, rfl, (fzC (fz1C hij_19 hjl_20 hys_21) (fzC (.keep rfl) fzN)), trivial⟩
     refine T_frzB 3 (E' := [(2, (.b 1 0))]) (σ' := [.box [(sl (tI .u8) r_11.2.b), (intA r_11.2.i), (intA r_11.2.h)], .box [(sl tRelation ys_13), (sl tFact r_1.1.facts)], .dead, .dead, .box [(sl tRelation ys_13), (sl tFact r_1.1.facts)]]) rfl (lb rfl) ?_ ?_ ?_
     ·exact ⟨(.keep rfl), trivial⟩
     ·exact ⟨(fzK rfl), (fzC (.keep rfl) (fzC fz1E fzN)), trivial, trivial, (fzC (.keep rfl) (fzC fz1E fzN)), trivial⟩
     refine T_ret ?_
     obtain rfl := some_inj H
     exact end_pickX (.cellK rfl agg32 rfl (lb rfl) .nil) rfl [0] (by decide) (lb rfl) rfl (lb rfl) rfl rfl rfl rfl rfl rfl
    refine pa tb [0, 2] 5 rfl (by kernel_rfl) rfl ?_
    refine TA_all [1, 3] (by kernel_rfl) (by decide) ⟨?_, ?_, trivial⟩
    ·skip
     refine ⟨_, rfl, rfl, (TOp_pure (pur_ld_b one29 rfl rfl rfl rfl) rfl ?_)⟩
     refine t1 3 (by kernel_rfl) rfl rfl (TOp_callS [0] (call_static ent83 rfl) (by decide) rfl rfl rfl rfl rfl rfl (m_spec_l1Below_x _ _ _ h_12) rfl rfl ?_)
     refine tae [(0, (.b 0 0)), (2, (.b 1 0)), (3, (.b 4 0)), (7, (intA r_3.1)), (19, (boolA (decide (r_3.1 = 1)))), (21, (.b 4 0)), (22, (.m [2] 0 r_1.1.relations.length tRelation.k)), (23, (.b 0 0)), (24, (intA r_11.1))] rfl ?_
     refine TA_st (σ' := [.box [(sl (tI .u8) r_11.2.b), (intA r_11.2.i), (intA r_11.2.h)], .box [.n, .n], .row (flat tRelation.enc r_1.1.relations), .row (flat tFact.enc r_1.1.facts), .box [(.m [2] 0 r_1.1.relations.length tRelation.k), (.m [3] 0 r_1.1.facts.length tFact.k)]]) rfl ?_
     exact tj hj0_6 rfl (w0 5)
    ·skip
     refine ⟨_, rfl, rfl, (TOp_callS [0] (call_static ent83 rfl) (by decide) rfl rfl rfl rfl rfl rfl (m_spec_l1Below_x _ _ _ h_12) rfl rfl ?_)⟩
     refine tae [(0, (.b 0 0)), (2, (.b 1 0)), (3, (.b 4 0)), (7, (intA r_3.1)), (19, (boolA (decide (r_3.1 = 1)))), (21, (.b 4 0)), (23, (.b 0 0)), (24, (intA r_11.1))] rfl ?_
     refine TA_st (σ' := [.box [(sl (tI .u8) r_11.2.b), (intA r_11.2.i), (intA r_11.2.h)], .box [.n, .n], .row (flat tRelation.enc r_1.1.relations), .row (flat tFact.enc r_1.1.facts), .box [(.m [2] 0 r_1.1.relations.length tRelation.k), (.m [3] 0 r_1.1.facts.length tFact.k)]]) rfl ?_
     refine t1 1 (by kernel_rfl) rfl rfl (TOp_pure (pur_ld_b one29 rfl rfl rfl rfl) rfl ?_)
     exact tj hj0_6 rfl (w0 5)
   ·replace H := cond_f c_10 H
    refine sr ?_
    refine pv tb 2 rfl ?_
    refine TO_nil ?_
    refine T_cond (t := decide (r_3.1 = 2)) rfl (fun c_22 => ?_) (fun c_22 => ?_)
    ·replace H := cond_t c_22 H
     obtain ⟨r_23, h_24, H⟩ := bind_inv H
     obtain ⟨r_25, h_26, H⟩ := bind_inv H
     obtain ⟨v_27, h_28, H⟩ := bind_inv H
     obtain ⟨n_29, hz_30, hv_31⟩ := getI_inv h_28
     refine T_regionP 0 mixed rfl ?_
     refine TA_have 2 #[true, true, true, true, true, true, false, false] [(2, (.b 1 0)), (3, (.b 4 0)), (30, (.m [2] 0 r_1.1.relations.length tRelation.k)), (32, (intA r_23.1)), (34, (.g (tRelation.enc r_25.1)))] [.box [(sl (tI .u8) r_25.2.b), (intA r_25.2.i), (intA r_25.2.h)], .box [.n, .n], .row (flat tRelation.enc r_1.1.relations), .row (flat tFact.enc r_1.1.facts), .box [(.m [2] 0 r_1.1.relations.length tRelation.k), (.m [3] 0 r_1.1.facts.length tFact.k)]] ?_ (fun hj0_8 => ?_)
     ·skip
      refine tf 6 rfl (pur_ixM (T := tRelation) sl29 rfl rfl hz_30 hv_31 rfl) rfl rfl (by kernel_rfl) ?_
      refine t1 7 (by kernel_rfl) rfl rfl (TOp_setT (f := tRelation.enc) (z := r_23.1) (y := r_25.1) tRelation.len tRelation.pos hz_30 sz97 rfl rfl rfl rfl rfl hv_31 rfl rfl ?_)
      refine TA_env (E' := [(2, (.b 1 0)), (3, (.b 4 0)), (30, (.m [2] 0 (r_1.1.relations.set (r_23.1).toNat r_25.1).length tRelation.k)), (32, (intA r_23.1)), (34, (.g (tRelation.enc r_25.1)))]) ⟨rfl, rfl, (congrArg (fun q => A.m [2] 0 q tRelation.k) (List.length_set ..).symm), rfl, rfl, trivial⟩ ?_
      refine TA_st (σ' := [.box [(sl (tI .u8) r_25.2.b), (intA r_25.2.i), (intA r_25.2.h)], .box [.n, .n], .row (flat tRelation.enc (r_1.1.relations.set (r_23.1).toNat r_25.1)), .row (flat tFact.enc r_1.1.facts), .box [(.m [2] 0 r_1.1.relations.length tRelation.k), (.m [3] 0 r_1.1.facts.length tFact.k)]]) rfl ?_
      refine TA_st (σ' := [.box [(sl (tI .u8) r_25.2.b), (intA r_25.2.i), (intA r_25.2.h)], .box [.n, .n], .row (flat tRelation.enc (r_1.1.relations.set (r_23.1).toNat r_25.1)), .row (flat tFact.enc r_1.1.facts), .box [(.m [2] 0 (r_1.1.relations.set (r_23.1).toNat r_25.1).length tRelation.k), (.m [3] 0 r_1.1.facts.length tFact.k)]]) (by simp only [List.length_set]) ?_
      refine TA_nil (by kernel_rfl) ?_
      refine sr ?_
      refine pv tb 1 rfl ?_
      refine TO_cons rfl (TOp_storeB sz32 rfl rfl rfl rfl rfl rfl rfl (by decide) (lb rfl) rfl ?_)
      refine TO_st (σ' := [.box [(sl (tI .u8) r_25.2.b), (intA r_25.2.i), (intA r_25.2.h)], .box [(.m [2] 0 (r_1.1.relations.set (r_23.1).toNat r_25.1).length tRelation.k), (.m [3] 0 r_1.1.facts.length tFact.k)], .row (flat tRelation.enc (r_1.1.relations.set (r_23.1).toNat r_25.1)), .row (flat tFact.enc r_1.1.facts), .box [(.m [2] 0 (r_1.1.relations.set (r_23.1).toNat r_25.1).length tRelation.k), (.m [3] 0 r_1.1.facts.length tFact.k)]]) rfl ?_
      refine TO_nil ?_
      refine T_frzB 2 (E' := [(2, (.b 1 0))]) (σ' := [.box [(sl (tI .u8) r_25.2.b), (intA r_25.2.i), (intA r_25.2.h)], .box [(sl tRelation (r_1.1.relations.set (r_23.1).toNat r_25.1)), (.m [3] 0 r_1.1.facts.length tFact.k)], .dead, .row (flat tFact.enc r_1.1.facts), .box [(sl tRelation (r_1.1.relations.set (r_23.1).toNat r_25.1)), (.m [3] 0 r_1.1.facts.length tFact.k)]]) rfl (lb rfl) ?_ ?_ ?_
      ·exact ⟨(.keep rfl), trivial⟩
      ·exact ⟨(fzK rfl), (fzC fz1E (fzC (.keep rfl) fzN)), trivial, rfl, (fzC fz1E (fzC (.keep rfl) fzN)), trivial⟩
      refine T_frzB 3 (E' := [(2, (.b 1 0))]) (σ' := [.box [(sl (tI .u8) r_25.2.b), (intA r_25.2.i), (intA r_25.2.h)], .box [(sl tRelation (r_1.1.relations.set (r_23.1).toNat r_25.1)), (sl tFact r_1.1.facts)], .dead, .dead, .box [(sl tRelation (r_1.1.relations.set (r_23.1).toNat r_25.1)), (sl tFact r_1.1.facts)]]) rfl (lb rfl) ?_ ?_ ?_
      ·exact ⟨(.keep rfl), trivial⟩
      ·exact ⟨(fzK rfl), (fzC (.keep rfl) (fzC fz1E fzN)), trivial, trivial, (fzC (.keep rfl) (fzC fz1E fzN)), trivial⟩
      refine T_ret ?_
      obtain rfl := some_inj H
      exact end_pickX (.cellK rfl agg32 rfl (lb rfl) .nil) rfl [0] (by decide) (lb rfl) rfl (lb rfl) rfl rfl rfl rfl rfl rfl
     refine TA_have 3 #[true, true, true, true, true, false, false, false] [(2, (.b 1 0)), (3, (.b 4 0)), (30, (.m [2] 0 r_1.1.relations.length tRelation.k)), (32, (intA r_23.1)), (33, (.b 0 0))] [.box [(sl (tI .u8) r_23.2.b), (intA r_23.2.i), (intA r_23.2.h)], .box [.n, .n], .row (flat tRelation.enc r_1.1.relations), .row (flat tFact.enc r_1.1.facts), .box [(.m [2] 0 r_1.1.relations.length tRelation.k), (.m [3] 0 r_1.1.facts.length tFact.k)]] ?_ (fun hj1_8 => ?_)
     ·skip
      refine t1 5 (by kernel_rfl) rfl rfl (TOp_callS [0] (call_static ent112 rfl) (by decide) rfl rfl rfl rfl rfl rfl (m_spec_l2Any_x _ _ h_26) rfl rfl ?_)
      refine tae [(2, (.b 1 0)), (3, (.b 4 0)), (30, (.m [2] 0 r_1.1.relations.length tRelation.k)), (32, (intA r_23.1)), (33, (.b 0 0)), (34, (.g (tRelation.enc r_25.1)))] rfl ?_
      refine TA_st (σ' := [.box [(sl (tI .u8) r_25.2.b), (intA r_25.2.i), (intA r_25.2.h)], .box [.n, .n], .row (flat tRelation.enc r_1.1.relations), .row (flat tFact.enc r_1.1.facts), .box [(.m [2] 0 r_1.1.relations.length tRelation.k), (.m [3] 0 r_1.1.facts.length tFact.k)]]) rfl ?_
      exact tj hj0_8 rfl (w0 5)
     refine pa tb [0, 2, 4] 5 rfl (by kernel_rfl) rfl ?_
     refine TA_all [1, 3] (by kernel_rfl) (by decide) ⟨?_, ?_, trivial⟩
     ·skip
      refine ⟨_, rfl, rfl, (TOp_pure (pur_ld_b one29 rfl rfl rfl rfl) rfl ?_)⟩
      refine t1 3 (by kernel_rfl) rfl rfl (TOp_callS [0] (call_static ent83 rfl) (by decide) rfl rfl rfl rfl rfl rfl (m_spec_l1Below_x _ _ _ h_24) rfl rfl ?_)
      refine tae [(0, (.b 0 0)), (2, (.b 1 0)), (3, (.b 4 0)), (27, (boolA (decide (r_3.1 = 2)))), (29, (.b 4 0)), (30, (.m [2] 0 r_1.1.relations.length tRelation.k)), (31, (.b 0 0)), (32, (intA r_23.1)), (33, (.b 0 0))] rfl ?_
      refine TA_st (σ' := [.box [(sl (tI .u8) r_23.2.b), (intA r_23.2.i), (intA r_23.2.h)], .box [.n, .n], .row (flat tRelation.enc r_1.1.relations), .row (flat tFact.enc r_1.1.facts), .box [(.m [2] 0 r_1.1.relations.length tRelation.k), (.m [3] 0 r_1.1.facts.length tFact.k)]]) rfl ?_
      exact tj hj1_8 rfl (w0 5)
     ·skip
      refine ⟨_, rfl, rfl, (TOp_callS [0] (call_static ent83 rfl) (by decide) rfl rfl rfl rfl rfl rfl (m_spec_l1Below_x _ _ _ h_24) rfl rfl ?_)⟩
      refine tae [(0, (.b 0 0)), (2, (.b 1 0)), (3, (.b 4 0)), (27, (boolA (decide (r_3.1 = 2)))), (29, (.b 4 0)), (31, (.b 0 0)), (32, (intA r_23.1)), (33, (.b 0 0))] rfl ?_
      refine TA_st (σ' := [.box [(sl (tI .u8) r_23.2.b), (intA r_23.2.i), (intA r_23.2.h)], .box [.n, .n], .row (flat tRelation.enc r_1.1.relations), .row (flat tFact.enc r_1.1.facts), .box [(.m [2] 0 r_1.1.relations.length tRelation.k), (.m [3] 0 r_1.1.facts.length tFact.k)]]) rfl ?_
      refine TA_all [1, 5] (by kernel_rfl) (by decide) ⟨?_, ?_, trivial⟩
      ·skip
       refine ⟨_, rfl, rfl, (TOp_pure (pur_ld_b one29 rfl rfl rfl rfl) rfl ?_)⟩
       exact tj hj1_8 rfl (w0 5)
      ·skip
       refine ⟨_, rfl, rfl, (TOp_callS [0] (call_static ent112 rfl) (by decide) rfl rfl rfl rfl rfl rfl (m_spec_l2Any_x _ _ h_26) rfl rfl ?_)⟩
       refine tae [(0, (.b 0 0)), (2, (.b 1 0)), (3, (.b 4 0)), (27, (boolA (decide (r_3.1 = 2)))), (29, (.b 4 0)), (31, (.b 0 0)), (32, (intA r_23.1)), (33, (.b 0 0)), (34, (.g (tRelation.enc r_25.1)))] rfl ?_
       refine TA_st (σ' := [.box [(sl (tI .u8) r_25.2.b), (intA r_25.2.i), (intA r_25.2.h)], .box [.n, .n], .row (flat tRelation.enc r_1.1.relations), .row (flat tFact.enc r_1.1.facts), .box [(.m [2] 0 r_1.1.relations.length tRelation.k), (.m [3] 0 r_1.1.facts.length tFact.k)]]) rfl ?_
       refine t1 1 (by kernel_rfl) rfl rfl (TOp_pure (pur_ld_b one29 rfl rfl rfl rfl) rfl ?_)
       exact tj hj0_8 rfl (w0 5)
    ·replace H := cond_f c_22 H
     refine T_skip ?_
     refine sr ?_
     refine pv tb 1 rfl ?_
     refine TO_cons rfl (TOp_storeB sz32 rfl rfl rfl rfl rfl rfl rfl (by decide) (lb rfl) rfl ?_)
     refine TO_st (σ' := [.box [(sl (tI .u8) r_3.2.b), (intA r_3.2.i), (intA r_3.2.h)], .box [(.m [2] 0 r_1.1.relations.length tRelation.k), (.m [3] 0 r_1.1.facts.length tFact.k)], .row (flat tRelation.enc r_1.1.relations), .row (flat tFact.enc r_1.1.facts), .box [(.m [2] 0 r_1.1.relations.length tRelation.k), (.m [3] 0 r_1.1.facts.length tFact.k)]]) rfl ?_
     refine TO_nil ?_
     refine T_frzB 2 (E' := [(2, (.b 1 0))]) (σ' := [.box [(sl (tI .u8) r_3.2.b), (intA r_3.2.i), (intA r_3.2.h)], .box [(sl tRelation r_1.1.relations), (.m [3] 0 r_1.1.facts.length tFact.k)], .dead, .row (flat tFact.enc r_1.1.facts), .box [(sl tRelation r_1.1.relations), (.m [3] 0 r_1.1.facts.length tFact.k)]]) rfl (lb rfl) ?_ ?_ ?_
     ·exact ⟨(.keep rfl), trivial⟩
     ·exact ⟨(fzK rfl), (fzC fz1E (fzC (.keep rfl) fzN)), trivial, rfl, (fzC fz1E (fzC (.keep rfl) fzN)), trivial⟩
     refine T_frzB 3 (E' := [(2, (.b 1 0))]) (σ' := [.box [(sl (tI .u8) r_3.2.b), (intA r_3.2.i), (intA r_3.2.h)], .box [(sl tRelation r_1.1.relations), (sl tFact r_1.1.facts)], .dead, .dead, .box [(sl tRelation r_1.1.relations), (sl tFact r_1.1.facts)]]) rfl (lb rfl) ?_ ?_ ?_
     ·exact ⟨(.keep rfl), trivial⟩
     ·exact ⟨(fzK rfl), (fzC (.keep rfl) (fzC fz1E fzN)), trivial, trivial, (fzC (.keep rfl) (fzC fz1E fzN)), trivial⟩
     refine T_ret ?_
     obtain rfl := some_inj H
     exact end_pickX (.cellK rfl agg32 rfl (lb rfl) .nil) rfl [0] (by decide) (lb rfl) rfl (lb rfl) rfl rfl rfl rfl rfl rfl

set_option maxHeartbeats 1000000 in
theorem m_spec_l1Once_x (c0 : l1Cur) (n1 : Int) (r : (Bool × l1Cur)) (H : m_spec_l1Once c0 n1 = some r) : FnS prg 87 [(.b 0 0), (intA n1)] [.box [(sl (tI .u8) c0.b), (intA c0.i), (intA c0.h)]] (boolA r.1) [.box [(sl (tI .u8) r.2.b), (intA r.2.i), (intA r.2.h)]] := by
  unfold m_spec_l1Once at H
  refine fnS_of_T Try.func87 rfl rfl (Nat.le_of_ble_eq_true rfl) ?_
  refine te [(0, (.b 0 0)), (1, (intA n1))] rfl ?_
  refine T_st (σ' := [.box [(sl (tI .u8) c0.b), (intA c0.i), (intA c0.h)]]) rfl ?_
  refine sr ?_
  refine pv tb 1 rfl ?_
  refine TO_nil ?_
  refine sr ?_
  obtain ⟨r_1, h_2, H⟩ := bind_inv H
  refine pv tb 2 rfl ?_
  refine TO_cons rfl (TOp_callS [0] (call_static ent83 rfl) (by decide) rfl rfl rfl rfl rfl rfl (m_spec_l1Below_x _ _ _ h_2) rfl rfl ?_)
  refine toe [(0, (.b 0 0)), (1, (intA n1)), (5, (.b 0 0)), (6, (intA n1)), (7, (intA r_1.1))] rfl ?_
  refine TO_st (σ' := [.box [(sl (tI .u8) r_1.2.b), (intA r_1.2.i), (intA r_1.2.h)]]) rfl ?_
  refine pv tb 2 rfl ?_
  refine TO_nil ?_
  refine T_ret ?_
  obtain rfl := some_inj H
  exact end_pickX (.tmp .nil) rfl [0] (by decide) (lb rfl) rfl (lb rfl) rfl rfl rfl rfl rfl rfl

set_option maxHeartbeats 1000000 in
theorem m_spec_l27Draw_x (u : Nat) (code0 : (List Int)) (r : (l1Cur × Database × Int × Int)) (H : m_spec_l27Draw u code0 = some r) : FnS prg 53 [(sl (tI .u8) code0)] [] (.t [(.b 0 0), (.g (tDatabase.enc r.2.1)), (intA r.2.2.1), (intA r.2.2.2)]) [.box [(sl (tI .u8) r.1.b), (intA r.1.i), (intA r.1.h)]] := by
  unfold m_spec_l27Draw at H
  refine fnS_of_T Try.func53 rfl rfl (Nat.le_of_ble_eq_true rfl) ?_
  refine te [(0, (sl (tI .u8) code0))] rfl ?_
  refine T_st (σ' := []) rfl ?_
  refine sr ?_
  refine pv tb 1 rfl ?_
  refine TO_cons rfl (TOp_alloc zero32 rfl rfl ?_)
  refine pv tb 2 rfl ?_
  refine TO_nil ?_
  refine sr ?_
  obtain ⟨r_1, h_2, H⟩ := bind_inv H
  refine pv tb 1 rfl ?_
  refine TO_cons rfl (TOp_callS [] (call_static ent85 rfl) (by decide) rfl rfl rfl rfl rfl rfl (m_spec_l1New_x u _ _ h_2) rfl rfl ?_)
  refine toe [(0, (sl (tI .u8) code0)), (3, (.b 0 0)), (9, (sl (tI .u8) code0)), (10, (.b 1 0))] rfl ?_
  refine TO_st (σ' := [.box [.n, .n], .box [(sl (tI .u8) r_1.b), (intA r_1.i), (intA r_1.h)]]) rfl ?_
  refine pv tb 1 rfl ?_
  refine TO_nil ?_
  refine sr ?_
  obtain ⟨r_3, h_4, H⟩ := bind_inv H
  refine pv tb 1 rfl ?_
  refine TO_cons rfl (TOp_callS [1] (call_static ent86 rfl) (by decide) rfl rfl rfl rfl rfl rfl (m_spec_l4Any_x u _ _ h_4) rfl rfl ?_)
  refine toe [(3, (.b 0 0)), (6, (.b 1 0)), (11, (.b 1 0)), (12, (.g (tDatabase.enc r_3.1)))] rfl ?_
  refine TO_st (σ' := [.box [.n, .n], .box [(sl (tI .u8) r_3.2.b), (intA r_3.2.i), (intA r_3.2.h)]]) rfl ?_
  refine TO_cons rfl (TOp_alloc zero32 rfl rfl ?_)
  refine TO_cons rfl (TOp_storeB sz32 rfl rfl rfl rfl rfl rfl rfl (by decide) (lb rfl) rfl ?_)
  refine TO_st (σ' := [.box [.n, .n], .box [(sl (tI .u8) r_3.2.b), (intA r_3.2.i), (intA r_3.2.h)], .box [(sl tRelation r_3.1.relations), (sl tFact r_3.1.facts)]]) rfl ?_
  refine TO_nil ?_
  refine sr ?_
  obtain ⟨r_5, h_6, H⟩ := bind_inv H
  refine pv tb 1 rfl ?_
  refine TO_cons rfl (TOp_callS [1] (call_static ent83 rfl) (by decide) rfl rfl rfl rfl rfl rfl (m_spec_l1Below_x _ _ _ h_6) rfl rfl ?_)
  refine toe [(3, (.b 0 0)), (6, (.b 1 0)), (7, (.b 2 0)), (13, (.b 1 0)), (14, (intA r_5.1))] rfl ?_
  refine TO_st (σ' := [.box [.n, .n], .box [(sl (tI .u8) r_5.2.b), (intA r_5.2.i), (intA r_5.2.h)], .box [(sl tRelation r_3.1.relations), (sl tFact r_3.1.facts)]]) rfl ?_
  refine pv tb 1 rfl ?_
  refine TO_nil ?_
  refine T_seq ?_
  refine sr ?_
  obtain ⟨r_7, h_8, H⟩ := bind_inv H
  refine pv tb 1 rfl ?_
  refine TO_cons rfl (TOp_callS [1] (call_static ent87 rfl) (by decide) rfl rfl rfl rfl rfl rfl (m_spec_l1Once_x _ _ _ h_8) rfl rfl ?_)
  refine toe [(3, (.b 0 0)), (6, (.b 1 0)), (7, (.b 2 0)), (8, (intA r_5.1)), (15, (.b 1 0)), (16, (boolA r_7.1))] rfl ?_
  refine TO_st (σ' := [.box [.n, .n], .box [(sl (tI .u8) r_7.2.b), (intA r_7.2.i), (intA r_7.2.h)], .box [(sl tRelation r_3.1.relations), (sl tFact r_3.1.facts)]]) rfl ?_
  refine TO_nil ?_
  refine T_cond (t := r_7.1) rfl (fun c_9 => ?_) (fun c_9 => ?_)
  ·replace H := cond_t c_9 H
   refine T_region ?_
   refine pv tb 1 rfl ?_
   refine TO_cons rfl (TOp_lit (nn := 2) (k := 1) sl33 zero3 rfl rfl rfl rfl (by decide) ?_)
   refine TO_st (σ' := [.box [.n, .n], .box [(sl (tI .u8) r_7.2.b), (intA r_7.2.i), (intA r_7.2.h)], .box [(sl tRelation r_3.1.relations), (sl tFact r_3.1.facts)], .row (flat tInt.enc ([-1, 4] : (List Int)))]) rfl ?_
   refine TO_frz1 3 (E' := [(3, (.b 0 0)), (6, (.b 1 0)), (7, (.b 2 0)), (8, (intA r_5.1)), (16, (boolA r_7.1)), (17, (.b 1 0)), (18, (sl tInt ([-1, 4] : (List Int))))]) rfl rfl (lb rfl) ⟨(.keep rfl), (.keep rfl), (.keep rfl), (.keep rfl), (.keep rfl), (.keep rfl), fz1E, trivial⟩ ?_
   refine TO_st (σ' := [.box [.n, .n], .box [(sl (tI .u8) r_7.2.b), (intA r_7.2.i), (intA r_7.2.h)], .box [(sl tRelation r_3.1.relations), (sl tFact r_3.1.facts)], .dead]) rfl ?_
   obtain ⟨r_10, h_11, H⟩ := bind_inv H
   refine TO_cons rfl (TOp_callS [1] (call_static ent88 rfl) (by decide) rfl rfl rfl rfl rfl rfl (m_spec_l1PickInt_x _ _ _ h_11) rfl rfl ?_)
   refine toe [(3, (.b 0 0)), (6, (.b 1 0)), (7, (.b 2 0)), (8, (intA r_5.1)), (16, (boolA r_7.1)), (17, (.b 1 0)), (18, (sl tInt ([-1, 4] : (List Int)))), (19, (intA r_10.1))] rfl ?_
   refine TO_st (σ' := [.box [.n, .n], .box [(sl (tI .u8) r_10.2.b), (intA r_10.2.i), (intA r_10.2.h)], .box [(sl tRelation r_3.1.relations), (sl tFact r_3.1.facts)], .dead]) rfl ?_
   refine pv tb 1 rfl ?_
   refine TO_nil ?_
   obtain ⟨r_12, h_13, H⟩ := bind_inv H
   obtain ⟨r_14, h_15, H⟩ := bind_inv H
   refine T_cutX (fun (_ : Unit) => True) (fun _ => [(2, (.b 1 0)), (3, (.b 0 0)), (4, (intA r_10.1)), (5, (intA (w64 (r_12.1 - (w64 (r_14.1.tdiv 11))))))]) (fun _ => [.box [(sl tRelation r_3.1.relations), (sl tFact r_3.1.facts)], .box [(sl (tI .u8) r_14.2.b), (intA r_14.2.i), (intA r_14.2.h)], .box [(sl tRelation r_3.1.relations), (sl tFact r_3.1.facts)], .dead]) ?_ ?_
   ·skip
    refine T_regionP 0 mixed rfl ?_
    refine TA_have 3 #[true, true, true, true, true, true, true, true, true, true, false, false, false] [(2, (.b 1 0)), (3, (.b 0 0)), (21, (.g (tDatabase.enc r_3.1))), (22, (intA r_10.1)), (28, (intA (w64 (r_12.1 - (w64 (r_14.1.tdiv 11))))))] [.box [.n, .n], .box [(sl (tI .u8) r_14.2.b), (intA r_14.2.i), (intA r_14.2.h)], .box [(sl tRelation r_3.1.relations), (sl tFact r_3.1.facts)], .dead] ?_ (fun hj0_6 => ?_)
    ·skip
     refine t1 10 (by kernel_rfl) rfl rfl (TOp_storeB sz32 rfl rfl rfl rfl rfl rfl rfl (by decide) (lb rfl) rfl ?_)
     refine TA_st (σ' := [.box [(sl tRelation r_3.1.relations), (sl tFact r_3.1.facts)], .box [(sl (tI .u8) r_14.2.b), (intA r_14.2.i), (intA r_14.2.h)], .box [(sl tRelation r_3.1.relations), (sl tFact r_3.1.facts)], .dead]) rfl ?_
     refine pa tb [11, 12] 0 rfl (by kernel_rfl) rfl ?_
     exact TA_nil (by kernel_rfl) (joined () (w0 4) trivial)
    refine TA_have 7 #[true, true, true, true, true, true, false, false, false, false, false, false, false] [(3, (.b 0 0)), (20, (.b 1 0)), (21, (.g (tDatabase.enc r_3.1))), (22, (intA r_10.1)), (24, (intA r_12.1)), (25, (.b 1 0))] [.box [.n, .n], .box [(sl (tI .u8) r_12.2.b), (intA r_12.2.i), (intA r_12.2.h)], .box [(sl tRelation r_3.1.relations), (sl tFact r_3.1.facts)], .dead] ?_ (fun hj1_6 => ?_)
    ·skip
     refine t1 6 (by kernel_rfl) rfl rfl (TOp_callS [1] (call_static ent83 rfl) (by decide) rfl rfl rfl rfl rfl rfl (m_spec_l1Below_x _ _ _ h_15) rfl rfl ?_)
     refine tae [(3, (.b 0 0)), (20, (.b 1 0)), (21, (.g (tDatabase.enc r_3.1))), (22, (intA r_10.1)), (24, (intA r_12.1)), (25, (.b 1 0)), (26, (intA r_14.1))] rfl ?_
     refine TA_st (σ' := [.box [.n, .n], .box [(sl (tI .u8) r_14.2.b), (intA r_14.2.i), (intA r_14.2.h)], .box [(sl tRelation r_3.1.relations), (sl tFact r_3.1.facts)], .dead]) rfl ?_
     refine tf 7 rfl (pur_wquo rfl rfl rfl (by decide)) rfl rfl (by kernel_rfl) ?_
     refine pa tb [8, 9] 3 rfl (by kernel_rfl) rfl ?_
     exact tj hj0_6 rfl (w0 4)
    refine pa tb [0, 2, 3, 5] 9 rfl (by kernel_rfl) rfl ?_
    refine TA_all [1, 4] (by kernel_rfl) (by decide) ⟨?_, ?_, trivial⟩
    ·skip
     refine ⟨_, rfl, rfl, (TOp_pure (pur_ldK_b agg32 rfl rfl (lb rfl) rfl) rfl ?_)⟩
     refine t1 4 (by kernel_rfl) rfl rfl (TOp_callS [1] (call_static ent83 rfl) (by decide) rfl rfl rfl rfl rfl rfl (m_spec_l1Below_x _ _ _ h_13) rfl rfl ?_)
     refine tae [(3, (.b 0 0)), (6, (.b 1 0)), (7, (.b 2 0)), (8, (intA r_10.1)), (20, (.b 1 0)), (21, (.g (tDatabase.enc r_3.1))), (22, (intA r_10.1)), (23, (.b 1 0)), (24, (intA r_12.1)), (25, (.b 1 0))] rfl ?_
     refine TA_st (σ' := [.box [.n, .n], .box [(sl (tI .u8) r_12.2.b), (intA r_12.2.i), (intA r_12.2.h)], .box [(sl tRelation r_3.1.relations), (sl tFact r_3.1.facts)], .dead]) rfl ?_
     exact tj hj1_6 rfl (w0 4)
    ·skip
     refine ⟨_, rfl, rfl, (TOp_callS [1] (call_static ent83 rfl) (by decide) rfl rfl rfl rfl rfl rfl (m_spec_l1Below_x _ _ _ h_13) rfl rfl ?_)⟩
     refine tae [(3, (.b 0 0)), (6, (.b 1 0)), (7, (.b 2 0)), (8, (intA r_10.1)), (20, (.b 1 0)), (22, (intA r_10.1)), (23, (.b 1 0)), (24, (intA r_12.1)), (25, (.b 1 0))] rfl ?_
     refine TA_st (σ' := [.box [.n, .n], .box [(sl (tI .u8) r_12.2.b), (intA r_12.2.i), (intA r_12.2.h)], .box [(sl tRelation r_3.1.relations), (sl tFact r_3.1.facts)], .dead]) rfl ?_
     refine TA_all [1, 6] (by kernel_rfl) (by decide) ⟨?_, ?_, trivial⟩
     ·skip
      refine ⟨_, rfl, rfl, (TOp_pure (pur_ldK_b agg32 rfl rfl (lb rfl) rfl) rfl ?_)⟩
      exact tj hj1_6 rfl (w0 4)
     ·skip
      refine ⟨_, rfl, rfl, (TOp_callS [1] (call_static ent83 rfl) (by decide) rfl rfl rfl rfl rfl rfl (m_spec_l1Below_x _ _ _ h_15) rfl rfl ?_)⟩
      refine tae [(3, (.b 0 0)), (6, (.b 1 0)), (7, (.b 2 0)), (8, (intA r_10.1)), (20, (.b 1 0)), (22, (intA r_10.1)), (23, (.b 1 0)), (24, (intA r_12.1)), (25, (.b 1 0)), (26, (intA r_14.1))] rfl ?_
      refine TA_st (σ' := [.box [.n, .n], .box [(sl (tI .u8) r_14.2.b), (intA r_14.2.i), (intA r_14.2.h)], .box [(sl tRelation r_3.1.relations), (sl tFact r_3.1.facts)], .dead]) rfl ?_
      refine tf 7 rfl (pur_wquo rfl rfl rfl (by decide)) rfl rfl (by kernel_rfl) ?_
      refine pa tb [8, 9] 4 rfl (by kernel_rfl) rfl ?_
      refine t1 1 (by kernel_rfl) rfl rfl (TOp_pure (pur_ldK_b agg32 rfl rfl (lb rfl) rfl) rfl ?_)
      exact tj hj0_6 rfl (w0 4)
   ·rintro _ _
    refine T_ret ?_
    obtain rfl := some_inj H
    exact end_pickX (.tmp (.cellK rfl agg32 rfl (lb rfl) (.tmp (.tmp .nil)))) rfl [1] (by decide) (lb rfl) rfl (lb rfl) rfl rfl rfl rfl rfl rfl
  ·replace H := cond_f c_9 H
   refine T_skip ?_
   obtain ⟨r_16, h_17, H⟩ := bind_inv H
   obtain ⟨r_18, h_19, H⟩ := bind_inv H
   refine T_cutX (fun (_ : Unit) => True) (fun _ => [(2, (.b 1 0)), (3, (.b 0 0)), (4, (intA r_5.1)), (5, (intA (w64 (r_16.1 - (w64 (r_18.1.tdiv 11))))))]) (fun _ => [.box [(sl tRelation r_3.1.relations), (sl tFact r_3.1.facts)], .box [(sl (tI .u8) r_18.2.b), (intA r_18.2.i), (intA r_18.2.h)], .box [(sl tRelation r_3.1.relations), (sl tFact r_3.1.facts)]]) ?_ ?_
   ·skip
    refine T_regionP 0 mixed rfl ?_
    refine TA_have 3 #[true, true, true, true, true, true, true, true, true, true, false, false, false] [(2, (.b 1 0)), (3, (.b 0 0)), (21, (.g (tDatabase.enc r_3.1))), (22, (intA r_5.1)), (28, (intA (w64 (r_16.1 - (w64 (r_18.1.tdiv 11))))))] [.box [.n, .n], .box [(sl (tI .u8) r_18.2.b), (intA r_18.2.i), (intA r_18.2.h)], .box [(sl tRelation r_3.1.relations), (sl tFact r_3.1.facts)]] ?_ (fun hj0_6 => ?_)
    ·skip
     refine t1 10 (by kernel_rfl) rfl rfl (TOp_storeB sz32 rfl rfl rfl rfl rfl rfl rfl (by decide) (lb rfl) rfl ?_)
     refine TA_st (σ' := [.box [(sl tRelation r_3.1.relations), (sl tFact r_3.1.facts)], .box [(sl (tI .u8) r_18.2.b), (intA r_18.2.i), (intA r_18.2.h)], .box [(sl tRelation r_3.1.relations), (sl tFact r_3.1.facts)]]) rfl ?_
     refine pa tb [11, 12] 0 rfl (by kernel_rfl) rfl ?_
     exact TA_nil (by kernel_rfl) (joined () (w0 3) trivial)
    refine TA_have 7 #[true, true, true, true, true, true, false, false, false, false, false, false, false] [(3, (.b 0 0)), (20, (.b 1 0)), (21, (.g (tDatabase.enc r_3.1))), (22, (intA r_5.1)), (24, (intA r_16.1)), (25, (.b 1 0))] [.box [.n, .n], .box [(sl (tI .u8) r_16.2.b), (intA r_16.2.i), (intA r_16.2.h)], .box [(sl tRelation r_3.1.relations), (sl tFact r_3.1.facts)]] ?_ (fun hj1_6 => ?_)
    ·skip
     refine t1 6 (by kernel_rfl) rfl rfl (TOp_callS [1] (call_static ent83 rfl) (by decide) rfl rfl rfl rfl rfl rfl (m_spec_l1Below_x _ _ _ h_19) rfl rfl ?_)
     refine tae [(3, (.b 0 0)), (20, (.b 1 0)), (21, (.g (tDatabase.enc r_3.1))), (22, (intA r_5.1)), (24, (intA r_16.1)), (25, (.b 1 0)), (26, (intA r_18.1))] rfl ?_
     refine TA_st (σ' := [.box [.n, .n], .box [(sl (tI .u8) r_18.2.b), (intA r_18.2.i), (intA r_18.2.h)], .box [(sl tRelation r_3.1.relations), (sl tFact r_3.1.facts)]]) rfl ?_
     refine tf 7 rfl (pur_wquo rfl rfl rfl (by decide)) rfl rfl (by kernel_rfl) ?_
     refine pa tb [8, 9] 3 rfl (by kernel_rfl) rfl ?_
     exact tj hj0_6 rfl (w0 3)
    refine pa tb [0, 2, 3, 5] 9 rfl (by kernel_rfl) rfl ?_
    refine TA_all [1, 4] (by kernel_rfl) (by decide) ⟨?_, ?_, trivial⟩
    ·skip
     refine ⟨_, rfl, rfl, (TOp_pure (pur_ldK_b agg32 rfl rfl (lb rfl) rfl) rfl ?_)⟩
     refine t1 4 (by kernel_rfl) rfl rfl (TOp_callS [1] (call_static ent83 rfl) (by decide) rfl rfl rfl rfl rfl rfl (m_spec_l1Below_x _ _ _ h_17) rfl rfl ?_)
     refine tae [(3, (.b 0 0)), (6, (.b 1 0)), (7, (.b 2 0)), (8, (intA r_5.1)), (20, (.b 1 0)), (21, (.g (tDatabase.enc r_3.1))), (22, (intA r_5.1)), (23, (.b 1 0)), (24, (intA r_16.1)), (25, (.b 1 0))] rfl ?_
     refine TA_st (σ' := [.box [.n, .n], .box [(sl (tI .u8) r_16.2.b), (intA r_16.2.i), (intA r_16.2.h)], .box [(sl tRelation r_3.1.relations), (sl tFact r_3.1.facts)]]) rfl ?_
     exact tj hj1_6 rfl (w0 3)
    ·skip
     refine ⟨_, rfl, rfl, (TOp_callS [1] (call_static ent83 rfl) (by decide) rfl rfl rfl rfl rfl rfl (m_spec_l1Below_x _ _ _ h_17) rfl rfl ?_)⟩
     refine tae [(3, (.b 0 0)), (6, (.b 1 0)), (7, (.b 2 0)), (8, (intA r_5.1)), (20, (.b 1 0)), (22, (intA r_5.1)), (23, (.b 1 0)), (24, (intA r_16.1)), (25, (.b 1 0))] rfl ?_
     refine TA_st (σ' := [.box [.n, .n], .box [(sl (tI .u8) r_16.2.b), (intA r_16.2.i), (intA r_16.2.h)], .box [(sl tRelation r_3.1.relations), (sl tFact r_3.1.facts)]]) rfl ?_
     refine TA_all [1, 6] (by kernel_rfl) (by decide) ⟨?_, ?_, trivial⟩
     ·skip
      refine ⟨_, rfl, rfl, (TOp_pure (pur_ldK_b agg32 rfl rfl (lb rfl) rfl) rfl ?_)⟩
      exact tj hj1_6 rfl (w0 3)
     ·skip
      refine ⟨_, rfl, rfl, (TOp_callS [1] (call_static ent83 rfl) (by decide) rfl rfl rfl rfl rfl rfl (m_spec_l1Below_x _ _ _ h_19) rfl rfl ?_)⟩
      refine tae [(3, (.b 0 0)), (6, (.b 1 0)), (7, (.b 2 0)), (8, (intA r_5.1)), (20, (.b 1 0)), (22, (intA r_5.1)), (23, (.b 1 0)), (24, (intA r_16.1)), (25, (.b 1 0)), (26, (intA r_18.1))] rfl ?_
      refine TA_st (σ' := [.box [.n, .n], .box [(sl (tI .u8) r_18.2.b), (intA r_18.2.i), (intA r_18.2.h)], .box [(sl tRelation r_3.1.relations), (sl tFact r_3.1.facts)]]) rfl ?_
      refine tf 7 rfl (pur_wquo rfl rfl rfl (by decide)) rfl rfl (by kernel_rfl) ?_
      refine pa tb [8, 9] 4 rfl (by kernel_rfl) rfl ?_
      refine t1 1 (by kernel_rfl) rfl rfl (TOp_pure (pur_ldK_b agg32 rfl rfl (lb rfl) rfl) rfl ?_)
      exact tj hj0_6 rfl (w0 3)
   ·rintro _ _
    refine T_ret ?_
    obtain rfl := some_inj H
    exact end_pickX (.tmp (.cellK rfl agg32 rfl (lb rfl) (.tmp (.tmp .nil)))) rfl [1] (by decide) (lb rfl) rfl (lb rfl) rfl rfl rfl rfl rfl rfl

set_option maxHeartbeats 1000000 in
theorem m_spec_DrawCountRange_ok (u : Nat) (code0 : (List Int)) (r : (Database × Int × Int × Int)) (H : m_spec_DrawCountRange u code0 = some r) : FnV prg 45 [(sl (tI .u8) code0)] (.t [(.g (tDatabase.enc r.1)), (intA r.2.1), (intA r.2.2.1), (intA r.2.2.2)]) := by
  unfold m_spec_DrawCountRange at H
  refine fnV_of_T Try.func45 rfl rfl (Nat.le_of_ble_eq_true rfl) ?_
  refine te [(0, (sl (tI .u8) code0))] rfl ?_
  refine sr ?_
  refine TO_cons rfl (TOp_alloc zero32 rfl rfl ?_)
  refine pv tb 3 rfl ?_
  refine TO_nil ?_
  refine sr ?_
  obtain ⟨r_1, h_2, H⟩ := bind_inv H
  refine pv tb 1 rfl ?_
  refine TO_cons rfl (TOp_callS [] (call_static ent53 rfl) (by decide) rfl rfl rfl rfl rfl rfl (m_spec_l27Draw_x u _ _ h_2) rfl rfl ?_)
  refine toe [(0, (sl (tI .u8) code0)), (2, (.b 0 0)), (11, (sl (tI .u8) code0)), (12, (.t [(.b 1 0), (.g (tDatabase.enc r_1.2.1)), (intA r_1.2.2.1), (intA r_1.2.2.2)]))] rfl ?_
  refine TO_st (σ' := [.box [.n, .n], .box [(sl (tI .u8) r_1.1.b), (intA r_1.1.i), (intA r_1.1.h)]]) rfl ?_
  refine pv tb 5 rfl ?_
  refine TO_cons rfl (TOp_alloc zero32 rfl rfl ?_)
  refine pv tb 1 rfl ?_
  refine TO_cons rfl (TOp_storeB sz32 rfl rfl rfl rfl rfl rfl rfl (by decide) (lb rfl) rfl ?_)
  refine TO_st (σ' := [.box [.n, .n], .box [(sl (tI .u8) r_1.1.b), (intA r_1.1.i), (intA r_1.1.h)], .box [(sl tRelation r_1.2.1.relations), (sl tFact r_1.2.1.facts)]]) rfl ?_
  refine pv tb 2 rfl ?_
  refine TO_nil ?_
  obtain ⟨r_3, h_4, H⟩ := bind_inv H
  refine T_cutX (fun (_ : Unit) => True) (fun _ => [(2, (.b 0 0)), (3, (intA r_1.2.2.1)), (4, (intA r_1.2.2.2)), (5, (intA r_3.1))]) (fun _ => [.box [(sl tRelation r_1.2.1.relations), (sl tFact r_1.2.1.facts)], .box [(sl (tI .u8) r_3.2.b), (intA r_3.2.i), (intA r_3.2.h)], .box [(sl tRelation r_1.2.1.relations), (sl tFact r_1.2.1.facts)]]) ?_ ?_
  ·skip
   refine T_regionP 0 mixed rfl ?_
   refine TA_have 4 #[true, true, true, true, true, false, false, false, false] [(2, (.b 0 0)), (17, (.g (tDatabase.enc r_1.2.1))), (18, (intA r_1.2.2.1)), (19, (intA r_1.2.2.2)), (21, (intA r_3.1))] [.box [.n, .n], .box [(sl (tI .u8) r_3.2.b), (intA r_3.2.i), (intA r_3.2.h)], .box [(sl tRelation r_1.2.1.relations), (sl tFact r_1.2.1.facts)]] ?_ (fun hj0_2 => ?_)
   ·skip
    refine t1 5 (by kernel_rfl) rfl rfl (TOp_storeB sz32 rfl rfl rfl rfl rfl rfl rfl (by decide) (lb rfl) rfl ?_)
    refine TA_st (σ' := [.box [(sl tRelation r_1.2.1.relations), (sl tFact r_1.2.1.facts)], .box [(sl (tI .u8) r_3.2.b), (intA r_3.2.i), (intA r_3.2.h)], .box [(sl tRelation r_1.2.1.relations), (sl tFact r_1.2.1.facts)]]) rfl ?_
    refine pa tb [6, 7, 8] 0 rfl (by kernel_rfl) rfl ?_
    exact TA_nil (by kernel_rfl) (joined () (w0 3) trivial)
   refine pa tb [1, 2, 3] 6 rfl (by kernel_rfl) rfl ?_
   refine TA_all [0, 4] (by kernel_rfl) (by decide) ⟨?_, ?_, trivial⟩
   ·skip
    refine ⟨_, rfl, rfl, (TOp_pure (pur_ldK_b agg32 rfl rfl (lb rfl) rfl) rfl ?_)⟩
    refine t1 4 (by kernel_rfl) rfl rfl (TOp_callS [1] (call_static ent83 rfl) (by decide) rfl rfl rfl rfl rfl rfl (m_spec_l1Below_x _ _ _ h_4) rfl rfl ?_)
    refine tae [(2, (.b 0 0)), (6, (.b 1 0)), (7, (.b 2 0)), (8, (intA r_1.2.2.1)), (9, (intA r_1.2.2.2)), (17, (.g (tDatabase.enc r_1.2.1))), (18, (intA r_1.2.2.1)), (19, (intA r_1.2.2.2)), (20, (.b 1 0)), (21, (intA r_3.1))] rfl ?_
    refine TA_st (σ' := [.box [.n, .n], .box [(sl (tI .u8) r_3.2.b), (intA r_3.2.i), (intA r_3.2.h)], .box [(sl tRelation r_1.2.1.relations), (sl tFact r_1.2.1.facts)]]) rfl ?_
    exact tj hj0_2 rfl (w0 3)
   ·skip
    refine ⟨_, rfl, rfl, (TOp_callS [1] (call_static ent83 rfl) (by decide) rfl rfl rfl rfl rfl rfl (m_spec_l1Below_x _ _ _ h_4) rfl rfl ?_)⟩
    refine tae [(2, (.b 0 0)), (6, (.b 1 0)), (7, (.b 2 0)), (8, (intA r_1.2.2.1)), (9, (intA r_1.2.2.2)), (18, (intA r_1.2.2.1)), (19, (intA r_1.2.2.2)), (20, (.b 1 0)), (21, (intA r_3.1))] rfl ?_
    refine TA_st (σ' := [.box [.n, .n], .box [(sl (tI .u8) r_3.2.b), (intA r_3.2.i), (intA r_3.2.h)], .box [(sl tRelation r_1.2.1.relations), (sl tFact r_1.2.1.facts)]]) rfl ?_
    refine t1 0 (by kernel_rfl) rfl rfl (TOp_pure (pur_ldK_b agg32 rfl rfl (lb rfl) rfl) rfl ?_)
    exact tj hj0_2 rfl (w0 3)
  ·rintro _ _
   refine T_ret ?_
   obtain rfl := some_inj H
   refine end_ret (.cellK rfl agg32 rfl (lb rfl) (.tmp (.tmp (.tmp .nil)))) rfl rfl ⟨?_, rfl⟩
   rfl

set_option maxHeartbeats 1000000 in
theorem m_laws_FnCountRange_ok (u : Nat) (code0 : (List Int)) (r : Bool) (H : m_laws_FnCountRange u code0 = some r) : FnV prg 13 [(sl (tI .u8) code0)] (boolA r) := by
  unfold m_laws_FnCountRange at H
  refine fnV_of_T Try.func13 rfl rfl (Nat.le_of_ble_eq_true rfl) ?_
  refine te [(0, (sl (tI .u8) code0))] rfl ?_
  refine sr ?_
  refine pv tb 1 rfl ?_
  refine TO_nil ?_
  refine T_seq ?_
  refine sr ?_
  obtain ⟨r_1, h_2, H⟩ := bind_inv H
  refine pv tb 1 rfl ?_
  refine TO_cons rfl (TOp_callV (call_static ent21 rfl) (m_laws_big_ok _ _ h_2) rfl rfl rfl ?_)
  refine TO_nil ?_
  refine T_cond (t := r_1) rfl (fun c_3 => ?_) (fun c_3 => ?_)
  ·replace H := cond_t c_3 H
   refine sr ?_
   refine pv tb 1 rfl ?_
   refine TO_nil ?_
   refine T_ret ?_
   refine then_ret ?_
   obtain rfl := some_inj H
   refine end_ret (.tmp .nil) rfl rfl ⟨?_, rfl⟩
   rfl
  ·replace H := cond_f c_3 H
   refine T_skip ?_
   refine sr ?_
   obtain ⟨r_4, h_5, H⟩ := bind_inv H
   refine pv tb 1 rfl ?_
   refine TO_cons rfl (TOp_callV (call_static ent45 rfl) (m_spec_DrawCountRange_ok u _ _ h_5) rfl rfl rfl ?_)
   refine pv tb 5 rfl ?_
   refine TO_cons rfl (TOp_alloc zero32 rfl rfl ?_)
   refine TO_cons rfl (TOp_storeB sz32 rfl rfl rfl rfl rfl rfl rfl (by decide) (lb rfl) rfl ?_)
   refine TO_st (σ' := [.box [(sl tRelation r_4.1.relations), (sl tFact r_4.1.facts)]]) rfl ?_
   refine pv tb 3 rfl ?_
   refine TO_nil ?_
   refine sr ?_
   obtain ⟨r_6, h_7, H⟩ := bind_inv H
   refine pv tb 4 rfl ?_
   refine TO_cons rfl (TOp_callV (call_static ent38 rfl) (m_impl_CountRange_ok u _ _ _ _ _ h_7) rfl rfl rfl ?_)
   refine pv tb 3 rfl ?_
   refine toe [(3, (.b 0 0)), (4, (intA r_4.2.1)), (5, (intA r_4.2.2.1)), (6, (intA r_4.2.2.2)), (36, (.t [(intA r_6.1), (intA r_6.2.1), (boolA r_6.2.2)])), (42, (intA r_6.1)), (43, (intA r_6.2.1))] rfl ?_
   refine pv tb 4 rfl ?_
   refine TO_nil ?_
   refine sr ?_
   obtain ⟨r_8, h_9, H⟩ := bind_inv H
   refine pv tb 4 rfl ?_
   refine TO_cons rfl (TOp_callV (call_static ent37 rfl) (m_spec_CountRange_ok u _ _ _ _ _ h_9) rfl rfl rfl ?_)
   refine pv tb 7 rfl ?_
   refine TO_nil ?_
   refine sr ?_
   obtain ⟨r_10, h_11, H⟩ := bind_inv H
   refine pv tb 3 rfl ?_
   refine TO_cons rfl (TOp_callV (call_static ent44 rfl) (m_impl_DistinctRange_ok u _ _ _ _ h_11) rfl rfl rfl ?_)
   refine pv tb 4 rfl ?_
   refine toe [(3, (.b 0 0)), (4, (intA r_4.2.1)), (5, (intA r_4.2.2.1)), (6, (intA r_4.2.2.2)), (7, (intA r_6.1)), (8, (intA r_6.2.1)), (9, (boolA r_6.2.2)), (10, (intA r_8.1)), (11, (intA r_8.2.1)), (12, (boolA r_8.2.2)), (59, (intA r_10.1)), (60, (intA r_10.2.1)), (61, (boolA r_10.2.2))] rfl ?_
   refine pv tb 3 rfl ?_
   refine TO_nil ?_
   refine sr ?_
   obtain ⟨r_12, h_13, H⟩ := bind_inv H
   refine pv tb 3 rfl ?_
   refine TO_cons rfl (TOp_callV (call_static ent43 rfl) (m_spec_DistinctRange_ok u _ _ _ _ h_13) rfl rfl rfl ?_)
   refine pv tb 7 rfl ?_
   refine TO_nil ?_
   refine T_seq ?_
   refine T_cutX (fun x => ((r_6.2.2 != r_8.2.2) || ((decide (r_6.1 ≠ r_8.1)) || ((decide (r_6.2.1 ≠ r_8.2.1)) || ((r_10.2.2 != r_12.2.2) || ((decide (r_10.1 ≠ r_12.1)) || ((decide (r_10.2.1 ≠ r_12.2.1)) || (r_6.2.2 != r_10.2.2))))))) = x) (fun (t102_14 : Bool) => [(3, (.b 0 0)), (4, (intA r_4.2.1)), (5, (intA r_4.2.2.1)), (6, (intA r_4.2.2.2)), (7, (intA r_6.1)), (8, (intA r_6.2.1)), (9, (boolA r_6.2.2)), (13, (intA r_10.1)), (14, (intA r_10.2.1)), (102, (boolA t102_14))]) (fun (t102_14 : Bool) => [.box [(sl tRelation r_4.1.relations), (sl tFact r_4.1.facts)]]) ?_ ?_
   ·skip
    refine T_region ?_
    refine pv tb 2 rfl ?_
    refine Tp rfl rfl (pur_neqB (by kernel_rfl) rfl rfl rfl) rfl ?_
    refine pv tb 1 rfl ?_
    refine TO_split (t := (r_6.2.2 != r_8.2.2)) 73 rfl (fun g_16 => ?_) (fun g_16 => ?_)
    ·skip
     refine pv tb 8 rfl ?_
     refine toe [(3, (.b 0 0)), (4, (intA r_4.2.1)), (5, (intA r_4.2.2.1)), (6, (intA r_4.2.2.2)), (7, (intA r_6.1)), (8, (intA r_6.2.1)), (9, (boolA r_6.2.2)), (13, (intA r_10.1)), (14, (intA r_10.2.1)), (15, (boolA r_10.2.2)), (16, (intA r_12.1)), (17, (intA r_12.2.1)), (18, (boolA r_12.2.2)), (78, (boolA true)), (81, (.v undef))] rfl ?_
     refine pv tb 16 rfl ?_
     refine toe [(3, (.b 0 0)), (4, (intA r_4.2.1)), (5, (intA r_4.2.2.1)), (6, (intA r_4.2.2.2)), (7, (intA r_6.1)), (8, (intA r_6.2.1)), (9, (boolA r_6.2.2)), (13, (intA r_10.1)), (14, (intA r_10.2.1)), (15, (boolA r_10.2.2)), (97, (boolA true))] rfl ?_
     refine pv tb 5 rfl ?_
     refine TO_nil ?_
     exact joined true (w0 1) (by first | exact Eq.symm ((or_T g_16 rfl)))
    ·skip
     refine pv tb 5 rfl ?_
     refine TO_split (t := decide (r_6.1 ≠ r_8.1)) 78 rfl (fun g_17 => ?_) (fun g_17 => ?_)
     ·skip
      refine pv tb 8 rfl ?_
      refine toe [(3, (.b 0 0)), (4, (intA r_4.2.1)), (5, (intA r_4.2.2.1)), (6, (intA r_4.2.2.2)), (7, (intA r_6.1)), (8, (intA r_6.2.1)), (9, (boolA r_6.2.2)), (13, (intA r_10.1)), (14, (intA r_10.2.1)), (15, (boolA r_10.2.2)), (16, (intA r_12.1)), (17, (intA r_12.2.1)), (83, (boolA true)), (86, (.v undef))] rfl ?_
      refine pv tb 16 rfl ?_
      refine TO_nil ?_
      exact joined true (w0 1) (by first | exact Eq.symm ((or_F g_16 (or_T g_17 rfl))))
     ·skip
      refine pv tb 5 rfl ?_
      refine TO_split (t := decide (r_6.2.1 ≠ r_8.2.1)) 83 rfl (fun g_18 => ?_) (fun g_18 => ?_)
      ·skip
       refine pv tb 8 rfl ?_
       refine toe [(3, (.b 0 0)), (4, (intA r_4.2.1)), (5, (intA r_4.2.2.1)), (6, (intA r_4.2.2.2)), (7, (intA r_6.1)), (8, (intA r_6.2.1)), (9, (boolA r_6.2.2)), (13, (intA r_10.1)), (14, (intA r_10.2.1)), (15, (boolA r_10.2.2)), (17, (intA r_12.2.1)), (88, (boolA true)), (91, (.v undef))] rfl ?_
       refine pv tb 11 rfl ?_
       refine TO_nil ?_
       exact joined true (w0 1) (by first | exact Eq.symm ((or_F g_16 (or_F g_17 (or_T g_18 rfl)))))
      ·skip
       refine pv tb 2 rfl ?_
       refine TO_on rfl rfl (by decide) rfl rfl (TOp_pure (pur_neqB (by kernel_rfl) rfl rfl rfl) rfl ?_)
       refine pv tb 2 rfl ?_
       refine TO_split (t := (r_10.2.2 != r_12.2.2)) 88 rfl (fun g_19 => ?_) (fun g_19 => ?_)
       ·skip
        refine pv tb 8 rfl ?_
        refine toe [(3, (.b 0 0)), (4, (intA r_4.2.1)), (5, (intA r_4.2.2.1)), (6, (intA r_4.2.2.2)), (7, (intA r_6.1)), (8, (intA r_6.2.1)), (9, (boolA r_6.2.2)), (13, (intA r_10.1)), (14, (intA r_10.2.1)), (15, (boolA r_10.2.2)), (93, (boolA true)), (96, (.v undef))] rfl ?_
        refine pv tb 6 rfl ?_
        refine TO_nil ?_
        exact joined true (w0 1) (by first | exact Eq.symm ((or_F g_16 (or_F g_17 (or_F g_18 (or_T g_19 rfl))))))
       ·skip
        refine pv tb 5 rfl ?_
        refine TO_split (t := decide (r_10.1 ≠ r_12.1)) 93 rfl (fun g_20 => ?_) (fun g_20 => ?_)
        ·skip
         refine pv tb 9 rfl ?_
         refine TO_nil ?_
         exact joined true (w0 1) (by first | exact Eq.symm ((or_F g_16 (or_F g_17 (or_F g_18 (or_F g_19 (or_T g_20 rfl)))))))
        ·skip
         refine pv tb 5 rfl ?_
         refine TO_split (t := decide (r_10.2.1 ≠ r_12.2.1)) 98 rfl (fun g_21 => ?_) (fun g_21 => ?_)
         ·skip
          refine pv tb 4 rfl ?_
          refine TO_nil ?_
          exact joined true (w0 1) (by first | exact Eq.symm ((or_F g_16 (or_F g_17 (or_F g_18 (or_F g_19 (or_F g_20 (or_T g_21 rfl))))))))
         ·skip
          refine pv tb 2 rfl ?_
          refine TO_on rfl rfl (by decide) rfl rfl (TOp_pure (pur_neqB (by kernel_rfl) rfl rfl rfl) rfl ?_)
          refine pv tb 1 rfl ?_
          refine TO_nil ?_
          exact joined (r_6.2.2 != r_10.2.2) (w0 1) (by first | exact Eq.symm ((or_F g_16 (or_F g_17 (or_F g_18 (or_F g_19 (or_F g_20 (or_F g_21 rfl))))))))
   ·rintro _ rfl
    refine T_cond (t := ((r_6.2.2 != r_8.2.2) || ((decide (r_6.1 ≠ r_8.1)) || ((decide (r_6.2.1 ≠ r_8.2.1)) || ((r_10.2.2 != r_12.2.2) || ((decide (r_10.1 ≠ r_12.1)) || ((decide (r_10.2.1 ≠ r_12.2.1)) || (r_6.2.2 != r_10.2.2)))))))) rfl (fun c_22 => ?_) (fun c_22 => ?_)
    ·replace H := cond_t c_22 H
     refine sr ?_
     refine pv tb 1 rfl ?_
     refine TO_nil ?_
     refine T_ret ?_
     refine then_ret ?_
     obtain rfl := some_inj H
     refine end_ret (.tmp .nil) rfl rfl ⟨?_, rfl⟩
     rfl
    ·replace H := cond_f c_22 H
     refine T_skip ?_
     refine T_seq ?_
     refine sr ?_
     refine pv tb 2 rfl ?_
     refine TO_nil ?_
     refine T_cond (t := (!r_6.2.2)) rfl (fun c_23 => ?_) (fun c_23 => ?_)
     ·replace H := cond_t c_23 H
      refine sr ?_
      refine pv tb 1 rfl ?_
      refine TO_nil ?_
      refine T_ret ?_
      refine then_ret ?_
      obtain rfl := some_inj H
      refine end_ret (.tmp .nil) rfl rfl ⟨?_, rfl⟩
      rfl
     ·replace H := cond_f c_23 H
      refine T_skip ?_
      refine sr ?_
      refine pv tb 1 rfl ?_
      refine TO_nil ?_
      refine sr ?_
      refine pv tb 1 rfl ?_
      refine TO_nil ?_
      refine T_seq ?_
      refine sr ?_
      refine pv tb 1 rfl ?_
      refine TO_nil ?_
      obtain ⟨O24_, L24_, N24_⟩ := bind_inv H
      clear H
      obtain ⟨B24_, hb24, L24_⟩ := gen_whileF L24_
      refine T_block ?_
      refine T_loopX (fun k => fun (⟨least19, most20, k21⟩ : Bool × Bool × Int) => whileF B24_ k (least19, most20, k21) = some O24_) (fun (⟨least19, most20, k21⟩ : Bool × Bool × Int) => [(3, (.b 0 0)), (4, (intA r_4.2.1)), (5, (intA r_4.2.2.1)), (6, (intA r_4.2.2.2)), (7, (intA r_6.1)), (8, (intA r_6.2.1)), (13, (intA r_10.1)), (14, (intA r_10.2.1)), (19, (boolA least19)), (20, (boolA most20)), (21, (intA k21))]) (fun (⟨least19, most20, k21⟩ : Bool × Bool × Int) => [.box [(sl tRelation r_4.1.relations), (sl tFact r_4.1.facts)]]) u (false, false, 0) (w0 1) L24_ ?_
      rintro _ ⟨least19, most20, k21⟩ L24_
      obtain ⟨k24, rfl, C24_, H, K24_⟩ := while_step L24_
      rw [hb24] at H
      refine T_seq ?_
      refine sr ?_
      obtain ⟨r_25, h_26, H⟩ := bind_inv H
      refine pv tb 2 rfl ?_
      refine TO_cons rfl (TOp_callV (call_static ent40 rfl) (m_spec_CountRepairs_ok u _ _ h_26) rfl rfl rfl ?_)
      refine pv tb 1 rfl ?_
      refine TO_nil ?_
      refine T_cond (t := decide (k21 < r_25)) rfl (fun c_27 => ?_) (fun c_27 => ?_)
      ·replace H := cond_t c_27 H
       refine T_skip ?_
       refine T_seq ?_
       refine T_block ?_
       refine sr ?_
       obtain ⟨r_28, h_29, H⟩ := bind_inv H
       refine pv tb 2 rfl ?_
       refine TO_cons rfl (TOp_callV (call_static ent41 rfl) (m_spec_NthRepair_ok u _ _ _ h_29) rfl rfl rfl ?_)
       refine pv tb 5 rfl ?_
       refine TO_nil ?_
       refine sr ?_
       refine pv tb 1 rfl ?_
       refine TO_nil ?_
       refine sr ?_
       refine pv tb 1 rfl ?_
       refine TO_nil ?_
       refine T_seq ?_
       refine sr ?_
       refine pv tb 1 rfl ?_
       refine TO_nil ?_
       obtain ⟨O31_, L31_, N31_⟩ := bind_inv H
       clear H
       obtain ⟨B31_, hb31, L31_⟩ := gen_forS L31_
       refine T_block ?_
       refine T_loopX (fun k => fun (⟨i_30, n24, m25⟩ : Nat × Int × Int) => k = r_28.1.length - i_30 ∧ forS B31_ (r_28.1.drop i_30) (i_30 : Int) (n24, m25) = some O31_) (fun (⟨i_30, n24, m25⟩ : Nat × Int × Int) => [(3, (.b 0 0)), (4, (intA r_4.2.1)), (5, (intA r_4.2.2.1)), (6, (intA r_4.2.2.2)), (7, (intA r_6.1)), (8, (intA r_6.2.1)), (13, (intA r_10.1)), (14, (intA r_10.2.1)), (19, (boolA least19)), (20, (boolA most20)), (21, (intA k21)), (22, (sl tInt r_28.1)), (24, (intA n24)), (25, (intA m25)), (26, (intA (i_30 : Int)))]) (fun (⟨i_30, n24, m25⟩ : Nat × Int × Int) => [.box [(sl tRelation r_4.1.relations), (sl tFact r_4.1.facts)]]) _ (0, (0, 0)) (w0 1) ⟨rfl, L31_⟩ ?_
       rintro _ ⟨i_30, n24, m25⟩ ⟨rfl, L31_⟩
       refine T_fact (len_sl (T := tInt) (.tmp 22) rfl) (fun hl31 => ?_)
       refine T_seq ?_
       refine sr ?_
       refine pv tb 2 rfl ?_
       refine Tp rfl rfl (pur_lenT (T := tInt) sl33 rfl rfl) rfl ?_
       refine pv tb 1 rfl ?_
       refine TO_nil ?_
       refine T_cond (t := decide ((i_30 : Int) < (r_28.1.length : Int))) rfl (fun d31 => ?_) (fun d31 => ?_)
       ·replace d31 := of_decide_eq_true d31
        obtain ⟨x_i_30, hx_i_30⟩ : ∃ v, (r_28.1)[i_30]? = some v := ⟨_, List.getElem?_eq_getElem (by omega)⟩
        obtain ⟨C31_, H, K31_⟩ := forS_step L31_ hx_i_30
        rw [hb31] at H
        refine T_skip ?_
        refine T_seq ?_
        refine T_block ?_
        refine T_seq ?_
        refine T_regionD mixed (by kernel_rfl) ?_
        refine pq tb 4 rfl ?_
        refine TQ_pure rfl (pur_ixT (T := tInt) sl33 rfl rfl rfl hx_i_30 rfl) rfl ?_
        refine TQ_pure rfl (pur_ldT (T := tInt) (i := i_30) (off := 0) rfl one3 rfl rfl hx_i_30 rfl) rfl ?_
        obtain ⟨v_32, h_33, H⟩ := bind_inv H
        obtain ⟨n_34, hz_35, hv_36⟩ := getI_inv h_33
        refine TQ_pure rfl (pur_ixT (T := tFact) sl30 rfl rfl hz_35 hv_36 rfl) rfl ?_
        refine pq tb 1 rfl ?_
        refine TQ_pure rfl (pur_ldT (T := tFact) (i := n_34) (off := 0) rfl one3 rfl rfl hv_36 rfl) rfl ?_
        refine pq tb 2 rfl ?_
        refine TQ_nil ?_
        refine T_cond (t := decide (v_32.relation = r_4.2.1)) rfl (fun c_37 => ?_) (fun c_37 => ?_)
        ·replace H := cond_t c_37 H
         refine sr ?_
         refine pv tb 3 rfl ?_
         refine TO_nil ?_
         refine te [(3, (.b 0 0)), (4, (intA r_4.2.1)), (5, (intA r_4.2.2.1)), (6, (intA r_4.2.2.2)), (7, (intA r_6.1)), (8, (intA r_6.2.1)), (13, (intA r_10.1)), (14, (intA r_10.2.1)), (19, (boolA least19)), (20, (boolA most20)), (21, (intA k21)), (22, (sl tInt r_28.1)), (24, (intA n24)), (25, (intA (w64 (m25 + 1)))), (26, (intA (i_30 : Int)))] rfl ?_
         refine T_seq ?_
         refine T_regionD mixed (by kernel_rfl) ?_
         refine pq tb 4 rfl ?_
         refine TQ_pure rfl (pur_ixT (T := tInt) sl33 rfl rfl rfl hx_i_30 rfl) rfl ?_
         refine TQ_pure rfl (pur_ldT (T := tInt) (i := i_30) (off := 0) rfl one3 rfl rfl hx_i_30 rfl) rfl ?_
         refine TQ_pure rfl (pur_ixT (T := tFact) sl30 rfl rfl hz_35 hv_36 rfl) rfl ?_
         refine pq tb 1 rfl ?_
         refine TQ_pure rfl (pur_ldT (T := tFact) (i := n_34) (off := 1) rfl one33 rfl rfl hv_36 rfl) rfl ?_
         obtain ⟨v_38, h_39, H⟩ := bind_inv H
         obtain ⟨n_40, hz_41, hv_42⟩ := getI_inv h_39
         refine pq tb 1 rfl ?_
         refine TQ_pure rfl (pur_ixT (T := tInt) sl33 rfl rfl hz_41 hv_42 rfl) rfl ?_
         refine TQ_pure rfl (pur_ldT (T := tInt) (i := n_40) (off := 0) rfl one3 rfl rfl hv_42 rfl) rfl ?_
         refine pq tb 2 rfl ?_
         refine TQ_nil ?_
         refine T_cond (t := decide (v_38 = r_4.2.2.2)) rfl (fun c_43 => ?_) (fun c_43 => ?_)
         ·replace H := cond_t c_43 H
          refine T_region ?_
          refine pv tb 3 rfl ?_
          refine TO_nil ?_
          refine te [(3, (.b 0 0)), (4, (intA r_4.2.1)), (5, (intA r_4.2.2.1)), (6, (intA r_4.2.2.2)), (7, (intA r_6.1)), (8, (intA r_6.2.1)), (13, (intA r_10.1)), (14, (intA r_10.2.1)), (19, (boolA least19)), (20, (boolA most20)), (21, (intA k21)), (22, (sl tInt r_28.1)), (24, (intA (w64 (n24 + 1)))), (25, (intA (w64 (m25 + 1)))), (26, (intA (i_30 : Int)))] rfl ?_
          refine T_region ?_
          refine pv tb 1 rfl ?_
          refine Tp rfl rfl (pur_add rfl rfl rfl (fits64 (by omega) (by omega))) rfl ?_
          refine pv tb 1 rfl ?_
          refine TO_nil ?_
          obtain rfl := some_inj H
          exact again (r_28.1.length - (i_30 + 1)) (i_30 + 1, ((w64 (n24 + 1)), (w64 (m25 + 1)))) (by omega) (w0 1) ⟨rfl, K31_⟩
         ·replace H := cond_f c_43 H
          refine T_skip ?_
          refine T_region ?_
          refine pv tb 1 rfl ?_
          refine Tp rfl rfl (pur_add rfl rfl rfl (fits64 (by omega) (by omega))) rfl ?_
          refine pv tb 1 rfl ?_
          refine TO_nil ?_
          obtain rfl := some_inj H
          exact again (r_28.1.length - (i_30 + 1)) (i_30 + 1, (n24, (w64 (m25 + 1)))) (by omega) (w0 1) ⟨rfl, K31_⟩
        ·replace H := cond_f c_37 H
         refine T_skip ?_
         refine te [(3, (.b 0 0)), (4, (intA r_4.2.1)), (5, (intA r_4.2.2.1)), (6, (intA r_4.2.2.2)), (7, (intA r_6.1)), (8, (intA r_6.2.1)), (13, (intA r_10.1)), (14, (intA r_10.2.1)), (19, (boolA least19)), (20, (boolA most20)), (21, (intA k21)), (22, (sl tInt r_28.1)), (24, (intA n24)), (25, (intA m25)), (26, (intA (i_30 : Int)))] rfl ?_
         refine T_region ?_
         refine pv tb 1 rfl ?_
         refine Tp rfl rfl (pur_add rfl rfl rfl (fits64 (by omega) (by omega))) rfl ?_
         refine pv tb 1 rfl ?_
         refine TO_nil ?_
         obtain rfl := some_inj H
         exact again (r_28.1.length - (i_30 + 1)) (i_30 + 1, (n24, m25)) (by omega) (w0 1) ⟨rfl, K31_⟩
       ·replace d31 := of_decide_eq_false d31
        obtain rfl := forS_end L31_ (by omega)
        refine T_exit ?_
        refine then_exit ?_
        refine then_exit ?_
        refine block_exit ?_
        replace H := N31_
        refine T_seq ?_
        refine T_cutX (fun x => ((decide (n24 < r_6.1)) || ((decide (r_6.2.1 < n24)) || (decide (m25 < r_10.2.1)))) = x) (fun (t164_44 : Bool) => [(3, (.b 0 0)), (4, (intA r_4.2.1)), (5, (intA r_4.2.2.1)), (6, (intA r_4.2.2.2)), (7, (intA r_6.1)), (8, (intA r_6.2.1)), (13, (intA r_10.1)), (14, (intA r_10.2.1)), (19, (boolA least19)), (20, (boolA most20)), (21, (intA k21)), (24, (intA n24)), (164, (boolA t164_44))]) (fun (t164_44 : Bool) => [.box [(sl tRelation r_4.1.relations), (sl tFact r_4.1.facts)]]) ?_ ?_
        ·skip
         refine T_region ?_
         refine pv tb 4 rfl ?_
         refine TO_split (t := decide (n24 < r_6.1)) 155 rfl (fun g_46 => ?_) (fun g_46 => ?_)
         ·skip
          refine pv tb 9 rfl ?_
          refine TO_nil ?_
          exact joined true (w0 1) (by first | exact Eq.symm ((or_T g_46 rfl)))
         ·skip
          refine pv tb 5 rfl ?_
          refine TO_split (t := decide (r_6.2.1 < n24)) 160 rfl (fun g_47 => ?_) (fun g_47 => ?_)
          ·skip
           refine pv tb 4 rfl ?_
           refine TO_nil ?_
           exact joined true (w0 1) (by first | exact Eq.symm ((or_F g_46 (or_T g_47 rfl))))
          ·skip
           refine pv tb 4 rfl ?_
           refine TO_nil ?_
           exact joined (decide (m25 < r_10.2.1)) (w0 1) (by first | exact Eq.symm ((or_F g_46 (or_F g_47 rfl))))
        ·rintro _ rfl
         refine T_cond (t := ((decide (n24 < r_6.1)) || ((decide (r_6.2.1 < n24)) || (decide (m25 < r_10.2.1))))) rfl (fun c_48 => ?_) (fun c_48 => ?_)
         ·replace H := cond_t c_48 H
          refine sr ?_
          refine pv tb 1 rfl ?_
          refine TO_nil ?_
          refine T_ret ?_
          refine then_ret ?_
          refine block_ret ?_
          refine then_ret ?_
          refine then_ret ?_
          refine block_ret ?_
          refine then_ret ?_
          obtain rfl := some_inj H
          obtain rfl := some_inj K24_
          replace H := onS_r N24_
          obtain rfl := some_inj H
          refine end_ret (.tmp .nil) rfl rfl ⟨?_, rfl⟩
          rfl
         ·replace H := cond_f c_48 H
          refine T_skip ?_
          refine T_cutX (fun x => (least19 || (decide (n24 = r_6.1))) = x) (fun (least19_49 : Bool) => [(3, (.b 0 0)), (4, (intA r_4.2.1)), (5, (intA r_4.2.2.1)), (6, (intA r_4.2.2.2)), (7, (intA r_6.1)), (8, (intA r_6.2.1)), (13, (intA r_10.1)), (14, (intA r_10.2.1)), (19, (boolA least19_49)), (20, (boolA most20)), (21, (intA k21)), (24, (intA n24))]) (fun (least19_49 : Bool) => [.box [(sl tRelation r_4.1.relations), (sl tFact r_4.1.facts)]]) ?_ ?_
          ·skip
           refine T_region ?_
           refine pv tb 2 rfl ?_
           refine TO_split (t := least19) 166 rfl (fun g_51 => ?_) (fun g_51 => ?_)
           ·skip
            refine pv tb 5 rfl ?_
            refine TO_nil ?_
            exact joined true (w0 1) (by first | exact Eq.symm ((or_T g_51 rfl)))
           ·skip
            refine pv tb 5 rfl ?_
            refine TO_nil ?_
            exact joined (decide (n24 = r_6.1)) (w0 1) (by first | exact Eq.symm ((or_F g_51 rfl)))
          ·rintro _ rfl
           refine T_region ?_
           refine pv tb 2 rfl ?_
           refine TO_split (t := most20) 172 rfl (fun g_52 => ?_) (fun g_52 => ?_)
           ·replace H := cond_t g_52 H
            refine pv tb 5 rfl ?_
            refine TO_nil ?_
            refine T_region ?_
            refine pv tb 3 rfl ?_
            refine TO_nil ?_
            obtain rfl := some_inj H
            exact again k24 ((least19 || (decide (n24 = r_6.1))), true, (w64 (k21 + 1))) (Nat.lt_succ_self _) (w0 1) K24_
           ·replace H := cond_f g_52 H
            refine pv tb 5 rfl ?_
            refine TO_nil ?_
            refine T_region ?_
            refine pv tb 3 rfl ?_
            refine TO_nil ?_
            obtain rfl := some_inj H
            exact again k24 ((least19 || (decide (n24 = r_6.1))), decide (n24 = r_6.2.1), (w64 (k21 + 1))) (Nat.lt_succ_self _) (w0 1) K24_
      ·replace H := cond_f c_27 H
       refine T_exit ?_
       refine then_exit ?_
       refine then_exit ?_
       refine block_exit ?_
       obtain rfl := some_inj H
       obtain rfl := some_inj K24_
       replace H := onS_l N24_
       refine T_cutX (fun x => (least19 && (most20 && (decide (r_10.1 ≤ r_10.2.1)))) = x) (fun (t2_53 : Bool) => [(2, (boolA t2_53))]) (fun (t2_53 : Bool) => []) ?_ ?_
       ·skip
        refine T_region ?_
        refine pv tb 2 rfl ?_
        refine TO_split (t := least19) 178 rfl (fun g_55 => ?_) (fun g_55 => ?_)
        ·skip
         refine pv tb 3 rfl ?_
         refine TO_split (t := most20) 181 rfl (fun g_56 => ?_) (fun g_56 => ?_)
         ·skip
          refine pv tb 5 rfl ?_
          refine TO_nil ?_
          exact joined (decide (r_10.1 ≤ r_10.2.1)) (w0 0) (by first | exact Eq.symm ((and_T g_55 (and_T g_56 rfl))))
         ·skip
          refine pv tb 5 rfl ?_
          refine TO_nil ?_
          exact joined false (w0 0) (by first | exact Eq.symm ((and_T g_55 (and_F g_56 rfl))))
        ·skip
         refine pv tb 8 rfl ?_
         refine TO_nil ?_
         exact joined false (w0 0) (by first | exact Eq.symm ((and_F g_55 rfl)))
       ·rintro _ rfl
        refine T_ret ?_
        obtain rfl := some_inj H
        refine end_ret (.tmp .nil) rfl rfl ⟨?_, rfl⟩
        rfl
end Go.Proofs.Ytlcpdlngbofgcaa

import Derived.Test.YtmecnecfkgneoaaM1
import Derived.Test.YtmecnecfkgneoaaM2
import Derived.Test.YtmecnecfkgneoaaM3
set_option linter.unusedVariables false
set_option linter.unusedSimpArgs false
set_option maxRecDepth 4000
namespace Go.Proofs.Ytmecnecfkgneoaa
open Go Go.Proofs Go.Sep
set_option maxHeartbeats 1000000 in
theorem m_spec_l3Any_x (u : Nat) (c0 : l1Cur) (l1 : (List Relation)) (r : (Fact × l1Cur)) (H : m_spec_l3Any u c0 l1 = some r) : FnS prg 96 [(.b 0 0), (sl tRelation l1)] [.box [(sl (tI .u8) c0.b), (intA c0.i), (intA c0.h)]] (.g [(intA r.1.relation), (.m [1] 0 r.1.values.length tInt.k)]) [.box [(sl (tI .u8) r.2.b), (intA r.2.i), (intA r.2.h)], .row (flat tInt.enc r.1.values)] := by
  unfold m_spec_l3Any at H
  refine fnS_of_T Try.func96 rfl rfl (Nat.le_of_ble_eq_true rfl) ?_
  refine te [(0, (.b 0 0)), (1, (sl tRelation l1))] rfl ?_
  refine T_st (σ' := [.box [(sl (tI .u8) c0.b), (intA c0.i), (intA c0.h)]]) rfl ?_
  refine sr ?_
  refine TO_cons rfl (TOp_alloc zero55 rfl rfl ?_)
  refine TO_nil ?_
  refine sr ?_
  obtain ⟨r_1, h_2, H⟩ := bind_inv H
  refine pv tb 2 rfl ?_
  refine TO_cons rfl (TOp_callS [0] (call_static ent128 rfl) (by decide) rfl rfl rfl rfl rfl rfl (m_spec_l3Fact_x u _ _ _ _ h_2) rfl rfl ?_)
  refine toe [(0, (.b 0 0)), (1, (sl tRelation l1)), (4, (.b 1 0)), (6, (.b 0 0)), (7, (sl tRelation l1)), (8, (.g [(intA r_1.1.relation), (.m [2] 0 r_1.1.values.length tInt.k)]))] rfl ?_
  refine TO_st (σ' := [.box [(sl (tI .u8) r_1.2.b), (intA r_1.2.i), (intA r_1.2.h)], .box [(intA 0), .n], .row (flat tInt.enc r_1.1.values)]) rfl ?_
  refine TO_cons rfl (TOp_alloc zero55 rfl rfl ?_)
  refine TO_cons rfl (TOp_storeB sz55 rfl rfl rfl rfl rfl rfl rfl (by decide) (lb rfl) rfl ?_)
  refine TO_st (σ' := [.box [(sl (tI .u8) r_1.2.b), (intA r_1.2.i), (intA r_1.2.h)], .box [(intA 0), .n], .row (flat tInt.enc r_1.1.values), .box [(intA r_1.1.relation), (.m [2] 0 r_1.1.values.length tInt.k)]]) rfl ?_
  refine TO_nil ?_
  refine T_seq ?_
  refine sr ?_
  obtain ⟨r_3, h_4, H⟩ := bind_inv H
  refine pv tb 1 rfl ?_
  refine TO_cons rfl (TOp_callS [0] (call_static ent95 rfl) (by decide) rfl rfl rfl rfl rfl rfl (m_spec_l1Below_x _ _ _ h_4) rfl rfl ?_)
  refine toe [(0, (.b 0 0)), (4, (.b 1 0)), (5, (.b 3 0)), (9, (.b 0 0)), (10, (intA r_3.1))] rfl ?_
  refine TO_st (σ' := [.box [(sl (tI .u8) r_3.2.b), (intA r_3.2.i), (intA r_3.2.h)], .box [(intA 0), .n], .row (flat tInt.enc r_1.1.values), .box [(intA r_1.1.relation), (.m [2] 0 r_1.1.values.length tInt.k)]]) rfl ?_
  refine TO_nil ?_
  refine T_block ?_
  refine sr ?_
  refine pv tb 2 rfl ?_
  refine TO_nil ?_
  refine T_cond (t := decide (r_3.1 = 0)) rfl (fun c_5 => ?_) (fun c_5 => ?_)
  ·replace H := cond_t c_5 H
   refine T_region ?_
   obtain ⟨r_6, h_7, H⟩ := bind_inv H
   refine pv tb 1 rfl ?_
   refine TO_cons rfl (TOp_callS [0] (call_static ent95 rfl) (by decide) rfl rfl rfl rfl rfl rfl (m_spec_l1Below_x _ _ _ h_7) rfl rfl ?_)
   refine toe [(0, (.b 0 0)), (4, (.b 1 0)), (5, (.b 3 0)), (10, (intA r_3.1)), (11, (boolA (decide (r_3.1 = 0)))), (13, (.b 0 0)), (14, (intA r_6.1))] rfl ?_
   refine TO_st (σ' := [.box [(sl (tI .u8) r_6.2.b), (intA r_6.2.i), (intA r_6.2.h)], .box [(intA 0), .n], .row (flat tInt.enc r_1.1.values), .box [(intA r_1.1.relation), (.m [2] 0 r_1.1.values.length tInt.k)]]) rfl ?_
   refine pv tb 2 rfl ?_
   refine TO_cons rfl (TOp_storeB sz3 rfl rfl rfl rfl rfl rfl rfl (by decide) (lb rfl) rfl ?_)
   refine TO_st (σ' := [.box [(sl (tI .u8) r_6.2.b), (intA r_6.2.i), (intA r_6.2.h)], .box [(intA 0), .n], .row (flat tInt.enc r_1.1.values), .box [(intA (w64 (r_6.1 - 1))), (.m [2] 0 r_1.1.values.length tInt.k)]]) rfl ?_
   refine TO_nil ?_
   refine sr ?_
   refine pv tb 1 rfl ?_
   refine TO_cons rfl (TOp_storeB sz55 rfl rfl rfl rfl rfl rfl rfl (by decide) (lb rfl) rfl ?_)
   refine TO_st (σ' := [.box [(sl (tI .u8) r_6.2.b), (intA r_6.2.i), (intA r_6.2.h)], .box [(intA (w64 (r_6.1 - 1))), (.m [2] 0 r_1.1.values.length tInt.k)], .row (flat tInt.enc r_1.1.values), .box [(intA (w64 (r_6.1 - 1))), (.m [2] 0 r_1.1.values.length tInt.k)]]) rfl ?_
   refine TO_nil ?_
   refine T_ret ?_
   obtain rfl := some_inj H
   exact end_pickX (.cellK rfl agg55 rfl (lb rfl) .nil) rfl [0, 2] (by decide) (lb rfl) rfl (lb rfl) rfl rfl rfl rfl rfl rfl
  ·replace H := cond_f c_5 H
   refine sr ?_
   refine pv tb 2 rfl ?_
   refine TO_nil ?_
   refine T_cond (t := decide (r_3.1 = 1)) rfl (fun c_8 => ?_) (fun c_8 => ?_)
   ·replace H := cond_t c_8 H
    refine T_region ?_
    refine pv tb 2 rfl ?_
    refine TO_cons rfl (TOp_lit (nn := 1) (k := 1) sl53 zero3 rfl rfl rfl rfl (by decide) ?_)
    refine TO_st (σ' := [.box [(sl (tI .u8) r_3.2.b), (intA r_3.2.i), (intA r_3.2.h)], .box [(intA 0), .n], .row (flat tInt.enc r_1.1.values), .box [(intA r_1.1.relation), (.m [2] 0 r_1.1.values.length tInt.k)], .row (flat tInt.enc ([1] : (List Int)))]) rfl ?_
    obtain ⟨us_9, h_10, H⟩ := bind_inv H
    refine TO_cons rfl (TOp_appZ (T := tInt) (f := tInt.enc) (xs := r_1.1.values) (ys := ([1] : (List Int))) tInt.len sl53 zero3 rfl bytes3 (by decide) rfl rfl rfl rfl (src_mT (f := tInt.enc) tInt.len rfl rfl (flat_cell tInt _)) (flat_cell tInt _) h_10 (lb rfl) ?_)
    refine toe [(0, (.b 0 0)), (4, (.b 1 0)), (5, (.b 3 0)), (10, (intA r_3.1)), (17, (boolA (decide (r_3.1 = 1)))), (19, (.b 3 1)), (21, (.m [4] 0 ([1] : (List Int)).length tInt.k)), (22, (.m [2] 0 us_9.length tInt.k))] rfl ?_
    refine TO_st (σ' := [.box [(sl (tI .u8) r_3.2.b), (intA r_3.2.i), (intA r_3.2.h)], .box [(intA 0), .n], .row (flat tInt.enc us_9), .box [(intA r_1.1.relation), .j], .row (flat tInt.enc ([1] : (List Int))), .dead]) rfl ?_
    refine pv tb 1 rfl ?_
    refine TO_cons rfl (TOp_storeB sz53 rfl rfl rfl rfl rfl rfl rfl (by decide) (lb rfl) rfl ?_)
    refine TO_st (σ' := [.box [(sl (tI .u8) r_3.2.b), (intA r_3.2.i), (intA r_3.2.h)], .box [(intA 0), .n], .row (flat tInt.enc us_9), .box [(intA r_1.1.relation), (.m [2] 0 us_9.length tInt.k)], .row (flat tInt.enc ([1] : (List Int))), .dead]) rfl ?_
    refine TO_nil ?_
    refine sr ?_
    refine pv tb 1 rfl ?_
    refine TO_cons rfl (TOp_storeB sz55 rfl rfl rfl rfl rfl rfl rfl (by decide) (lb rfl) rfl ?_)
    refine TO_st (σ' := [.box [(sl (tI .u8) r_3.2.b), (intA r_3.2.i), (intA r_3.2.h)], .box [(intA r_1.1.relation), (.m [2] 0 us_9.length tInt.k)], .row (flat tInt.enc us_9), .box [(intA r_1.1.relation), (.m [2] 0 us_9.length tInt.k)], .row (flat tInt.enc ([1] : (List Int))), .dead]) rfl ?_
    refine TO_nil ?_
    refine T_ret ?_
    obtain rfl := some_inj H
    exact end_pickX (.cellK rfl agg55 rfl (lb rfl) .nil) rfl [0, 2] (by decide) (lb rfl) rfl (lb rfl) rfl rfl rfl rfl rfl rfl
   ·replace H := cond_f c_8 H
    refine sr ?_
    refine pv tb 2 rfl ?_
    refine TO_nil ?_
    refine T_cond (t := decide (r_3.1 = 2)) rfl (fun c_11 => ?_) (fun c_11 => ?_)
    ·replace H := cond_t c_11 H
     obtain ⟨r_12, h_13, H⟩ := bind_inv H
     obtain ⟨v_14, h_15, H⟩ := bind_inv H
     obtain ⟨n_16, hz_17, hv_18⟩ := getI_inv h_15
     refine T_pad ?_
     refine T_regionP 0 mixed rfl ?_
     refine TA_have 2 #[true, true, true, true, true, false, false] [(4, (.b 1 0)), (5, (.b 3 0)), (27, (.m [2] 0 r_1.1.values.length tInt.k)), (30, (intA r_12.1))] [.box [(sl (tI .u8) r_12.2.b), (intA r_12.2.i), (intA r_12.2.h)], .box [(intA 0), .n], .row (flat tInt.enc r_1.1.values), .box [(intA r_1.1.relation), (.m [2] 0 r_1.1.values.length tInt.k)], .dead] ?_ (fun hj0_8 => ?_)
     ·skip
      refine tf 5 rfl (pur_ixM (T := tInt) sl53 rfl rfl hz_17 hv_18 rfl) rfl rfl (by kernel_rfl) ?_
      refine t1 6 (by kernel_rfl) rfl rfl (TOp_setT (f := tInt.enc) (z := 0) (y := r_12.1) tInt.len tInt.pos hz_17 sz3 rfl rfl rfl rfl rfl hv_18 rfl rfl ?_)
      refine TA_env (E' := [(4, (.b 1 0)), (5, (.b 3 0)), (27, (.m [2] 0 (r_1.1.values.set (0 : Int).toNat r_12.1).length tInt.k)), (30, (intA r_12.1))]) ⟨rfl, rfl, (congrArg (fun q => A.m [2] 0 q tInt.k) (List.length_set ..).symm), rfl, trivial⟩ ?_
      refine TA_st (σ' := [.box [(sl (tI .u8) r_12.2.b), (intA r_12.2.i), (intA r_12.2.h)], .box [(intA 0), .n], .row (flat tInt.enc (r_1.1.values.set (0 : Int).toNat r_12.1)), .box [(intA r_1.1.relation), (.m [2] 0 r_1.1.values.length tInt.k)], .dead]) rfl ?_
      refine TA_st (σ' := [.box [(sl (tI .u8) r_12.2.b), (intA r_12.2.i), (intA r_12.2.h)], .box [(intA 0), .n], .row (flat tInt.enc (r_1.1.values.set (0 : Int).toNat r_12.1)), .box [(intA r_1.1.relation), (.m [2] 0 (r_1.1.values.set (0 : Int).toNat r_12.1).length tInt.k)], .dead]) (by simp only [List.length_set]) ?_
      refine TA_nil (by kernel_rfl) ?_
      refine sr ?_
      refine pv tb 1 rfl ?_
      refine TO_cons rfl (TOp_storeB sz55 rfl rfl rfl rfl rfl rfl rfl (by decide) (lb rfl) rfl ?_)
      refine TO_st (σ' := [.box [(sl (tI .u8) r_12.2.b), (intA r_12.2.i), (intA r_12.2.h)], .box [(intA r_1.1.relation), (.m [2] 0 (r_1.1.values.set (0 : Int).toNat r_12.1).length tInt.k)], .row (flat tInt.enc (r_1.1.values.set (0 : Int).toNat r_12.1)), .box [(intA r_1.1.relation), (.m [2] 0 (r_1.1.values.set (0 : Int).toNat r_12.1).length tInt.k)], .dead]) rfl ?_
      refine TO_nil ?_
      refine T_ret ?_
      obtain rfl := some_inj H
      exact end_pickX (.cellK rfl agg55 rfl (lb rfl) .nil) rfl [0, 2] (by decide) (lb rfl) rfl (lb rfl) rfl rfl rfl rfl rfl rfl
     refine TA_have 3 #[true, true, true, true, false, false, false] [(4, (.b 1 0)), (5, (.b 3 0)), (27, (.m [2] 0 r_1.1.values.length tInt.k)), (28, (.b 0 0)), (29, (sl tInt ([-1, 10, 9] : (List Int))))] [.box [(sl (tI .u8) r_3.2.b), (intA r_3.2.i), (intA r_3.2.h)], .box [(intA 0), .n], .row (flat tInt.enc r_1.1.values), .box [(intA r_1.1.relation), (.m [2] 0 r_1.1.values.length tInt.k)], .dead] ?_ (fun hj1_8 => ?_)
     ·skip
      refine t1 4 (by kernel_rfl) rfl rfl (TOp_callS [0] (call_static ent60 rfl) (by decide) rfl rfl rfl rfl rfl rfl (m_spec_l1PickInt_x _ _ _ h_13) rfl rfl ?_)
      refine tae [(4, (.b 1 0)), (5, (.b 3 0)), (27, (.m [2] 0 r_1.1.values.length tInt.k)), (28, (.b 0 0)), (29, (sl tInt ([-1, 10, 9] : (List Int)))), (30, (intA r_12.1))] rfl ?_
      refine TA_st (σ' := [.box [(sl (tI .u8) r_12.2.b), (intA r_12.2.i), (intA r_12.2.h)], .box [(intA 0), .n], .row (flat tInt.enc r_1.1.values), .box [(intA r_1.1.relation), (.m [2] 0 r_1.1.values.length tInt.k)], .dead]) rfl ?_
      exact tj hj0_8 rfl (w0 5)
     refine pa tb [0, 2] 5 rfl (by kernel_rfl) rfl ?_
     refine TA_all [1, 3] (by kernel_rfl) (by decide) ⟨?_, ?_, trivial⟩
     ·skip
      refine ⟨_, rfl, rfl, (TOp_pure (pur_ld_b one53 rfl rfl rfl rfl) rfl ?_)⟩
      refine t1 3 (by kernel_rfl) rfl rfl (TOp_lit (nn := 3) (k := 1) sl53 zero3 rfl rfl rfl rfl (by decide) ?_)
      refine tmw 4 5 (by decide) (lb rfl) rfl rfl (lb rfl) rfl ?_
      refine TA_ghost (E' := [(0, (.b 0 0)), (4, (.b 1 0)), (5, (.b 3 0)), (24, (boolA (decide (r_3.1 = 2)))), (26, (.b 3 1)), (27, (.m [2] 0 r_1.1.values.length tInt.k)), (28, (.b 0 0)), (29, (.m [4] 0 ([-1, 10, 9] : (List Int)).length tInt.k))]) (σ' := [.box [(sl (tI .u8) r_3.2.b), (intA r_3.2.i), (intA r_3.2.h)], .box [(intA 0), .n], .row (flat tInt.enc r_1.1.values), .box [(intA r_1.1.relation), (.m [2] 0 r_1.1.values.length tInt.k)], .row (flat tInt.enc ([-1, 10, 9] : (List Int))), .dead]) (Ghost.weak (WeakL.to 6 (lb rfl) rfl rfl rfl rfl ⟨leR rfl, leR rfl, leR rfl, leR rfl, leR rfl, leR rfl, leR rfl, leR rfl, trivial⟩)) ?_
      refine TA_frz1 4 (E' := [(0, (.b 0 0)), (4, (.b 1 0)), (5, (.b 3 0)), (24, (boolA (decide (r_3.1 = 2)))), (26, (.b 3 1)), (27, (.m [2] 0 r_1.1.values.length tInt.k)), (28, (.b 0 0)), (29, (sl tInt ([-1, 10, 9] : (List Int))))]) rfl rfl (lb rfl) ⟨(.keep rfl), (.keep rfl), (.keep rfl), (.keep rfl), (.keep rfl), (.keep rfl), (.keep rfl), fz1E, trivial⟩ ?_
      refine TA_st (σ' := [.box [(sl (tI .u8) r_3.2.b), (intA r_3.2.i), (intA r_3.2.h)], .box [(intA 0), .n], .row (flat tInt.enc r_1.1.values), .box [(intA r_1.1.relation), (.m [2] 0 r_1.1.values.length tInt.k)], .dead, .dead]) rfl ?_
      exact tj hj1_8 rfl (w0 5)
     ·skip
      refine ⟨_, rfl, rfl, (TOp_lit (nn := 3) (k := 1) sl53 zero3 rfl rfl rfl rfl (by decide) ?_)⟩
      refine tmw 4 5 (by decide) (lb rfl) rfl rfl (lb rfl) rfl ?_
      refine TA_ghost (E' := [(0, (.b 0 0)), (4, (.b 1 0)), (5, (.b 3 0)), (24, (boolA (decide (r_3.1 = 2)))), (26, (.b 3 1)), (28, (.b 0 0)), (29, (.m [4] 0 ([-1, 10, 9] : (List Int)).length tInt.k))]) (σ' := [.box [(sl (tI .u8) r_3.2.b), (intA r_3.2.i), (intA r_3.2.h)], .box [(intA 0), .n], .row (flat tInt.enc r_1.1.values), .box [(intA r_1.1.relation), (.m [2] 0 r_1.1.values.length tInt.k)], .row (flat tInt.enc ([-1, 10, 9] : (List Int))), .dead]) (Ghost.weak (WeakL.to 6 (lb rfl) rfl rfl rfl rfl ⟨leR rfl, leR rfl, leR rfl, leR rfl, leR rfl, leR rfl, leR rfl, trivial⟩)) ?_
      refine TA_frz1 4 (E' := [(0, (.b 0 0)), (4, (.b 1 0)), (5, (.b 3 0)), (24, (boolA (decide (r_3.1 = 2)))), (26, (.b 3 1)), (28, (.b 0 0)), (29, (sl tInt ([-1, 10, 9] : (List Int))))]) rfl rfl (lb rfl) ⟨(.keep rfl), (.keep rfl), (.keep rfl), (.keep rfl), (.keep rfl), (.keep rfl), fz1E, trivial⟩ ?_
      refine TA_st (σ' := [.box [(sl (tI .u8) r_3.2.b), (intA r_3.2.i), (intA r_3.2.h)], .box [(intA 0), .n], .row (flat tInt.enc r_1.1.values), .box [(intA r_1.1.relation), (.m [2] 0 r_1.1.values.length tInt.k)], .dead, .dead]) rfl ?_
      refine TA_all [1, 4] (by kernel_rfl) (by decide) ⟨?_, ?_, trivial⟩
      ·skip
       refine ⟨_, rfl, rfl, (TOp_pure (pur_ld_b one53 rfl rfl rfl rfl) rfl ?_)⟩
       exact tj hj1_8 rfl (w0 5)
      ·skip
       refine ⟨_, rfl, rfl, (TOp_callS [0] (call_static ent60 rfl) (by decide) rfl rfl rfl rfl rfl rfl (m_spec_l1PickInt_x _ _ _ h_13) rfl rfl ?_)⟩
       refine tae [(0, (.b 0 0)), (4, (.b 1 0)), (5, (.b 3 0)), (24, (boolA (decide (r_3.1 = 2)))), (26, (.b 3 1)), (28, (.b 0 0)), (29, (sl tInt ([-1, 10, 9] : (List Int)))), (30, (intA r_12.1))] rfl ?_
       refine TA_st (σ' := [.box [(sl (tI .u8) r_12.2.b), (intA r_12.2.i), (intA r_12.2.h)], .box [(intA 0), .n], .row (flat tInt.enc r_1.1.values), .box [(intA r_1.1.relation), (.m [2] 0 r_1.1.values.length tInt.k)], .dead, .dead]) rfl ?_
       refine t1 1 (by kernel_rfl) rfl rfl (TOp_pure (pur_ld_b one53 rfl rfl rfl rfl) rfl ?_)
       exact tj hj0_8 rfl (w0 5)
    ·replace H := cond_f c_11 H
     refine T_skip ?_
     refine sr ?_
     refine pv tb 1 rfl ?_
     refine TO_cons rfl (TOp_storeB sz55 rfl rfl rfl rfl rfl rfl rfl (by decide) (lb rfl) rfl ?_)
     refine TO_st (σ' := [.box [(sl (tI .u8) r_3.2.b), (intA r_3.2.i), (intA r_3.2.h)], .box [(intA r_1.1.relation), (.m [2] 0 r_1.1.values.length tInt.k)], .row (flat tInt.enc r_1.1.values), .box [(intA r_1.1.relation), (.m [2] 0 r_1.1.values.length tInt.k)]]) rfl ?_
     refine TO_nil ?_
     refine T_ret ?_
     obtain rfl := some_inj H
     exact end_pickX (.cellK rfl agg55 rfl (lb rfl) .nil) rfl [0, 2] (by decide) (lb rfl) rfl (lb rfl) rfl rfl rfl rfl rfl rfl

set_option maxHeartbeats 1000000 in
theorem m_spec_l1Pick_x (c0 : l1Cur) (list1 : (List ByteArray)) (r : (ByteArray × l1Cur)) (H : m_spec_l1Pick c0 list1 = some r) : FnS prg 130 [(.b 0 0), (sl tStr list1)] [.box [(sl (tI .u8) c0.b), (intA c0.i), (intA c0.h)]] (strA r.1) [.box [(sl (tI .u8) r.2.b), (intA r.2.i), (intA r.2.h)]] := by
  unfold m_spec_l1Pick at H
  refine fnS_of_T Try.func130 rfl rfl (Nat.le_of_ble_eq_true rfl) ?_
  refine te [(0, (.b 0 0)), (1, (sl tStr list1))] rfl ?_
  refine T_st (σ' := [.box [(sl (tI .u8) c0.b), (intA c0.i), (intA c0.h)]]) rfl ?_
  refine sr ?_
  refine pv tb 1 rfl ?_
  refine TO_nil ?_
  refine sr ?_
  refine pv tb 3 rfl ?_
  refine Tp rfl rfl (pur_lenT (T := tStr) sl148 rfl rfl) rfl ?_
  obtain ⟨r_1, h_2, H⟩ := bind_inv H
  refine TO_cons rfl (TOp_callS [0] (call_static ent95 rfl) (by decide) rfl rfl rfl rfl rfl rfl (m_spec_l1Below_x _ _ _ h_2) rfl rfl ?_)
  refine toe [(0, (.b 0 0)), (1, (sl tStr list1)), (5, (sl tStr list1)), (6, (.b 0 0)), (7, (sl tStr list1)), (8, (intA (list1.length : Int))), (9, (intA r_1.1))] rfl ?_
  refine TO_st (σ' := [.box [(sl (tI .u8) r_1.2.b), (intA r_1.2.i), (intA r_1.2.h)]]) rfl ?_
  obtain ⟨v_3, h_4, H⟩ := bind_inv H
  obtain ⟨n_5, hz_6, hv_7⟩ := getI_inv h_4
  refine Tp rfl rfl (pur_ixT (T := tStr) sl148 rfl rfl hz_6 hv_7 rfl) rfl ?_
  refine Tp rfl rfl (pur_ldT (T := tStr) (i := n_5) (off := 0) rfl one9 rfl rfl hv_7 rfl) rfl ?_
  refine pv tb 1 rfl ?_
  refine TO_nil ?_
  refine T_ret ?_
  obtain rfl := some_inj H
  exact end_pickX (.tmp .nil) rfl [0] (by decide) (lb rfl) rfl (lb rfl) rfl rfl rfl rfl rfl rfl

set_option maxHeartbeats 1000000 in
theorem m_spec_l2Any_x (c0 : l1Cur) (r : (Relation × l1Cur)) (H : m_spec_l2Any c0 = some r) : FnS prg 97 [(.b 0 0)] [.box [(sl (tI .u8) c0.b), (intA c0.i), (intA c0.h)]] (.g (tRelation.enc r.1)) [.box [(sl (tI .u8) r.2.b), (intA r.2.i), (intA r.2.h)]] := by
  unfold m_spec_l2Any at H
  refine fnS_of_T Try.func97 rfl rfl (Nat.le_of_ble_eq_true rfl) ?_
  refine te [(0, (.b 0 0))] rfl ?_
  refine T_st (σ' := [.box [(sl (tI .u8) c0.b), (intA c0.i), (intA c0.h)]]) rfl ?_
  refine sr ?_
  refine TO_cons rfl (TOp_alloc zero89 rfl rfl ?_)
  refine TO_nil ?_
  refine sr ?_
  refine pv tb 1 rfl ?_
  refine TO_cons rfl (TOp_lit (nn := 6) (k := 1) sl148 zero9 rfl rfl rfl rfl (by decide) ?_)
  refine TO_st (σ' := [.box [(sl (tI .u8) c0.b), (intA c0.i), (intA c0.h)], .box [(strA ByteArray.empty), (intA 0), (intA 0)], .row (flat tStr.enc ([(⟨#[114]⟩ : ByteArray), (⟨#[122]⟩ : ByteArray), (⟨#[97]⟩ : ByteArray), (⟨#[]⟩ : ByteArray), (⟨#[82]⟩ : ByteArray), (⟨#[97, 98]⟩ : ByteArray)] : (List ByteArray)))]) rfl ?_
  refine TO_frz1 2 (E' := [(0, (.b 0 0)), (2, (.b 1 0)), (3, (.b 0 0)), (4, (sl tStr ([(⟨#[114]⟩ : ByteArray), (⟨#[122]⟩ : ByteArray), (⟨#[97]⟩ : ByteArray), (⟨#[]⟩ : ByteArray), (⟨#[82]⟩ : ByteArray), (⟨#[97, 98]⟩ : ByteArray)] : (List ByteArray))))]) rfl rfl (lb rfl) ⟨(.keep rfl), (.keep rfl), (.keep rfl), fz1E, trivial⟩ ?_
  refine TO_st (σ' := [.box [(sl (tI .u8) c0.b), (intA c0.i), (intA c0.h)], .box [(strA ByteArray.empty), (intA 0), (intA 0)], .dead]) rfl ?_
  obtain ⟨r_1, h_2, H⟩ := bind_inv H
  refine TO_cons rfl (TOp_callS [0] (call_static ent130 rfl) (by decide) rfl rfl rfl rfl rfl rfl (m_spec_l1Pick_x _ _ _ h_2) rfl rfl ?_)
  refine toe [(0, (.b 0 0)), (2, (.b 1 0)), (3, (.b 0 0)), (4, (sl tStr ([(⟨#[114]⟩ : ByteArray), (⟨#[122]⟩ : ByteArray), (⟨#[97]⟩ : ByteArray), (⟨#[]⟩ : ByteArray), (⟨#[82]⟩ : ByteArray), (⟨#[97, 98]⟩ : ByteArray)] : (List ByteArray)))), (5, (strA r_1.1))] rfl ?_
  refine TO_st (σ' := [.box [(sl (tI .u8) r_1.2.b), (intA r_1.2.i), (intA r_1.2.h)], .box [(strA ByteArray.empty), (intA 0), (intA 0)], .dead]) rfl ?_
  obtain ⟨r_3, h_4, H⟩ := bind_inv H
  refine pv tb 1 rfl ?_
  refine TO_cons rfl (TOp_callS [0] (call_static ent95 rfl) (by decide) rfl rfl rfl rfl rfl rfl (m_spec_l1Below_x _ _ _ h_4) rfl rfl ?_)
  refine toe [(0, (.b 0 0)), (2, (.b 1 0)), (3, (.b 0 0)), (4, (sl tStr ([(⟨#[114]⟩ : ByteArray), (⟨#[122]⟩ : ByteArray), (⟨#[97]⟩ : ByteArray), (⟨#[]⟩ : ByteArray), (⟨#[82]⟩ : ByteArray), (⟨#[97, 98]⟩ : ByteArray)] : (List ByteArray)))), (5, (strA r_1.1)), (6, (.b 0 0)), (7, (intA r_3.1))] rfl ?_
  refine TO_st (σ' := [.box [(sl (tI .u8) r_3.2.b), (intA r_3.2.i), (intA r_3.2.h)], .box [(strA ByteArray.empty), (intA 0), (intA 0)], .dead]) rfl ?_
  obtain ⟨r_5, h_6, H⟩ := bind_inv H
  refine pv tb 2 rfl ?_
  refine TO_cons rfl (TOp_callS [0] (call_static ent95 rfl) (by decide) rfl rfl rfl rfl rfl rfl (m_spec_l1Below_x _ _ _ h_6) rfl rfl ?_)
  refine toe [(0, (.b 0 0)), (2, (.b 1 0)), (3, (.b 0 0)), (4, (sl tStr ([(⟨#[114]⟩ : ByteArray), (⟨#[122]⟩ : ByteArray), (⟨#[97]⟩ : ByteArray), (⟨#[]⟩ : ByteArray), (⟨#[82]⟩ : ByteArray), (⟨#[97, 98]⟩ : ByteArray)] : (List ByteArray)))), (5, (strA r_1.1)), (6, (.b 0 0)), (7, (intA r_3.1)), (8, (intA (w64 (r_3.1 - 1)))), (9, (.b 0 0)), (10, (intA r_5.1))] rfl ?_
  refine TO_st (σ' := [.box [(sl (tI .u8) r_5.2.b), (intA r_5.2.i), (intA r_5.2.h)], .box [(strA ByteArray.empty), (intA 0), (intA 0)], .dead]) rfl ?_
  refine pv tb 1 rfl ?_
  refine Tp rfl rfl (pur_build bld89 rfl rfl) rfl ?_
  refine TO_cons rfl (TOp_storeB sz89 rfl rfl rfl rfl rfl rfl rfl (by decide) (lb rfl) rfl ?_)
  refine TO_st (σ' := [.box [(sl (tI .u8) r_5.2.b), (intA r_5.2.i), (intA r_5.2.h)], .box [(strA r_1.1), (intA (w64 (r_3.1 - 1))), (intA (w64 (r_5.1 - 1)))], .dead]) rfl ?_
  refine TO_nil ?_
  refine T_ret ?_
  obtain rfl := some_inj H
  exact end_pickX (.cellK rfl agg89 rfl (lb rfl) .nil) rfl [0] (by decide) (lb rfl) rfl (lb rfl) rfl rfl rfl rfl rfl rfl

set_option maxHeartbeats 1000000 in
theorem m_spec_l4Any_x (u : Nat) (c0 : l1Cur) (r : (Database × l1Cur)) (H : m_spec_l4Any u c0 = some r) : FnS prg 59 [(.b 0 0)] [.box [(sl (tI .u8) c0.b), (intA c0.i), (intA c0.h)]] (.g (tDatabase.enc r.1)) [.box [(sl (tI .u8) r.2.b), (intA r.2.i), (intA r.2.h)]] := by
  unfold m_spec_l4Any at H
  refine fnS_of_T Try.func59 rfl rfl (Nat.le_of_ble_eq_true rfl) ?_
  refine te [(0, (.b 0 0))] rfl ?_
  refine T_st (σ' := [.box [(sl (tI .u8) c0.b), (intA c0.i), (intA c0.h)]]) rfl ?_
  refine sr ?_
  refine TO_cons rfl (TOp_alloc zero41 rfl rfl ?_)
  refine TO_nil ?_
  refine sr ?_
  obtain ⟨r_1, h_2, H⟩ := bind_inv H
  refine pv tb 1 rfl ?_
  refine TO_cons rfl (TOp_callS [0] (call_static ent94 rfl) (by decide) rfl rfl rfl rfl rfl rfl (m_spec_l4Db_x u _ _ h_2) rfl rfl ?_)
  refine toe [(0, (.b 0 0)), (2, (.b 1 0)), (4, (.b 0 0)), (5, (.g [(.m [2] 0 r_1.1.relations.length tRelation.k), (.m [3] 0 r_1.1.facts.length tFact.k)]))] rfl ?_
  refine TO_st (σ' := [.box [(sl (tI .u8) r_1.2.b), (intA r_1.2.i), (intA r_1.2.h)], .box [.n, .n], .row (flat tRelation.enc r_1.1.relations), .row (flat tFact.enc r_1.1.facts)]) rfl ?_
  refine TO_cons rfl (TOp_alloc zero41 rfl rfl ?_)
  refine TO_cons rfl (TOp_storeB sz41 rfl rfl rfl rfl rfl rfl rfl (by decide) (lb rfl) rfl ?_)
  refine TO_st (σ' := [.box [(sl (tI .u8) r_1.2.b), (intA r_1.2.i), (intA r_1.2.h)], .box [.n, .n], .row (flat tRelation.enc r_1.1.relations), .row (flat tFact.enc r_1.1.facts), .box [(.m [2] 0 r_1.1.relations.length tRelation.k), (.m [3] 0 r_1.1.facts.length tFact.k)]]) rfl ?_
  refine TO_nil ?_
  refine T_seq ?_
  refine sr ?_
  obtain ⟨r_3, h_4, H⟩ := bind_inv H
  refine pv tb 1 rfl ?_
  refine TO_cons rfl (TOp_callS [0] (call_static ent95 rfl) (by decide) rfl rfl rfl rfl rfl rfl (m_spec_l1Below_x _ _ _ h_4) rfl rfl ?_)
  refine toe [(0, (.b 0 0)), (2, (.b 1 0)), (3, (.b 4 0)), (6, (.b 0 0)), (7, (intA r_3.1))] rfl ?_
  refine TO_st (σ' := [.box [(sl (tI .u8) r_3.2.b), (intA r_3.2.i), (intA r_3.2.h)], .box [.n, .n], .row (flat tRelation.enc r_1.1.relations), .row (flat tFact.enc r_1.1.facts), .box [(.m [2] 0 r_1.1.relations.length tRelation.k), (.m [3] 0 r_1.1.facts.length tFact.k)]]) rfl ?_
  refine TO_nil ?_
  refine T_block ?_
  refine sr ?_
  refine pv tb 2 rfl ?_
  refine TO_nil ?_
  refine T_cond (t := decide (r_3.1 = 0)) rfl (fun c_5 => ?_) (fun c_5 => ?_)
  ·replace H := cond_t c_5 H
   obtain ⟨r_6, h_7, H⟩ := bind_inv H
   obtain ⟨us_8, h_9, H⟩ := bind_inv H
   refine T_pad ?_
   refine T_pad ?_
   refine T_regionP 0 mixed rfl ?_
   refine TA_have 3 #[true, true, true, true, true, true, true, false, false, false] [(2, (.b 1 0)), (3, (.b 4 0)), (11, (.m [3] 0 r_1.1.facts.length tFact.k)), (16, (.m [6] 0 ([r_6.1] : (List Fact)).length tFact.k))] [.box [(sl (tI .u8) r_6.2.b), (intA r_6.2.i), (intA r_6.2.h)], .box [.n, .n], .dead, .row (flat tFact.enc r_1.1.facts), .box [(sl tRelation r_1.1.relations), (.m [3] 0 r_1.1.facts.length tFact.k)], .dead, .row (flat tFact.enc ([r_6.1] : (List Fact)))] ?_ (fun hj0_4 => ?_)
   ·skip
    refine t1 7 (by kernel_rfl) rfl rfl (TOp_appY (T := tFact) (f := tFact.enc) (xs := r_1.1.facts) (ys := ([r_6.1] : (List Fact))) tFact.len sl39 zero55 rfl bytes55 (by decide) rfl rfl rfl rfl (src_mT (f := tFact.enc) tFact.len rfl rfl (flat_cell tFact _)) (flat_cell tFact _) h_9 ?_)
    refine tmv 3 7 (by decide) (lb rfl) rfl rfl (lb rfl) ?_
    refine TA_st (σ' := [.box [(sl (tI .u8) r_6.2.b), (intA r_6.2.i), (intA r_6.2.h)], .box [.n, .n], .dead, .row (flat tFact.enc us_8), .box [(sl tRelation r_1.1.relations), .j], .dead, .row (flat tFact.enc ([r_6.1] : (List Fact))), .dead]) rfl ?_
    refine pa tb [8] 1 rfl (by kernel_rfl) rfl ?_
    refine t1 9 (by kernel_rfl) rfl rfl (TOp_storeB sz39 rfl rfl rfl rfl rfl rfl rfl (by decide) (lb rfl) rfl ?_)
    refine TA_st (σ' := [.box [(sl (tI .u8) r_6.2.b), (intA r_6.2.i), (intA r_6.2.h)], .box [.n, .n], .dead, .row (flat tFact.enc us_8), .box [(sl tRelation r_1.1.relations), (.m [3] 0 us_8.length tFact.k)], .dead, .row (flat tFact.enc ([r_6.1] : (List Fact))), .dead]) rfl ?_
    refine TA_nil (by kernel_rfl) ?_
    refine sr ?_
    refine pv tb 1 rfl ?_
    refine TO_cons rfl (TOp_storeB sz41 rfl rfl rfl rfl rfl rfl rfl (by decide) (lb rfl) rfl ?_)
    refine TO_st (σ' := [.box [(sl (tI .u8) r_6.2.b), (intA r_6.2.i), (intA r_6.2.h)], .box [(sl tRelation r_1.1.relations), (.m [3] 0 us_8.length tFact.k)], .dead, .row (flat tFact.enc us_8), .box [(sl tRelation r_1.1.relations), (.m [3] 0 us_8.length tFact.k)], .dead, .row (flat tFact.enc ([r_6.1] : (List Fact))), .dead]) rfl ?_
    refine TO_nil ?_
    refine T_frzB 3 (E' := [(2, (.b 1 0))]) (σ' := [.box [(sl (tI .u8) r_6.2.b), (intA r_6.2.i), (intA r_6.2.h)], .box [(sl tRelation r_1.1.relations), (sl tFact us_8)], .dead, .dead, .box [(sl tRelation r_1.1.relations), (sl tFact us_8)], .dead, .row (flat tFact.enc ([r_6.1] : (List Fact))), .dead]) rfl (lb rfl) ?_ ?_ ?_
    ·exact ⟨(.keep rfl), trivial⟩
    ·exact ⟨(fzK rfl), (fzC (.keep rfl) (fzC fz1E fzN)), trivial, trivial, (fzC (.keep rfl) (fzC fz1E fzN)), trivial, rfl, trivial, trivial⟩
    refine T_ret ?_
    obtain rfl := some_inj H
    exact end_pickX (.cellK rfl agg41 rfl (lb rfl) .nil) rfl [0] (by decide) (lb rfl) rfl (lb rfl) rfl rfl rfl rfl rfl rfl
   refine TA_have 4 #[true, true, true, true, true, true, false, false, false, false] [(2, (.b 1 0)), (3, (.b 4 0)), (11, (.m [3] 0 r_1.1.facts.length tFact.k)), (15, (.g [(intA r_6.1.relation), (sl tInt r_6.1.values)]))] [.box [(sl (tI .u8) r_6.2.b), (intA r_6.2.i), (intA r_6.2.h)], .box [.n, .n], .dead, .row (flat tFact.enc r_1.1.facts), .box [(sl tRelation r_1.1.relations), (.m [3] 0 r_1.1.facts.length tFact.k)], .dead, .dead] ?_ (fun hj1_4 => ?_)
   ·skip
    refine t1 6 (by kernel_rfl) rfl rfl (TOp_lit (nn := 1) (k := 2) sl39 zero55 rfl rfl rfl rfl (by decide) ?_)
    refine tmw 6 7 (by decide) (lb rfl) rfl rfl (lb rfl) rfl ?_
    exact tj hj0_4 rfl (w0 7)
   refine TA_have 5 #[true, true, true, true, true, false, false, false, false, false] [(2, (.b 1 0)), (3, (.b 4 0)), (11, (.m [3] 0 r_1.1.facts.length tFact.k)), (12, (.b 0 0)), (14, (sl tRelation r_1.1.relations))] [.box [(sl (tI .u8) r_3.2.b), (intA r_3.2.i), (intA r_3.2.h)], .box [.n, .n], .dead, .row (flat tFact.enc r_1.1.facts), .box [(sl tRelation r_1.1.relations), (.m [3] 0 r_1.1.facts.length tFact.k)], .dead, .dead] ?_ (fun hj2_4 => ?_)
   ·skip
    refine t1 5 (by kernel_rfl) rfl rfl (TOp_callS [0] (call_static ent96 rfl) (by decide) rfl rfl rfl rfl rfl rfl (m_spec_l3Any_x u _ _ _ h_7) rfl rfl ?_)
    refine tae [(2, (.b 1 0)), (3, (.b 4 0)), (11, (.m [3] 0 r_1.1.facts.length tFact.k)), (12, (.b 0 0)), (14, (sl tRelation r_1.1.relations)), (15, (.g [(intA r_6.1.relation), (.m [7] 0 r_6.1.values.length tInt.k)]))] rfl ?_
    refine TA_st (σ' := [.box [(sl (tI .u8) r_6.2.b), (intA r_6.2.i), (intA r_6.2.h)], .box [.n, .n], .dead, .row (flat tFact.enc r_1.1.facts), .box [(sl tRelation r_1.1.relations), (.m [3] 0 r_1.1.facts.length tFact.k)], .dead, .dead, .row (flat tInt.enc r_6.1.values)]) rfl ?_
    refine tmw 5 7 (by decide) (lb rfl) rfl rfl (lb rfl) rfl ?_
    refine TA_ghost (E' := [(2, (.b 1 0)), (3, (.b 4 0)), (11, (.m [3] 0 r_1.1.facts.length tFact.k)), (12, (.b 0 0)), (14, (sl tRelation r_1.1.relations)), (15, (.g [(intA r_6.1.relation), (.m [5] 0 r_6.1.values.length tInt.k)]))]) (σ' := [.box [(sl (tI .u8) r_6.2.b), (intA r_6.2.i), (intA r_6.2.h)], .box [.n, .n], .dead, .row (flat tFact.enc r_1.1.facts), .box [(sl tRelation r_1.1.relations), (.m [3] 0 r_1.1.facts.length tFact.k)], .row (flat tInt.enc r_6.1.values), .dead, .dead]) (Ghost.weak (WeakL.to 8 (lb rfl) rfl rfl rfl rfl ⟨leR rfl, leR rfl, leR rfl, leR rfl, leR rfl, leR rfl, trivial⟩)) ?_
    refine TA_frz1 5 (E' := [(2, (.b 1 0)), (3, (.b 4 0)), (11, (.m [3] 0 r_1.1.facts.length tFact.k)), (12, (.b 0 0)), (14, (sl tRelation r_1.1.relations)), (15, (.g [(intA r_6.1.relation), (sl tInt r_6.1.values)]))]) rfl rfl (lb rfl) ?_ ?_
    ·exact ⟨(.keep rfl), (.keep rfl), (.keep rfl), (.keep rfl), (.keep rfl), (fz1G (fzC (.keep rfl) (fzC fz1E fzN))), trivial⟩
    refine TA_st (σ' := [.box [(sl (tI .u8) r_6.2.b), (intA r_6.2.i), (intA r_6.2.h)], .box [.n, .n], .dead, .row (flat tFact.enc r_1.1.facts), .box [(sl tRelation r_1.1.relations), (.m [3] 0 r_1.1.facts.length tFact.k)], .dead, .dead, .dead]) rfl ?_
    exact tj hj1_4 rfl (w0 7)
   refine pa tb [0, 2, 3] 7 rfl (by kernel_rfl) rfl ?_
   refine TA_all [1, 4] (by kernel_rfl) (by decide) ⟨?_, ?_, trivial⟩
   ·skip
    refine ⟨_, rfl, rfl, (TOp_pure (pur_ld_b one39 rfl rfl rfl rfl) rfl ?_)⟩
    refine t1 4 (by kernel_rfl) rfl rfl (TOp_pure (pur_ld_b one38 rfl rfl rfl rfl) rfl ?_)
    refine TA_ghost (E' := [(0, (.b 0 0)), (2, (.b 1 0)), (3, (.b 4 0)), (7, (intA r_3.1)), (8, (boolA (decide (r_3.1 = 0)))), (10, (.b 4 1)), (11, (.m [3] 0 r_1.1.facts.length tFact.k)), (12, (.b 0 0)), (13, (.b 4 0)), (14, (.m [2] 0 r_1.1.relations.length tRelation.k))]) (σ' := [.box [(sl (tI .u8) r_3.2.b), (intA r_3.2.i), (intA r_3.2.h)], .box [.n, .n], .row (flat tRelation.enc r_1.1.relations), .row (flat tFact.enc r_1.1.facts), .box [(.m [2] 0 r_1.1.relations.length tRelation.k), (.m [3] 0 r_1.1.facts.length tFact.k)], .dead, .dead]) (Ghost.weak (WeakL.to 7 (lb rfl) rfl rfl rfl rfl ⟨leR rfl, leR rfl, leR rfl, leR rfl, leR rfl, leR rfl, leR rfl, leR rfl, leR rfl, leR rfl, trivial⟩)) ?_
    refine TA_frzB 2 (E' := [(0, (.b 0 0)), (2, (.b 1 0)), (3, (.b 4 0)), (7, (intA r_3.1)), (8, (boolA (decide (r_3.1 = 0)))), (10, (.b 4 1)), (11, (.m [3] 0 r_1.1.facts.length tFact.k)), (12, (.b 0 0)), (13, (.b 4 0)), (14, (sl tRelation r_1.1.relations))]) (σ' := [.box [(sl (tI .u8) r_3.2.b), (intA r_3.2.i), (intA r_3.2.h)], .box [.n, .n], .dead, .row (flat tFact.enc r_1.1.facts), .box [(sl tRelation r_1.1.relations), (.m [3] 0 r_1.1.facts.length tFact.k)], .dead, .dead]) rfl (lb rfl) ?_ ?_ ?_
    ·exact ⟨(.keep rfl), (.keep rfl), (.keep rfl), (.keep rfl), (.keep rfl), (.keep rfl), (.keep rfl), (.keep rfl), (.keep rfl), fz1E, trivial⟩
    ·exact ⟨(fzK rfl), (fzK rfl), trivial, rfl, (fzC fz1E (fzC (.keep rfl) fzN)), trivial, trivial, trivial⟩
    exact tj hj2_4 rfl (w0 7)
   ·skip
    refine ⟨_, rfl, rfl, (TOp_pure (pur_ld_b one38 rfl rfl rfl rfl) rfl ?_)⟩
    refine TA_ghost (E' := [(0, (.b 0 0)), (2, (.b 1 0)), (3, (.b 4 0)), (7, (intA r_3.1)), (8, (boolA (decide (r_3.1 = 0)))), (10, (.b 4 1)), (12, (.b 0 0)), (13, (.b 4 0)), (14, (.m [2] 0 r_1.1.relations.length tRelation.k))]) (σ' := [.box [(sl (tI .u8) r_3.2.b), (intA r_3.2.i), (intA r_3.2.h)], .box [.n, .n], .row (flat tRelation.enc r_1.1.relations), .row (flat tFact.enc r_1.1.facts), .box [(.m [2] 0 r_1.1.relations.length tRelation.k), (.m [3] 0 r_1.1.facts.length tFact.k)], .dead, .dead]) (Ghost.weak (WeakL.to 7 (lb rfl) rfl rfl rfl rfl ⟨leR rfl, leR rfl, leR rfl, leR rfl, leR rfl, leR rfl, leR rfl, leR rfl, leR rfl, trivial⟩)) ?_
    refine TA_frzB 2 (E' := [(0, (.b 0 0)), (2, (.b 1 0)), (3, (.b 4 0)), (7, (intA r_3.1)), (8, (boolA (decide (r_3.1 = 0)))), (10, (.b 4 1)), (12, (.b 0 0)), (13, (.b 4 0)), (14, (sl tRelation r_1.1.relations))]) (σ' := [.box [(sl (tI .u8) r_3.2.b), (intA r_3.2.i), (intA r_3.2.h)], .box [.n, .n], .dead, .row (flat tFact.enc r_1.1.facts), .box [(sl tRelation r_1.1.relations), (.m [3] 0 r_1.1.facts.length tFact.k)], .dead, .dead]) rfl (lb rfl) ?_ ?_ ?_
    ·exact ⟨(.keep rfl), (.keep rfl), (.keep rfl), (.keep rfl), (.keep rfl), (.keep rfl), (.keep rfl), (.keep rfl), fz1E, trivial⟩
    ·exact ⟨(fzK rfl), (fzK rfl), trivial, rfl, (fzC fz1E (fzC (.keep rfl) fzN)), trivial, trivial, trivial⟩
    refine TA_all [1, 5] (by kernel_rfl) (by decide) ⟨?_, ?_, trivial⟩
    ·skip
     refine ⟨_, rfl, rfl, (TOp_pure (pur_ld_b one39 rfl rfl rfl rfl) rfl ?_)⟩
     exact tj hj2_4 rfl (w0 7)
    ·skip
     refine ⟨_, rfl, rfl, (TOp_callS [0] (call_static ent96 rfl) (by decide) rfl rfl rfl rfl rfl rfl (m_spec_l3Any_x u _ _ _ h_7) rfl rfl ?_)⟩
     refine tae [(0, (.b 0 0)), (2, (.b 1 0)), (3, (.b 4 0)), (7, (intA r_3.1)), (8, (boolA (decide (r_3.1 = 0)))), (10, (.b 4 1)), (12, (.b 0 0)), (13, (.b 4 0)), (14, (sl tRelation r_1.1.relations)), (15, (.g [(intA r_6.1.relation), (.m [7] 0 r_6.1.values.length tInt.k)]))] rfl ?_
     refine TA_st (σ' := [.box [(sl (tI .u8) r_6.2.b), (intA r_6.2.i), (intA r_6.2.h)], .box [.n, .n], .dead, .row (flat tFact.enc r_1.1.facts), .box [(sl tRelation r_1.1.relations), (.m [3] 0 r_1.1.facts.length tFact.k)], .dead, .dead, .row (flat tInt.enc r_6.1.values)]) rfl ?_
     refine tmw 5 7 (by decide) (lb rfl) rfl rfl (lb rfl) rfl ?_
     refine TA_ghost (E' := [(0, (.b 0 0)), (2, (.b 1 0)), (3, (.b 4 0)), (7, (intA r_3.1)), (8, (boolA (decide (r_3.1 = 0)))), (10, (.b 4 1)), (12, (.b 0 0)), (13, (.b 4 0)), (14, (sl tRelation r_1.1.relations)), (15, (.g [(intA r_6.1.relation), (.m [5] 0 r_6.1.values.length tInt.k)]))]) (σ' := [.box [(sl (tI .u8) r_6.2.b), (intA r_6.2.i), (intA r_6.2.h)], .box [.n, .n], .dead, .row (flat tFact.enc r_1.1.facts), .box [(sl tRelation r_1.1.relations), (.m [3] 0 r_1.1.facts.length tFact.k)], .row (flat tInt.enc r_6.1.values), .dead, .dead]) (Ghost.weak (WeakL.to 8 (lb rfl) rfl rfl rfl rfl ⟨leR rfl, leR rfl, leR rfl, leR rfl, leR rfl, leR rfl, leR rfl, leR rfl, leR rfl, leR rfl, trivial⟩)) ?_
     refine TA_frz1 5 (E' := [(0, (.b 0 0)), (2, (.b 1 0)), (3, (.b 4 0)), (7, (intA r_3.1)), (8, (boolA (decide (r_3.1 = 0)))), (10, (.b 4 1)), (12, (.b 0 0)), (13, (.b 4 0)), (14, (sl tRelation r_1.1.relations)), (15, (.g [(intA r_6.1.relation), (sl tInt r_6.1.values)]))]) rfl rfl (lb rfl) ?_ ?_
     ·exact ⟨(.keep rfl), (.keep rfl), (.keep rfl), (.keep rfl), (.keep rfl), (.keep rfl), (.keep rfl), (.keep rfl), (.keep rfl), (fz1G (fzC (.keep rfl) (fzC fz1E fzN))), trivial⟩
     refine TA_st (σ' := [.box [(sl (tI .u8) r_6.2.b), (intA r_6.2.i), (intA r_6.2.h)], .box [.n, .n], .dead, .row (flat tFact.enc r_1.1.facts), .box [(sl tRelation r_1.1.relations), (.m [3] 0 r_1.1.facts.length tFact.k)], .dead, .dead, .dead]) rfl ?_
     refine TA_all [1, 6] (by kernel_rfl) (by decide) ⟨?_, ?_, trivial⟩
     ·skip
      refine ⟨_, rfl, rfl, (TOp_pure (pur_ld_b one39 rfl rfl rfl rfl) rfl ?_)⟩
      exact tj hj1_4 rfl (w0 7)
     ·skip
      refine ⟨_, rfl, rfl, (TOp_lit (nn := 1) (k := 2) sl39 zero55 rfl rfl rfl rfl (by decide) ?_)⟩
      refine tmw 6 8 (by decide) (lb rfl) rfl rfl (lb rfl) rfl ?_
      refine t1 1 (by kernel_rfl) rfl rfl (TOp_pure (pur_ld_b one39 rfl rfl rfl rfl) rfl ?_)
      exact tj hj0_4 rfl (w0 7)
  ·replace H := cond_f c_5 H
   refine sr ?_
   refine pv tb 2 rfl ?_
   refine TO_nil ?_
   refine T_cond (t := decide (r_3.1 = 1)) rfl (fun c_10 => ?_) (fun c_10 => ?_)
   ·replace H := cond_t c_10 H
    obtain ⟨r_11, h_12, H⟩ := bind_inv H
    obtain ⟨ys_13, h_14, H⟩ := bind_inv H
    obtain ⟨i_15, j_16, hi_17, hj_18, hij_19, hjl_20, hys_21, _⟩ := cutI_inv h_14
    refine T_regionP 0 mixed rfl ?_
    refine TA_have 3 #[true, true, true, true, false, false, false] [(2, (.b 1 0)), (3, (.b 4 0)), (22, (.m [2] 0 r_1.1.relations.length tRelation.k)), (24, (intA r_11.1))] [.box [(sl (tI .u8) r_11.2.b), (intA r_11.2.i), (intA r_11.2.h)], .box [.n, .n], .row (flat tRelation.enc r_1.1.relations), .row (flat tFact.enc r_1.1.facts), .box [(.m [2] 0 r_1.1.relations.length tRelation.k), (.m [3] 0 r_1.1.facts.length tFact.k)]] ?_ (fun hj0_6 => ?_)
    ·skip
     refine tf 4 rfl (pur_cutM (lo := none) (hi := (some (.tmp 24))) sl38 rfl hi_17.symm ⟨_, congrArg (fun z => A.v (.int .i64 z)) hj_18⟩ hij_19 hjl_20 rfl) rfl rfl (by kernel_rfl) ?_
     refine pa tb [5] 1 rfl (by kernel_rfl) rfl ?_
     refine t1 6 (by kernel_rfl) rfl rfl (TOp_storeB sz38 rfl rfl rfl rfl rfl rfl rfl (by decide) (lb rfl) rfl ?_)
     refine TA_st (σ' := [.box [(sl (tI .u8) r_11.2.b), (intA r_11.2.i), (intA r_11.2.h)], .box [.n, .n], .row (flat tRelation.enc r_1.1.relations), .row (flat tFact.enc r_1.1.facts), .box [(.m [2] (i_15 * tRelation.k) (j_16 - i_15) tRelation.k), (.m [3] 0 r_1.1.facts.length tFact.k)]]) rfl ?_
     refine TA_nil (by kernel_rfl) ?_
     refine sr ?_
     refine pv tb 1 rfl ?_
     refine TO_cons rfl (TOp_storeB sz41 rfl rfl rfl rfl rfl rfl rfl (by decide) (lb rfl) rfl ?_)
     refine TO_st (σ' := [.box [(sl (tI .u8) r_11.2.b), (intA r_11.2.i), (intA r_11.2.h)], .box [(.m [2] (i_15 * tRelation.k) (j_16 - i_15) tRelation.k), (.m [3] 0 r_1.1.facts.length tFact.k)], .row (flat tRelation.enc r_1.1.relations), .row (flat tFact.enc r_1.1.facts), .box [(.m [2] (i_15 * tRelation.k) (j_16 - i_15) tRelation.k), (.m [3] 0 r_1.1.facts.length tFact.k)]]) rfl ?_
     refine TO_nil ?_
     refine T_frzB 2 (E' := [(2, (.b 1 0))]) (σ' := [.box [(sl (tI .u8) r_11.2.b), (intA r_11.2.i), (intA r_11.2.h)], .box [(sl tRelation ys_13), (.m [3] 0 r_1.1.facts.length tFact.k)], .dead, .row (flat tFact.enc r_1.1.facts), .box [(sl tRelation ys_13), (.m [3] 0 r_1.1.facts.length tFact.k)]]) rfl (lb rfl) ?_ ?_ ?_
     ·exact ⟨(.keep rfl), trivial⟩
     ·exact ⟨(fzK rfl), (fzC (fz1C hij_19 hjl_20 hys_21) (fzC (.keep rfl) fzN)), trivial, rfl, (fzC (fz1C hij_19 hjl_20 hys_21) (fzC (.keep rfl) fzN)), trivial⟩
     refine T_frzB 3 (E' := [(2, (.b 1 0))]) (σ' := [.box [(sl (tI .u8) r_11.2.b), (intA r_11.2.i), (intA r_11.2.h)], .box [(sl tRelation ys_13), (sl tFact r_1.1.facts)], .dead, .dead, .box [(sl tRelation ys_13), (sl tFact r_1.1.facts)]]) rfl (lb rfl) ?_ ?_ ?_
     ·exact ⟨(.keep rfl), trivial⟩
     ·exact ⟨(fzK rfl), (fzC (.keep rfl) (fzC fz1E fzN)), trivial, trivial, (fzC (.keep rfl) (fzC fz1E fzN)), trivial⟩
     refine T_ret ?_
     obtain rfl := some_inj H
     exact end_pickX (.cellK rfl agg41 rfl (lb rfl) .nil) rfl [0] (by decide) (lb rfl) rfl (lb rfl) rfl rfl rfl rfl rfl rfl
    refine pa tb [0, 2] 5 rfl (by kernel_rfl) rfl ?_
    refine TA_all [1, 3] (by kernel_rfl) (by decide) ⟨?_, ?_, trivial⟩
    ·skip
     refine ⟨_, rfl, rfl, (TOp_pure (pur_ld_b one38 rfl rfl rfl rfl) rfl ?_)⟩
     refine t1 3 (by kernel_rfl) rfl rfl (TOp_callS [0] (call_static ent95 rfl) (by decide) rfl rfl rfl rfl rfl rfl (m_spec_l1Below_x _ _ _ h_12) rfl rfl ?_)
     refine tae [(0, (.b 0 0)), (2, (.b 1 0)), (3, (.b 4 0)), (7, (intA r_3.1)), (19, (boolA (decide (r_3.1 = 1)))), (21, (.b 4 0)), (22, (.m [2] 0 r_1.1.relations.length tRelation.k)), (23, (.b 0 0)), (24, (intA r_11.1))] rfl ?_
     refine TA_st (σ' := [.box [(sl (tI .u8) r_11.2.b), (intA r_11.2.i), (intA r_11.2.h)], .box [.n, .n], .row (flat tRelation.enc r_1.1.relations), .row (flat tFact.enc r_1.1.facts), .box [(.m [2] 0 r_1.1.relations.length tRelation.k), (.m [3] 0 r_1.1.facts.length tFact.k)]]) rfl ?_
     exact tj hj0_6 rfl (w0 5)
    ·skip
     refine ⟨_, rfl, rfl, (TOp_callS [0] (call_static ent95 rfl) (by decide) rfl rfl rfl rfl rfl rfl (m_spec_l1Below_x _ _ _ h_12) rfl rfl ?_)⟩
     refine tae [(0, (.b 0 0)), (2, (.b 1 0)), (3, (.b 4 0)), (7, (intA r_3.1)), (19, (boolA (decide (r_3.1 = 1)))), (21, (.b 4 0)), (23, (.b 0 0)), (24, (intA r_11.1))] rfl ?_
     refine TA_st (σ' := [.box [(sl (tI .u8) r_11.2.b), (intA r_11.2.i), (intA r_11.2.h)], .box [.n, .n], .row (flat tRelation.enc r_1.1.relations), .row (flat tFact.enc r_1.1.facts), .box [(.m [2] 0 r_1.1.relations.length tRelation.k), (.m [3] 0 r_1.1.facts.length tFact.k)]]) rfl ?_
     refine t1 1 (by kernel_rfl) rfl rfl (TOp_pure (pur_ld_b one38 rfl rfl rfl rfl) rfl ?_)
     exact tj hj0_6 rfl (w0 5)
   ·replace H := cond_f c_10 H
    refine sr ?_
    refine pv tb 2 rfl ?_
    refine TO_nil ?_
    refine T_cond (t := decide (r_3.1 = 2)) rfl (fun c_22 => ?_) (fun c_22 => ?_)
    ·replace H := cond_t c_22 H
     obtain ⟨r_23, h_24, H⟩ := bind_inv H
     obtain ⟨r_25, h_26, H⟩ := bind_inv H
     obtain ⟨v_27, h_28, H⟩ := bind_inv H
     obtain ⟨n_29, hz_30, hv_31⟩ := getI_inv h_28
     refine T_regionP 0 mixed rfl ?_
     refine TA_have 2 #[true, true, true, true, true, true, false, false] [(2, (.b 1 0)), (3, (.b 4 0)), (30, (.m [2] 0 r_1.1.relations.length tRelation.k)), (32, (intA r_23.1)), (34, (.g (tRelation.enc r_25.1)))] [.box [(sl (tI .u8) r_25.2.b), (intA r_25.2.i), (intA r_25.2.h)], .box [.n, .n], .row (flat tRelation.enc r_1.1.relations), .row (flat tFact.enc r_1.1.facts), .box [(.m [2] 0 r_1.1.relations.length tRelation.k), (.m [3] 0 r_1.1.facts.length tFact.k)]] ?_ (fun hj0_8 => ?_)
     ·skip
      refine tf 6 rfl (pur_ixM (T := tRelation) sl38 rfl rfl hz_30 hv_31 rfl) rfl rfl (by kernel_rfl) ?_
      refine t1 7 (by kernel_rfl) rfl rfl (TOp_setT (f := tRelation.enc) (z := r_23.1) (y := r_25.1) tRelation.len tRelation.pos hz_30 sz89 rfl rfl rfl rfl rfl hv_31 rfl rfl ?_)
      refine TA_env (E' := [(2, (.b 1 0)), (3, (.b 4 0)), (30, (.m [2] 0 (r_1.1.relations.set (r_23.1).toNat r_25.1).length tRelation.k)), (32, (intA r_23.1)), (34, (.g (tRelation.enc r_25.1)))]) ⟨rfl, rfl, (congrArg (fun q => A.m [2] 0 q tRelation.k) (List.length_set ..).symm), rfl, rfl, trivial⟩ ?_
      refine TA_st (σ' := [.box [(sl (tI .u8) r_25.2.b), (intA r_25.2.i), (intA r_25.2.h)], .box [.n, .n], .row (flat tRelation.enc (r_1.1.relations.set (r_23.1).toNat r_25.1)), .row (flat tFact.enc r_1.1.facts), .box [(.m [2] 0 r_1.1.relations.length tRelation.k), (.m [3] 0 r_1.1.facts.length tFact.k)]]) rfl ?_
      refine TA_st (σ' := [.box [(sl (tI .u8) r_25.2.b), (intA r_25.2.i), (intA r_25.2.h)], .box [.n, .n], .row (flat tRelation.enc (r_1.1.relations.set (r_23.1).toNat r_25.1)), .row (flat tFact.enc r_1.1.facts), .box [(.m [2] 0 (r_1.1.relations.set (r_23.1).toNat r_25.1).length tRelation.k), (.m [3] 0 r_1.1.facts.length tFact.k)]]) (by simp only [List.length_set]) ?_
      refine TA_nil (by kernel_rfl) ?_
      refine sr ?_
      refine pv tb 1 rfl ?_
      refine TO_cons rfl (TOp_storeB sz41 rfl rfl rfl rfl rfl rfl rfl (by decide) (lb rfl) rfl ?_)
      refine TO_st (σ' := [.box [(sl (tI .u8) r_25.2.b), (intA r_25.2.i), (intA r_25.2.h)], .box [(.m [2] 0 (r_1.1.relations.set (r_23.1).toNat r_25.1).length tRelation.k), (.m [3] 0 r_1.1.facts.length tFact.k)], .row (flat tRelation.enc (r_1.1.relations.set (r_23.1).toNat r_25.1)), .row (flat tFact.enc r_1.1.facts), .box [(.m [2] 0 (r_1.1.relations.set (r_23.1).toNat r_25.1).length tRelation.k), (.m [3] 0 r_1.1.facts.length tFact.k)]]) rfl ?_
      refine TO_nil ?_
      refine T_frzB 2 (E' := [(2, (.b 1 0))]) (σ' := [.box [(sl (tI .u8) r_25.2.b), (intA r_25.2.i), (intA r_25.2.h)], .box [(sl tRelation (r_1.1.relations.set (r_23.1).toNat r_25.1)), (.m [3] 0 r_1.1.facts.length tFact.k)], .dead, .row (flat tFact.enc r_1.1.facts), .box [(sl tRelation (r_1.1.relations.set (r_23.1).toNat r_25.1)), (.m [3] 0 r_1.1.facts.length tFact.k)]]) rfl (lb rfl) ?_ ?_ ?_
      ·exact ⟨(.keep rfl), trivial⟩
      ·exact ⟨(fzK rfl), (fzC fz1E (fzC (.keep rfl) fzN)), trivial, rfl, (fzC fz1E (fzC (.keep rfl) fzN)), trivial⟩
      refine T_frzB 3 (E' := [(2, (.b 1 0))]) (σ' := [.box [(sl (tI .u8) r_25.2.b), (intA r_25.2.i), (intA r_25.2.h)], .box [(sl tRelation (r_1.1.relations.set (r_23.1).toNat r_25.1)), (sl tFact r_1.1.facts)], .dead, .dead, .box [(sl tRelation (r_1.1.relations.set (r_23.1).toNat r_25.1)), (sl tFact r_1.1.facts)]]) rfl (lb rfl) ?_ ?_ ?_
      ·exact ⟨(.keep rfl), trivial⟩
      ·exact ⟨(fzK rfl), (fzC (.keep rfl) (fzC fz1E fzN)), trivial, trivial, (fzC (.keep rfl) (fzC fz1E fzN)), trivial⟩
      refine T_ret ?_
      obtain rfl := some_inj H
      exact end_pickX (.cellK rfl agg41 rfl (lb rfl) .nil) rfl [0] (by decide) (lb rfl) rfl (lb rfl) rfl rfl rfl rfl rfl rfl
     refine TA_have 3 #[true, true, true, true, true, false, false, false] [(2, (.b 1 0)), (3, (.b 4 0)), (30, (.m [2] 0 r_1.1.relations.length tRelation.k)), (32, (intA r_23.1)), (33, (.b 0 0))] [.box [(sl (tI .u8) r_23.2.b), (intA r_23.2.i), (intA r_23.2.h)], .box [.n, .n], .row (flat tRelation.enc r_1.1.relations), .row (flat tFact.enc r_1.1.facts), .box [(.m [2] 0 r_1.1.relations.length tRelation.k), (.m [3] 0 r_1.1.facts.length tFact.k)]] ?_ (fun hj1_8 => ?_)
     ·skip
      refine t1 5 (by kernel_rfl) rfl rfl (TOp_callS [0] (call_static ent97 rfl) (by decide) rfl rfl rfl rfl rfl rfl (m_spec_l2Any_x _ _ h_26) rfl rfl ?_)
      refine tae [(2, (.b 1 0)), (3, (.b 4 0)), (30, (.m [2] 0 r_1.1.relations.length tRelation.k)), (32, (intA r_23.1)), (33, (.b 0 0)), (34, (.g (tRelation.enc r_25.1)))] rfl ?_
      refine TA_st (σ' := [.box [(sl (tI .u8) r_25.2.b), (intA r_25.2.i), (intA r_25.2.h)], .box [.n, .n], .row (flat tRelation.enc r_1.1.relations), .row (flat tFact.enc r_1.1.facts), .box [(.m [2] 0 r_1.1.relations.length tRelation.k), (.m [3] 0 r_1.1.facts.length tFact.k)]]) rfl ?_
      exact tj hj0_8 rfl (w0 5)
     refine pa tb [0, 2, 4] 5 rfl (by kernel_rfl) rfl ?_
     refine TA_all [1, 3] (by kernel_rfl) (by decide) ⟨?_, ?_, trivial⟩
     ·skip
      refine ⟨_, rfl, rfl, (TOp_pure (pur_ld_b one38 rfl rfl rfl rfl) rfl ?_)⟩
      refine t1 3 (by kernel_rfl) rfl rfl (TOp_callS [0] (call_static ent95 rfl) (by decide) rfl rfl rfl rfl rfl rfl (m_spec_l1Below_x _ _ _ h_24) rfl rfl ?_)
      refine tae [(0, (.b 0 0)), (2, (.b 1 0)), (3, (.b 4 0)), (27, (boolA (decide (r_3.1 = 2)))), (29, (.b 4 0)), (30, (.m [2] 0 r_1.1.relations.length tRelation.k)), (31, (.b 0 0)), (32, (intA r_23.1)), (33, (.b 0 0))] rfl ?_
      refine TA_st (σ' := [.box [(sl (tI .u8) r_23.2.b), (intA r_23.2.i), (intA r_23.2.h)], .box [.n, .n], .row (flat tRelation.enc r_1.1.relations), .row (flat tFact.enc r_1.1.facts), .box [(.m [2] 0 r_1.1.relations.length tRelation.k), (.m [3] 0 r_1.1.facts.length tFact.k)]]) rfl ?_
      exact tj hj1_8 rfl (w0 5)
     ·skip
      refine ⟨_, rfl, rfl, (TOp_callS [0] (call_static ent95 rfl) (by decide) rfl rfl rfl rfl rfl rfl (m_spec_l1Below_x _ _ _ h_24) rfl rfl ?_)⟩
      refine tae [(0, (.b 0 0)), (2, (.b 1 0)), (3, (.b 4 0)), (27, (boolA (decide (r_3.1 = 2)))), (29, (.b 4 0)), (31, (.b 0 0)), (32, (intA r_23.1)), (33, (.b 0 0))] rfl ?_
      refine TA_st (σ' := [.box [(sl (tI .u8) r_23.2.b), (intA r_23.2.i), (intA r_23.2.h)], .box [.n, .n], .row (flat tRelation.enc r_1.1.relations), .row (flat tFact.enc r_1.1.facts), .box [(.m [2] 0 r_1.1.relations.length tRelation.k), (.m [3] 0 r_1.1.facts.length tFact.k)]]) rfl ?_
      refine TA_all [1, 5] (by kernel_rfl) (by decide) ⟨?_, ?_, trivial⟩
      ·skip
       refine ⟨_, rfl, rfl, (TOp_pure (pur_ld_b one38 rfl rfl rfl rfl) rfl ?_)⟩
       exact tj hj1_8 rfl (w0 5)
      ·skip
       refine ⟨_, rfl, rfl, (TOp_callS [0] (call_static ent97 rfl) (by decide) rfl rfl rfl rfl rfl rfl (m_spec_l2Any_x _ _ h_26) rfl rfl ?_)⟩
       refine tae [(0, (.b 0 0)), (2, (.b 1 0)), (3, (.b 4 0)), (27, (boolA (decide (r_3.1 = 2)))), (29, (.b 4 0)), (31, (.b 0 0)), (32, (intA r_23.1)), (33, (.b 0 0)), (34, (.g (tRelation.enc r_25.1)))] rfl ?_
       refine TA_st (σ' := [.box [(sl (tI .u8) r_25.2.b), (intA r_25.2.i), (intA r_25.2.h)], .box [.n, .n], .row (flat tRelation.enc r_1.1.relations), .row (flat tFact.enc r_1.1.facts), .box [(.m [2] 0 r_1.1.relations.length tRelation.k), (.m [3] 0 r_1.1.facts.length tFact.k)]]) rfl ?_
       refine t1 1 (by kernel_rfl) rfl rfl (TOp_pure (pur_ld_b one38 rfl rfl rfl rfl) rfl ?_)
       exact tj hj0_8 rfl (w0 5)
    ·replace H := cond_f c_22 H
     refine T_skip ?_
     refine sr ?_
     refine pv tb 1 rfl ?_
     refine TO_cons rfl (TOp_storeB sz41 rfl rfl rfl rfl rfl rfl rfl (by decide) (lb rfl) rfl ?_)
     refine TO_st (σ' := [.box [(sl (tI .u8) r_3.2.b), (intA r_3.2.i), (intA r_3.2.h)], .box [(.m [2] 0 r_1.1.relations.length tRelation.k), (.m [3] 0 r_1.1.facts.length tFact.k)], .row (flat tRelation.enc r_1.1.relations), .row (flat tFact.enc r_1.1.facts), .box [(.m [2] 0 r_1.1.relations.length tRelation.k), (.m [3] 0 r_1.1.facts.length tFact.k)]]) rfl ?_
     refine TO_nil ?_
     refine T_frzB 2 (E' := [(2, (.b 1 0))]) (σ' := [.box [(sl (tI .u8) r_3.2.b), (intA r_3.2.i), (intA r_3.2.h)], .box [(sl tRelation r_1.1.relations), (.m [3] 0 r_1.1.facts.length tFact.k)], .dead, .row (flat tFact.enc r_1.1.facts), .box [(sl tRelation r_1.1.relations), (.m [3] 0 r_1.1.facts.length tFact.k)]]) rfl (lb rfl) ?_ ?_ ?_
     ·exact ⟨(.keep rfl), trivial⟩
     ·exact ⟨(fzK rfl), (fzC fz1E (fzC (.keep rfl) fzN)), trivial, rfl, (fzC fz1E (fzC (.keep rfl) fzN)), trivial⟩
     refine T_frzB 3 (E' := [(2, (.b 1 0))]) (σ' := [.box [(sl (tI .u8) r_3.2.b), (intA r_3.2.i), (intA r_3.2.h)], .box [(sl tRelation r_1.1.relations), (sl tFact r_1.1.facts)], .dead, .dead, .box [(sl tRelation r_1.1.relations), (sl tFact r_1.1.facts)]]) rfl (lb rfl) ?_ ?_ ?_
     ·exact ⟨(.keep rfl), trivial⟩
     ·exact ⟨(fzK rfl), (fzC (.keep rfl) (fzC fz1E fzN)), trivial, trivial, (fzC (.keep rfl) (fzC fz1E fzN)), trivial⟩
     refine T_ret ?_
     obtain rfl := some_inj H
     exact end_pickX (.cellK rfl agg41 rfl (lb rfl) .nil) rfl [0] (by decide) (lb rfl) rfl (lb rfl) rfl rfl rfl rfl rfl rfl

set_option maxHeartbeats 1000000 in
theorem m_spec_DrawMergeValues_ok (u : Nat) (code0 : (List Int)) (r : (Database × Int × Int)) (H : m_spec_DrawMergeValues u code0 = some r) : FnV prg 23 [(sl (tI .u8) code0)] (.t [(.g (tDatabase.enc r.1)), (intA r.2.1), (intA r.2.2)]) := by
  unfold m_spec_DrawMergeValues at H
  refine fnV_of_T Try.func23 rfl rfl (Nat.le_of_ble_eq_true rfl) ?_
  refine te [(0, (sl (tI .u8) code0))] rfl ?_
  refine sr ?_
  refine TO_cons rfl (TOp_alloc zero41 rfl rfl ?_)
  refine pv tb 2 rfl ?_
  refine TO_nil ?_
  refine sr ?_
  obtain ⟨r_1, h_2, H⟩ := bind_inv H
  refine pv tb 1 rfl ?_
  refine TO_cons rfl (TOp_callS [] (call_static ent58 rfl) (by decide) rfl rfl rfl rfl rfl rfl (m_spec_l1New_x u _ _ h_2) rfl rfl ?_)
  refine toe [(0, (sl (tI .u8) code0)), (2, (.b 0 0)), (7, (sl (tI .u8) code0)), (8, (.b 1 0))] rfl ?_
  refine TO_st (σ' := [.box [.n, .n], .box [(sl (tI .u8) r_1.b), (intA r_1.i), (intA r_1.h)]]) rfl ?_
  refine pv tb 1 rfl ?_
  refine TO_nil ?_
  refine sr ?_
  obtain ⟨r_3, h_4, H⟩ := bind_inv H
  refine pv tb 1 rfl ?_
  refine TO_cons rfl (TOp_callS [1] (call_static ent59 rfl) (by decide) rfl rfl rfl rfl rfl rfl (m_spec_l4Any_x u _ _ h_4) rfl rfl ?_)
  refine toe [(2, (.b 0 0)), (5, (.b 1 0)), (9, (.b 1 0)), (10, (.g (tDatabase.enc r_3.1)))] rfl ?_
  refine TO_st (σ' := [.box [.n, .n], .box [(sl (tI .u8) r_3.2.b), (intA r_3.2.i), (intA r_3.2.h)]]) rfl ?_
  refine TO_cons rfl (TOp_alloc zero41 rfl rfl ?_)
  refine TO_cons rfl (TOp_storeB sz41 rfl rfl rfl rfl rfl rfl rfl (by decide) (lb rfl) rfl ?_)
  refine TO_st (σ' := [.box [.n, .n], .box [(sl (tI .u8) r_3.2.b), (intA r_3.2.i), (intA r_3.2.h)], .box [(sl tRelation r_3.1.relations), (sl tFact r_3.1.facts)]]) rfl ?_
  refine TO_nil ?_
  obtain ⟨r_5, h_6, H⟩ := bind_inv H
  obtain ⟨r_7, h_8, H⟩ := bind_inv H
  refine T_pad ?_
  refine T_pad ?_
  refine T_cutX (fun (_ : Unit) => True) (fun _ => [(2, (.b 0 0)), (3, (intA r_5.1)), (4, (intA r_7.1))]) (fun _ => [.box [(sl tRelation r_3.1.relations), (sl tFact r_3.1.facts)], .box [(sl (tI .u8) r_7.2.b), (intA r_7.2.i), (intA r_7.2.h)], .box [(sl tRelation r_3.1.relations), (sl tFact r_3.1.facts)]]) ?_ ?_
  ·skip
   refine T_regionP 0 mixed rfl ?_
   refine TA_have 3 #[true, true, true, true, true, true, true, false, false, false] [(2, (.b 0 0)), (11, (.g (tDatabase.enc r_3.1))), (14, (intA r_5.1)), (17, (intA r_7.1))] [.box [.n, .n], .box [(sl (tI .u8) r_7.2.b), (intA r_7.2.i), (intA r_7.2.h)], .box [(sl tRelation r_3.1.relations), (sl tFact r_3.1.facts)], .dead, .dead] ?_ (fun hj0_3 => ?_)
   ·skip
    refine t1 7 (by kernel_rfl) rfl rfl (TOp_storeB sz41 rfl rfl rfl rfl rfl rfl rfl (by decide) (lb rfl) rfl ?_)
    refine TA_st (σ' := [.box [(sl tRelation r_3.1.relations), (sl tFact r_3.1.facts)], .box [(sl (tI .u8) r_7.2.b), (intA r_7.2.i), (intA r_7.2.h)], .box [(sl tRelation r_3.1.relations), (sl tFact r_3.1.facts)], .dead, .dead]) rfl ?_
    refine pa tb [8, 9] 0 rfl (by kernel_rfl) rfl ?_
    exact TA_nil (by kernel_rfl) (joined () (w0 3) trivial)
   refine TA_have 4 #[true, true, true, true, true, true, false, false, false, false] [(2, (.b 0 0)), (11, (.g (tDatabase.enc r_3.1))), (14, (intA r_5.1)), (15, (.b 1 0)), (16, (sl tInt ([0, 1, 2, 9, 10] : (List Int))))] [.box [.n, .n], .box [(sl (tI .u8) r_5.2.b), (intA r_5.2.i), (intA r_5.2.h)], .box [(sl tRelation r_3.1.relations), (sl tFact r_3.1.facts)], .dead, .dead] ?_ (fun hj1_3 => ?_)
   ·skip
    refine t1 6 (by kernel_rfl) rfl rfl (TOp_callS [1] (call_static ent60 rfl) (by decide) rfl rfl rfl rfl rfl rfl (m_spec_l1PickInt_x _ _ _ h_8) rfl rfl ?_)
    refine tae [(2, (.b 0 0)), (11, (.g (tDatabase.enc r_3.1))), (14, (intA r_5.1)), (15, (.b 1 0)), (16, (sl tInt ([0, 1, 2, 9, 10] : (List Int)))), (17, (intA r_7.1))] rfl ?_
    refine TA_st (σ' := [.box [.n, .n], .box [(sl (tI .u8) r_7.2.b), (intA r_7.2.i), (intA r_7.2.h)], .box [(sl tRelation r_3.1.relations), (sl tFact r_3.1.facts)], .dead, .dead]) rfl ?_
    exact tj hj0_3 rfl (w0 5)
   refine TA_have 5 #[false, true, true, true, true, true, false, false, false, false] [(2, (.b 0 0)), (6, (.b 2 0)), (14, (intA r_5.1)), (15, (.b 1 0)), (16, (sl tInt ([0, 1, 2, 9, 10] : (List Int))))] [.box [.n, .n], .box [(sl (tI .u8) r_5.2.b), (intA r_5.2.i), (intA r_5.2.h)], .box [(sl tRelation r_3.1.relations), (sl tFact r_3.1.facts)], .dead, .dead] ?_ (fun hj2_3 => ?_)
   ·skip
    refine TA_all [0, 6] (by kernel_rfl) (by decide) ⟨?_, ?_, trivial⟩
    ·skip
     refine ⟨_, rfl, rfl, (TOp_pure (pur_ldK_b agg41 rfl rfl (lb rfl) rfl) rfl ?_)⟩
     exact tj hj1_3 rfl (w0 5)
    ·skip
     refine ⟨_, rfl, rfl, (TOp_callS [1] (call_static ent60 rfl) (by decide) rfl rfl rfl rfl rfl rfl (m_spec_l1PickInt_x _ _ _ h_8) rfl rfl ?_)⟩
     refine tae [(2, (.b 0 0)), (6, (.b 2 0)), (14, (intA r_5.1)), (15, (.b 1 0)), (16, (sl tInt ([0, 1, 2, 9, 10] : (List Int)))), (17, (intA r_7.1))] rfl ?_
     refine TA_st (σ' := [.box [.n, .n], .box [(sl (tI .u8) r_7.2.b), (intA r_7.2.i), (intA r_7.2.h)], .box [(sl tRelation r_3.1.relations), (sl tFact r_3.1.facts)], .dead, .dead]) rfl ?_
     refine t1 0 (by kernel_rfl) rfl rfl (TOp_pure (pur_ldK_b agg41 rfl rfl (lb rfl) rfl) rfl ?_)
     exact tj hj0_3 rfl (w0 5)
   refine TA_have 5 #[true, true, true, false, true, true, false, false, false, false] [(2, (.b 0 0)), (11, (.g (tDatabase.enc r_3.1))), (12, (.b 1 0)), (13, (sl tInt ([0, 1, 2, 9, 10, -1] : (List Int)))), (15, (.b 1 0)), (16, (.m [4] 0 ([0, 1, 2, 9, 10] : (List Int)).length tInt.k))] [.box [.n, .n], .box [(sl (tI .u8) r_3.2.b), (intA r_3.2.i), (intA r_3.2.h)], .box [(sl tRelation r_3.1.relations), (sl tFact r_3.1.facts)], .dead, .row (flat tInt.enc ([0, 1, 2, 9, 10] : (List Int)))] ?_ (fun hj3_3 => ?_)
   ·skip
    refine t1 3 (by kernel_rfl) rfl rfl (TOp_callS [1] (call_static ent60 rfl) (by decide) rfl rfl rfl rfl rfl rfl (m_spec_l1PickInt_x _ _ _ h_6) rfl rfl ?_)
    refine tae [(2, (.b 0 0)), (11, (.g (tDatabase.enc r_3.1))), (12, (.b 1 0)), (13, (sl tInt ([0, 1, 2, 9, 10, -1] : (List Int)))), (14, (intA r_5.1)), (15, (.b 1 0)), (16, (.m [4] 0 ([0, 1, 2, 9, 10] : (List Int)).length tInt.k))] rfl ?_
    refine TA_st (σ' := [.box [.n, .n], .box [(sl (tI .u8) r_5.2.b), (intA r_5.2.i), (intA r_5.2.h)], .box [(sl tRelation r_3.1.relations), (sl tFact r_3.1.facts)], .dead, .row (flat tInt.enc ([0, 1, 2, 9, 10] : (List Int)))]) rfl ?_
    refine TA_ghost (E' := [(2, (.b 0 0)), (11, (.g (tDatabase.enc r_3.1))), (12, (.b 1 0)), (13, (sl tInt ([0, 1, 2, 9, 10, -1] : (List Int)))), (14, (intA r_5.1)), (15, (.b 1 0)), (16, (.m [4] 0 ([0, 1, 2, 9, 10] : (List Int)).length tInt.k))]) (σ' := [.box [.n, .n], .box [(sl (tI .u8) r_5.2.b), (intA r_5.2.i), (intA r_5.2.h)], .box [(sl tRelation r_3.1.relations), (sl tFact r_3.1.facts)], .dead, .row (flat tInt.enc ([0, 1, 2, 9, 10] : (List Int)))]) (Ghost.weak (WeakL.to 5 (lb rfl) rfl rfl rfl rfl ⟨leR rfl, leR rfl, leR rfl, leR rfl, leR rfl, leR rfl, leR rfl, trivial⟩)) ?_
    refine TA_frz1 4 (E' := [(2, (.b 0 0)), (11, (.g (tDatabase.enc r_3.1))), (12, (.b 1 0)), (13, (sl tInt ([0, 1, 2, 9, 10, -1] : (List Int)))), (14, (intA r_5.1)), (15, (.b 1 0)), (16, (sl tInt ([0, 1, 2, 9, 10] : (List Int))))]) rfl rfl (lb rfl) ⟨(.keep rfl), (.keep rfl), (.keep rfl), (.keep rfl), (.keep rfl), (.keep rfl), fz1E, trivial⟩ ?_
    refine TA_st (σ' := [.box [.n, .n], .box [(sl (tI .u8) r_5.2.b), (intA r_5.2.i), (intA r_5.2.h)], .box [(sl tRelation r_3.1.relations), (sl tFact r_3.1.facts)], .dead, .dead]) rfl ?_
    exact tj hj1_3 rfl (w0 5)
   refine TA_have 5 #[true, true, true, true, true, false, false, false, false, false] [(2, (.b 0 0)), (11, (.g (tDatabase.enc r_3.1))), (14, (intA r_5.1)), (15, (.b 1 0))] [.box [.n, .n], .box [(sl (tI .u8) r_5.2.b), (intA r_5.2.i), (intA r_5.2.h)], .box [(sl tRelation r_3.1.relations), (sl tFact r_3.1.facts)], .dead, .dead] ?_ (fun hj4_3 => ?_)
   ·skip
    refine t1 5 (by kernel_rfl) rfl rfl (TOp_lit (nn := 5) (k := 1) sl53 zero3 rfl rfl rfl rfl (by decide) ?_)
    refine tmw 4 5 (by decide) (lb rfl) rfl rfl (lb rfl) rfl ?_
    refine TA_ghost (E' := [(2, (.b 0 0)), (11, (.g (tDatabase.enc r_3.1))), (14, (intA r_5.1)), (15, (.b 1 0)), (16, (.m [4] 0 ([0, 1, 2, 9, 10] : (List Int)).length tInt.k))]) (σ' := [.box [.n, .n], .box [(sl (tI .u8) r_5.2.b), (intA r_5.2.i), (intA r_5.2.h)], .box [(sl tRelation r_3.1.relations), (sl tFact r_3.1.facts)], .dead, .row (flat tInt.enc ([0, 1, 2, 9, 10] : (List Int))), .dead]) (Ghost.weak (WeakL.to 6 (lb rfl) rfl rfl rfl rfl ⟨leR rfl, leR rfl, leR rfl, leR rfl, leR rfl, trivial⟩)) ?_
    refine TA_frz1 4 (E' := [(2, (.b 0 0)), (11, (.g (tDatabase.enc r_3.1))), (14, (intA r_5.1)), (15, (.b 1 0)), (16, (sl tInt ([0, 1, 2, 9, 10] : (List Int))))]) rfl rfl (lb rfl) ⟨(.keep rfl), (.keep rfl), (.keep rfl), (.keep rfl), fz1E, trivial⟩ ?_
    refine TA_st (σ' := [.box [.n, .n], .box [(sl (tI .u8) r_5.2.b), (intA r_5.2.i), (intA r_5.2.h)], .box [(sl tRelation r_3.1.relations), (sl tFact r_3.1.facts)], .dead, .dead, .dead]) rfl ?_
    exact tj hj1_3 rfl (w0 5)
   refine TA_have 6 #[false, true, true, false, true, true, false, false, false, false] [(2, (.b 0 0)), (6, (.b 2 0)), (12, (.b 1 0)), (13, (sl tInt ([0, 1, 2, 9, 10, -1] : (List Int)))), (15, (.b 1 0)), (16, (.m [4] 0 ([0, 1, 2, 9, 10] : (List Int)).length tInt.k))] [.box [.n, .n], .box [(sl (tI .u8) r_3.2.b), (intA r_3.2.i), (intA r_3.2.h)], .box [(sl tRelation r_3.1.relations), (sl tFact r_3.1.facts)], .dead, .row (flat tInt.enc ([0, 1, 2, 9, 10] : (List Int)))] ?_ (fun hj5_3 => ?_)
   ·skip
    refine TA_all [0, 3] (by kernel_rfl) (by decide) ⟨?_, ?_, trivial⟩
    ·skip
     refine ⟨_, rfl, rfl, (TOp_pure (pur_ldK_b agg41 rfl rfl (lb rfl) rfl) rfl ?_)⟩
     exact tj hj3_3 rfl (w0 5)
    ·skip
     refine ⟨_, rfl, rfl, (TOp_callS [1] (call_static ent60 rfl) (by decide) rfl rfl rfl rfl rfl rfl (m_spec_l1PickInt_x _ _ _ h_6) rfl rfl ?_)⟩
     refine tae [(2, (.b 0 0)), (6, (.b 2 0)), (12, (.b 1 0)), (13, (sl tInt ([0, 1, 2, 9, 10, -1] : (List Int)))), (14, (intA r_5.1)), (15, (.b 1 0)), (16, (.m [4] 0 ([0, 1, 2, 9, 10] : (List Int)).length tInt.k))] rfl ?_
     refine TA_st (σ' := [.box [.n, .n], .box [(sl (tI .u8) r_5.2.b), (intA r_5.2.i), (intA r_5.2.h)], .box [(sl tRelation r_3.1.relations), (sl tFact r_3.1.facts)], .dead, .row (flat tInt.enc ([0, 1, 2, 9, 10] : (List Int)))]) rfl ?_
     refine TA_ghost (E' := [(2, (.b 0 0)), (6, (.b 2 0)), (12, (.b 1 0)), (13, (sl tInt ([0, 1, 2, 9, 10, -1] : (List Int)))), (14, (intA r_5.1)), (15, (.b 1 0)), (16, (.m [4] 0 ([0, 1, 2, 9, 10] : (List Int)).length tInt.k))]) (σ' := [.box [.n, .n], .box [(sl (tI .u8) r_5.2.b), (intA r_5.2.i), (intA r_5.2.h)], .box [(sl tRelation r_3.1.relations), (sl tFact r_3.1.facts)], .dead, .row (flat tInt.enc ([0, 1, 2, 9, 10] : (List Int)))]) (Ghost.weak (WeakL.to 5 (lb rfl) rfl rfl rfl rfl ⟨leR rfl, leR rfl, leR rfl, leR rfl, leR rfl, leR rfl, leR rfl, trivial⟩)) ?_
     refine TA_frz1 4 (E' := [(2, (.b 0 0)), (6, (.b 2 0)), (12, (.b 1 0)), (13, (sl tInt ([0, 1, 2, 9, 10, -1] : (List Int)))), (14, (intA r_5.1)), (15, (.b 1 0)), (16, (sl tInt ([0, 1, 2, 9, 10] : (List Int))))]) rfl rfl (lb rfl) ⟨(.keep rfl), (.keep rfl), (.keep rfl), (.keep rfl), (.keep rfl), (.keep rfl), fz1E, trivial⟩ ?_
     refine TA_st (σ' := [.box [.n, .n], .box [(sl (tI .u8) r_5.2.b), (intA r_5.2.i), (intA r_5.2.h)], .box [(sl tRelation r_3.1.relations), (sl tFact r_3.1.facts)], .dead, .dead]) rfl ?_
     exact tj hj2_3 rfl (w0 5)
   refine TA_have 6 #[true, true, false, false, true, true, false, false, false, false] [(2, (.b 0 0)), (11, (.g (tDatabase.enc r_3.1))), (12, (.b 1 0)), (15, (.b 1 0)), (16, (.m [4] 0 ([0, 1, 2, 9, 10] : (List Int)).length tInt.k))] [.box [.n, .n], .box [(sl (tI .u8) r_3.2.b), (intA r_3.2.i), (intA r_3.2.h)], .box [(sl tRelation r_3.1.relations), (sl tFact r_3.1.facts)], .dead, .row (flat tInt.enc ([0, 1, 2, 9, 10] : (List Int)))] ?_ (fun hj6_3 => ?_)
   ·skip
    refine t1 2 (by kernel_rfl) rfl rfl (TOp_lit (nn := 6) (k := 1) sl53 zero3 rfl rfl rfl rfl (by decide) ?_)
    refine tmw 3 5 (by decide) (lb rfl) rfl rfl (lb rfl) rfl ?_
    refine TA_ghost (E' := [(2, (.b 0 0)), (11, (.g (tDatabase.enc r_3.1))), (12, (.b 1 0)), (13, (.m [3] 0 ([0, 1, 2, 9, 10, -1] : (List Int)).length tInt.k)), (15, (.b 1 0)), (16, (.m [4] 0 ([0, 1, 2, 9, 10] : (List Int)).length tInt.k))]) (σ' := [.box [.n, .n], .box [(sl (tI .u8) r_3.2.b), (intA r_3.2.i), (intA r_3.2.h)], .box [(sl tRelation r_3.1.relations), (sl tFact r_3.1.facts)], .row (flat tInt.enc ([0, 1, 2, 9, 10, -1] : (List Int))), .row (flat tInt.enc ([0, 1, 2, 9, 10] : (List Int))), .dead]) (Ghost.weak (WeakL.to 6 (lb rfl) rfl rfl rfl rfl ⟨leR rfl, leR rfl, leR rfl, leR rfl, leR rfl, leR rfl, trivial⟩)) ?_
    refine TA_frz1 3 (E' := [(2, (.b 0 0)), (11, (.g (tDatabase.enc r_3.1))), (12, (.b 1 0)), (13, (sl tInt ([0, 1, 2, 9, 10, -1] : (List Int)))), (15, (.b 1 0)), (16, (.m [4] 0 ([0, 1, 2, 9, 10] : (List Int)).length tInt.k))]) rfl rfl (lb rfl) ⟨(.keep rfl), (.keep rfl), (.keep rfl), fz1E, (.keep rfl), (.keep rfl), trivial⟩ ?_
    refine TA_st (σ' := [.box [.n, .n], .box [(sl (tI .u8) r_3.2.b), (intA r_3.2.i), (intA r_3.2.h)], .box [(sl tRelation r_3.1.relations), (sl tFact r_3.1.facts)], .dead, .row (flat tInt.enc ([0, 1, 2, 9, 10] : (List Int))), .dead]) rfl ?_
    exact tj hj3_3 rfl (w0 5)
   refine TA_have 6 #[true, true, true, false, true, false, false, false, false, false] [(2, (.b 0 0)), (11, (.g (tDatabase.enc r_3.1))), (12, (.b 1 0)), (13, (sl tInt ([0, 1, 2, 9, 10, -1] : (List Int)))), (15, (.b 1 0))] [.box [.n, .n], .box [(sl (tI .u8) r_3.2.b), (intA r_3.2.i), (intA r_3.2.h)], .box [(sl tRelation r_3.1.relations), (sl tFact r_3.1.facts)], .dead, .dead] ?_ (fun hj7_3 => ?_)
   ·skip
    refine TA_all [3, 5] (by kernel_rfl) (by decide) ⟨?_, ?_, trivial⟩
    ·skip
     refine ⟨_, rfl, rfl, (TOp_callS [1] (call_static ent60 rfl) (by decide) rfl rfl rfl rfl rfl rfl (m_spec_l1PickInt_x _ _ _ h_6) rfl rfl ?_)⟩
     refine tae [(2, (.b 0 0)), (11, (.g (tDatabase.enc r_3.1))), (12, (.b 1 0)), (13, (sl tInt ([0, 1, 2, 9, 10, -1] : (List Int)))), (14, (intA r_5.1)), (15, (.b 1 0))] rfl ?_
     refine TA_st (σ' := [.box [.n, .n], .box [(sl (tI .u8) r_5.2.b), (intA r_5.2.i), (intA r_5.2.h)], .box [(sl tRelation r_3.1.relations), (sl tFact r_3.1.facts)], .dead, .dead]) rfl ?_
     exact tj hj4_3 rfl (w0 5)
    ·skip
     refine ⟨_, rfl, rfl, (TOp_lit (nn := 5) (k := 1) sl53 zero3 rfl rfl rfl rfl (by decide) ?_)⟩
     refine tmw 4 5 (by decide) (lb rfl) rfl rfl (lb rfl) rfl ?_
     exact tj hj3_3 rfl (w0 5)
   refine pa tb [1, 4] 8 rfl (by kernel_rfl) rfl ?_
   refine TA_all [0, 2, 5] (by kernel_rfl) (by decide) ⟨?_, ?_, ?_, trivial⟩
   ·skip
    refine ⟨_, rfl, rfl, (TOp_pure (pur_ldK_b agg41 rfl rfl (lb rfl) rfl) rfl ?_)⟩
    refine TA_all [2, 5] (by kernel_rfl) (by decide) ⟨?_, ?_, trivial⟩
    ·skip
     refine ⟨_, rfl, rfl, (TOp_lit (nn := 6) (k := 1) sl53 zero3 rfl rfl rfl rfl (by decide) ?_)⟩
     refine tmw 3 5 (by decide) (lb rfl) rfl rfl (lb rfl) rfl ?_
     refine TA_ghost (E' := [(2, (.b 0 0)), (5, (.b 1 0)), (6, (.b 2 0)), (11, (.g (tDatabase.enc r_3.1))), (12, (.b 1 0)), (13, (.m [3] 0 ([0, 1, 2, 9, 10, -1] : (List Int)).length tInt.k)), (15, (.b 1 0))]) (σ' := [.box [.n, .n], .box [(sl (tI .u8) r_3.2.b), (intA r_3.2.i), (intA r_3.2.h)], .box [(sl tRelation r_3.1.relations), (sl tFact r_3.1.facts)], .row (flat tInt.enc ([0, 1, 2, 9, 10, -1] : (List Int))), .dead, .dead]) (Ghost.weak (WeakL.to 6 (lb rfl) rfl rfl rfl rfl ⟨leR rfl, leR rfl, leR rfl, leR rfl, leR rfl, leR rfl, leR rfl, trivial⟩)) ?_
     refine TA_frz1 3 (E' := [(2, (.b 0 0)), (5, (.b 1 0)), (6, (.b 2 0)), (11, (.g (tDatabase.enc r_3.1))), (12, (.b 1 0)), (13, (sl tInt ([0, 1, 2, 9, 10, -1] : (List Int)))), (15, (.b 1 0))]) rfl rfl (lb rfl) ⟨(.keep rfl), (.keep rfl), (.keep rfl), (.keep rfl), (.keep rfl), fz1E, (.keep rfl), trivial⟩ ?_
     refine TA_st (σ' := [.box [.n, .n], .box [(sl (tI .u8) r_3.2.b), (intA r_3.2.i), (intA r_3.2.h)], .box [(sl tRelation r_3.1.relations), (sl tFact r_3.1.facts)], .dead, .dead, .dead]) rfl ?_
     exact tj hj7_3 rfl (w0 5)
    ·skip
     refine ⟨_, rfl, rfl, (TOp_lit (nn := 5) (k := 1) sl53 zero3 rfl rfl rfl rfl (by decide) ?_)⟩
     refine tmw 4 5 (by decide) (lb rfl) rfl rfl (lb rfl) rfl ?_
     exact tj hj6_3 rfl (w0 5)
   ·skip
    refine ⟨_, rfl, rfl, (TOp_lit (nn := 6) (k := 1) sl53 zero3 rfl rfl rfl rfl (by decide) ?_)⟩
    refine tmw 3 5 (by decide) (lb rfl) rfl rfl (lb rfl) rfl ?_
    refine TA_ghost (E' := [(2, (.b 0 0)), (5, (.b 1 0)), (6, (.b 2 0)), (12, (.b 1 0)), (13, (.m [3] 0 ([0, 1, 2, 9, 10, -1] : (List Int)).length tInt.k)), (15, (.b 1 0))]) (σ' := [.box [.n, .n], .box [(sl (tI .u8) r_3.2.b), (intA r_3.2.i), (intA r_3.2.h)], .box [(sl tRelation r_3.1.relations), (sl tFact r_3.1.facts)], .row (flat tInt.enc ([0, 1, 2, 9, 10, -1] : (List Int))), .dead, .dead]) (Ghost.weak (WeakL.to 6 (lb rfl) rfl rfl rfl rfl ⟨leR rfl, leR rfl, leR rfl, leR rfl, leR rfl, leR rfl, trivial⟩)) ?_
    refine TA_frz1 3 (E' := [(2, (.b 0 0)), (5, (.b 1 0)), (6, (.b 2 0)), (12, (.b 1 0)), (13, (sl tInt ([0, 1, 2, 9, 10, -1] : (List Int)))), (15, (.b 1 0))]) rfl rfl (lb rfl) ⟨(.keep rfl), (.keep rfl), (.keep rfl), (.keep rfl), fz1E, (.keep rfl), trivial⟩ ?_
    refine TA_st (σ' := [.box [.n, .n], .box [(sl (tI .u8) r_3.2.b), (intA r_3.2.i), (intA r_3.2.h)], .box [(sl tRelation r_3.1.relations), (sl tFact r_3.1.facts)], .dead, .dead, .dead]) rfl ?_
    refine TA_all [0, 3, 5] (by kernel_rfl) (by decide) ⟨?_, ?_, ?_, trivial⟩
    ·skip
     refine ⟨_, rfl, rfl, (TOp_pure (pur_ldK_b agg41 rfl rfl (lb rfl) rfl) rfl ?_)⟩
     exact tj hj7_3 rfl (w0 5)
    ·skip
     refine ⟨_, rfl, rfl, (TOp_callS [1] (call_static ent60 rfl) (by decide) rfl rfl rfl rfl rfl rfl (m_spec_l1PickInt_x _ _ _ h_6) rfl rfl ?_)⟩
     refine tae [(2, (.b 0 0)), (5, (.b 1 0)), (6, (.b 2 0)), (12, (.b 1 0)), (13, (sl tInt ([0, 1, 2, 9, 10, -1] : (List Int)))), (14, (intA r_5.1)), (15, (.b 1 0))] rfl ?_
     refine TA_st (σ' := [.box [.n, .n], .box [(sl (tI .u8) r_5.2.b), (intA r_5.2.i), (intA r_5.2.h)], .box [(sl tRelation r_3.1.relations), (sl tFact r_3.1.facts)], .dead, .dead, .dead]) rfl ?_
     refine TA_all [0, 5] (by kernel_rfl) (by decide) ⟨?_, ?_, trivial⟩
     ·skip
      refine ⟨_, rfl, rfl, (TOp_pure (pur_ldK_b agg41 rfl rfl (lb rfl) rfl) rfl ?_)⟩
      exact tj hj4_3 rfl (w0 5)
     ·skip
      refine ⟨_, rfl, rfl, (TOp_lit (nn := 5) (k := 1) sl53 zero3 rfl rfl rfl rfl (by decide) ?_)⟩
      refine tmw 4 6 (by decide) (lb rfl) rfl rfl (lb rfl) rfl ?_
      refine tae [(2, (.b 0 0)), (6, (.b 2 0)), (14, (intA r_5.1)), (15, (.b 1 0)), (16, (.m [4] 0 ([0, 1, 2, 9, 10] : (List Int)).length tInt.k))] rfl ?_
      refine TA_st (σ' := [.box [.n, .n], .box [(sl (tI .u8) r_5.2.b), (intA r_5.2.i), (intA r_5.2.h)], .box [(sl tRelation r_3.1.relations), (sl tFact r_3.1.facts)], .dead, .row (flat tInt.enc ([0, 1, 2, 9, 10] : (List Int))), .dead, .dead]) rfl ?_
      refine TA_ghost (E' := [(2, (.b 0 0)), (6, (.b 2 0)), (14, (intA r_5.1)), (15, (.b 1 0)), (16, (.m [4] 0 ([0, 1, 2, 9, 10] : (List Int)).length tInt.k))]) (σ' := [.box [.n, .n], .box [(sl (tI .u8) r_5.2.b), (intA r_5.2.i), (intA r_5.2.h)], .box [(sl tRelation r_3.1.relations), (sl tFact r_3.1.facts)], .dead, .row (flat tInt.enc ([0, 1, 2, 9, 10] : (List Int))), .dead, .dead]) (Ghost.weak (WeakL.to 7 (lb rfl) rfl rfl rfl rfl ⟨leR rfl, leR rfl, leR rfl, leR rfl, leR rfl, trivial⟩)) ?_
      refine TA_frz1 4 (E' := [(2, (.b 0 0)), (6, (.b 2 0)), (14, (intA r_5.1)), (15, (.b 1 0)), (16, (sl tInt ([0, 1, 2, 9, 10] : (List Int))))]) rfl rfl (lb rfl) ⟨(.keep rfl), (.keep rfl), (.keep rfl), (.keep rfl), fz1E, trivial⟩ ?_
      refine TA_st (σ' := [.box [.n, .n], .box [(sl (tI .u8) r_5.2.b), (intA r_5.2.i), (intA r_5.2.h)], .box [(sl tRelation r_3.1.relations), (sl tFact r_3.1.facts)], .dead, .dead, .dead, .dead]) rfl ?_
      exact tj hj2_3 rfl (w0 5)
    ·skip
     refine ⟨_, rfl, rfl, (TOp_lit (nn := 5) (k := 1) sl53 zero3 rfl rfl rfl rfl (by decide) ?_)⟩
     refine tmw 4 6 (by decide) (lb rfl) rfl rfl (lb rfl) rfl ?_
     exact tj hj5_3 rfl (w0 5)
   ·skip
    refine ⟨_, rfl, rfl, (TOp_lit (nn := 5) (k := 1) sl53 zero3 rfl rfl rfl rfl (by decide) ?_)⟩
    refine tmw 4 5 (by decide) (lb rfl) rfl rfl (lb rfl) rfl ?_
    refine TA_all [0, 2] (by kernel_rfl) (by decide) ⟨?_, ?_, trivial⟩
    ·skip
     refine ⟨_, rfl, rfl, (TOp_pure (pur_ldK_b agg41 rfl rfl (lb rfl) rfl) rfl ?_)⟩
     exact tj hj6_3 rfl (w0 5)
    ·skip
     refine ⟨_, rfl, rfl, (TOp_lit (nn := 6) (k := 1) sl53 zero3 rfl rfl rfl rfl (by decide) ?_)⟩
     refine tmw 3 6 (by decide) (lb rfl) rfl rfl (lb rfl) rfl ?_
     refine tae [(2, (.b 0 0)), (6, (.b 2 0)), (12, (.b 1 0)), (13, (.m [3] 0 ([0, 1, 2, 9, 10, -1] : (List Int)).length tInt.k)), (15, (.b 1 0)), (16, (.m [4] 0 ([0, 1, 2, 9, 10] : (List Int)).length tInt.k))] rfl ?_
     refine TA_st (σ' := [.box [.n, .n], .box [(sl (tI .u8) r_3.2.b), (intA r_3.2.i), (intA r_3.2.h)], .box [(sl tRelation r_3.1.relations), (sl tFact r_3.1.facts)], .row (flat tInt.enc ([0, 1, 2, 9, 10, -1] : (List Int))), .row (flat tInt.enc ([0, 1, 2, 9, 10] : (List Int))), .dead, .dead]) rfl ?_
     refine TA_ghost (E' := [(2, (.b 0 0)), (6, (.b 2 0)), (12, (.b 1 0)), (13, (.m [3] 0 ([0, 1, 2, 9, 10, -1] : (List Int)).length tInt.k)), (15, (.b 1 0)), (16, (.m [4] 0 ([0, 1, 2, 9, 10] : (List Int)).length tInt.k))]) (σ' := [.box [.n, .n], .box [(sl (tI .u8) r_3.2.b), (intA r_3.2.i), (intA r_3.2.h)], .box [(sl tRelation r_3.1.relations), (sl tFact r_3.1.facts)], .row (flat tInt.enc ([0, 1, 2, 9, 10, -1] : (List Int))), .row (flat tInt.enc ([0, 1, 2, 9, 10] : (List Int))), .dead, .dead]) (Ghost.weak (WeakL.to 7 (lb rfl) rfl rfl rfl rfl ⟨leR rfl, leR rfl, leR rfl, leR rfl, leR rfl, leR rfl, trivial⟩)) ?_
     refine TA_frz1 3 (E' := [(2, (.b 0 0)), (6, (.b 2 0)), (12, (.b 1 0)), (13, (sl tInt ([0, 1, 2, 9, 10, -1] : (List Int)))), (15, (.b 1 0)), (16, (.m [4] 0 ([0, 1, 2, 9, 10] : (List Int)).length tInt.k))]) rfl rfl (lb rfl) ⟨(.keep rfl), (.keep rfl), (.keep rfl), fz1E, (.keep rfl), (.keep rfl), trivial⟩ ?_
     refine TA_st (σ' := [.box [.n, .n], .box [(sl (tI .u8) r_3.2.b), (intA r_3.2.i), (intA r_3.2.h)], .box [(sl tRelation r_3.1.relations), (sl tFact r_3.1.facts)], .dead, .row (flat tInt.enc ([0, 1, 2, 9, 10] : (List Int))), .dead, .dead]) rfl ?_
     exact tj hj5_3 rfl (w0 5)
  ·rintro _ _
   refine T_ret ?_
   obtain rfl := some_inj H
   refine end_ret (.cellK rfl agg41 rfl (lb rfl) (.tmp (.tmp .nil))) rfl rfl ⟨?_, rfl⟩
   rfl

set_option maxHeartbeats 1000000 in
theorem m_spec_EqualDatabases_ok (u : Nat) (a0 : Database) (b1 : Database) (r : Bool) (H : m_spec_EqualDatabases u a0 b1 = some r) : FnV prg 24 [(.g (tDatabase.enc a0)), (.g (tDatabase.enc b1))] (boolA r) := by
  unfold m_spec_EqualDatabases at H
  refine fnV_of_T Try.func24 rfl rfl (Nat.le_of_ble_eq_true rfl) ?_
  refine te [(0, (.g (tDatabase.enc a0))), (1, (.g (tDatabase.enc b1)))] rfl ?_
  refine sr ?_
  refine TO_cons rfl (TOp_box rfl (boxAll rfl) rfl rfl ?_)
  refine TO_cons rfl (TOp_box rfl (boxAll rfl) rfl rfl ?_)
  refine pv tb 1 rfl ?_
  refine TO_nil ?_
  refine T_seq ?_
  refine T_cutX (fun x => ((decide ((a0.relations.length : Int) ≠ (b1.relations.length : Int))) || (decide ((a0.facts.length : Int) ≠ (b1.facts.length : Int)))) = x) (fun (t22_1 : Bool) => [(2, (.b 0 0)), (3, (.b 1 0)), (22, (boolA t22_1))]) (fun (t22_1 : Bool) => [.box [(sl tRelation a0.relations), (sl tFact a0.facts)], .box [(sl tRelation b1.relations), (sl tFact b1.facts)]]) ?_ ?_
  ·skip
   refine T_region ?_
   refine pv tb 2 rfl ?_
   refine Tp rfl rfl (pur_lenT (T := tRelation) sl38 rfl rfl) rfl ?_
   refine pv tb 2 rfl ?_
   refine Tp rfl rfl (pur_lenT (T := tRelation) sl38 rfl rfl) rfl ?_
   refine pv tb 2 rfl ?_
   refine TO_split (t := decide ((a0.relations.length : Int) ≠ (b1.relations.length : Int))) 14 rfl (fun g_3 => ?_) (fun g_3 => ?_)
   ·skip
    refine pv tb 8 rfl ?_
    refine TO_nil ?_
    exact joined true (w0 2) (by first | exact Eq.symm ((or_T g_3 rfl)))
   ·skip
    refine pv tb 2 rfl ?_
    refine TO_on rfl rfl (by decide) rfl rfl (TOp_pure (pur_lenT (T := tFact) sl39 rfl rfl) rfl ?_)
    refine pv tb 2 rfl ?_
    refine TO_on rfl rfl (by decide) rfl rfl (TOp_pure (pur_lenT (T := tFact) sl39 rfl rfl) rfl ?_)
    refine pv tb 2 rfl ?_
    refine TO_nil ?_
    exact joined (decide ((a0.facts.length : Int) ≠ (b1.facts.length : Int))) (w0 2) (by first | exact Eq.symm ((or_F g_3 rfl)))
  ·rintro _ rfl
   refine T_cond (t := ((decide ((a0.relations.length : Int) ≠ (b1.relations.length : Int))) || (decide ((a0.facts.length : Int) ≠ (b1.facts.length : Int))))) rfl (fun c_4 => ?_) (fun c_4 => ?_)
   ·replace H := cond_t c_4 H
    refine sr ?_
    refine pv tb 1 rfl ?_
    refine TO_nil ?_
    refine T_ret ?_
    refine then_ret ?_
    obtain rfl := some_inj H
    refine end_ret (.tmp .nil) rfl rfl ⟨?_, rfl⟩
    rfl
   ·replace H := cond_f c_4 H
    refine T_skip ?_
    refine T_seq ?_
    refine sr ?_
    refine pv tb 1 rfl ?_
    refine TO_nil ?_
    obtain ⟨O5_, L5_, N5_⟩ := bind_inv H
    clear H
    obtain ⟨B5_, hb5, L5_⟩ := gen_whileF L5_
    refine T_block ?_
    refine T_loopX (fun k => fun (i5 : Int) => whileF B5_ k i5 = some O5_) (fun (i5 : Int) => [(2, (.b 0 0)), (3, (.b 1 0)), (5, (intA i5))]) (fun (i5 : Int) => [.box [(sl tRelation a0.relations), (sl tFact a0.facts)], .box [(sl tRelation b1.relations), (sl tFact b1.facts)]]) u 0 (w0 2) L5_ ?_
    rintro _ i5 L5_
    obtain ⟨k5, rfl, C5_, H, K5_⟩ := while_step L5_
    rw [hb5] at H
    refine T_seq ?_
    refine sr ?_
    refine pv tb 3 rfl ?_
    refine Tp rfl rfl (pur_lenT (T := tRelation) sl38 rfl rfl) rfl ?_
    refine pv tb 1 rfl ?_
    refine TO_nil ?_
    refine T_cond (t := decide (i5 < (a0.relations.length : Int))) rfl (fun c_6 => ?_) (fun c_6 => ?_)
    ·replace H := cond_t c_6 H
     refine T_skip ?_
     refine T_seq ?_
     refine T_block ?_
     refine T_seq ?_
     refine T_regionD mixed (by kernel_rfl) ?_
     obtain ⟨v_7, h_8, H⟩ := bind_inv H
     obtain ⟨n_9, hz_10, hv_11⟩ := getI_inv h_8
     refine pq tb 3 rfl ?_
     refine TQ_pure rfl (pur_ixT (T := tRelation) sl38 rfl rfl hz_10 hv_11 rfl) rfl ?_
     refine TQ_pure rfl (pur_ldTK (T := tRelation) (i := n_9) (off := 0) rfl agg89 rfl rfl hv_11 (by decide) rfl) rfl ?_
     obtain ⟨v_12, h_13, H⟩ := bind_inv H
     obtain ⟨n_14, hz_15, hv_16⟩ := getI_inv h_13
     refine pq tb 3 rfl ?_
     refine TQ_pure rfl (pur_ixT (T := tRelation) sl38 rfl rfl hz_15 hv_16 rfl) rfl ?_
     refine TQ_pure rfl (pur_ldTK (T := tRelation) (i := n_14) (off := 0) rfl agg89 rfl rfl hv_16 (by decide) rfl) rfl ?_
     refine TQ_pure rfl (pur_neqT [.s v_7.name v_12.name, .i v_7.arity v_12.arity, .i v_7.keyLength v_12.keyLength] eqs89 rfl rfl rfl rfl) rfl ?_
     refine TQ_nil ?_
     refine te [(2, (.b 0 0)), (3, (.b 1 0)), (5, (intA i5)), (40, (boolA (!(cmpSc [.s v_7.name v_12.name, .i v_7.arity v_12.arity, .i v_7.keyLength v_12.keyLength]))))] rfl ?_
     refine T_cond (t := (!(cmpSc [.s v_7.name v_12.name, .i v_7.arity v_12.arity, .i v_7.keyLength v_12.keyLength]))) rfl (fun c_17 => ?_) (fun c_17 => ?_)
     ·replace H := cond_t c_17 H
      refine sr ?_
      refine pv tb 1 rfl ?_
      refine TO_nil ?_
      refine T_ret ?_
      refine block_ret ?_
      refine then_ret ?_
      refine then_ret ?_
      refine block_ret ?_
      refine then_ret ?_
      obtain rfl := some_inj H
      obtain rfl := some_inj K5_
      replace H := onS_r N5_
      obtain rfl := some_inj H
      refine end_ret (.tmp .nil) rfl rfl ⟨?_, rfl⟩
      rfl
     ·replace H := cond_f c_17 H
      refine T_skip ?_
      refine T_region ?_
      refine pv tb 3 rfl ?_
      refine TO_nil ?_
      obtain rfl := some_inj H
      exact again k5 (w64 (i5 + 1)) (Nat.lt_succ_self _) (w0 2) K5_
    ·replace H := cond_f c_6 H
     refine T_exit ?_
     refine then_exit ?_
     refine then_exit ?_
     refine block_exit ?_
     obtain rfl := some_inj H
     obtain rfl := some_inj K5_
     replace H := onS_l N5_
     refine T_seq ?_
     refine sr ?_
     refine pv tb 1 rfl ?_
     refine TO_nil ?_
     obtain ⟨O18_, L18_, N18_⟩ := bind_inv H
     clear H
     obtain ⟨B18_, hb18, L18_⟩ := gen_whileF L18_
     refine T_block ?_
     refine T_loopX (fun k => fun (i6 : Int) => whileF B18_ k i6 = some O18_) (fun (i6 : Int) => [(2, (.b 0 0)), (3, (.b 1 0)), (6, (intA i6))]) (fun (i6 : Int) => [.box [(sl tRelation a0.relations), (sl tFact a0.facts)], .box [(sl tRelation b1.relations), (sl tFact b1.facts)]]) u 0 (w0 2) L18_ ?_
     rintro _ i6 L18_
     obtain ⟨k18, rfl, C18_, H, K18_⟩ := while_step L18_
     rw [hb18] at H
     refine T_seq ?_
     refine sr ?_
     refine pv tb 3 rfl ?_
     refine Tp rfl rfl (pur_lenT (T := tFact) sl39 rfl rfl) rfl ?_
     refine pv tb 1 rfl ?_
     refine TO_nil ?_
     refine T_cond (t := decide (i6 < (a0.facts.length : Int))) rfl (fun c_19 => ?_) (fun c_19 => ?_)
     ·replace H := cond_t c_19 H
      refine T_skip ?_
      refine T_seq ?_
      refine T_block ?_
      refine T_seq ?_
      refine T_regionD mixed (by kernel_rfl) ?_
      obtain ⟨v_20, h_21, H⟩ := bind_inv H
      obtain ⟨n_22, hz_23, hv_24⟩ := getI_inv h_21
      refine pq tb 3 rfl ?_
      refine TQ_pure rfl (pur_ixT (T := tFact) sl39 rfl rfl hz_23 hv_24 rfl) rfl ?_
      refine TQ_pure rfl (pur_ldTK (T := tFact) (i := n_22) (off := 0) rfl agg55 rfl rfl hv_24 (by decide) rfl) rfl ?_
      obtain ⟨v_25, h_26, H⟩ := bind_inv H
      obtain ⟨n_27, hz_28, hv_29⟩ := getI_inv h_26
      refine pq tb 3 rfl ?_
      refine TQ_pure rfl (pur_ixT (T := tFact) sl39 rfl rfl hz_28 hv_29 rfl) rfl ?_
      refine TQ_pure rfl (pur_ldTK (T := tFact) (i := n_27) (off := 0) rfl agg55 rfl rfl hv_29 (by decide) rfl) rfl ?_
      obtain ⟨r_30, h_31, H⟩ := bind_inv H
      refine TQ_callV rfl (call_static ent61 rfl) (m_spec_CompareFacts_ok u _ _ _ h_31) rfl rfl ?_
      refine pq tb 1 rfl ?_
      refine TQ_nil ?_
      refine te [(2, (.b 0 0)), (3, (.b 1 0)), (6, (intA i6)), (59, (boolA (decide (r_30 ≠ 0))))] rfl ?_
      refine T_cond (t := decide (r_30 ≠ 0)) rfl (fun c_32 => ?_) (fun c_32 => ?_)
      ·replace H := cond_t c_32 H
       refine sr ?_
       refine pv tb 1 rfl ?_
       refine TO_nil ?_
       refine T_ret ?_
       refine block_ret ?_
       refine then_ret ?_
       refine then_ret ?_
       refine block_ret ?_
       refine then_ret ?_
       obtain rfl := some_inj H
       obtain rfl := some_inj K18_
       replace H := onS_r N18_
       obtain rfl := some_inj H
       refine end_ret (.tmp .nil) rfl rfl ⟨?_, rfl⟩
       rfl
      ·replace H := cond_f c_32 H
       refine T_skip ?_
       refine T_region ?_
       refine pv tb 3 rfl ?_
       refine TO_nil ?_
       obtain rfl := some_inj H
       exact again k18 (w64 (i6 + 1)) (Nat.lt_succ_self _) (w0 2) K18_
     ·replace H := cond_f c_19 H
      refine T_exit ?_
      refine then_exit ?_
      refine then_exit ?_
      refine block_exit ?_
      obtain rfl := some_inj H
      obtain rfl := some_inj K18_
      replace H := onS_l N18_
      refine sr ?_
      refine pv tb 1 rfl ?_
      refine TO_nil ?_
      refine T_ret ?_
      obtain rfl := some_inj H
      refine end_ret (.tmp .nil) rfl rfl ⟨?_, rfl⟩
      rfl

set_option maxHeartbeats 1000000 in
theorem m_laws_has_ok (l0 : (List Int)) (x1 : Int) (r : Bool) (H : m_laws_has l0 x1 = some r) : FnV prg 25 [(sl tInt l0), (intA x1)] (boolA r) := by
  unfold m_laws_has at H
  refine fnV_of_T Try.func25 rfl rfl (Nat.le_of_ble_eq_true rfl) ?_
  refine te [(0, (sl tInt l0)), (1, (intA x1))] rfl ?_
  refine sr ?_
  refine pv tb 1 rfl ?_
  refine TO_nil ?_
  refine T_seq ?_
  refine sr ?_
  refine pv tb 1 rfl ?_
  refine TO_nil ?_
  obtain ⟨O2_, L2_, N2_⟩ := bind_inv H
  clear H
  obtain ⟨B2_, hb2, L2_⟩ := gen_forL L2_
  refine T_block ?_
  refine T_loopX (fun k => fun (i_1 : Nat) => k = l0.length - i_1 ∧ forL B2_ (l0.drop i_1) (i_1 : Int) () = some O2_) (fun (i_1 : Nat) => [(0, (sl tInt l0)), (1, (intA x1)), (5, (intA (i_1 : Int)))]) (fun (i_1 : Nat) => []) _ (0 : Nat) (w0 0) ⟨rfl, L2_⟩ ?_
  rintro _ i_1 ⟨rfl, L2_⟩
  refine T_fact (len_sl (T := tInt) (.tmp 0) rfl) (fun hl2 => ?_)
  refine T_seq ?_
  refine sr ?_
  refine pv tb 2 rfl ?_
  refine Tp rfl rfl (pur_lenT (T := tInt) sl53 rfl rfl) rfl ?_
  refine pv tb 1 rfl ?_
  refine TO_nil ?_
  refine T_cond (t := decide ((i_1 : Int) < (l0.length : Int))) rfl (fun d2 => ?_) (fun d2 => ?_)
  ·replace d2 := of_decide_eq_true d2
   obtain ⟨x_i_1, hx_i_1⟩ : ∃ v, (l0)[i_1]? = some v := ⟨_, List.getElem?_eq_getElem (by omega)⟩
   obtain ⟨C2_, H, K2_⟩ := forL_step L2_ hx_i_1
   rw [hb2] at H
   refine T_skip ?_
   refine T_seq ?_
   refine T_block ?_
   refine sr ?_
   refine pv tb 2 rfl ?_
   refine Tp rfl rfl (pur_ixT (T := tInt) sl53 rfl rfl rfl hx_i_1 rfl) rfl ?_
   refine Tp rfl rfl (pur_ldT (T := tInt) (i := i_1) (off := 0) rfl one3 rfl rfl hx_i_1 rfl) rfl ?_
   refine pv tb 2 rfl ?_
   refine TO_nil ?_
   refine T_cond (t := decide (x_i_1 = x1)) rfl (fun c_3 => ?_) (fun c_3 => ?_)
   ·replace H := cond_t c_3 H
    refine sr ?_
    refine pv tb 1 rfl ?_
    refine TO_nil ?_
    refine T_ret ?_
    refine block_ret ?_
    refine then_ret ?_
    refine then_ret ?_
    refine block_ret ?_
    refine then_ret ?_
    obtain rfl := some_inj H
    obtain rfl := some_inj K2_
    replace H := onS_r N2_
    obtain rfl := some_inj H
    refine end_ret (.tmp .nil) rfl rfl ⟨?_, rfl⟩
    rfl
   ·replace H := cond_f c_3 H
    refine T_skip ?_
    refine T_region ?_
    refine pv tb 1 rfl ?_
    refine Tp rfl rfl (pur_add rfl rfl rfl (fits64 (by omega) (by omega))) rfl ?_
    refine pv tb 1 rfl ?_
    refine TO_nil ?_
    obtain rfl := some_inj H
    exact again (l0.length - (i_1 + 1)) (i_1 + 1) (by omega) (w0 0) ⟨rfl, K2_⟩
  ·replace d2 := of_decide_eq_false d2
   obtain rfl := forL_end L2_ (by omega)
   refine T_exit ?_
   refine then_exit ?_
   refine then_exit ?_
   refine block_exit ?_
   replace H := onS_l N2_
   refine sr ?_
   refine pv tb 1 rfl ?_
   refine TO_nil ?_
   refine T_ret ?_
   obtain rfl := some_inj H
   refine end_ret (.tmp .nil) rfl rfl ⟨?_, rfl⟩
   rfl

set_option maxHeartbeats 1000000 in
theorem m_laws_FnMergeValues_ok (u : Nat) (code0 : (List Int)) (r : Bool) (H : m_laws_FnMergeValues u code0 = some r) : FnV prg 5 [(sl (tI .u8) code0)] (boolA r) := by
  unfold m_laws_FnMergeValues at H
  refine fnV_of_T Try.func5 rfl rfl (Nat.le_of_ble_eq_true rfl) ?_
  refine te [(0, (sl (tI .u8) code0))] rfl ?_
  refine sr ?_
  refine pv tb 1 rfl ?_
  refine TO_nil ?_
  refine T_seq ?_
  refine sr ?_
  obtain ⟨r_1, h_2, H⟩ := bind_inv H
  refine pv tb 1 rfl ?_
  refine TO_cons rfl (TOp_callV (call_static ent22 rfl) (m_laws_big_ok _ _ h_2) rfl rfl rfl ?_)
  refine TO_nil ?_
  refine T_cond (t := r_1) rfl (fun c_3 => ?_) (fun c_3 => ?_)
  ·replace H := cond_t c_3 H
   refine sr ?_
   refine pv tb 1 rfl ?_
   refine TO_nil ?_
   refine T_ret ?_
   refine then_ret ?_
   obtain rfl := some_inj H
   refine end_ret (.tmp .nil) rfl rfl ⟨?_, rfl⟩
   rfl
  ·replace H := cond_f c_3 H
   refine T_skip ?_
   refine sr ?_
   obtain ⟨r_4, h_5, H⟩ := bind_inv H
   refine pv tb 1 rfl ?_
   refine TO_cons rfl (TOp_callV (call_static ent23 rfl) (m_spec_DrawMergeValues_ok u _ _ h_5) rfl rfl rfl ?_)
   refine pv tb 4 rfl ?_
   refine TO_cons rfl (TOp_alloc zero41 rfl rfl ?_)
   refine TO_cons rfl (TOp_storeB sz41 rfl rfl rfl rfl rfl rfl rfl (by decide) (lb rfl) rfl ?_)
   refine TO_st (σ' := [.box [(sl tRelation r_4.1.relations), (sl tFact r_4.1.facts)]]) rfl ?_
   refine pv tb 2 rfl ?_
   refine TO_nil ?_
   refine sr ?_
   obtain ⟨r_6, h_7, H⟩ := bind_inv H
   refine pv tb 3 rfl ?_
   refine TO_cons rfl (TOp_callV (call_static ent18 rfl) (m_impl_MergeValues_ok _ _ _ _ h_7) rfl rfl rfl ?_)
   refine pv tb 3 rfl ?_
   refine TO_cons rfl (TOp_alloc zero41 rfl rfl ?_)
   refine TO_cons rfl (TOp_storeB sz41 rfl rfl rfl rfl rfl rfl rfl (by decide) (lb rfl) rfl ?_)
   refine TO_st (σ' := [.box [(sl tRelation r_4.1.relations), (sl tFact r_4.1.facts)], .box [(sl tRelation r_6.1.relations), (sl tFact r_6.1.facts)]]) rfl ?_
   refine pv tb 1 rfl ?_
   refine TO_nil ?_
   refine te [(3, (.b 0 0)), (4, (intA r_4.2.1)), (5, (intA r_4.2.2)), (6, (.b 1 0)), (7, (boolA r_6.2))] rfl ?_
   refine sr ?_
   obtain ⟨r_8, h_9, H⟩ := bind_inv H
   refine pv tb 3 rfl ?_
   refine TO_cons rfl (TOp_callV (call_static ent16 rfl) (m_spec_MergeValues_ok u _ _ _ _ h_9) rfl rfl rfl ?_)
   refine pv tb 3 rfl ?_
   refine TO_cons rfl (TOp_alloc zero41 rfl rfl ?_)
   refine TO_cons rfl (TOp_storeB sz41 rfl rfl rfl rfl rfl rfl rfl (by decide) (lb rfl) rfl ?_)
   refine TO_st (σ' := [.box [(sl tRelation r_4.1.relations), (sl tFact r_4.1.facts)], .box [(sl tRelation r_6.1.relations), (sl tFact r_6.1.facts)], .box [(sl tRelation r_8.1.relations), (sl tFact r_8.1.facts)]]) rfl ?_
   refine pv tb 1 rfl ?_
   refine TO_nil ?_
   refine T_seq ?_
   obtain ⟨t43_10, J_10, H_11⟩ := bind_inv H
   refine T_cutX (fun x => t43_10 = x) (fun (t43_10 : Bool) => [(3, (.b 0 0)), (4, (intA r_4.2.1)), (5, (intA r_4.2.2)), (6, (.b 1 0)), (7, (boolA r_6.2)), (43, (boolA t43_10))]) (fun (t43_10 : Bool) => [.box [(sl tRelation r_4.1.relations), (sl tFact r_4.1.facts)], .box [(sl tRelation r_6.1.relations), (sl tFact r_6.1.facts)]]) ?_ ?_
   ·replace H := J_10
    refine T_region ?_
    refine pv tb 2 rfl ?_
    refine Tp rfl rfl (pur_neqB (by kernel_rfl) rfl rfl rfl) rfl ?_
    refine pv tb 1 rfl ?_
    refine TO_split (t := (r_6.2 != r_8.2)) 38 rfl (fun g_12 => ?_) (fun g_12 => ?_)
    ·replace H := cond_t g_12 H
     refine pv tb 5 rfl ?_
     refine TO_nil ?_
     exact joined true (w0 2) (some_inj H).symm
    ·replace H := cond_f g_12 H
     obtain ⟨r_13, h_14, H⟩ := bind_inv H
     refine pv tb 2 rfl ?_
     refine TO_on rfl rfl (by decide) rfl rfl (TOp_callV (call_static ent24 rfl) (m_spec_EqualDatabases_ok u _ _ _ h_14) rfl rfl rfl ?_)
     refine pv tb 2 rfl ?_
     refine TO_nil ?_
     exact joined (!r_13) (w0 2) (some_inj H).symm
   ·rintro _ rfl
    replace H := H_11
    refine T_cond (t := t43_10) rfl (fun c_15 => ?_) (fun c_15 => ?_)
    ·replace H := cond_t c_15 H
     refine sr ?_
     refine pv tb 1 rfl ?_
     refine TO_nil ?_
     refine T_ret ?_
     refine then_ret ?_
     obtain rfl := some_inj H
     refine end_ret (.tmp .nil) rfl rfl ⟨?_, rfl⟩
     rfl
    ·replace H := cond_f c_15 H
     refine T_skip ?_
     refine T_seq ?_
     refine sr ?_
     refine pv tb 2 rfl ?_
     refine TO_nil ?_
     refine T_cond (t := (!r_6.2)) rfl (fun c_16 => ?_) (fun c_16 => ?_)
     ·replace H := cond_t c_16 H
      refine sr ?_
      obtain ⟨r_17, h_18, H⟩ := bind_inv H
      refine pv tb 2 rfl ?_
      refine TO_cons rfl (TOp_callV (call_static ent24 rfl) (m_spec_EqualDatabases_ok u _ _ _ h_18) rfl rfl rfl ?_)
      refine pv tb 1 rfl ?_
      refine TO_nil ?_
      refine T_ret ?_
      refine then_ret ?_
      obtain rfl := some_inj H
      refine end_ret (.tmp .nil) rfl rfl ⟨?_, rfl⟩
      rfl
     ·replace H := cond_f c_16 H
      refine T_skip ?_
      refine sr ?_
      obtain ⟨r_19, h_20, H⟩ := bind_inv H
      refine pv tb 3 rfl ?_
      refine TO_cons rfl (TOp_callV (call_static ent18 rfl) (m_impl_MergeValues_ok _ _ _ _ h_20) rfl rfl rfl ?_)
      refine pv tb 3 rfl ?_
      refine TO_cons rfl (TOp_alloc zero41 rfl rfl ?_)
      refine TO_cons rfl (TOp_storeB sz41 rfl rfl rfl rfl rfl rfl rfl (by decide) (lb rfl) rfl ?_)
      refine TO_st (σ' := [.box [(sl tRelation r_4.1.relations), (sl tFact r_4.1.facts)], .box [(sl tRelation r_6.1.relations), (sl tFact r_6.1.facts)], .box [(sl tRelation r_19.1.relations), (sl tFact r_19.1.facts)]]) rfl ?_
      refine pv tb 1 rfl ?_
      refine TO_nil ?_
      refine T_seq ?_
      refine sr ?_
      refine pv tb 1 rfl ?_
      refine TO_nil ?_
      obtain ⟨O21_, L21_, N21_⟩ := bind_inv H
      clear H
      obtain ⟨B21_, hb21, L21_⟩ := gen_whileF L21_
      refine T_block ?_
      refine T_loopX (fun k => fun (i12 : Int) => whileF B21_ k i12 = some O21_) (fun (i12 : Int) => [(3, (.b 0 0)), (4, (intA r_4.2.1)), (5, (intA r_4.2.2)), (6, (.b 1 0)), (10, (.b 2 0)), (12, (intA i12))]) (fun (i12 : Int) => [.box [(sl tRelation r_4.1.relations), (sl tFact r_4.1.facts)], .box [(sl tRelation r_6.1.relations), (sl tFact r_6.1.facts)], .box [(sl tRelation r_19.1.relations), (sl tFact r_19.1.facts)]]) u 0 (w0 3) L21_ ?_
      rintro _ i12 L21_
      obtain ⟨k21, rfl, C21_, H, K21_⟩ := while_step L21_
      rw [hb21] at H
      refine T_seq ?_
      refine sr ?_
      refine pv tb 3 rfl ?_
      refine Tp rfl rfl (pur_lenT (T := tFact) sl39 rfl rfl) rfl ?_
      refine pv tb 1 rfl ?_
      refine TO_nil ?_
      refine T_cond (t := decide (i12 < (r_6.1.facts.length : Int))) rfl (fun c_22 => ?_) (fun c_22 => ?_)
      ·replace H := cond_t c_22 H
       refine T_skip ?_
       refine T_seq ?_
       refine T_block ?_
       obtain ⟨t75_23, J_23, H_24⟩ := bind_inv H
       refine T_cutX (fun x => t75_23 = x) (fun (t75_23 : Bool) => [(3, (.b 0 0)), (4, (intA r_4.2.1)), (5, (intA r_4.2.2)), (6, (.b 1 0)), (10, (.b 2 0)), (12, (intA i12)), (75, (boolA t75_23))]) (fun (t75_23 : Bool) => [.box [(sl tRelation r_4.1.relations), (sl tFact r_4.1.facts)], .box [(sl tRelation r_6.1.relations), (sl tFact r_6.1.facts)], .box [(sl tRelation r_19.1.relations), (sl tFact r_19.1.facts)]]) ?_ ?_
       ·replace H := J_23
        refine T_region ?_
        refine pv tb 4 rfl ?_
        refine TO_split (t := decide (r_4.2.1 ≠ r_4.2.2)) 66 rfl (fun g_25 => ?_) (fun g_25 => ?_)
        ·replace H := cond_t g_25 H
         obtain ⟨v_26, h_27, H⟩ := bind_inv H
         obtain ⟨n_28, hz_29, hv_30⟩ := getI_inv h_27
         refine pv tb 3 rfl ?_
         refine TO_on rfl rfl (by decide) rfl rfl (TOp_pure (pur_ixT (T := tFact) sl39 rfl rfl hz_29 hv_30 rfl) rfl ?_)
         refine pv tb 1 rfl ?_
         refine TO_on rfl rfl (by decide) rfl rfl (TOp_pure (pur_ldT (T := tFact) (i := n_28) (off := 1) rfl one53 rfl rfl hv_30 rfl) rfl ?_)
         obtain ⟨r_31, h_32, H⟩ := bind_inv H
         refine pv tb 1 rfl ?_
         refine TO_on rfl rfl (by decide) rfl rfl (TOp_callV (call_static ent25 rfl) (m_laws_has_ok _ _ _ h_32) rfl rfl rfl ?_)
         refine pv tb 1 rfl ?_
         refine TO_nil ?_
         exact joined r_31 (w0 3) (some_inj H).symm
        ·replace H := cond_f g_25 H
         refine pv tb 9 rfl ?_
         refine TO_nil ?_
         exact joined false (w0 3) (some_inj H).symm
       ·rintro _ rfl
        replace H := H_24
        refine T_cond (t := t75_23) rfl (fun c_33 => ?_) (fun c_33 => ?_)
        ·replace H := cond_t c_33 H
         refine sr ?_
         refine pv tb 1 rfl ?_
         refine TO_nil ?_
         refine T_ret ?_
         refine block_ret ?_
         refine then_ret ?_
         refine then_ret ?_
         refine block_ret ?_
         refine then_ret ?_
         obtain rfl := some_inj H
         obtain rfl := some_inj K21_
         replace H := onS_r N21_
         obtain rfl := some_inj H
         refine end_ret (.tmp .nil) rfl rfl ⟨?_, rfl⟩
         rfl
        ·replace H := cond_f c_33 H
         refine T_skip ?_
         refine T_region ?_
         refine pv tb 3 rfl ?_
         refine TO_nil ?_
         obtain rfl := some_inj H
         exact again k21 (w64 (i12 + 1)) (Nat.lt_succ_self _) (w0 3) K21_
      ·replace H := cond_f c_22 H
       refine T_exit ?_
       refine then_exit ?_
       refine then_exit ?_
       refine block_exit ?_
       obtain rfl := some_inj H
       obtain rfl := some_inj K21_
       replace H := onS_l N21_
       obtain ⟨t2_34, J_34, H_35⟩ := bind_inv H
       refine T_cutX (fun x => t2_34 = x) (fun (t2_34 : Bool) => [(2, (boolA t2_34))]) (fun (t2_34 : Bool) => []) ?_ ?_
       ·replace H := J_34
        refine T_region ?_
        obtain ⟨r_36, h_37, H⟩ := bind_inv H
        refine pv tb 2 rfl ?_
        refine TO_cons rfl (TOp_callV (call_static ent24 rfl) (m_spec_EqualDatabases_ok u _ _ _ h_37) rfl rfl rfl ?_)
        refine pv tb 1 rfl ?_
        refine TO_split (t := r_36) 79 rfl (fun g_38 => ?_) (fun g_38 => ?_)
        ·replace H := cond_t g_38 H
         obtain ⟨r_39, h_40, H⟩ := bind_inv H
         refine pv tb 1 rfl ?_
         refine TO_on rfl rfl (by decide) rfl rfl (TOp_callV (call_static ent26 rfl) (m_impl_IsValidDatabase_ok _ _ h_40) rfl rfl rfl ?_)
         refine pv tb 2 rfl ?_
         refine TO_split (t := r_39) 83 rfl (fun g_41 => ?_) (fun g_41 => ?_)
         ·replace H := cond_t g_41 H
          refine pv tb 2 rfl ?_
          refine TO_on rfl rfl (by decide) rfl rfl (TOp_pure (pur_lenT (T := tFact) sl39 rfl rfl) rfl ?_)
          refine pv tb 2 rfl ?_
          refine TO_on rfl rfl (by decide) rfl rfl (TOp_pure (pur_lenT (T := tFact) sl39 rfl rfl) rfl ?_)
          refine pv tb 3 rfl ?_
          refine TO_nil ?_
          exact joined (decide ((r_6.1.facts.length : Int) ≤ (r_4.1.facts.length : Int))) (w0 0) (some_inj H).symm
         ·replace H := cond_f g_41 H
          refine pv tb 9 rfl ?_
          refine TO_nil ?_
          exact joined false (w0 0) (some_inj H).symm
        ·replace H := cond_f g_38 H
         refine pv tb 8 rfl ?_
         refine toe [(83, (boolA false)), (86, (.v undef)), (87, (.v undef))] rfl ?_
         refine pv tb 5 rfl ?_
         refine TO_nil ?_
         exact joined false (w0 0) (some_inj H).symm
       ·rintro _ rfl
        replace H := H_35
        refine T_ret ?_
        obtain rfl := some_inj H
        refine end_ret (.tmp .nil) rfl rfl ⟨?_, rfl⟩
        rfl
end Go.Proofs.Ytmecnecfkgneoaa

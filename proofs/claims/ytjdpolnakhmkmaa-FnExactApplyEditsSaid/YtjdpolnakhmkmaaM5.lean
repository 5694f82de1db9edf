import Derived.Test.YtjdpolnakhmkmaaM1
import Derived.Test.YtjdpolnakhmkmaaM2
import Derived.Test.YtjdpolnakhmkmaaM3
import Derived.Test.YtjdpolnakhmkmaaM4
set_option linter.unusedVariables false
set_option linter.unusedSimpArgs false
set_option maxRecDepth 4000
namespace Go.Proofs.Ytjdpolnakhmkmaa
open Go Go.Proofs Go.Sep
set_option maxHeartbeats 1000000 in
theorem m_impl_InsertFact_own (u : Nat) (db0 : Database) (fact1 : Fact) (r : (Database × Bool)) (H : m_impl_InsertFact u db0 fact1 = some r) : FnO prg 134 [(.g (tDatabase.enc db0)), (.g (tFact.enc fact1))] (.t [(.g [(.m [0] 0 r.1.relations.length tRelation.k), (.m [1] 0 r.1.facts.length tFact.k)]), (boolA r.2)]) [.row (flat tRelation.own r.1.relations), .row (flat tFact.own r.1.facts)] := by
  unfold m_impl_InsertFact at H
  refine fnO_of_T Try.func134 rfl rfl (Nat.le_of_ble_eq_true rfl) ?_
  refine te [(0, (.g (tDatabase.enc db0))), (1, (.g (tFact.enc fact1)))] rfl ?_
  refine sr ?_
  refine TO_cons rfl (TOp_box rfl (boxAll rfl) rfl rfl ?_)
  refine TO_cons rfl (TOp_box rfl (boxAll rfl) rfl rfl ?_)
  refine TO_cons rfl (TOp_alloc zero48 rfl rfl ?_)
  refine pv tb 1 rfl ?_
  refine TO_nil ?_
  refine sr ?_
  obtain ⟨r_1, h_2, H⟩ := bind_inv H
  refine pv tb 1 rfl ?_
  refine TO_cons rfl (TOp_callO (call_static ent107 rfl) rfl (m_impl_copyDatabase_own _ _ h_2) rfl rfl rfl ?_)
  refine toe [(2, (.b 0 0)), (3, (.b 1 0)), (4, (.b 2 0)), (8, (.g (tDatabase.enc db0))), (9, (.g [(.m [3] 0 r_1.relations.length tRelation.k), (.m [4] 0 r_1.facts.length tFact.k)]))] rfl ?_
  refine TO_st (σ' := [.box [(sl tRelation db0.relations), (sl tFact db0.facts)], .box [(intA fact1.relation), (sl tInt fact1.values)], .box [.n, .n], .row (flat tRelation.own r_1.relations), .row (flat tFact.own r_1.facts)]) rfl ?_
  refine TO_cons rfl (TOp_alloc zero48 rfl rfl ?_)
  refine TO_cons rfl (TOp_storeB sz48 rfl rfl rfl rfl rfl rfl rfl (by decide) (lb rfl) rfl ?_)
  refine TO_st (σ' := [.box [(sl tRelation db0.relations), (sl tFact db0.facts)], .box [(intA fact1.relation), (sl tInt fact1.values)], .box [.n, .n], .row (flat tRelation.own r_1.relations), .row (flat tFact.own r_1.facts), .box [(.m [3] 0 r_1.relations.length tRelation.k), (.m [4] 0 r_1.facts.length tFact.k)]]) rfl ?_
  refine TO_nil ?_
  refine T_seq ?_
  obtain ⟨t31_3, J_3, H_4⟩ := bind_inv H
  refine T_cutX (fun x => t31_3 = x) (fun (t31_3 : Bool) => [(2, (.b 0 0)), (3, (.b 1 0)), (4, (.b 2 0)), (6, (.b 5 0)), (31, (boolA t31_3))]) (fun (t31_3 : Bool) => [.box [(sl tRelation db0.relations), (sl tFact db0.facts)], .box [(intA fact1.relation), (sl tInt fact1.values)], .box [.n, .n], .row (flat tRelation.own r_1.relations), .row (flat tFact.own r_1.facts), .box [(.m [3] 0 r_1.relations.length tRelation.k), (.m [4] 0 r_1.facts.length tFact.k)]]) ?_ ?_
  ·replace H := J_3
   refine T_region ?_
   obtain ⟨r_5, h_6, H⟩ := bind_inv H
   refine pv tb 1 rfl ?_
   refine TO_cons rfl (TOp_callV (call_static ent117 rfl) (m_impl_IsValidDatabase_ok _ _ h_6) rfl rfl rfl ?_)
   refine pv tb 2 rfl ?_
   refine TO_split (t := (!r_5)) 13 rfl (fun g_7 => ?_) (fun g_7 => ?_)
   ·replace H := cond_t g_7 H
    refine pv tb 18 rfl ?_
    refine TO_nil ?_
    exact joined true (w0 6) (some_inj H).symm
   ·replace H := cond_f g_7 H
    obtain ⟨r_8, h_9, H⟩ := bind_inv H
    refine pv tb 3 rfl ?_
    refine TO_on rfl rfl (by decide) rfl rfl (TOp_callV (call_static ent166 rfl) (m_impl_isFact_ok _ _ _ h_9) rfl rfl rfl ?_)
    refine pv tb 3 rfl ?_
    refine TO_split (t := (!r_8)) 20 rfl (fun g_10 => ?_) (fun g_10 => ?_)
    ·replace H := cond_t g_10 H
     refine pv tb 8 rfl ?_
     refine toe [(2, (.b 0 0)), (3, (.b 1 0)), (4, (.b 2 0)), (6, (.b 5 0)), (26, (boolA true)), (28, (.v undef))] rfl ?_
     refine pv tb 3 rfl ?_
     refine TO_nil ?_
     exact joined true (w0 6) (some_inj H).symm
    ·replace H := cond_f g_10 H
     obtain ⟨r_11, h_12, H⟩ := bind_inv H
     refine pv tb 2 rfl ?_
     refine TO_on rfl rfl (by decide) rfl rfl (TOp_callV (call_static ent106 rfl) (m_impl_FactIndex_ok _ _ _ h_12) rfl rfl rfl ?_)
     refine pv tb 3 rfl ?_
     refine TO_split (t := decide (0 ≤ r_11)) 26 rfl (fun g_13 => ?_) (fun g_13 => ?_)
     ·replace H := cond_t g_13 H
      refine pv tb 5 rfl ?_
      refine TO_nil ?_
      exact joined true (w0 6) (some_inj H).symm
     ·replace H := cond_f g_13 H
      refine pv tb 2 rfl ?_
      refine TO_on rfl rfl (by decide) rfl rfl (TOp_pure (pur_lenT (T := tFact) sl46 rfl rfl) rfl ?_)
      refine pv tb 2 rfl ?_
      refine TO_nil ?_
      exact joined (decide ((db0.facts.length : Int) = 14)) (w0 6) (some_inj H).symm
  ·rintro _ rfl
   replace H := H_4
   refine T_cond (t := t31_3) rfl (fun c_14 => ?_) (fun c_14 => ?_)
   ·replace H := cond_t c_14 H
    refine sr ?_
    refine pv tb 1 rfl ?_
    refine TO_cons rfl (TOp_storeB sz48 rfl rfl rfl rfl rfl rfl rfl (by decide) (lb rfl) rfl ?_)
    refine TO_st (σ' := [.box [(sl tRelation db0.relations), (sl tFact db0.facts)], .box [(intA fact1.relation), (sl tInt fact1.values)], .box [(.m [3] 0 r_1.relations.length tRelation.k), (.m [4] 0 r_1.facts.length tFact.k)], .row (flat tRelation.own r_1.relations), .row (flat tFact.own r_1.facts), .box [(.m [3] 0 r_1.relations.length tRelation.k), (.m [4] 0 r_1.facts.length tFact.k)]]) rfl ?_
    refine pv tb 1 rfl ?_
    refine TO_nil ?_
    refine T_ret ?_
    refine then_ret ?_
    obtain rfl := some_inj H
    exact end_pick (.cellK rfl agg48 rfl (lb rfl) (.tmp .nil)) rfl [3, 4] (by decide) rfl rfl rfl rfl rfl rfl
   ·replace H := cond_f c_14 H
    refine T_skip ?_
    refine sr ?_
    refine pv tb 1 rfl ?_
    refine TO_nil ?_
    obtain ⟨O15_, L15_, N15_⟩ := bind_inv H
    clear H
    obtain ⟨B15_, hb15, L15_⟩ := gen_whileF L15_
    refine T_cutX (fun (x : Int) => O15_ = .inl x) (fun (at7 : Int) => [(3, (.b 1 0)), (4, (.b 2 0)), (6, (.b 5 0)), (7, (intA at7))]) (fun (at7 : Int) => [.box [(sl tRelation db0.relations), (sl tFact db0.facts)], .box [(intA fact1.relation), (sl tInt fact1.values)], .box [.n, .n], .row (flat tRelation.own r_1.relations), .row (flat tFact.own r_1.facts), .box [(.m [3] 0 r_1.relations.length tRelation.k), (.m [4] 0 r_1.facts.length tFact.k)]]) ?_ ?_
    ·skip
     refine T_block ?_
     refine T_loopX (fun k => fun (at7 : Int) => whileF B15_ k at7 = some O15_) (fun (at7 : Int) => [(2, (.b 0 0)), (3, (.b 1 0)), (4, (.b 2 0)), (6, (.b 5 0)), (7, (intA at7))]) (fun (at7 : Int) => [.box [(sl tRelation db0.relations), (sl tFact db0.facts)], .box [(intA fact1.relation), (sl tInt fact1.values)], .box [.n, .n], .row (flat tRelation.own r_1.relations), .row (flat tFact.own r_1.facts), .box [(.m [3] 0 r_1.relations.length tRelation.k), (.m [4] 0 r_1.facts.length tFact.k)]]) u 0 (w0 6) L15_ ?_
     rintro _ at7 L15_
     obtain ⟨k15, rfl, C15_, H, K15_⟩ := while_step L15_
     rw [hb15] at H
     refine T_seq ?_
     obtain ⟨t47_16, J_16, H_17⟩ := bind_inv H
     refine T_cutX (fun x => t47_16 = x) (fun (t47_16 : Bool) => [(2, (.b 0 0)), (3, (.b 1 0)), (4, (.b 2 0)), (6, (.b 5 0)), (7, (intA at7)), (47, (boolA t47_16))]) (fun (t47_16 : Bool) => [.box [(sl tRelation db0.relations), (sl tFact db0.facts)], .box [(intA fact1.relation), (sl tInt fact1.values)], .box [.n, .n], .row (flat tRelation.own r_1.relations), .row (flat tFact.own r_1.facts), .box [(.m [3] 0 r_1.relations.length tRelation.k), (.m [4] 0 r_1.facts.length tFact.k)]]) ?_ ?_
     ·replace H := J_16
      refine T_regionD mixed (by kernel_rfl) ?_
      refine pq tb 3 rfl ?_
      refine TQ_pure rfl (pur_lenT (T := tFact) sl46 rfl rfl) rfl ?_
      refine pq tb 2 rfl ?_
      refine TQ_split (t := decide (at7 < (db0.facts.length : Int))) 38 rfl (fun g_18 => ?_) (fun g_18 => ?_)
      ·replace H := cond_t g_18 H
       obtain ⟨v_19, h_20, H⟩ := bind_inv H
       obtain ⟨n_21, hz_22, hv_23⟩ := getI_inv h_20
       refine pq tb 3 rfl ?_
       refine TQ_on rfl rfl (by decide) rfl (pur_ixT (T := tFact) sl46 rfl rfl hz_22 hv_23 rfl) rfl ?_
       refine TQ_on rfl rfl (by decide) rfl (pur_ldTK (T := tFact) (i := n_21) (off := 0) rfl agg65 rfl rfl hv_23 (by decide) rfl) rfl ?_
       obtain ⟨r_24, h_25, H⟩ := bind_inv H
       refine pq tb 1 rfl ?_
       refine TQ_onV rfl rfl (by decide) rfl (call_static ent152 rfl) (m_impl_CompareFacts_ok _ _ _ h_25) rfl rfl ?_
       refine pq tb 2 rfl ?_
       refine TQ_nil ?_
       exact joined (decide (r_24 < 0)) (w0 6) (some_inj H).symm
      ·replace H := cond_f g_18 H
       refine pq tb 9 rfl ?_
       refine TQ_nil ?_
       exact joined false (w0 6) (some_inj H).symm
     ·rintro _ rfl
      replace H := H_17
      refine T_cond (t := t47_16) rfl (fun c_26 => ?_) (fun c_26 => ?_)
      ·replace H := cond_t c_26 H
       refine T_skip ?_
       refine T_block ?_
       refine T_region ?_
       refine pv tb 3 rfl ?_
       refine TO_nil ?_
       obtain rfl := some_inj H
       exact again k15 (w64 (at7 + 1)) (Nat.lt_succ_self _) (w0 6) K15_
      ·replace H := cond_f c_26 H
       refine T_exit ?_
       refine then_exit ?_
       refine then_exit ?_
       refine block_exit ?_
       obtain rfl := some_inj H
       obtain rfl := some_inj K15_
       exact joined at7 (w0 6) rfl
    ·rintro at7 rfl
     replace H := onS_l N15_
     obtain ⟨us_27, h_28, H⟩ := bind_inv H
     obtain ⟨r_29, h_30, H⟩ := bind_inv H
     refine T_pad ?_
     refine T_pad ?_
     refine T_cutX (fun (_ : Unit) => True) (fun _ => [(4, (.b 2 0)), (6, (.b 5 0))]) (fun _ => [.box [(sl tRelation db0.relations), (sl tFact db0.facts)], .box [(intA fact1.relation), (sl tInt fact1.values)], .box [.n, .n], .row (flat tRelation.own r_1.relations), .row (flat tFact.own r_29), .box [(.m [3] 0 r_1.relations.length tRelation.k), (.m [4] 0 r_29.length tFact.k)]]) ?_ ?_
     ·skip
      refine T_regionP 4 mixed rfl ?_
      refine TA_have 3 #[true, true, true, true, true, true, true, true, true, true, true, false, false, false] [(4, (.b 2 0)), (6, (.b 5 0)), (51, (.m [4] 0 r_1.facts.length tFact.k)), (52, (intA at7)), (60, (.m [8] 0 1 tFact.k))] [.dead, .dead, .dead, .row (flat tRelation.own r_1.relations), .row (flat tFact.own r_1.facts), .box [(.m [3] 0 r_1.relations.length tRelation.k), (.m [4] 0 r_1.facts.length tFact.k)], .row (flat tInt.enc us_27), .dead, .box [(intA fact1.relation), (.m [6] 0 us_27.length tInt.k)]] ?_ (fun hj0_7 => ?_)
      ·skip
       refine tae [(4, (.b 2 0)), (6, (.b 5 0)), (51, (.m [4] 0 r_1.facts.length tFact.k)), (52, (intA at7)), (60, (.m [8] 0 1 tFact.k))] rfl ?_
       refine TA_st (σ' := [.dead, .dead, .dead, .row (flat tRelation.own r_1.relations), .row (flat tFact.own r_1.facts), .box [(.m [3] 0 r_1.relations.length tRelation.k), (.m [4] 0 r_1.facts.length tFact.k)], .row (flat tInt.enc us_27), .dead, .box [(intA fact1.relation), (.m [6] 0 us_27.length tInt.k)]]) rfl ?_
       refine TA_absorbA (pr := []) 8 1 6 rfl rfl rfl (by decide) tInt.pos (flat_len tInt.len _) (lb rfl) (lb rfl) rfl (nms_dead (nms_dead (nms_dead (nms_row (nms_row (nms_box rfl (nms_row (nms_dead (nms_box rfl nms_nil))))))))) ?_
       refine TA_st (σ' := [.dead, .dead, .dead, .row (flat tRelation.own r_1.relations), .row (flat tFact.own r_1.facts), .box [(.m [3] 0 r_1.relations.length tRelation.k), (.m [4] 0 r_1.facts.length tFact.k)], .dead, .dead, .box [(intA fact1.relation), .o tInt.k (flat tInt.enc us_27)]]) rfl ?_
       refine TA_rowifyT (T := tFact) (xs := []) (us := ([({ relation := fact1.relation, values := us_27 } : Fact)] : List Fact)) (v := ({ relation := fact1.relation, values := us_27 } : Fact)) 8 rfl rfl (app_ok (b := 32) (xs := []) (ys := ([({ relation := fact1.relation, values := us_27 } : Fact)] : List Fact)) (show (0 + 1) * 32 ≤ 140737488355328 by decide)) (lb rfl) ?_
       refine tae [(4, (.b 2 0)), (6, (.b 5 0)), (51, (.m [4] 0 r_1.facts.length tFact.k)), (52, (intA at7)), (60, (.m [8] 0 ([({ relation := fact1.relation, values := us_27 } : Fact)] : List Fact).length tFact.k))] rfl ?_
       refine TA_st (σ' := [.dead, .dead, .dead, .row (flat tRelation.own r_1.relations), .row (flat tFact.own r_1.facts), .box [(.m [3] 0 r_1.relations.length tRelation.k), (.m [4] 0 r_1.facts.length tFact.k)], .dead, .dead, .row (flat tFact.own ([({ relation := fact1.relation, values := us_27 } : Fact)] : List Fact))]) rfl ?_
       refine t1 11 (by kernel_rfl) rfl rfl (TOp_callS [4, 8] (call_static ent174 rfl) (by decide) rfl rfl rfl rfl rfl rfl (m_slices_Insert_Simpl_Fact_impl_Fact_xo _ _ _ _ h_30) rfl rfl ?_)
       refine tmv 4 9 (by decide) (lb rfl) rfl rfl (lb rfl) ?_
       refine TA_st (σ' := [.dead, .dead, .dead, .row (flat tRelation.own r_1.relations), .row (flat tFact.own r_29), .box [(.m [3] 0 r_1.relations.length tRelation.k), .j], .dead, .dead, .dead, .dead]) rfl ?_
       refine tae [(4, (.b 2 0)), (6, (.b 5 0)), (52, (intA at7)), (61, (.m [4] 0 r_29.length tFact.k))] rfl ?_
       refine TA_st (σ' := [.dead, .dead, .dead, .row (flat tRelation.own r_1.relations), .row (flat tFact.own r_29), .box [(.m [3] 0 r_1.relations.length tRelation.k), .j], .dead, .dead, .dead, .dead]) rfl ?_
       refine pa tb [12] 1 rfl (by kernel_rfl) rfl ?_
       refine t1 13 (by kernel_rfl) rfl rfl (TOp_storeB sz46 rfl rfl rfl rfl rfl rfl rfl (by decide) (lb rfl) rfl ?_)
       refine TA_st (σ' := [.dead, .dead, .dead, .row (flat tRelation.own r_1.relations), .row (flat tFact.own r_29), .box [(.m [3] 0 r_1.relations.length tRelation.k), (.m [4] 0 r_29.length tFact.k)], .dead, .dead, .dead, .dead]) rfl ?_
       exact TA_nil (by kernel_rfl) (joined () (w0 6) trivial)
      refine TA_have 4 #[true, true, true, true, true, true, true, true, true, true, false, false, false, false] [(4, (.b 2 0)), (6, (.b 5 0)), (51, (.m [4] 0 r_1.facts.length tFact.k)), (52, (intA at7)), (59, (.g [(intA fact1.relation), (.m [6] 0 us_27.length tInt.k)]))] [.dead, .dead, .dead, .row (flat tRelation.own r_1.relations), .row (flat tFact.own r_1.facts), .box [(.m [3] 0 r_1.relations.length tRelation.k), (.m [4] 0 r_1.facts.length tFact.k)], .row (flat tInt.enc us_27), .dead] ?_ (fun hj1_7 => ?_)
      ·skip
       refine t1 10 (by kernel_rfl) rfl rfl (TOp_litB (nn := 1) (k := 2) sl46 zero65 rfl rfl rfl rfl (by decide) ?_)
       refine TA_st (σ' := [.dead, .dead, .dead, .row (flat tRelation.own r_1.relations), .row (flat tFact.own r_1.facts), .box [(.m [3] 0 r_1.relations.length tRelation.k), (.m [4] 0 r_1.facts.length tFact.k)], .row (flat tInt.enc us_27), .dead, .box [(intA fact1.relation), (.m [6] 0 us_27.length tInt.k)]]) rfl ?_
       exact tj hj0_7 rfl (w0 9)
      refine TA_have 6 #[true, true, true, true, true, true, true, true, false, false, false, false, false, false] [(4, (.b 2 0)), (6, (.b 5 0)), (51, (.m [4] 0 r_1.facts.length tFact.k)), (52, (intA at7)), (54, (intA fact1.relation)), (55, (.m [6] 0 ([] : (List Int)).length tInt.k)), (57, (sl tInt fact1.values))] [.dead, .dead, .dead, .row (flat tRelation.own r_1.relations), .row (flat tFact.own r_1.facts), .box [(.m [3] 0 r_1.relations.length tRelation.k), (.m [4] 0 r_1.facts.length tFact.k)], .row (flat tInt.enc ([] : (List Int))), .dead] ?_ (fun hj2_7 => ?_)
      ·skip
       refine t1 8 (by kernel_rfl) rfl rfl (TOp_appY (T := tInt) (f := tInt.enc) (xs := ([] : (List Int))) (ys := fact1.values) tInt.len sl23 zero3 rfl bytes3 (by decide) rfl rfl rfl rfl (src_T (T := tInt) rfl) (flat_cell tInt _) h_28 ?_)
       refine tmw 6 8 (by decide) (lb rfl) rfl rfl (lb rfl) rfl ?_
       refine tf 9 rfl (pur_build bld65 rfl rfl) rfl rfl (by kernel_rfl) ?_
       exact tj hj1_7 rfl (w0 8)
      refine pa tb [0, 2, 3, 4, 6, 7] 8 rfl (by kernel_rfl) rfl ?_
      refine TA_all [1, 5] (by kernel_rfl) (by decide) ⟨?_, ?_, trivial⟩
      ·skip
       refine ⟨_, rfl, rfl, (TOp_pure (pur_ld_b one46 rfl rfl rfl rfl) rfl ?_)⟩
       refine t1 5 (by kernel_rfl) rfl rfl (TOp_lit (nn := 0) (k := 1) sl23 zero3 rfl rfl rfl rfl (by decide) ?_)
       refine tmw 6 8 (by decide) (lb rfl) rfl rfl (lb rfl) rfl ?_
       exact tj hj2_7 rfl (w0 8)
      ·skip
       refine ⟨_, rfl, rfl, (TOp_lit (nn := 0) (k := 1) sl23 zero3 rfl rfl rfl rfl (by decide) ?_)⟩
       refine tmw 6 8 (by decide) (lb rfl) rfl rfl (lb rfl) rfl ?_
       refine TA_all [1, 8] (by kernel_rfl) (by decide) ⟨?_, ?_, trivial⟩
       ·skip
        refine ⟨_, rfl, rfl, (TOp_pure (pur_ld_b one46 rfl rfl rfl rfl) rfl ?_)⟩
        exact tj hj2_7 rfl (w0 8)
       ·skip
        refine ⟨_, rfl, rfl, (TOp_appY (T := tInt) (f := tInt.enc) (xs := ([] : (List Int))) (ys := fact1.values) tInt.len sl23 zero3 rfl bytes3 (by decide) rfl rfl rfl rfl (src_T (T := tInt) rfl) (flat_cell tInt _) h_28 ?_)⟩
        refine tmw 6 9 (by decide) (lb rfl) rfl rfl (lb rfl) rfl ?_
        refine tae [(4, (.b 2 0)), (6, (.b 5 0)), (50, (.b 5 1)), (52, (intA at7)), (54, (intA fact1.relation)), (58, (.m [6] 0 us_27.length tInt.k))] rfl ?_
        refine TA_st (σ' := [.dead, .dead, .dead, .row (flat tRelation.own r_1.relations), .row (flat tFact.own r_1.facts), .box [(.m [3] 0 r_1.relations.length tRelation.k), (.m [4] 0 r_1.facts.length tFact.k)], .row (flat tInt.enc us_27), .dead, .dead, .dead]) rfl ?_
        refine tf 9 rfl (pur_build bld65 rfl rfl) rfl rfl (by kernel_rfl) ?_
        refine TA_all [1, 10] (by kernel_rfl) (by decide) ⟨?_, ?_, trivial⟩
        ·skip
         refine ⟨_, rfl, rfl, (TOp_pure (pur_ld_b one46 rfl rfl rfl rfl) rfl ?_)⟩
         exact tj hj1_7 rfl (w0 8)
        ·skip
         refine ⟨_, rfl, rfl, (TOp_ghost (E' := [(4, (.b 2 0)), (6, (.b 5 0)), (50, (.b 5 1)), (52, (intA at7)), (54, (intA fact1.relation)), (58, (.m [6] 0 us_27.length tInt.k)), (59, (.g [(intA fact1.relation), (.m [6] 0 us_27.length tInt.k)]))]) (σ' := [.dead, .dead, .dead, .row (flat tRelation.own r_1.relations), .row (flat tFact.own r_1.facts), .box [(.m [3] 0 r_1.relations.length tRelation.k), (.m [4] 0 r_1.facts.length tFact.k)], .row (flat tInt.enc us_27), .dead]) (by exact Ghost.weak (w0 8)) (TOp_litB (nn := 1) (k := 2) sl46 zero65 rfl rfl rfl rfl (by decide) ?_))⟩
         refine TA_st (σ' := [.dead, .dead, .dead, .row (flat tRelation.own r_1.relations), .row (flat tFact.own r_1.facts), .box [(.m [3] 0 r_1.relations.length tRelation.k), (.m [4] 0 r_1.facts.length tFact.k)], .row (flat tInt.enc us_27), .dead, .box [(intA fact1.relation), (.m [6] 0 us_27.length tInt.k)]]) rfl ?_
         refine t1 1 (by kernel_rfl) rfl rfl (TOp_pure (pur_ld_b one46 rfl rfl rfl rfl) rfl ?_)
         exact tj hj0_7 rfl (w0 9)
     ·rintro _ _
      refine sr ?_
      refine pv tb 1 rfl ?_
      refine TO_cons rfl (TOp_storeB sz48 rfl rfl rfl rfl rfl rfl rfl (by decide) (lb rfl) rfl ?_)
      refine TO_st (σ' := [.box [(sl tRelation db0.relations), (sl tFact db0.facts)], .box [(intA fact1.relation), (sl tInt fact1.values)], .box [(.m [3] 0 r_1.relations.length tRelation.k), (.m [4] 0 r_29.length tFact.k)], .row (flat tRelation.own r_1.relations), .row (flat tFact.own r_29), .box [(.m [3] 0 r_1.relations.length tRelation.k), (.m [4] 0 r_29.length tFact.k)]]) rfl ?_
      refine pv tb 1 rfl ?_
      refine TO_nil ?_
      refine T_ret ?_
      obtain rfl := some_inj H
      exact end_pick (.cellK rfl agg48 rfl (lb rfl) (.tmp .nil)) rfl [3, 4] (by decide) rfl rfl rfl rfl rfl rfl
theorem m_impl_InsertFact_ok (u : Nat) (db0 : Database) (fact1 : Fact) (r : (Database × Bool)) (H : m_impl_InsertFact u db0 fact1 = some r) : FnV prg 134 [(.g (tDatabase.enc db0)), (.g (tFact.enc fact1))] (.t [(.g (tDatabase.enc r.1)), (boolA r.2)]) := (m_impl_InsertFact_own u db0 fact1 r H).frz (frzOK_t (frz_cons (frzOK_g (frz_cons (frzT (T := tRelation) rfl) (frz_cons (frzT (T := tFact) rfl) frz_nil)).1 (frz_cons (frzT (T := tRelation) rfl) (frz_cons (frzT (T := tFact) rfl) frz_nil)).2) (frz_cons (frz_loose rfl) frz_nil)).1 (frz_cons (frzOK_g (frz_cons (frzT (T := tRelation) rfl) (frz_cons (frzT (T := tFact) rfl) frz_nil)).1 (frz_cons (frzT (T := tRelation) rfl) (frz_cons (frzT (T := tFact) rfl) frz_nil)).2) (frz_cons (frz_loose rfl) frz_nil)).2)

set_option maxHeartbeats 1000000 in
theorem m_impl_ApplyEdit_own (u : Nat) (db0 : Database) (edit1 : Edit) (r : (Database × Bool)) (H : m_impl_ApplyEdit u db0 edit1 = some r) : FnO prg 72 [(.g (tDatabase.enc db0)), (.g (tEdit.enc edit1))] (.t [(.g [(.m [0] 0 r.1.relations.length tRelation.k), (.m [1] 0 r.1.facts.length tFact.k)]), (boolA r.2)]) [.row (flat tRelation.own r.1.relations), .row (flat tFact.own r.1.facts)] := by
  unfold m_impl_ApplyEdit at H
  refine fnO_of_T Try.func72 rfl rfl (Nat.le_of_ble_eq_true rfl) ?_
  refine te [(0, (.g (tDatabase.enc db0))), (1, (.g (tEdit.enc edit1)))] rfl ?_
  refine sr ?_
  refine TO_cons rfl (TOp_box rfl (boxAll rfl) rfl rfl ?_)
  refine TO_cons rfl (TOp_box rfl (boxAll rfl) rfl rfl ?_)
  refine TO_cons rfl (TOp_alloc zero48 rfl rfl ?_)
  refine pv tb 1 rfl ?_
  refine TO_nil ?_
  refine T_seq ?_
  refine sr ?_
  refine pv tb 2 rfl ?_
  refine TO_nil ?_
  refine T_block ?_
  refine sr ?_
  refine pv tb 2 rfl ?_
  refine TO_nil ?_
  refine T_cond (t := decide (edit1.kind = 1)) rfl (fun c_1 => ?_) (fun c_1 => ?_)
  ·replace H := cond_t c_1 H
   refine sr ?_
   obtain ⟨r_2, h_3, H⟩ := bind_inv H
   refine pv tb 3 rfl ?_
   refine TO_cons rfl (TOp_callO (call_static ent134 rfl) rfl (m_impl_InsertFact_own u _ _ _ h_3) rfl rfl rfl ?_)
   refine toe [(2, (.b 0 0)), (3, (.b 1 0)), (4, (.b 2 0)), (7, (intA edit1.kind)), (8, (boolA (decide (edit1.kind = 1)))), (10, (.g (tDatabase.enc db0))), (11, (.b 1 1)), (12, (.g (tFact.enc edit1.fact))), (13, (.t [(.g [(.m [3] 0 r_2.1.relations.length tRelation.k), (.m [4] 0 r_2.1.facts.length tFact.k)]), (boolA r_2.2)]))] rfl ?_
   refine TO_st (σ' := [.box [(sl tRelation db0.relations), (sl tFact db0.facts)], .box [(intA edit1.kind), (intA edit1.fact.relation), (sl tInt edit1.fact.values)], .box [.n, .n], .row (flat tRelation.own r_2.1.relations), .row (flat tFact.own r_2.1.facts)]) rfl ?_
   refine pv tb 2 rfl ?_
   refine TO_cons rfl (TOp_storeB sz48 rfl rfl rfl rfl rfl rfl rfl (by decide) (lb rfl) rfl ?_)
   refine TO_st (σ' := [.box [(sl tRelation db0.relations), (sl tFact db0.facts)], .box [(intA edit1.kind), (intA edit1.fact.relation), (sl tInt edit1.fact.values)], .box [(.m [3] 0 r_2.1.relations.length tRelation.k), (.m [4] 0 r_2.1.facts.length tFact.k)], .row (flat tRelation.own r_2.1.relations), .row (flat tFact.own r_2.1.facts)]) rfl ?_
   refine pv tb 1 rfl ?_
   refine TO_nil ?_
   refine T_ret ?_
   refine block_ret ?_
   refine then_ret ?_
   obtain rfl := some_inj H
   exact end_pick (.cellK rfl agg48 rfl (lb rfl) (.tmp .nil)) rfl [3, 4] (by decide) rfl rfl rfl rfl rfl rfl
  ·replace H := cond_f c_1 H
   refine sr ?_
   refine pv tb 2 rfl ?_
   refine TO_nil ?_
   refine T_cond (t := decide (edit1.kind = 2)) rfl (fun c_4 => ?_) (fun c_4 => ?_)
   ·replace H := cond_t c_4 H
    refine sr ?_
    obtain ⟨r_5, h_6, H⟩ := bind_inv H
    refine pv tb 3 rfl ?_
    refine TO_cons rfl (TOp_callO (call_static ent108 rfl) rfl (m_impl_DeleteFact_own _ _ _ h_6) rfl rfl rfl ?_)
    refine toe [(2, (.b 0 0)), (3, (.b 1 0)), (4, (.b 2 0)), (7, (intA edit1.kind)), (16, (boolA (decide (edit1.kind = 2)))), (18, (.g (tDatabase.enc db0))), (19, (.b 1 1)), (20, (.g (tFact.enc edit1.fact))), (21, (.t [(.g [(.m [3] 0 r_5.1.relations.length tRelation.k), (.m [4] 0 r_5.1.facts.length tFact.k)]), (boolA r_5.2)]))] rfl ?_
    refine TO_st (σ' := [.box [(sl tRelation db0.relations), (sl tFact db0.facts)], .box [(intA edit1.kind), (intA edit1.fact.relation), (sl tInt edit1.fact.values)], .box [.n, .n], .row (flat tRelation.own r_5.1.relations), .row (flat tFact.own r_5.1.facts)]) rfl ?_
    refine pv tb 2 rfl ?_
    refine TO_cons rfl (TOp_storeB sz48 rfl rfl rfl rfl rfl rfl rfl (by decide) (lb rfl) rfl ?_)
    refine TO_st (σ' := [.box [(sl tRelation db0.relations), (sl tFact db0.facts)], .box [(intA edit1.kind), (intA edit1.fact.relation), (sl tInt edit1.fact.values)], .box [(.m [3] 0 r_5.1.relations.length tRelation.k), (.m [4] 0 r_5.1.facts.length tFact.k)], .row (flat tRelation.own r_5.1.relations), .row (flat tFact.own r_5.1.facts)]) rfl ?_
    refine pv tb 1 rfl ?_
    refine TO_nil ?_
    refine T_ret ?_
    refine block_ret ?_
    refine then_ret ?_
    obtain rfl := some_inj H
    exact end_pick (.cellK rfl agg48 rfl (lb rfl) (.tmp .nil)) rfl [3, 4] (by decide) rfl rfl rfl rfl rfl rfl
   ·replace H := cond_f c_4 H
    refine sr ?_
    refine pv tb 2 rfl ?_
    refine TO_nil ?_
    refine T_cond (t := decide (edit1.kind = 3)) rfl (fun c_7 => ?_) (fun c_7 => ?_)
    ·replace H := cond_t c_7 H
     refine sr ?_
     obtain ⟨r_8, h_9, H⟩ := bind_inv H
     refine pv tb 3 rfl ?_
     refine TO_cons rfl (TOp_callO (call_static ent60 rfl) rfl (m_impl_ResolveConflict_own _ _ _ h_9) rfl rfl rfl ?_)
     refine toe [(2, (.b 0 0)), (3, (.b 1 0)), (4, (.b 2 0)), (24, (boolA (decide (edit1.kind = 3)))), (26, (.g (tDatabase.enc db0))), (27, (.b 1 1)), (28, (.g (tFact.enc edit1.fact))), (29, (.t [(.g [(.m [3] 0 r_8.1.relations.length tRelation.k), (.m [4] 0 r_8.1.facts.length tFact.k)]), (boolA r_8.2)]))] rfl ?_
     refine TO_st (σ' := [.box [(sl tRelation db0.relations), (sl tFact db0.facts)], .box [(intA edit1.kind), (intA edit1.fact.relation), (sl tInt edit1.fact.values)], .box [.n, .n], .row (flat tRelation.own r_8.1.relations), .row (flat tFact.own r_8.1.facts)]) rfl ?_
     refine pv tb 2 rfl ?_
     refine TO_cons rfl (TOp_storeB sz48 rfl rfl rfl rfl rfl rfl rfl (by decide) (lb rfl) rfl ?_)
     refine TO_st (σ' := [.box [(sl tRelation db0.relations), (sl tFact db0.facts)], .box [(intA edit1.kind), (intA edit1.fact.relation), (sl tInt edit1.fact.values)], .box [(.m [3] 0 r_8.1.relations.length tRelation.k), (.m [4] 0 r_8.1.facts.length tFact.k)], .row (flat tRelation.own r_8.1.relations), .row (flat tFact.own r_8.1.facts)]) rfl ?_
     refine pv tb 1 rfl ?_
     refine TO_nil ?_
     refine T_ret ?_
     refine block_ret ?_
     refine then_ret ?_
     obtain rfl := some_inj H
     exact end_pick (.cellK rfl agg48 rfl (lb rfl) (.tmp .nil)) rfl [3, 4] (by decide) rfl rfl rfl rfl rfl rfl
    ·replace H := cond_f c_7 H
     refine T_skip ?_
     refine sr ?_
     obtain ⟨r_10, h_11, H⟩ := bind_inv H
     refine pv tb 1 rfl ?_
     refine TO_cons rfl (TOp_callO (call_static ent107 rfl) rfl (m_impl_copyDatabase_own _ _ h_11) rfl rfl rfl ?_)
     refine toe [(2, (.b 0 0)), (4, (.b 2 0)), (32, (.g (tDatabase.enc db0))), (33, (.g [(.m [3] 0 r_10.relations.length tRelation.k), (.m [4] 0 r_10.facts.length tFact.k)]))] rfl ?_
     refine TO_st (σ' := [.box [(sl tRelation db0.relations), (sl tFact db0.facts)], .box [(intA edit1.kind), (intA edit1.fact.relation), (sl tInt edit1.fact.values)], .box [.n, .n], .row (flat tRelation.own r_10.relations), .row (flat tFact.own r_10.facts)]) rfl ?_
     refine TO_cons rfl (TOp_storeB sz48 rfl rfl rfl rfl rfl rfl rfl (by decide) (lb rfl) rfl ?_)
     refine TO_st (σ' := [.box [(sl tRelation db0.relations), (sl tFact db0.facts)], .box [(intA edit1.kind), (intA edit1.fact.relation), (sl tInt edit1.fact.values)], .box [(.m [3] 0 r_10.relations.length tRelation.k), (.m [4] 0 r_10.facts.length tFact.k)], .row (flat tRelation.own r_10.relations), .row (flat tFact.own r_10.facts)]) rfl ?_
     refine pv tb 1 rfl ?_
     refine TO_nil ?_
     refine T_ret ?_
     obtain rfl := some_inj H
     exact end_pick (.cellK rfl agg48 rfl (lb rfl) (.tmp .nil)) rfl [3, 4] (by decide) rfl rfl rfl rfl rfl rfl
theorem m_impl_ApplyEdit_ok (u : Nat) (db0 : Database) (edit1 : Edit) (r : (Database × Bool)) (H : m_impl_ApplyEdit u db0 edit1 = some r) : FnV prg 72 [(.g (tDatabase.enc db0)), (.g (tEdit.enc edit1))] (.t [(.g (tDatabase.enc r.1)), (boolA r.2)]) := (m_impl_ApplyEdit_own u db0 edit1 r H).frz (frzOK_t (frz_cons (frzOK_g (frz_cons (frzT (T := tRelation) rfl) (frz_cons (frzT (T := tFact) rfl) frz_nil)).1 (frz_cons (frzT (T := tRelation) rfl) (frz_cons (frzT (T := tFact) rfl) frz_nil)).2) (frz_cons (frz_loose rfl) frz_nil)).1 (frz_cons (frzOK_g (frz_cons (frzT (T := tRelation) rfl) (frz_cons (frzT (T := tFact) rfl) frz_nil)).1 (frz_cons (frzT (T := tRelation) rfl) (frz_cons (frzT (T := tFact) rfl) frz_nil)).2) (frz_cons (frz_loose rfl) frz_nil)).2)

set_option maxHeartbeats 1000000 in
theorem m_impl_ApplyEdits_own (u : Nat) (db0 : Database) (edits1 : (List Edit)) (r : (Database × Int)) (H : m_impl_ApplyEdits u db0 edits1 = some r) : FnO prg 66 [(.g (tDatabase.enc db0)), (sl tEdit edits1)] (.t [(.g [(.m [0] 0 r.1.relations.length tRelation.k), (.m [1] 0 r.1.facts.length tFact.k)]), (intA r.2)]) [.row (flat tRelation.own r.1.relations), .row (flat tFact.own r.1.facts)] := by
  unfold m_impl_ApplyEdits at H
  refine fnO_of_T Try.func66 rfl rfl (Nat.le_of_ble_eq_true rfl) ?_
  refine te [(0, (.g (tDatabase.enc db0))), (1, (sl tEdit edits1))] rfl ?_
  refine sr ?_
  refine TO_cons rfl (TOp_box rfl (boxAll rfl) rfl rfl ?_)
  refine TO_cons rfl (TOp_alloc zero48 rfl rfl ?_)
  refine pv tb 1 rfl ?_
  refine TO_nil ?_
  refine sr ?_
  obtain ⟨r_1, h_2, H⟩ := bind_inv H
  refine pv tb 1 rfl ?_
  refine TO_cons rfl (TOp_callO (call_static ent107 rfl) rfl (m_impl_copyDatabase_own _ _ h_2) rfl rfl rfl ?_)
  refine toe [(1, (sl tEdit edits1)), (2, (.b 0 0)), (4, (.b 1 0)), (12, (.g (tDatabase.enc db0))), (13, (.g [(.m [2] 0 r_1.relations.length tRelation.k), (.m [3] 0 r_1.facts.length tFact.k)]))] rfl ?_
  refine TO_st (σ' := [.box [(sl tRelation db0.relations), (sl tFact db0.facts)], .box [.n, .n], .row (flat tRelation.own r_1.relations), .row (flat tFact.own r_1.facts)]) rfl ?_
  refine TO_cons rfl (TOp_alloc zero48 rfl rfl ?_)
  refine TO_cons rfl (TOp_storeB sz48 rfl rfl rfl rfl rfl rfl rfl (by decide) (lb rfl) rfl ?_)
  refine TO_st (σ' := [.box [(sl tRelation db0.relations), (sl tFact db0.facts)], .box [.n, .n], .row (flat tRelation.own r_1.relations), .row (flat tFact.own r_1.facts), .box [(.m [2] 0 r_1.relations.length tRelation.k), (.m [3] 0 r_1.facts.length tFact.k)]]) rfl ?_
  refine pv tb 1 rfl ?_
  refine TO_nil ?_
  refine T_seq ?_
  refine sr ?_
  refine pv tb 1 rfl ?_
  refine Tp rfl rfl (pur_lenT (T := tEdit) sl90 rfl rfl) rfl ?_
  refine pv tb 1 rfl ?_
  refine TO_nil ?_
  obtain ⟨O4_, L4_, N4_⟩ := bind_inv H
  clear H
  obtain ⟨B4_, hb4, L4_⟩ := gen_forS L4_
  refine T_block ?_
  refine T_loopX (fun k => fun (⟨t_3, count7, box4_relations, box4_facts⟩ : Nat × Int × (List Relation) × (List Fact)) => k = edits1.length - t_3 ∧ forS B4_ (edits1.drop t_3) (t_3 : Int) (count7, box4_relations, box4_facts) = some O4_) (fun (⟨t_3, count7, box4_relations, box4_facts⟩ : Nat × Int × (List Relation) × (List Fact)) => [(4, (.b 1 0)), (6, (.b 4 0)), (7, (intA count7)), (14, (sl tEdit edits1)), (15, (intA (edits1.length : Int))), (16, (intA (t_3 : Int)))]) (fun (⟨t_3, count7, box4_relations, box4_facts⟩ : Nat × Int × (List Relation) × (List Fact)) => [.box [(sl tRelation db0.relations), (sl tFact db0.facts)], .box [.n, .n], .row (flat tRelation.own box4_relations), .row (flat tFact.own box4_facts), .box [(.m [2] 0 box4_relations.length tRelation.k), (.m [3] 0 box4_facts.length tFact.k)]]) _ (0, (0, r_1.relations, r_1.facts)) (w0 5) ⟨rfl, L4_⟩ ?_
  rintro _ ⟨t_3, count7, box4_relations, box4_facts⟩ ⟨rfl, L4_⟩
  refine T_fact (len_sl (T := tEdit) (.tmp 14) rfl) (fun hl4 => ?_)
  refine sr ?_
  refine pv tb 1 rfl ?_
  refine TO_nil ?_
  refine T_seq ?_
  refine T_cond (t := decide ((t_3 : Int) < (edits1.length : Int))) rfl (fun d4 => ?_) (fun d4 => ?_)
  ·replace d4 := of_decide_eq_true d4
   obtain ⟨x_t_3, hx_t_3⟩ : ∃ v, (edits1)[t_3]? = some v := ⟨_, List.getElem?_eq_getElem (by omega)⟩
   obtain ⟨C4_, H, K4_⟩ := forS_step L4_ hx_t_3
   rw [hb4] at H
   refine T_skip ?_
   refine T_seq ?_
   refine T_block ?_
   refine sr ?_
   refine Tp rfl rfl (pur_ixT (T := tEdit) sl90 rfl rfl rfl hx_t_3 rfl) rfl ?_
   refine Tp rfl rfl (pur_ldTK (T := tEdit) (i := t_3) (off := 0) rfl agg100 rfl rfl hx_t_3 (by decide) rfl) rfl ?_
   refine TO_cons rfl (TOp_alloc zero100 rfl rfl ?_)
   refine TO_cons rfl (TOp_storeB sz100 rfl rfl rfl rfl rfl rfl rfl (by decide) (lb rfl) rfl ?_)
   refine TO_st (σ' := [.box [(sl tRelation db0.relations), (sl tFact db0.facts)], .box [.n, .n], .row (flat tRelation.own box4_relations), .row (flat tFact.own box4_facts), .box [(.m [2] 0 box4_relations.length tRelation.k), (.m [3] 0 box4_facts.length tFact.k)], .box [(intA x_t_3.kind), (intA x_t_3.fact.relation), (sl tInt x_t_3.fact.values)]]) rfl ?_
   refine TO_nil ?_
   refine sr ?_
   obtain ⟨r_5, h_6, H⟩ := bind_inv H
   refine pv tb 2 rfl ?_
   refine TO_cons rfl (TOp_callOG (call_static ent72 rfl) (frz_cons (frzOK_g (frz_cons (frzT (T := tRelation) rfl) (frz_cons (frzT (T := tFact) rfl) frz_nil)).1 (frz_cons (frzT (T := tRelation) rfl) (frz_cons (frzT (T := tFact) rfl) frz_nil)).2) (frz_cons (frz_loose rfl) frz_nil)).1 (frz_cons (frzOK_g (frz_cons (frzT (T := tRelation) rfl) (frz_cons (frzT (T := tFact) rfl) frz_nil)).1 (frz_cons (frzT (T := tRelation) rfl) (frz_cons (frzT (T := tFact) rfl) frz_nil)).2) (frz_cons (frz_loose rfl) frz_nil)).2 (m_impl_ApplyEdit_own u _ _ _ h_6) rfl (ownC_of (ownSB_cons (flat_ownR tRelation _) (ownSB_cons (flat_ownR tFact _) ownSB_nil))) rfl rfl rfl ?_)
   refine toe [(4, (.b 1 0)), (6, (.b 4 0)), (7, (intA count7)), (9, (.b 5 0)), (14, (sl tEdit edits1)), (15, (intA (edits1.length : Int))), (16, (intA (t_3 : Int))), (21, (.g [(.m [2] 0 box4_relations.length tRelation.k), (.m [3] 0 box4_facts.length tFact.k)])), (22, (.g (tEdit.enc x_t_3))), (23, (.t [(.g [(.m [6] 0 r_5.1.relations.length tRelation.k), (.m [7] 0 r_5.1.facts.length tFact.k)]), (boolA r_5.2)]))] rfl ?_
   refine TO_st (σ' := [.box [(sl tRelation db0.relations), (sl tFact db0.facts)], .box [.n, .n], .row (flat tRelation.own box4_relations), .row (flat tFact.own box4_facts), .box [(.m [2] 0 box4_relations.length tRelation.k), (.m [3] 0 box4_facts.length tFact.k)], .box [(intA x_t_3.kind), (intA x_t_3.fact.relation), (sl tInt x_t_3.fact.values)], .row (flat tRelation.own r_5.1.relations), .row (flat tFact.own r_5.1.facts)]) rfl ?_
   refine pv tb 3 rfl ?_
   refine TO_cons rfl (TOp_alloc zero48 rfl rfl ?_)
   refine TO_cons rfl (TOp_storeB sz48 rfl rfl rfl rfl rfl rfl rfl (by decide) (lb rfl) rfl ?_)
   refine TO_st (σ' := [.box [(sl tRelation db0.relations), (sl tFact db0.facts)], .box [.n, .n], .row (flat tRelation.own box4_relations), .row (flat tFact.own box4_facts), .box [(.m [2] 0 box4_relations.length tRelation.k), (.m [3] 0 box4_facts.length tFact.k)], .box [(intA x_t_3.kind), (intA x_t_3.fact.relation), (sl tInt x_t_3.fact.values)], .row (flat tRelation.own r_5.1.relations), .row (flat tFact.own r_5.1.facts), .box [(.m [6] 0 r_5.1.relations.length tRelation.k), (.m [7] 0 r_5.1.facts.length tFact.k)]]) rfl ?_
   refine pv tb 1 rfl ?_
   refine TO_nil ?_
   refine sr ?_
   refine pv tb 1 rfl ?_
   refine TO_nil ?_
   refine T_cond (t := r_5.2) rfl (fun c_7 => ?_) (fun c_7 => ?_)
   ·replace H := cond_t c_7 H
    refine sr ?_
    refine pv tb 1 rfl ?_
    refine TO_cons rfl (TOp_storeB sz48 rfl rfl rfl rfl rfl rfl rfl (by decide) (lb rfl) rfl ?_)
    refine TO_st (σ' := [.box [(sl tRelation db0.relations), (sl tFact db0.facts)], .box [.n, .n], .row (flat tRelation.own box4_relations), .row (flat tFact.own box4_facts), .box [(.m [6] 0 r_5.1.relations.length tRelation.k), (.m [7] 0 r_5.1.facts.length tFact.k)], .box [(intA x_t_3.kind), (intA x_t_3.fact.relation), (sl tInt x_t_3.fact.values)], .row (flat tRelation.own r_5.1.relations), .row (flat tFact.own r_5.1.facts), .box [(.m [6] 0 r_5.1.relations.length tRelation.k), (.m [7] 0 r_5.1.facts.length tFact.k)]]) rfl ?_
    refine TO_nil ?_
    refine T_region ?_
    refine pv tb 3 rfl ?_
    refine TO_nil ?_
    refine T_move' 2 6 (by decide) (lb rfl) rfl rfl (lb rfl) ?_
    refine te [(4, (.b 1 0)), (6, (.b 4 0)), (7, (intA (w64 (count7 + 1)))), (14, (sl tEdit edits1)), (15, (intA (edits1.length : Int))), (16, (intA (t_3 : Int)))] rfl ?_
    refine T_st (σ' := [.box [(sl tRelation db0.relations), (sl tFact db0.facts)], .box [.n, .n], .row (flat tRelation.own r_5.1.relations), .row (flat tFact.own box4_facts), .box [(.m [2] 0 r_5.1.relations.length tRelation.k), (.m [7] 0 r_5.1.facts.length tFact.k)], .box [(intA x_t_3.kind), (intA x_t_3.fact.relation), (sl tInt x_t_3.fact.values)], .dead, .row (flat tFact.own r_5.1.facts), .box [(.m [2] 0 r_5.1.relations.length tRelation.k), (.m [7] 0 r_5.1.facts.length tFact.k)]]) rfl ?_
    refine T_move' 3 7 (by decide) (lb rfl) rfl rfl (lb rfl) ?_
    refine te [(4, (.b 1 0)), (6, (.b 4 0)), (7, (intA (w64 (count7 + 1)))), (14, (sl tEdit edits1)), (15, (intA (edits1.length : Int))), (16, (intA (t_3 : Int)))] rfl ?_
    refine T_st (σ' := [.box [(sl tRelation db0.relations), (sl tFact db0.facts)], .box [.n, .n], .row (flat tRelation.own r_5.1.relations), .row (flat tFact.own r_5.1.facts), .box [(.m [2] 0 r_5.1.relations.length tRelation.k), (.m [3] 0 r_5.1.facts.length tFact.k)], .box [(intA x_t_3.kind), (intA x_t_3.fact.relation), (sl tInt x_t_3.fact.values)], .dead, .dead, .box [(.m [2] 0 r_5.1.relations.length tRelation.k), (.m [3] 0 r_5.1.facts.length tFact.k)]]) rfl ?_
    refine T_region ?_
    refine Tp rfl rfl (pur_add rfl rfl rfl (fits64 (by omega) (by omega))) rfl ?_
    refine pv tb 1 rfl ?_
    refine TO_nil ?_
    obtain rfl := some_inj H
    exact again (edits1.length - (t_3 + 1)) (t_3 + 1, ((w64 (count7 + 1)), r_5.1.relations, r_5.1.facts)) (by omega) (w0 5) ⟨rfl, K4_⟩
   ·replace H := cond_f c_7 H
    refine T_skip ?_
    refine T_region ?_
    refine Tp rfl rfl (pur_add rfl rfl rfl (fits64 (by omega) (by omega))) rfl ?_
    refine pv tb 1 rfl ?_
    refine TO_nil ?_
    obtain rfl := some_inj H
    exact again (edits1.length - (t_3 + 1)) (t_3 + 1, (count7, box4_relations, box4_facts)) (by omega) (w0 5) ⟨rfl, K4_⟩
  ·replace d4 := of_decide_eq_false d4
   obtain rfl := forS_end L4_ (by omega)
   refine T_exit ?_
   refine then_exit ?_
   refine then_exit ?_
   refine block_exit ?_
   replace H := N4_
   refine sr ?_
   refine pv tb 2 rfl ?_
   refine TO_cons rfl (TOp_storeB sz48 rfl rfl rfl rfl rfl rfl rfl (by decide) (lb rfl) rfl ?_)
   refine TO_st (σ' := [.box [(sl tRelation db0.relations), (sl tFact db0.facts)], .box [(.m [2] 0 box4_relations.length tRelation.k), (.m [3] 0 box4_facts.length tFact.k)], .row (flat tRelation.own box4_relations), .row (flat tFact.own box4_facts), .box [(.m [2] 0 box4_relations.length tRelation.k), (.m [3] 0 box4_facts.length tFact.k)]]) rfl ?_
   refine pv tb 1 rfl ?_
   refine TO_nil ?_
   refine T_ret ?_
   obtain rfl := some_inj H
   exact end_pick (.cellK rfl agg48 rfl (lb rfl) (.tmp .nil)) rfl [2, 3] (by decide) rfl rfl rfl rfl rfl rfl
theorem m_impl_ApplyEdits_ok (u : Nat) (db0 : Database) (edits1 : (List Edit)) (r : (Database × Int)) (H : m_impl_ApplyEdits u db0 edits1 = some r) : FnV prg 66 [(.g (tDatabase.enc db0)), (sl tEdit edits1)] (.t [(.g (tDatabase.enc r.1)), (intA r.2)]) := (m_impl_ApplyEdits_own u db0 edits1 r H).frz (frzOK_t (frz_cons (frzOK_g (frz_cons (frzT (T := tRelation) rfl) (frz_cons (frzT (T := tFact) rfl) frz_nil)).1 (frz_cons (frzT (T := tRelation) rfl) (frz_cons (frzT (T := tFact) rfl) frz_nil)).2) (frz_cons (frz_loose rfl) frz_nil)).1 (frz_cons (frzOK_g (frz_cons (frzT (T := tRelation) rfl) (frz_cons (frzT (T := tFact) rfl) frz_nil)).1 (frz_cons (frzT (T := tRelation) rfl) (frz_cons (frzT (T := tFact) rfl) frz_nil)).2) (frz_cons (frz_loose rfl) frz_nil)).2)

set_option maxHeartbeats 1000000 in
theorem m_spec_l3Ints_ok (u : Nat) (a0 : (List Int)) (b1 : (List Int)) (r : Int) (H : m_spec_l3Ints u a0 b1 = some r) : FnV prg 148 [(sl tInt a0), (sl tInt b1)] (intA r) := by
  unfold m_spec_l3Ints at H
  refine fnV_of_T Try.func148 rfl rfl (Nat.le_of_ble_eq_true rfl) ?_
  refine te [(0, (sl tInt a0)), (1, (sl tInt b1))] rfl ?_
  refine sr ?_
  refine pv tb 1 rfl ?_
  refine TO_nil ?_
  refine T_seq ?_
  refine sr ?_
  refine pv tb 1 rfl ?_
  refine TO_nil ?_
  obtain ⟨O1_, L1_, N1_⟩ := bind_inv H
  clear H
  obtain ⟨B1_, hb1, L1_⟩ := gen_whileF L1_
  refine T_block ?_
  refine T_loopX (fun k => fun (i5 : Int) => whileF B1_ k i5 = some O1_) (fun (i5 : Int) => [(0, (sl tInt a0)), (1, (sl tInt b1)), (5, (intA i5))]) (fun (i5 : Int) => []) u 0 (w0 0) L1_ ?_
  rintro _ i5 L1_
  obtain ⟨k1, rfl, C1_, H, K1_⟩ := while_step L1_
  rw [hb1] at H
  refine T_seq ?_
  refine T_cutX (fun x => ((decide (i5 < (a0.length : Int))) && (decide (i5 < (b1.length : Int)))) = x) (fun (t15_2 : Bool) => [(0, (sl tInt a0)), (1, (sl tInt b1)), (5, (intA i5)), (15, (boolA t15_2))]) (fun (t15_2 : Bool) => []) ?_ ?_
  ·skip
   refine T_region ?_
   refine pv tb 2 rfl ?_
   refine Tp rfl rfl (pur_lenT (T := tInt) sl23 rfl rfl) rfl ?_
   refine pv tb 2 rfl ?_
   refine TO_split (t := decide (i5 < (a0.length : Int))) 10 rfl (fun g_4 => ?_) (fun g_4 => ?_)
   ·skip
    refine pv tb 2 rfl ?_
    refine TO_on rfl rfl (by decide) rfl rfl (TOp_pure (pur_lenT (T := tInt) sl23 rfl rfl) rfl ?_)
    refine pv tb 2 rfl ?_
    refine TO_nil ?_
    exact joined (decide (i5 < (b1.length : Int))) (w0 0) (by first | exact Eq.symm ((and_T g_4 rfl)))
   ·skip
    refine pv tb 5 rfl ?_
    refine TO_nil ?_
    exact joined false (w0 0) (by first | exact Eq.symm ((and_F g_4 rfl)))
  ·rintro _ rfl
   refine T_cond (t := ((decide (i5 < (a0.length : Int))) && (decide (i5 < (b1.length : Int))))) rfl (fun c_5 => ?_) (fun c_5 => ?_)
   ·replace H := cond_t c_5 H
    refine T_skip ?_
    refine T_seq ?_
    refine T_block ?_
    refine T_seq ?_
    refine T_seq ?_
    refine T_regionD mixed (by kernel_rfl) ?_
    obtain ⟨v_6, h_7, H⟩ := bind_inv H
    obtain ⟨n_8, hz_9, hv_10⟩ := getI_inv h_7
    refine pq tb 2 rfl ?_
    refine TQ_pure rfl (pur_ixT (T := tInt) sl23 rfl rfl hz_9 hv_10 rfl) rfl ?_
    refine TQ_pure rfl (pur_ldT (T := tInt) (i := n_8) (off := 0) rfl one3 rfl rfl hv_10 rfl) rfl ?_
    obtain ⟨v_11, h_12, H⟩ := bind_inv H
    obtain ⟨n_13, hz_14, hv_15⟩ := getI_inv h_12
    refine pq tb 2 rfl ?_
    refine TQ_pure rfl (pur_ixT (T := tInt) sl23 rfl rfl hz_14 hv_15 rfl) rfl ?_
    refine TQ_pure rfl (pur_ldT (T := tInt) (i := n_13) (off := 0) rfl one3 rfl rfl hv_15 rfl) rfl ?_
    refine pq tb 1 rfl ?_
    refine TQ_nil ?_
    refine T_cond (t := decide (v_6 < v_11)) rfl (fun c_16 => ?_) (fun c_16 => ?_)
    ·replace H := cond_t c_16 H
     refine sr ?_
     refine pv tb 1 rfl ?_
     refine TO_nil ?_
     refine T_ret ?_
     refine then_ret ?_
     refine block_ret ?_
     refine then_ret ?_
     refine then_ret ?_
     refine block_ret ?_
     refine then_ret ?_
     obtain rfl := some_inj H
     obtain rfl := some_inj K1_
     replace H := onS_r N1_
     obtain rfl := some_inj H
     refine end_ret (.tmp .nil) rfl rfl ⟨?_, rfl⟩
     rfl
    ·replace H := cond_f c_16 H
     refine T_skip ?_
     refine T_seq ?_
     refine T_regionD mixed (by kernel_rfl) ?_
     refine pq tb 2 rfl ?_
     refine TQ_pure rfl (pur_ixT (T := tInt) sl23 rfl rfl hz_9 hv_10 rfl) rfl ?_
     refine TQ_pure rfl (pur_ldT (T := tInt) (i := n_8) (off := 0) rfl one3 rfl rfl hv_10 rfl) rfl ?_
     refine pq tb 2 rfl ?_
     refine TQ_pure rfl (pur_ixT (T := tInt) sl23 rfl rfl hz_14 hv_15 rfl) rfl ?_
     refine TQ_pure rfl (pur_ldT (T := tInt) (i := n_13) (off := 0) rfl one3 rfl rfl hv_15 rfl) rfl ?_
     refine pq tb 1 rfl ?_
     refine TQ_nil ?_
     refine te [(0, (sl tInt a0)), (1, (sl tInt b1)), (5, (intA i5)), (35, (boolA (decide (v_11 < v_6))))] rfl ?_
     refine T_cond (t := decide (v_11 < v_6)) rfl (fun c_17 => ?_) (fun c_17 => ?_)
     ·replace H := cond_t c_17 H
      refine sr ?_
      refine pv tb 1 rfl ?_
      refine TO_nil ?_
      refine T_ret ?_
      refine block_ret ?_
      refine then_ret ?_
      refine then_ret ?_
      refine block_ret ?_
      refine then_ret ?_
      obtain rfl := some_inj H
      obtain rfl := some_inj K1_
      replace H := onS_r N1_
      obtain rfl := some_inj H
      refine end_ret (.tmp .nil) rfl rfl ⟨?_, rfl⟩
      rfl
     ·replace H := cond_f c_17 H
      refine T_skip ?_
      refine T_region ?_
      refine pv tb 3 rfl ?_
      refine TO_nil ?_
      obtain rfl := some_inj H
      exact again k1 (w64 (i5 + 1)) (Nat.lt_succ_self _) (w0 0) K1_
   ·replace H := cond_f c_5 H
    refine T_exit ?_
    refine then_exit ?_
    refine then_exit ?_
    refine block_exit ?_
    obtain rfl := some_inj H
    obtain rfl := some_inj K1_
    replace H := onS_l N1_
    refine T_seq ?_
    refine sr ?_
    refine pv tb 1 rfl ?_
    refine Tp rfl rfl (pur_lenT (T := tInt) sl23 rfl rfl) rfl ?_
    refine pv tb 1 rfl ?_
    refine Tp rfl rfl (pur_lenT (T := tInt) sl23 rfl rfl) rfl ?_
    refine pv tb 1 rfl ?_
    refine TO_nil ?_
    refine T_cond (t := decide ((a0.length : Int) < (b1.length : Int))) rfl (fun c_18 => ?_) (fun c_18 => ?_)
    ·replace H := cond_t c_18 H
     refine sr ?_
     refine pv tb 1 rfl ?_
     refine TO_nil ?_
     refine T_ret ?_
     refine then_ret ?_
     obtain rfl := some_inj H
     refine end_ret (.tmp .nil) rfl rfl ⟨?_, rfl⟩
     rfl
    ·replace H := cond_f c_18 H
     refine T_skip ?_
     refine T_seq ?_
     refine sr ?_
     refine pv tb 1 rfl ?_
     refine Tp rfl rfl (pur_lenT (T := tInt) sl23 rfl rfl) rfl ?_
     refine pv tb 1 rfl ?_
     refine Tp rfl rfl (pur_lenT (T := tInt) sl23 rfl rfl) rfl ?_
     refine pv tb 1 rfl ?_
     refine TO_nil ?_
     refine T_cond (t := decide ((b1.length : Int) < (a0.length : Int))) rfl (fun c_19 => ?_) (fun c_19 => ?_)
     ·replace H := cond_t c_19 H
      refine sr ?_
      refine pv tb 1 rfl ?_
      refine TO_nil ?_
      refine T_ret ?_
      refine then_ret ?_
      obtain rfl := some_inj H
      refine end_ret (.tmp .nil) rfl rfl ⟨?_, rfl⟩
      rfl
     ·replace H := cond_f c_19 H
      refine T_skip ?_
      refine sr ?_
      refine pv tb 1 rfl ?_
      refine TO_nil ?_
      refine T_ret ?_
      obtain rfl := some_inj H
      refine end_ret (.tmp .nil) rfl rfl ⟨?_, rfl⟩
      rfl

set_option maxHeartbeats 1000000 in
theorem m_spec_CompareFacts_ok (u : Nat) (a0 : Fact) (b1 : Fact) (r : Int) (H : m_spec_CompareFacts u a0 b1 = some r) : FnV prg 114 [(.g (tFact.enc a0)), (.g (tFact.enc b1))] (intA r) := by
  unfold m_spec_CompareFacts at H
  refine fnV_of_T Try.func114 rfl rfl (Nat.le_of_ble_eq_true rfl) ?_
  refine te [(0, (.g (tFact.enc a0))), (1, (.g (tFact.enc b1)))] rfl ?_
  refine sr ?_
  refine TO_cons rfl (TOp_box rfl (boxAll rfl) rfl rfl ?_)
  refine TO_cons rfl (TOp_box rfl (boxAll rfl) rfl rfl ?_)
  refine pv tb 1 rfl ?_
  refine TO_nil ?_
  refine T_seq ?_
  refine sr ?_
  refine pv tb 5 rfl ?_
  refine TO_nil ?_
  refine T_cond (t := decide (a0.relation < b1.relation)) rfl (fun c_1 => ?_) (fun c_1 => ?_)
  ·replace H := cond_t c_1 H
   refine sr ?_
   refine pv tb 1 rfl ?_
   refine TO_nil ?_
   refine T_ret ?_
   refine then_ret ?_
   obtain rfl := some_inj H
   refine end_ret (.tmp .nil) rfl rfl ⟨?_, rfl⟩
   rfl
  ·replace H := cond_f c_1 H
   refine T_skip ?_
   refine T_seq ?_
   refine sr ?_
   refine pv tb 5 rfl ?_
   refine TO_nil ?_
   refine T_cond (t := decide (b1.relation < a0.relation)) rfl (fun c_2 => ?_) (fun c_2 => ?_)
   ·replace H := cond_t c_2 H
    refine sr ?_
    refine pv tb 1 rfl ?_
    refine TO_nil ?_
    refine te [(4, (intA 1))] rfl ?_
    refine T_ret ?_
    refine then_ret ?_
    obtain rfl := some_inj H
    refine end_ret (.tmp .nil) rfl rfl ⟨?_, rfl⟩
    rfl
   ·replace H := cond_f c_2 H
    refine T_skip ?_
    refine sr ?_
    obtain ⟨r_3, h_4, H⟩ := bind_inv H
    refine pv tb 4 rfl ?_
    refine TO_cons rfl (TOp_callV (call_static ent148 rfl) (m_spec_l3Ints_ok u _ _ _ h_4) rfl rfl rfl ?_)
    refine pv tb 1 rfl ?_
    refine TO_nil ?_
    refine te [(4, (intA r_3))] rfl ?_
    refine T_ret ?_
    obtain rfl := some_inj H
    refine end_ret (.tmp .nil) rfl rfl ⟨?_, rfl⟩
    rfl

set_option maxHeartbeats 1000000 in
theorem m_spec_l1In_ok (x0 : Int) (low1 : Int) (high2 : Int) (r : Bool) (H : m_spec_l1In x0 low1 high2 = some r) : FnV prg 137 [(intA x0), (intA low1), (intA high2)] (boolA r) := by
  unfold m_spec_l1In at H
  refine fnV_of_T Try.func137 rfl rfl (Nat.le_of_ble_eq_true rfl) ?_
  refine te [(0, (intA x0)), (1, (intA low1)), (2, (intA high2))] rfl ?_
  refine sr ?_
  refine pv tb 1 rfl ?_
  refine TO_nil ?_
  refine T_cutX (fun x => ((decide (low1 ≤ x0)) && (decide (x0 ≤ high2))) = x) (fun (t6_1 : Bool) => [(6, (boolA t6_1))]) (fun (t6_1 : Bool) => []) ?_ ?_
  ·skip
   refine T_region ?_
   refine pv tb 4 rfl ?_
   refine TO_split (t := decide (low1 ≤ x0)) 10 rfl (fun g_3 => ?_) (fun g_3 => ?_)
   ·skip
    refine pv tb 5 rfl ?_
    refine TO_nil ?_
    exact joined (decide (x0 ≤ high2)) (w0 0) (by first | exact Eq.symm ((and_T g_3 rfl)))
   ·skip
    refine pv tb 5 rfl ?_
    refine TO_nil ?_
    exact joined false (w0 0) (by first | exact Eq.symm ((and_F g_3 rfl)))
  ·rintro _ rfl
   refine T_ret ?_
   obtain rfl := some_inj H
   refine end_ret (.tmp .nil) rfl rfl ⟨?_, rfl⟩
   rfl

set_option maxHeartbeats 1000000 in
theorem m_spec_IsValidRelation_ok (s0 : Relation) (r : Bool) (H : m_spec_IsValidRelation s0 = some r) : FnV prg 170 [(.g (tRelation.enc s0))] (boolA r) := by
  unfold m_spec_IsValidRelation at H
  refine fnV_of_T Try.func170 rfl rfl (Nat.le_of_ble_eq_true rfl) ?_
  refine te [(0, (.g (tRelation.enc s0)))] rfl ?_
  refine sr ?_
  refine TO_cons rfl (TOp_box rfl (boxAll rfl) rfl rfl ?_)
  refine pv tb 1 rfl ?_
  refine TO_nil ?_
  obtain ⟨t2_1, J_1, H_2⟩ := bind_inv H
  refine T_cutX (fun x => t2_1 = x) (fun (t2_1 : Bool) => [(2, (boolA t2_1))]) (fun (t2_1 : Bool) => []) ?_ ?_
  ·replace H := J_1
   refine T_region ?_
   refine pv tb 2 rfl ?_
   refine Tp rfl rfl (pur_len_s (by kernel_rfl) rfl rfl) rfl ?_
   refine pv tb 2 rfl ?_
   refine TO_split (t := decide ((s0.name.size : Int) = 1)) 7 rfl (fun g_3 => ?_) (fun g_3 => ?_)
   ·replace H := cond_t g_3 H
    obtain ⟨b_4, h_5, H⟩ := bind_inv H
    refine pv tb 2 rfl ?_
    refine TO_on rfl rfl (by decide) rfl rfl (TOp_pure (pur_ixS (by kernel_rfl) rfl rfl h_5 rfl) rfl ?_)
    refine pv tb 3 rfl ?_
    refine TO_split (t := decide (97 ≤ b_4)) 13 rfl (fun g_6 => ?_) (fun g_6 => ?_)
    ·replace H := cond_t g_6 H
     obtain ⟨b_7, h_8, H⟩ := bind_inv H
     refine pv tb 2 rfl ?_
     refine TO_on rfl rfl (by decide) rfl rfl (TOp_pure (pur_ixS (by kernel_rfl) rfl rfl h_8 rfl) rfl ?_)
     refine pv tb 3 rfl ?_
     refine TO_split (t := decide (b_7 ≤ 122)) 19 rfl (fun g_9 => ?_) (fun g_9 => ?_)
     ·replace H := cond_t g_9 H
      obtain ⟨r_10, h_11, H⟩ := bind_inv H
      refine pv tb 2 rfl ?_
      refine TO_on rfl rfl (by decide) rfl rfl (TOp_callV (call_static ent137 rfl) (m_spec_l1In_ok _ _ _ _ h_11) rfl rfl rfl ?_)
      refine pv tb 2 rfl ?_
      refine TO_split (t := r_10) 24 rfl (fun g_12 => ?_) (fun g_12 => ?_)
      ·replace H := cond_t g_12 H
       obtain ⟨r_13, h_14, H⟩ := bind_inv H
       refine pv tb 4 rfl ?_
       refine TO_on rfl rfl (by decide) rfl rfl (TOp_callV (call_static ent137 rfl) (m_spec_l1In_ok _ _ _ _ h_14) rfl rfl rfl ?_)
       refine pv tb 2 rfl ?_
       refine TO_nil ?_
       exact joined r_13 (w0 0) (some_inj H).symm
      ·replace H := cond_f g_12 H
       refine pv tb 7 rfl ?_
       refine TO_nil ?_
       exact joined false (w0 0) (some_inj H).symm
     ·replace H := cond_f g_9 H
      refine pv tb 8 rfl ?_
      refine toe [(24, (boolA false)), (26, (.v undef)), (27, (.v undef))] rfl ?_
      refine pv tb 4 rfl ?_
      refine TO_nil ?_
      exact joined false (w0 0) (some_inj H).symm
    ·replace H := cond_f g_6 H
     refine pv tb 8 rfl ?_
     refine toe [(1, (.b 0 0)), (19, (boolA false)), (21, (.v undef))] rfl ?_
     refine pv tb 10 rfl ?_
     refine TO_nil ?_
     exact joined false (w0 0) (some_inj H).symm
   ·replace H := cond_f g_3 H
    refine pv tb 16 rfl ?_
    refine toe [(1, (.b 0 0)), (23, (boolA false))] rfl ?_
    refine pv tb 8 rfl ?_
    refine TO_nil ?_
    exact joined false (w0 0) (some_inj H).symm
  ·rintro _ rfl
   replace H := H_2
   refine T_ret ?_
   obtain rfl := some_inj H
   refine end_ret (.tmp .nil) rfl rfl ⟨?_, rfl⟩
   rfl

set_option maxHeartbeats 1000000 in
theorem m_spec_AreValidRelations_ok (l0 : (List Relation)) (r : Bool) (H : m_spec_AreValidRelations l0 = some r) : FnV prg 124 [(sl tRelation l0)] (boolA r) := by
  unfold m_spec_AreValidRelations at H
  refine fnV_of_T Try.func124 rfl rfl (Nat.le_of_ble_eq_true rfl) ?_
  refine te [(0, (sl tRelation l0))] rfl ?_
  refine sr ?_
  refine pv tb 1 rfl ?_
  refine TO_nil ?_
  refine T_seq ?_
  refine sr ?_
  refine pv tb 1 rfl ?_
  refine TO_nil ?_
  obtain ⟨O2_, L2_, N2_⟩ := bind_inv H
  clear H
  obtain ⟨B2_, hb2, L2_⟩ := gen_forL L2_
  refine T_block ?_
  refine T_loopX (fun k => fun (i_1 : Nat) => k = l0.length - i_1 ∧ forL B2_ (l0.drop i_1) (i_1 : Int) () = some O2_) (fun (i_1 : Nat) => [(0, (sl tRelation l0)), (3, (intA (i_1 : Int)))]) (fun (i_1 : Nat) => []) _ (0 : Nat) (w0 0) ⟨rfl, L2_⟩ ?_
  rintro _ i_1 ⟨rfl, L2_⟩
  refine T_fact (len_sl (T := tRelation) (.tmp 0) rfl) (fun hl2 => ?_)
  refine T_seq ?_
  refine sr ?_
  refine pv tb 2 rfl ?_
  refine Tp rfl rfl (pur_lenT (T := tRelation) sl45 rfl rfl) rfl ?_
  refine pv tb 1 rfl ?_
  refine TO_nil ?_
  refine T_cond (t := decide ((i_1 : Int) < (l0.length : Int))) rfl (fun d2 => ?_) (fun d2 => ?_)
  ·replace d2 := of_decide_eq_true d2
   obtain ⟨x_i_1, hx_i_1⟩ : ∃ v, (l0)[i_1]? = some v := ⟨_, List.getElem?_eq_getElem (by omega)⟩
   obtain ⟨C2_, H, K2_⟩ := forL_step L2_ hx_i_1
   rw [hb2] at H
   refine T_skip ?_
   refine T_seq ?_
   refine T_block ?_
   obtain ⟨t33_3, J_3, H_4⟩ := bind_inv H
   refine T_cutX (fun x => t33_3 = x) (fun (t33_3 : Bool) => [(0, (sl tRelation l0)), (3, (intA (i_1 : Int))), (33, (boolA t33_3))]) (fun (t33_3 : Bool) => []) ?_ ?_
   ·replace H := J_3
    refine T_regionD mixed (by kernel_rfl) ?_
    refine pq tb 2 rfl ?_
    refine TQ_pure rfl (pur_ixT (T := tRelation) sl45 rfl rfl rfl hx_i_1 rfl) rfl ?_
    refine TQ_pure rfl (pur_ldTK (T := tRelation) (i := i_1) (off := 0) rfl agg130 rfl rfl hx_i_1 (by decide) rfl) rfl ?_
    obtain ⟨r_5, h_6, H⟩ := bind_inv H
    refine TQ_callV rfl (call_static ent170 rfl) (m_spec_IsValidRelation_ok _ _ h_6) rfl rfl ?_
    refine pq tb 2 rfl ?_
    refine TQ_split (t := (!r_5)) 16 rfl (fun g_7 => ?_) (fun g_7 => ?_)
    ·replace H := cond_t g_7 H
     refine pq tb 8 rfl ?_
     refine tqe [(0, (sl tRelation l0)), (3, (intA (i_1 : Int))), (16, (boolA true)), (19, (.v undef)), (24, (.v undef))] rfl ?_
     refine pq tb 9 rfl ?_
     refine TQ_nil ?_
     exact joined true (w0 0) (some_inj H).symm
    ·replace H := cond_f g_7 H
     refine pq tb 3 rfl ?_
     refine TQ_split (t := decide (0 < (i_1 : Int))) 19 rfl (fun g_8 => ?_) (fun g_8 => ?_)
     ·replace H := cond_t g_8 H
      refine pq tb 2 rfl ?_
      refine TQ_on rfl rfl (by decide) rfl (pur_sub rfl rfl rfl (fits64 (by omega) (by omega))) rfl ?_
      obtain ⟨v_9, h_10, H⟩ := bind_inv H
      obtain ⟨n_11, hz_12, hv_13⟩ := getI_inv h_10
      refine TQ_on rfl rfl (by decide) rfl (pur_ixT (T := tRelation) sl45 rfl rfl hz_12 hv_13 rfl) rfl ?_
      refine pq tb 1 rfl ?_
      refine TQ_on rfl rfl (by decide) rfl (pur_ldT (T := tRelation) (i := n_11) (off := 0) rfl one9 rfl rfl hv_13 rfl) rfl ?_
      refine pq tb 2 rfl ?_
      refine tqe [(0, (sl tRelation l0)), (3, (intA (i_1 : Int))), (16, (boolA false)), (19, (boolA true)), (25, (strA v_9.name)), (26, (sl tRelation l0)), (27, (intA (i_1 : Int)))] rfl ?_
      refine TQ_on rfl rfl (by decide) rfl (pur_ixT (T := tRelation) sl45 rfl rfl rfl hx_i_1 rfl) rfl ?_
      refine pq tb 1 rfl ?_
      refine TQ_on rfl rfl (by decide) rfl (pur_ldT (T := tRelation) (i := i_1) (off := 0) rfl one9 rfl rfl hx_i_1 rfl) rfl ?_
      refine TQ_on rfl rfl (by decide) rfl (pur_geqS rfl rfl rfl) rfl ?_
      refine pq tb 2 rfl ?_
      refine TQ_nil ?_
      exact joined (!ltS v_9.name x_i_1.name) (w0 0) (some_inj H).symm
     ·replace H := cond_f g_8 H
      refine pq tb 8 rfl ?_
      refine tqe [(0, (sl tRelation l0)), (3, (intA (i_1 : Int))), (16, (boolA false)), (19, (boolA false)), (25, (.v undef)), (26, (.v undef)), (27, (.v undef))] rfl ?_
      refine pq tb 6 rfl ?_
      refine TQ_nil ?_
      exact joined false (w0 0) (some_inj H).symm
   ·rintro _ rfl
    replace H := H_4
    refine T_cond (t := t33_3) rfl (fun c_14 => ?_) (fun c_14 => ?_)
    ·replace H := cond_t c_14 H
     refine sr ?_
     refine pv tb 1 rfl ?_
     refine TO_nil ?_
     refine T_ret ?_
     refine block_ret ?_
     refine then_ret ?_
     refine then_ret ?_
     refine block_ret ?_
     refine then_ret ?_
     obtain rfl := some_inj H
     obtain rfl := some_inj K2_
     replace H := onS_r N2_
     obtain rfl := some_inj H
     refine end_ret (.tmp .nil) rfl rfl ⟨?_, rfl⟩
     rfl
    ·replace H := cond_f c_14 H
     refine T_skip ?_
     refine T_region ?_
     refine pv tb 1 rfl ?_
     refine Tp rfl rfl (pur_add rfl rfl rfl (fits64 (by omega) (by omega))) rfl ?_
     refine pv tb 1 rfl ?_
     refine TO_nil ?_
     obtain rfl := some_inj H
     exact again (l0.length - (i_1 + 1)) (i_1 + 1) (by omega) (w0 0) ⟨rfl, K2_⟩
  ·replace d2 := of_decide_eq_false d2
   obtain rfl := forL_end L2_ (by omega)
   refine T_exit ?_
   refine then_exit ?_
   refine then_exit ?_
   refine block_exit ?_
   replace H := onS_l N2_
   refine sr ?_
   refine pv tb 1 rfl ?_
   refine Tp rfl rfl (pur_lenT (T := tRelation) sl45 rfl rfl) rfl ?_
   refine pv tb 2 rfl ?_
   refine TO_nil ?_
   refine T_ret ?_
   obtain rfl := some_inj H
   refine end_ret (.tmp .nil) rfl rfl ⟨?_, rfl⟩
   rfl

set_option maxHeartbeats 1000000 in
theorem m_spec_IsValidFact_ok (u : Nat) (l0 : (List Relation)) (f1 : Fact) (r : Bool) (H : m_spec_IsValidFact u l0 f1 = some r) : FnV prg 123 [(sl tRelation l0), (.g (tFact.enc f1))] (boolA r) := by
  unfold m_spec_IsValidFact at H
  refine fnV_of_T Try.func123 rfl rfl (Nat.le_of_ble_eq_true rfl) ?_
  refine te [(0, (sl tRelation l0)), (1, (.g (tFact.enc f1)))] rfl ?_
  refine sr ?_
  refine TO_cons rfl (TOp_box rfl (boxAll rfl) rfl rfl ?_)
  refine pv tb 1 rfl ?_
  refine TO_nil ?_
  refine T_seq ?_
  obtain ⟨t29_1, J_1, H_2⟩ := bind_inv H
  refine T_cutX (fun x => t29_1 = x) (fun (t29_1 : Bool) => [(3, (.b 0 0)), (29, (boolA t29_1))]) (fun (t29_1 : Bool) => [.box [(intA f1.relation), (sl tInt f1.values)]]) ?_ ?_
  ·replace H := J_1
   refine T_regionD mixed (by kernel_rfl) ?_
   obtain ⟨r_3, h_4, H⟩ := bind_inv H
   refine pq tb 1 rfl ?_
   refine TQ_callV rfl (call_static ent124 rfl) (m_spec_AreValidRelations_ok _ _ h_4) rfl rfl ?_
   refine pq tb 2 rfl ?_
   refine TQ_split (t := (!r_3)) 9 rfl (fun g_5 => ?_) (fun g_5 => ?_)
   ·replace H := cond_t g_5 H
    refine pq tb 16 rfl ?_
    refine tqe [(3, (.b 0 0)), (18, (boolA true)), (21, (.v undef)), (25, (.v undef))] rfl ?_
    refine pq tb 4 rfl ?_
    refine TQ_nil ?_
    exact joined true (w0 1) (some_inj H).symm
   ·replace H := cond_f g_5 H
    refine pq tb 3 rfl ?_
    refine TQ_on rfl rfl (by decide) rfl (pur_lenT (T := tRelation) sl45 rfl rfl) rfl ?_
    refine TQ_fact (len_sl (T := tRelation) (.tmp 0) rfl) (fun hl_6 => ?_)
    refine TQ_on rfl rfl (by decide) rfl (pur_sub rfl rfl rfl (fits64 (by omega) (by omega))) rfl ?_
    obtain ⟨r_7, h_8, H⟩ := bind_inv H
    refine TQ_onV rfl rfl (by decide) rfl (call_static ent137 rfl) (m_spec_l1In_ok _ _ _ _ h_8) rfl rfl ?_
    refine pq tb 3 rfl ?_
    refine TQ_split (t := (!r_7)) 18 rfl (fun g_9 => ?_) (fun g_9 => ?_)
    ·replace H := cond_t g_9 H
     refine pq tb 8 rfl ?_
     refine tqe [(3, (.b 0 0)), (18, (boolA true)), (21, (.v undef)), (26, (.v undef))] rfl ?_
     refine pq tb 3 rfl ?_
     refine TQ_nil ?_
     exact joined true (w0 1) (some_inj H).symm
    ·replace H := cond_f g_9 H
     refine pq tb 2 rfl ?_
     refine TQ_on rfl rfl (by decide) rfl (pur_lenT (T := tInt) sl23 rfl rfl) rfl ?_
     obtain ⟨v_10, h_11, H⟩ := bind_inv H
     obtain ⟨n_12, hz_13, hv_14⟩ := getI_inv h_11
     refine pq tb 3 rfl ?_
     refine TQ_on rfl rfl (by decide) rfl (pur_ixT (T := tRelation) sl45 rfl rfl hz_13 hv_14 rfl) rfl ?_
     refine pq tb 1 rfl ?_
     refine tqe [(3, (.b 0 0)), (18, (boolA false)), (21, (intA (f1.values.length : Int))), (26, (.q (flat tRelation.enc l0) (n_12 * tRelation.k + 1)))] rfl ?_
     refine TQ_on rfl rfl (by decide) rfl (pur_ldT (T := tRelation) (i := n_12) (off := 1) rfl one3 rfl rfl hv_14 rfl) rfl ?_
     refine pq tb 2 rfl ?_
     refine TQ_nil ?_
     exact joined (decide ((f1.values.length : Int) ≠ v_10.arity)) (w0 1) (some_inj H).symm
  ·rintro _ rfl
   replace H := H_2
   refine T_cond (t := t29_1) rfl (fun c_15 => ?_) (fun c_15 => ?_)
   ·replace H := cond_t c_15 H
    refine sr ?_
    refine pv tb 1 rfl ?_
    refine TO_nil ?_
    refine T_ret ?_
    refine then_ret ?_
    obtain rfl := some_inj H
    refine end_ret (.tmp .nil) rfl rfl ⟨?_, rfl⟩
    rfl
   ·replace H := cond_f c_15 H
    refine T_skip ?_
    refine T_seq ?_
    refine sr ?_
    refine pv tb 1 rfl ?_
    refine TO_nil ?_
    obtain ⟨O16_, L16_, N16_⟩ := bind_inv H
    clear H
    obtain ⟨B16_, hb16, L16_⟩ := gen_whileF L16_
    refine T_block ?_
    refine T_loopX (fun k => fun (i5 : Int) => whileF B16_ k i5 = some O16_) (fun (i5 : Int) => [(3, (.b 0 0)), (5, (intA i5))]) (fun (i5 : Int) => [.box [(intA f1.relation), (sl tInt f1.values)]]) u 0 (w0 1) L16_ ?_
    rintro _ i5 L16_
    obtain ⟨k16, rfl, C16_, H, K16_⟩ := while_step L16_
    rw [hb16] at H
    refine T_seq ?_
    refine sr ?_
    refine pv tb 3 rfl ?_
    refine Tp rfl rfl (pur_lenT (T := tInt) sl23 rfl rfl) rfl ?_
    refine pv tb 1 rfl ?_
    refine TO_nil ?_
    refine T_cond (t := decide (i5 < (f1.values.length : Int))) rfl (fun c_17 => ?_) (fun c_17 => ?_)
    ·replace H := cond_t c_17 H
     refine T_skip ?_
     refine T_seq ?_
     refine T_block ?_
     refine sr ?_
     obtain ⟨v_18, h_19, H⟩ := bind_inv H
     obtain ⟨n_20, hz_21, hv_22⟩ := getI_inv h_19
     refine pv tb 3 rfl ?_
     refine Tp rfl rfl (pur_ixT (T := tInt) sl23 rfl rfl hz_21 hv_22 rfl) rfl ?_
     refine Tp rfl rfl (pur_ldT (T := tInt) (i := n_20) (off := 0) rfl one3 rfl rfl hv_22 rfl) rfl ?_
     obtain ⟨r_23, h_24, H⟩ := bind_inv H
     refine TO_cons rfl (TOp_callV (call_static ent137 rfl) (m_spec_l1In_ok _ _ _ _ h_24) rfl rfl rfl ?_)
     refine pv tb 1 rfl ?_
     refine TO_nil ?_
     refine T_cond (t := (!r_23)) rfl (fun c_25 => ?_) (fun c_25 => ?_)
     ·replace H := cond_t c_25 H
      refine sr ?_
      refine pv tb 1 rfl ?_
      refine TO_nil ?_
      refine T_ret ?_
      refine block_ret ?_
      refine then_ret ?_
      refine then_ret ?_
      refine block_ret ?_
      refine then_ret ?_
      obtain rfl := some_inj H
      obtain rfl := some_inj K16_
      replace H := onS_r N16_
      obtain rfl := some_inj H
      refine end_ret (.tmp .nil) rfl rfl ⟨?_, rfl⟩
      rfl
     ·replace H := cond_f c_25 H
      refine T_skip ?_
      refine T_region ?_
      refine pv tb 3 rfl ?_
      refine TO_nil ?_
      obtain rfl := some_inj H
      exact again k16 (w64 (i5 + 1)) (Nat.lt_succ_self _) (w0 1) K16_
    ·replace H := cond_f c_17 H
     refine T_exit ?_
     refine then_exit ?_
     refine then_exit ?_
     refine block_exit ?_
     obtain rfl := some_inj H
     obtain rfl := some_inj K16_
     replace H := onS_l N16_
     refine sr ?_
     refine pv tb 1 rfl ?_
     refine TO_nil ?_
     refine T_ret ?_
     obtain rfl := some_inj H
     refine end_ret (.tmp .nil) rfl rfl ⟨?_, rfl⟩
     rfl

set_option maxHeartbeats 1000000 in
theorem m_spec_IsValidDatabase_ok (u : Nat) (d0 : Database) (r : Bool) (H : m_spec_IsValidDatabase u d0 = some r) : FnV prg 53 [(.g (tDatabase.enc d0))] (boolA r) := by
  unfold m_spec_IsValidDatabase at H
  refine fnV_of_T Try.func53 rfl rfl (Nat.le_of_ble_eq_true rfl) ?_
  refine te [(0, (.g (tDatabase.enc d0)))] rfl ?_
  refine sr ?_
  refine TO_cons rfl (TOp_box rfl (boxAll rfl) rfl rfl ?_)
  refine pv tb 1 rfl ?_
  refine TO_nil ?_
  refine T_seq ?_
  refine sr ?_
  refine pv tb 1 rfl ?_
  refine TO_nil ?_
  obtain ⟨O1_, L1_, N1_⟩ := bind_inv H
  clear H
  obtain ⟨B1_, hb1, L1_⟩ := gen_whileF L1_
  refine T_block ?_
  refine T_loopX (fun k => fun (i3 : Int) => whileF B1_ k i3 = some O1_) (fun (i3 : Int) => [(1, (.b 0 0)), (3, (intA i3))]) (fun (i3 : Int) => [.box [(sl tRelation d0.relations), (sl tFact d0.facts)]]) u 0 (w0 1) L1_ ?_
  rintro _ i3 L1_
  obtain ⟨k1, rfl, C1_, H, K1_⟩ := while_step L1_
  rw [hb1] at H
  refine T_seq ?_
  refine sr ?_
  refine pv tb 3 rfl ?_
  refine Tp rfl rfl (pur_lenT (T := tFact) sl46 rfl rfl) rfl ?_
  refine pv tb 1 rfl ?_
  refine TO_nil ?_
  refine T_cond (t := decide (i3 < (d0.facts.length : Int))) rfl (fun c_2 => ?_) (fun c_2 => ?_)
  ·replace H := cond_t c_2 H
   refine T_skip ?_
   refine T_seq ?_
   refine T_block ?_
   obtain ⟨t38_3, J_3, H_4⟩ := bind_inv H
   refine T_cutX (fun x => t38_3 = x) (fun (t38_3 : Bool) => [(1, (.b 0 0)), (3, (intA i3)), (38, (boolA t38_3))]) (fun (t38_3 : Bool) => [.box [(sl tRelation d0.relations), (sl tFact d0.facts)]]) ?_ ?_
   ·replace H := J_3
    refine T_regionD mixed (by kernel_rfl) ?_
    obtain ⟨v_5, h_6, H⟩ := bind_inv H
    obtain ⟨n_7, hz_8, hv_9⟩ := getI_inv h_6
    refine pq tb 5 rfl ?_
    refine TQ_pure rfl (pur_ixT (T := tFact) sl46 rfl rfl hz_8 hv_9 rfl) rfl ?_
    refine TQ_pure rfl (pur_ldTK (T := tFact) (i := n_7) (off := 0) rfl agg65 rfl rfl hv_9 (by decide) rfl) rfl ?_
    obtain ⟨r_10, h_11, H⟩ := bind_inv H
    refine TQ_callV rfl (call_static ent123 rfl) (m_spec_IsValidFact_ok u _ _ _ h_11) rfl rfl ?_
    refine pq tb 2 rfl ?_
    refine TQ_split (t := (!r_10)) 20 rfl (fun g_12 => ?_) (fun g_12 => ?_)
    ·replace H := cond_t g_12 H
     refine pq tb 8 rfl ?_
     refine tqe [(1, (.b 0 0)), (3, (intA i3)), (20, (boolA true)), (23, (.v undef)), (28, (.v undef))] rfl ?_
     refine pq tb 10 rfl ?_
     refine TQ_nil ?_
     exact joined true (w0 1) (some_inj H).symm
    ·replace H := cond_f g_12 H
     refine pq tb 3 rfl ?_
     refine TQ_split (t := decide (0 < i3)) 23 rfl (fun g_13 => ?_) (fun g_13 => ?_)
     ·replace H := cond_t g_13 H
      obtain ⟨v_14, h_15, H⟩ := bind_inv H
      obtain ⟨n_16, hz_17, hv_18⟩ := getI_inv h_15
      refine pq tb 4 rfl ?_
      refine TQ_on rfl rfl (by decide) rfl (pur_ixT (T := tFact) sl46 rfl rfl hz_17 hv_18 rfl) rfl ?_
      refine TQ_on rfl rfl (by decide) rfl (pur_ldTK (T := tFact) (i := n_16) (off := 0) rfl agg65 rfl rfl hv_18 (by decide) rfl) rfl ?_
      refine pq tb 2 rfl ?_
      refine tqe [(1, (.b 0 0)), (3, (intA i3)), (20, (boolA false)), (23, (boolA true)), (29, (.g (tFact.enc v_14))), (31, (sl tFact d0.facts))] rfl ?_
      refine pq tb 1 rfl ?_
      refine TQ_on rfl rfl (by decide) rfl (pur_ixT (T := tFact) sl46 rfl rfl hz_8 hv_9 rfl) rfl ?_
      refine TQ_on rfl rfl (by decide) rfl (pur_ldTK (T := tFact) (i := n_7) (off := 0) rfl agg65 rfl rfl hv_9 (by decide) rfl) rfl ?_
      obtain ⟨r_19, h_20, H⟩ := bind_inv H
      refine TQ_onV rfl rfl (by decide) rfl (call_static ent114 rfl) (m_spec_CompareFacts_ok u _ _ _ h_20) rfl rfl ?_
      refine pq tb 3 rfl ?_
      refine TQ_nil ?_
      exact joined (decide (0 ≤ r_19)) (w0 1) (some_inj H).symm
     ·replace H := cond_f g_13 H
      refine pq tb 8 rfl ?_
      refine tqe [(1, (.b 0 0)), (3, (intA i3)), (20, (boolA false)), (23, (boolA false)), (29, (.v undef)), (31, (.v undef))] rfl ?_
      refine pq tb 7 rfl ?_
      refine TQ_nil ?_
      exact joined false (w0 1) (some_inj H).symm
   ·rintro _ rfl
    replace H := H_4
    refine T_cond (t := t38_3) rfl (fun c_21 => ?_) (fun c_21 => ?_)
    ·replace H := cond_t c_21 H
     refine sr ?_
     refine pv tb 1 rfl ?_
     refine TO_nil ?_
     refine T_ret ?_
     refine block_ret ?_
     refine then_ret ?_
     refine then_ret ?_
     refine block_ret ?_
     refine then_ret ?_
     obtain rfl := some_inj H
     obtain rfl := some_inj K1_
     replace H := onS_r N1_
     obtain rfl := some_inj H
     refine end_ret (.tmp .nil) rfl rfl ⟨?_, rfl⟩
     rfl
    ·replace H := cond_f c_21 H
     refine T_skip ?_
     refine T_region ?_
     refine pv tb 3 rfl ?_
     refine TO_nil ?_
     obtain rfl := some_inj H
     exact again k1 (w64 (i3 + 1)) (Nat.lt_succ_self _) (w0 1) K1_
  ·replace H := cond_f c_2 H
   refine T_exit ?_
   refine then_exit ?_
   refine then_exit ?_
   refine block_exit ?_
   obtain rfl := some_inj H
   obtain rfl := some_inj K1_
   replace H := onS_l N1_
   obtain ⟨t2_22, J_22, H_23⟩ := bind_inv H
   refine T_cutX (fun x => t2_22 = x) (fun (t2_22 : Bool) => [(2, (boolA t2_22))]) (fun (t2_22 : Bool) => []) ?_ ?_
   ·replace H := J_22
    refine T_region ?_
    obtain ⟨r_24, h_25, H⟩ := bind_inv H
    refine pv tb 2 rfl ?_
    refine TO_cons rfl (TOp_callV (call_static ent124 rfl) (m_spec_AreValidRelations_ok _ _ h_25) rfl rfl rfl ?_)
    refine pv tb 1 rfl ?_
    refine TO_split (t := r_24) 42 rfl (fun g_26 => ?_) (fun g_26 => ?_)
    ·replace H := cond_t g_26 H
     refine pv tb 2 rfl ?_
     refine TO_on rfl rfl (by decide) rfl rfl (TOp_pure (pur_lenT (T := tFact) sl46 rfl rfl) rfl ?_)
     refine pv tb 3 rfl ?_
     refine TO_nil ?_
     exact joined (decide ((d0.facts.length : Int) ≤ 14)) (w0 0) (some_inj H).symm
    ·replace H := cond_f g_26 H
     refine pv tb 6 rfl ?_
     refine TO_nil ?_
     exact joined false (w0 0) (some_inj H).symm
   ·rintro _ rfl
    replace H := H_23
    refine T_ret ?_
    obtain rfl := some_inj H
    refine end_ret (.tmp .nil) rfl rfl ⟨?_, rfl⟩
    rfl

set_option maxHeartbeats 1000000 in
theorem m_spec_FactIndex_ok (u : Nat) (d0 : Database) (f1 : Fact) (r : Int) (H : m_spec_FactIndex u d0 f1 = some r) : FnV prg 111 [(.g (tDatabase.enc d0)), (.g (tFact.enc f1))] (intA r) := by
  unfold m_spec_FactIndex at H
  refine fnV_of_T Try.func111 rfl rfl (Nat.le_of_ble_eq_true rfl) ?_
  refine te [(0, (.g (tDatabase.enc d0))), (1, (.g (tFact.enc f1)))] rfl ?_
  refine sr ?_
  refine TO_cons rfl (TOp_box rfl (boxAll rfl) rfl rfl ?_)
  refine TO_cons rfl (TOp_box rfl (boxAll rfl) rfl rfl ?_)
  refine pv tb 1 rfl ?_
  refine TO_nil ?_
  refine T_seq ?_
  refine sr ?_
  refine pv tb 1 rfl ?_
  refine TO_nil ?_
  obtain ⟨O1_, L1_, N1_⟩ := bind_inv H
  clear H
  obtain ⟨B1_, hb1, L1_⟩ := gen_whileF L1_
  refine T_block ?_
  refine T_loopX (fun k => fun (i5 : Int) => whileF B1_ k i5 = some O1_) (fun (i5 : Int) => [(2, (.b 0 0)), (3, (.b 1 0)), (5, (intA i5))]) (fun (i5 : Int) => [.box [(sl tRelation d0.relations), (sl tFact d0.facts)], .box [(intA f1.relation), (sl tInt f1.values)]]) u 0 (w0 2) L1_ ?_
  rintro _ i5 L1_
  obtain ⟨k1, rfl, C1_, H, K1_⟩ := while_step L1_
  rw [hb1] at H
  refine T_seq ?_
  refine sr ?_
  refine pv tb 3 rfl ?_
  refine Tp rfl rfl (pur_lenT (T := tFact) sl46 rfl rfl) rfl ?_
  refine pv tb 1 rfl ?_
  refine TO_nil ?_
  refine T_cond (t := decide (i5 < (d0.facts.length : Int))) rfl (fun c_2 => ?_) (fun c_2 => ?_)
  ·replace H := cond_t c_2 H
   refine T_skip ?_
   refine T_seq ?_
   refine T_block ?_
   refine T_seq ?_
   refine T_regionD mixed (by kernel_rfl) ?_
   obtain ⟨v_3, h_4, H⟩ := bind_inv H
   obtain ⟨n_5, hz_6, hv_7⟩ := getI_inv h_4
   refine pq tb 3 rfl ?_
   refine TQ_pure rfl (pur_ixT (T := tFact) sl46 rfl rfl hz_6 hv_7 rfl) rfl ?_
   refine TQ_pure rfl (pur_ldTK (T := tFact) (i := n_5) (off := 0) rfl agg65 rfl rfl hv_7 (by decide) rfl) rfl ?_
   obtain ⟨r_8, h_9, H⟩ := bind_inv H
   refine pq tb 1 rfl ?_
   refine TQ_callV rfl (call_static ent114 rfl) (m_spec_CompareFacts_ok u _ _ _ h_9) rfl rfl ?_
   refine pq tb 1 rfl ?_
   refine TQ_nil ?_
   refine T_cond (t := decide (r_8 = 0)) rfl (fun c_10 => ?_) (fun c_10 => ?_)
   ·replace H := cond_t c_10 H
    refine sr ?_
    refine pv tb 2 rfl ?_
    refine TO_nil ?_
    refine te [(4, (intA i5))] rfl ?_
    refine T_ret ?_
    refine block_ret ?_
    refine then_ret ?_
    refine then_ret ?_
    refine block_ret ?_
    refine then_ret ?_
    obtain rfl := some_inj H
    obtain rfl := some_inj K1_
    replace H := onS_r N1_
    obtain rfl := some_inj H
    refine end_ret (.tmp .nil) rfl rfl ⟨?_, rfl⟩
    rfl
   ·replace H := cond_f c_10 H
    refine T_skip ?_
    refine T_region ?_
    refine pv tb 3 rfl ?_
    refine TO_nil ?_
    obtain rfl := some_inj H
    exact again k1 (w64 (i5 + 1)) (Nat.lt_succ_self _) (w0 2) K1_
  ·replace H := cond_f c_2 H
   refine T_exit ?_
   refine then_exit ?_
   refine then_exit ?_
   refine block_exit ?_
   obtain rfl := some_inj H
   obtain rfl := some_inj K1_
   replace H := onS_l N1_
   refine sr ?_
   refine pv tb 1 rfl ?_
   refine TO_nil ?_
   refine T_ret ?_
   obtain rfl := some_inj H
   refine end_ret (.tmp .nil) rfl rfl ⟨?_, rfl⟩
   rfl

set_option maxHeartbeats 1000000 in
theorem m_spec_ContainsFact_ok (u : Nat) (d0 : Database) (f1 : Fact) (r : Bool) (H : m_spec_ContainsFact u d0 f1 = some r) : FnV prg 109 [(.g (tDatabase.enc d0)), (.g (tFact.enc f1))] (boolA r) := by
  unfold m_spec_ContainsFact at H
  refine fnV_of_T Try.func109 rfl rfl (Nat.le_of_ble_eq_true rfl) ?_
  refine te [(0, (.g (tDatabase.enc d0))), (1, (.g (tFact.enc f1)))] rfl ?_
  refine sr ?_
  refine TO_cons rfl (TOp_box rfl (boxAll rfl) rfl rfl ?_)
  refine TO_cons rfl (TOp_box rfl (boxAll rfl) rfl rfl ?_)
  refine pv tb 1 rfl ?_
  refine TO_nil ?_
  obtain ⟨t4_1, J_1, H_2⟩ := bind_inv H
  refine T_cutX (fun x => t4_1 = x) (fun (t4_1 : Bool) => [(4, (boolA t4_1))]) (fun (t4_1 : Bool) => []) ?_ ?_
  ·replace H := J_1
   refine T_region ?_
   obtain ⟨r_3, h_4, H⟩ := bind_inv H
   refine pv tb 1 rfl ?_
   refine TO_cons rfl (TOp_callV (call_static ent53 rfl) (m_spec_IsValidDatabase_ok u _ _ h_4) rfl rfl rfl ?_)
   refine pv tb 1 rfl ?_
   refine TO_split (t := r_3) 7 rfl (fun g_5 => ?_) (fun g_5 => ?_)
   ·replace H := cond_t g_5 H
    obtain ⟨r_6, h_7, H⟩ := bind_inv H
    refine pv tb 2 rfl ?_
    refine TO_on rfl rfl (by decide) rfl rfl (TOp_callV (call_static ent111 rfl) (m_spec_FactIndex_ok u _ _ _ h_7) rfl rfl rfl ?_)
    refine pv tb 3 rfl ?_
    refine TO_nil ?_
    exact joined (decide (0 ≤ r_6)) (w0 0) (some_inj H).symm
   ·replace H := cond_f g_5 H
    refine pv tb 6 rfl ?_
    refine TO_nil ?_
    exact joined false (w0 0) (some_inj H).symm
  ·rintro _ rfl
   replace H := H_2
   refine T_ret ?_
   obtain rfl := some_inj H
   refine end_ret (.tmp .nil) rfl rfl ⟨?_, rfl⟩
   rfl

set_option maxHeartbeats 1000000 in
theorem m_spec_KeyOf_own (u : Nat) (l0 : (List Relation)) (f1 : Fact) (r : (List Int)) (H : m_spec_KeyOf u l0 f1 = some r) : FnO prg 178 [(sl tRelation l0), (.g (tFact.enc f1))] (.m [0] 0 r.length tInt.k) [.row (flat tInt.own r)] := by
  unfold m_spec_KeyOf at H
  refine fnO_of_T Try.func178 rfl rfl (Nat.le_of_ble_eq_true rfl) ?_
  refine te [(0, (sl tRelation l0)), (1, (.g (tFact.enc f1)))] rfl ?_
  refine sr ?_
  refine TO_cons rfl (TOp_box rfl (boxAll rfl) rfl rfl ?_)
  refine pv tb 1 rfl ?_
  refine TO_nil ?_
  refine T_seq ?_
  refine sr ?_
  obtain ⟨r_1, h_2, H⟩ := bind_inv H
  refine pv tb 2 rfl ?_
  refine TO_cons rfl (TOp_callV (call_static ent123 rfl) (m_spec_IsValidFact_ok u _ _ _ h_2) rfl rfl rfl ?_)
  refine pv tb 1 rfl ?_
  refine TO_nil ?_
  refine T_cond (t := (!r_1)) rfl (fun c_3 => ?_) (fun c_3 => ?_)
  ·replace H := cond_t c_3 H
   refine sr ?_
   refine TO_cons rfl (TOp_lit (nn := 0) (k := 1) sl23 zero3 rfl rfl rfl rfl (by decide) ?_)
   refine TO_st (σ' := [.box [(intA f1.relation), (sl tInt f1.values)], .row (flat tInt.enc ([] : (List Int)))]) rfl ?_
   refine pv tb 1 rfl ?_
   refine TO_nil ?_
   refine T_ret ?_
   refine then_ret ?_
   obtain rfl := some_inj H
   exact end_pick (.tmp .nil) rfl [1] (by decide) rfl rfl rfl rfl rfl rfl
  ·replace H := cond_f c_3 H
   refine T_skip ?_
   obtain ⟨v_4, h_5, H⟩ := bind_inv H
   obtain ⟨n_6, hz_7, hv_8⟩ := getI_inv h_5
   obtain ⟨ys_9, h_10, H⟩ := bind_inv H
   obtain ⟨us_11, h_12, H⟩ := bind_inv H
   refine T_pad ?_
   refine T_cutX (fun (_ : Unit) => True) (fun _ => [(4, (.m [1] 0 us_11.length tInt.k))]) (fun _ => [.box [(intA f1.relation), (sl tInt f1.values)], .row (flat tInt.enc us_11)]) ?_ ?_
   ·skip
    refine T_regionP 1 mixed rfl ?_
    refine pa tb [1, 2, 3, 4, 5] 7 rfl (by kernel_rfl) rfl ?_
    refine tf 6 rfl (pur_ixT (T := tRelation) sl45 rfl rfl hz_7 hv_8 rfl) rfl rfl (by kernel_rfl) ?_
    refine pa tb [7] 5 rfl (by kernel_rfl) rfl ?_
    refine tf 8 rfl (pur_ldT (T := tRelation) (i := n_6) (off := 2) rfl one3 rfl rfl hv_8 rfl) rfl rfl (by kernel_rfl) ?_
    refine tf 9 rfl (pur_cutT (T := tInt) (lo := none) (hi := (some (.tmp 18))) sl23 rfl rfl ⟨_, rfl⟩ h_10 rfl) rfl rfl (by kernel_rfl) ?_
    refine t1 0 (by kernel_rfl) rfl rfl (TOp_lit (nn := 0) (k := 1) sl23 zero3 rfl rfl rfl rfl (by decide) ?_)
    refine t1 10 (by kernel_rfl) rfl rfl (TOp_appY (T := tInt) (f := tInt.enc) (xs := ([] : (List Int))) (ys := ys_9) tInt.len sl23 zero3 rfl bytes3 (by decide) rfl rfl rfl rfl (src_T (T := tInt) rfl) (flat_cell tInt _) h_12 ?_)
    refine tmw 2 3 (by decide) (lb rfl) rfl rfl (lb rfl) rfl ?_
    refine pa tb [11] 0 rfl (by kernel_rfl) rfl ?_
    refine tae [(4, (.m [2] 0 us_11.length tInt.k))] rfl ?_
    refine TA_ghost (E' := [(4, (.m [1] 0 us_11.length tInt.k))]) (σ' := [.dead, .row (flat tInt.enc us_11), .dead, .dead]) (Ghost.move 1 2 (by decide) (lb rfl) rfl rfl (lb rfl) (Ghost.weak (WeakL.to 4 (lb rfl) rfl rfl rfl rfl ⟨leR rfl, trivial⟩))) ?_
    exact TA_nil (by kernel_rfl) (joined () (w0 2) trivial)
   ·rintro _ _
    refine T_ret ?_
    obtain rfl := some_inj H
    exact end_pick (.tmp .nil) rfl [1] (by decide) rfl rfl rfl rfl rfl rfl
theorem m_spec_KeyOf_ok (u : Nat) (l0 : (List Relation)) (f1 : Fact) (r : (List Int)) (H : m_spec_KeyOf u l0 f1 = some r) : FnV prg 178 [(sl tRelation l0), (.g (tFact.enc f1))] (sl tInt r) := (m_spec_KeyOf_own u l0 f1 r H).frz (frzT (T := tInt) rfl)

set_option maxHeartbeats 1000000 in
theorem m_spec_HaveSameKey_ok (u : Nat) (l0 : (List Relation)) (a1 : Fact) (b2 : Fact) (r : Bool) (H : m_spec_HaveSameKey u l0 a1 b2 = some r) : FnV prg 161 [(sl tRelation l0), (.g (tFact.enc a1)), (.g (tFact.enc b2))] (boolA r) := by
  unfold m_spec_HaveSameKey at H
  refine fnV_of_T Try.func161 rfl rfl (Nat.le_of_ble_eq_true rfl) ?_
  refine te [(0, (sl tRelation l0)), (1, (.g (tFact.enc a1))), (2, (.g (tFact.enc b2)))] rfl ?_
  refine sr ?_
  refine TO_cons rfl (TOp_box rfl (boxAll rfl) rfl rfl ?_)
  refine TO_cons rfl (TOp_box rfl (boxAll rfl) rfl rfl ?_)
  refine pv tb 1 rfl ?_
  refine TO_nil ?_
  obtain ⟨t6_1, J_1, H_2⟩ := bind_inv H
  refine T_cutX (fun x => t6_1 = x) (fun (t6_1 : Bool) => [(6, (boolA t6_1))]) (fun (t6_1 : Bool) => []) ?_ ?_
  ·replace H := J_1
   obtain ⟨r_3, h_4, H⟩ := bind_inv H
   refine T_caseB r_3 (fun g_5 => ?_) (fun g_5 => ?_)
   ·replace H := cond_t g_5 H
    obtain ⟨r_6, h_7, H⟩ := bind_inv H
    refine T_caseB r_6 (fun g_8 => ?_) (fun g_8 => ?_)
    ·replace H := cond_t g_8 H
     refine T_caseB (decide (a1.relation = b2.relation)) (fun g_9 => ?_) (fun g_9 => ?_)
     ·replace H := cond_t g_9 H
      obtain ⟨r_10, h_11, H⟩ := bind_inv H
      obtain ⟨r_12, h_13, H⟩ := bind_inv H
      obtain ⟨r_14, h_15, H⟩ := bind_inv H
      refine T_regionP 2 mixed rfl ?_
      refine pa tb [0, 1] 24 rfl (by kernel_rfl) rfl ?_
      refine TA_allG [2] (by kernel_rfl) (by decide) ⟨⟨_, rfl, goN rfl, (TOp_callV (call_static ent123 rfl) (m_spec_IsValidFact_ok u _ _ _ h_4) rfl rfl rfl ?_)⟩, trivial⟩
      refine pa tb [3] 22 rfl (by kernel_rfl) rfl ?_
      refine TA_bool 10 g_5 rfl ?_
      refine pa tb [4, 5] 20 rfl (by kernel_rfl) rfl ?_
      refine TA_allG [6] (by kernel_rfl) (by decide) ⟨⟨_, rfl, goG rfl rfl (by decide) rfl, (TOp_callV (call_static ent123 rfl) (m_spec_IsValidFact_ok u _ _ _ h_7) rfl rfl rfl ?_)⟩, trivial⟩
      refine pa tb [7, 8] 17 rfl (by kernel_rfl) rfl ?_
      refine TA_bool 15 g_8 rfl ?_
      refine pa tb [9, 10, 11, 12, 13, 14, 15] 10 rfl (by kernel_rfl) rfl ?_
      refine TA_bool 22 g_9 rfl ?_
      refine tae [(0, (sl tRelation l0)), (4, (.b 0 0)), (5, (.b 1 0)), (22, (boolA true))] rfl ?_
      refine pa tb [16, 17, 19, 20] 6 rfl (by kernel_rfl) rfl ?_
      refine TA_allG [18] (by kernel_rfl) (by decide) ⟨⟨_, rfl, goG rfl rfl (by decide) rfl, (TOp_callV (call_static ent178 rfl) (m_spec_KeyOf_ok u _ _ _ h_11) rfl rfl rfl ?_)⟩, trivial⟩
      refine TA_allG [21] (by kernel_rfl) (by decide) ⟨⟨_, rfl, goG rfl rfl (by decide) rfl, (TOp_callV (call_static ent178 rfl) (m_spec_KeyOf_ok u _ _ _ h_13) rfl rfl rfl ?_)⟩, trivial⟩
      refine TA_allG [22] (by kernel_rfl) (by decide) ⟨⟨_, rfl, goG rfl rfl (by decide) rfl, (TOp_callV (call_static ent148 rfl) (m_spec_l3Ints_ok u _ _ _ h_15) rfl rfl rfl ?_)⟩, trivial⟩
      refine pa tb [23, 24, 25] 0 rfl (by kernel_rfl) rfl ?_
      refine TA_nil (by kernel_rfl) ?_
      exact joined (decide (r_14 = 0)) (w0 0) (some_inj H).symm
     ·replace H := cond_f g_9 H
      refine T_regionP 2 mixed rfl ?_
      refine pa tb [0, 1] 24 rfl (by kernel_rfl) rfl ?_
      refine TA_allG [2] (by kernel_rfl) (by decide) ⟨⟨_, rfl, goN rfl, (TOp_callV (call_static ent123 rfl) (m_spec_IsValidFact_ok u _ _ _ h_4) rfl rfl rfl ?_)⟩, trivial⟩
      refine pa tb [3] 22 rfl (by kernel_rfl) rfl ?_
      refine TA_bool 10 g_5 rfl ?_
      refine pa tb [4, 5] 20 rfl (by kernel_rfl) rfl ?_
      refine TA_allG [6] (by kernel_rfl) (by decide) ⟨⟨_, rfl, goG rfl rfl (by decide) rfl, (TOp_callV (call_static ent123 rfl) (m_spec_IsValidFact_ok u _ _ _ h_7) rfl rfl rfl ?_)⟩, trivial⟩
      refine pa tb [7, 8] 17 rfl (by kernel_rfl) rfl ?_
      refine TA_bool 15 g_8 rfl ?_
      refine pa tb [9, 10, 11, 12, 13, 14, 15] 10 rfl (by kernel_rfl) rfl ?_
      refine TA_bool 22 g_9 rfl ?_
      refine tae [(0, (sl tRelation l0)), (4, (.b 0 0)), (5, (.b 1 0)), (22, (boolA false))] rfl ?_
      refine pa tb [16, 17, 18, 19, 20, 21, 22, 23, 24, 25] 0 rfl (by kernel_rfl) rfl ?_
      refine TA_nil (by kernel_rfl) ?_
      exact joined false (w0 0) (some_inj H).symm
    ·replace H := cond_f g_8 H
     refine T_regionP 2 mixed rfl ?_
     refine pa tb [0, 1] 24 rfl (by kernel_rfl) rfl ?_
     refine TA_allG [2] (by kernel_rfl) (by decide) ⟨⟨_, rfl, goN rfl, (TOp_callV (call_static ent123 rfl) (m_spec_IsValidFact_ok u _ _ _ h_4) rfl rfl rfl ?_)⟩, trivial⟩
     refine pa tb [3] 22 rfl (by kernel_rfl) rfl ?_
     refine TA_bool 10 g_5 rfl ?_
     refine pa tb [4, 5] 20 rfl (by kernel_rfl) rfl ?_
     refine TA_allG [6] (by kernel_rfl) (by decide) ⟨⟨_, rfl, goG rfl rfl (by decide) rfl, (TOp_callV (call_static ent123 rfl) (m_spec_IsValidFact_ok u _ _ _ h_7) rfl rfl rfl ?_)⟩, trivial⟩
     refine pa tb [7, 8] 17 rfl (by kernel_rfl) rfl ?_
     refine TA_bool 15 g_8 rfl ?_
     refine pa tb [9, 10, 11, 12, 13, 14] 11 rfl (by kernel_rfl) rfl ?_
     refine tae [(0, (sl tRelation l0)), (4, (.b 0 0)), (5, (.b 1 0)), (21, (boolA false))] rfl ?_
     refine pa tb [15, 16, 17, 18, 19, 20, 21, 22, 23, 24, 25] 0 rfl (by kernel_rfl) rfl ?_
     refine TA_nil (by kernel_rfl) ?_
     exact joined false (w0 0) (some_inj H).symm
   ·replace H := cond_f g_5 H
    refine T_regionP 2 mixed rfl ?_
    refine pa tb [0, 1] 24 rfl (by kernel_rfl) rfl ?_
    refine TA_allG [2] (by kernel_rfl) (by decide) ⟨⟨_, rfl, goN rfl, (TOp_callV (call_static ent123 rfl) (m_spec_IsValidFact_ok u _ _ _ h_4) rfl rfl rfl ?_)⟩, trivial⟩
    refine pa tb [3] 22 rfl (by kernel_rfl) rfl ?_
    refine TA_bool 10 g_5 rfl ?_
    refine pa tb [4, 5, 6, 7, 8, 9, 10, 11, 12, 13, 14] 11 rfl (by kernel_rfl) rfl ?_
    refine tae [(0, (sl tRelation l0)), (4, (.b 0 0)), (5, (.b 1 0)), (21, (boolA false))] rfl ?_
    refine pa tb [15, 16, 17, 18, 19, 20, 21, 22, 23, 24, 25] 0 rfl (by kernel_rfl) rfl ?_
    refine TA_nil (by kernel_rfl) ?_
    exact joined false (w0 0) (some_inj H).symm
  ·rintro _ rfl
   replace H := H_2
   refine T_ret ?_
   obtain rfl := some_inj H
   refine end_ret (.tmp .nil) rfl rfl ⟨?_, rfl⟩
   rfl

set_option maxHeartbeats 1000000 in
theorem m_spec_BlockOf_own (u : Nat) (d0 : Database) (i1 : Int) (r : (List Int)) (H : m_spec_BlockOf u d0 i1 = some r) : FnO prg 110 [(.g (tDatabase.enc d0)), (intA i1)] (.m [0] 0 r.length tInt.k) [.row (flat tInt.own r)] := by
  unfold m_spec_BlockOf at H
  refine fnO_of_T Try.func110 rfl rfl (Nat.le_of_ble_eq_true rfl) ?_
  refine te [(0, (.g (tDatabase.enc d0))), (1, (intA i1))] rfl ?_
  refine sr ?_
  refine TO_cons rfl (TOp_box rfl (boxAll rfl) rfl rfl ?_)
  refine pv tb 1 rfl ?_
  refine TO_nil ?_
  refine sr ?_
  refine TO_cons rfl (TOp_lit (nn := 0) (k := 1) sl23 zero3 rfl rfl rfl rfl (by decide) ?_)
  refine TO_st (σ' := [.box [(sl tRelation d0.relations), (sl tFact d0.facts)], .row (flat tInt.enc ([] : (List Int)))]) rfl ?_
  refine pv tb 1 rfl ?_
  refine TO_nil ?_
  refine T_seq ?_
  refine sr ?_
  refine pv tb 1 rfl ?_
  refine TO_nil ?_
  obtain ⟨O1_, L1_, N1_⟩ := bind_inv H
  clear H
  obtain ⟨B1_, hb1, L1_⟩ := gen_whileF L1_
  refine T_block ?_
  refine T_loopX (fun k => fun (⟨out5, k6⟩ : (List Int) × Int) => whileF B1_ k (out5, k6) = some O1_) (fun (⟨out5, k6⟩ : (List Int) × Int) => [(1, (intA i1)), (2, (.b 0 0)), (5, (.m [1] 0 out5.length tInt.k)), (6, (intA k6))]) (fun (⟨out5, k6⟩ : (List Int) × Int) => [.box [(sl tRelation d0.relations), (sl tFact d0.facts)], .row (flat tInt.enc out5)]) u (([] : (List Int)), 0) (w0 2) L1_ ?_
  rintro _ ⟨out5, k6⟩ L1_
  obtain ⟨k1, rfl, C1_, H, K1_⟩ := while_step L1_
  rw [hb1] at H
  refine T_seq ?_
  obtain ⟨t24_2, J_2, H_3⟩ := bind_inv H
  refine T_cutX (fun x => t24_2 = x) (fun (t24_2 : Bool) => [(1, (intA i1)), (2, (.b 0 0)), (5, (.m [1] 0 out5.length tInt.k)), (6, (intA k6)), (24, (boolA t24_2))]) (fun (t24_2 : Bool) => [.box [(sl tRelation d0.relations), (sl tFact d0.facts)], .row (flat tInt.enc out5)]) ?_ ?_
  ·replace H := J_2
   refine T_region ?_
   refine pv tb 3 rfl ?_
   refine Tp rfl rfl (pur_lenT (T := tFact) sl46 rfl rfl) rfl ?_
   refine pv tb 2 rfl ?_
   refine TO_split (t := decide (k6 < (d0.facts.length : Int))) 13 rfl (fun g_4 => ?_) (fun g_4 => ?_)
   ·replace H := cond_t g_4 H
    obtain ⟨r_5, h_6, H⟩ := bind_inv H
    refine pv tb 1 rfl ?_
    refine TO_on rfl rfl (by decide) rfl rfl (TOp_callV (call_static ent53 rfl) (m_spec_IsValidDatabase_ok u _ _ h_6) rfl rfl rfl ?_)
    refine pv tb 2 rfl ?_
    refine TO_split (t := r_5) 17 rfl (fun g_7 => ?_) (fun g_7 => ?_)
    ·replace H := cond_t g_7 H
     refine pv tb 3 rfl ?_
     refine TO_on rfl rfl (by decide) rfl rfl (TOp_pure (pur_lenT (T := tFact) sl46 rfl rfl) rfl ?_)
     refine TO_fact (len_sl (T := tFact) (.tmp 10) rfl) (fun hl_8 => ?_)
     refine TO_on rfl rfl (by decide) rfl rfl (TOp_pure (pur_sub rfl rfl rfl (fits64 (by omega) (by omega))) rfl ?_)
     obtain ⟨r_9, h_10, H⟩ := bind_inv H
     refine TO_on rfl rfl (by decide) rfl rfl (TOp_callV (call_static ent137 rfl) (m_spec_l1In_ok _ _ _ _ h_10) rfl rfl rfl ?_)
     refine pv tb 1 rfl ?_
     refine TO_nil ?_
     exact joined r_9 (w0 2) (some_inj H).symm
    ·replace H := cond_f g_7 H
     refine pv tb 7 rfl ?_
     refine TO_nil ?_
     exact joined false (w0 2) (some_inj H).symm
   ·replace H := cond_f g_4 H
    refine pv tb 11 rfl ?_
    refine TO_nil ?_
    exact joined false (w0 2) (some_inj H).symm
  ·rintro _ rfl
   replace H := H_3
   refine T_cond (t := t24_2) rfl (fun c_11 => ?_) (fun c_11 => ?_)
   ·replace H := cond_t c_11 H
    refine T_skip ?_
    refine T_seq ?_
    refine T_block ?_
    refine T_seq ?_
    refine T_regionD mixed (by kernel_rfl) ?_
    obtain ⟨v_12, h_13, H⟩ := bind_inv H
    obtain ⟨n_14, hz_15, hv_16⟩ := getI_inv h_13
    refine pq tb 5 rfl ?_
    refine TQ_pure rfl (pur_ixT (T := tFact) sl46 rfl rfl hz_15 hv_16 rfl) rfl ?_
    refine TQ_pure rfl (pur_ldTK (T := tFact) (i := n_14) (off := 0) rfl agg65 rfl rfl hv_16 (by decide) rfl) rfl ?_
    obtain ⟨v_17, h_18, H⟩ := bind_inv H
    obtain ⟨n_19, hz_20, hv_21⟩ := getI_inv h_18
    refine pq tb 3 rfl ?_
    refine TQ_pure rfl (pur_ixT (T := tFact) sl46 rfl rfl hz_20 hv_21 rfl) rfl ?_
    refine TQ_pure rfl (pur_ldTK (T := tFact) (i := n_19) (off := 0) rfl agg65 rfl rfl hv_21 (by decide) rfl) rfl ?_
    obtain ⟨r_22, h_23, H⟩ := bind_inv H
    refine TQ_callV rfl (call_static ent161 rfl) (m_spec_HaveSameKey_ok u _ _ _ _ h_23) rfl rfl ?_
    refine TQ_nil ?_
    refine T_cond (t := r_22) rfl (fun c_24 => ?_) (fun c_24 => ?_)
    ·replace H := cond_t c_24 H
     refine T_region ?_
     refine pv tb 2 rfl ?_
     refine TO_cons rfl (TOp_lit (nn := 1) (k := 1) sl23 zero3 rfl rfl rfl rfl (by decide) ?_)
     refine TO_st (σ' := [.box [(sl tRelation d0.relations), (sl tFact d0.facts)], .row (flat tInt.enc out5), .row (flat tInt.enc ([k6] : (List Int)))]) rfl ?_
     obtain ⟨us_25, h_26, H⟩ := bind_inv H
     refine TO_cons rfl (TOp_appZ (T := tInt) (f := tInt.enc) (xs := out5) (ys := ([k6] : (List Int))) tInt.len sl23 zero3 rfl bytes3 (by decide) rfl rfl rfl rfl (src_mT (f := tInt.enc) tInt.len rfl rfl (flat_cell tInt _)) (flat_cell tInt _) h_26 (lb rfl) ?_)
     refine toe [(1, (intA i1)), (2, (.b 0 0)), (6, (intA k6)), (39, (boolA r_22)), (41, (intA k6)), (42, (.m [2] 0 ([k6] : (List Int)).length tInt.k)), (43, (.m [1] 0 us_25.length tInt.k))] rfl ?_
     refine TO_st (σ' := [.box [(sl tRelation d0.relations), (sl tFact d0.facts)], .row (flat tInt.enc us_25), .row (flat tInt.enc ([k6] : (List Int))), .dead]) rfl ?_
     refine pv tb 1 rfl ?_
     refine TO_nil ?_
     refine T_region ?_
     refine pv tb 3 rfl ?_
     refine TO_nil ?_
     obtain rfl := some_inj H
     exact again k1 (us_25, (w64 (k6 + 1))) (Nat.lt_succ_self _) (w0 2) K1_
    ·replace H := cond_f c_24 H
     refine T_skip ?_
     refine T_region ?_
     refine pv tb 3 rfl ?_
     refine TO_nil ?_
     obtain rfl := some_inj H
     exact again k1 (out5, (w64 (k6 + 1))) (Nat.lt_succ_self _) (w0 2) K1_
   ·replace H := cond_f c_11 H
    refine T_exit ?_
    refine then_exit ?_
    refine then_exit ?_
    refine block_exit ?_
    obtain rfl := some_inj H
    obtain rfl := some_inj K1_
    replace H := onS_l N1_
    refine sr ?_
    refine pv tb 2 rfl ?_
    refine TO_nil ?_
    refine T_ret ?_
    obtain rfl := some_inj H
    exact end_pick (.tmp .nil) rfl [1] (by decide) rfl rfl rfl rfl rfl rfl
theorem m_spec_BlockOf_ok (u : Nat) (d0 : Database) (i1 : Int) (r : (List Int)) (H : m_spec_BlockOf u d0 i1 = some r) : FnV prg 110 [(.g (tDatabase.enc d0)), (intA i1)] (sl tInt r) := (m_spec_BlockOf_own u d0 i1 r H).frz (frzT (T := tInt) rfl)

set_option maxHeartbeats 1000000 in
theorem m_spec_l4Copy_own (u : Nat) (d0 : Database) (r : Database) (H : m_spec_l4Copy u d0 = some r) : FnO prg 112 [(.g (tDatabase.enc d0))] (.g [(.m [0] 0 r.relations.length tRelation.k), (.m [1] 0 r.facts.length tFact.k)]) [.row (flat tRelation.own r.relations), .row (flat tFact.own r.facts)] := by
  unfold m_spec_l4Copy at H
  refine fnO_of_T Try.func112 rfl rfl (Nat.le_of_ble_eq_true rfl) ?_
  refine te [(0, (.g (tDatabase.enc d0)))] rfl ?_
  refine sr ?_
  refine TO_cons rfl (TOp_box rfl (boxAll rfl) rfl rfl ?_)
  refine TO_cons rfl (TOp_alloc zero48 rfl rfl ?_)
  refine TO_nil ?_
  refine sr ?_
  refine TO_cons rfl (TOp_lit (nn := 0) (k := 3) sl45 zero130 rfl rfl rfl rfl (by decide) ?_)
  refine TO_st (σ' := [.box [(sl tRelation d0.relations), (sl tFact d0.facts)], .box [.n, .n], .row (flat tRelation.enc ([] : (List Relation)))]) rfl ?_
  obtain ⟨us_1, h_2, H⟩ := bind_inv H
  refine pv tb 2 rfl ?_
  refine TO_cons rfl (TOp_appZ (T := tRelation) (f := tRelation.enc) (xs := ([] : (List Relation))) (ys := d0.relations) tRelation.len sl45 zero130 rfl bytes130 (by decide) rfl rfl rfl rfl (src_T (T := tRelation) rfl) (flat_cell tRelation _) h_2 (lb rfl) ?_)
  refine toe [(1, (.b 0 0)), (2, (.b 1 0)), (6, (.b 0 0)), (7, (sl tRelation d0.relations)), (8, (.m [2] 0 us_1.length tRelation.k))] rfl ?_
  refine TO_st (σ' := [.box [(sl tRelation d0.relations), (sl tFact d0.facts)], .box [.n, .n], .row (flat tRelation.enc us_1), .dead]) rfl ?_
  refine Tp rfl rfl (pur_build bld48 rfl rfl) rfl ?_
  refine TO_cons rfl (TOp_alloc zero48 rfl rfl ?_)
  refine TO_cons rfl (TOp_storeB sz48 rfl rfl rfl rfl rfl rfl rfl (by decide) (lb rfl) rfl ?_)
  refine TO_st (σ' := [.box [(sl tRelation d0.relations), (sl tFact d0.facts)], .box [.n, .n], .row (flat tRelation.enc us_1), .dead, .box [(.m [2] 0 us_1.length tRelation.k), .n]]) rfl ?_
  refine TO_nil ?_
  refine T_seq ?_
  refine sr ?_
  refine pv tb 1 rfl ?_
  refine TO_nil ?_
  refine T_row0 ?_
  refine T_boxle (xs := [(.m [2] 0 us_1.length tRelation.k), .n]) (ys := [(.m [2] 0 us_1.length tRelation.k), (.m [5] 0 ([] : (List Fact)).length tFact.k)]) 4 rfl (leCons (leR rfl) (leCons leM leNil)) ?_
  refine T_st (σ' := [.box [(sl tRelation d0.relations), (sl tFact d0.facts)], .box [.n, .n], .row (flat tRelation.enc us_1), .dead, .box [(.m [2] 0 us_1.length tRelation.k), (.m [5] 0 ([] : (List Fact)).length tFact.k)], .row (flat tFact.own ([] : (List Fact)))]) rfl ?_
  obtain ⟨O3_, L3_, N3_⟩ := bind_inv H
  clear H
  obtain ⟨B3_, hb3, L3_⟩ := gen_whileF L3_
  refine T_block ?_
  refine T_loopX (fun k => fun (⟨i4, box4_facts⟩ : Int × (List Fact)) => whileF B3_ k (i4, box4_facts) = some O3_) (fun (⟨i4, box4_facts⟩ : Int × (List Fact)) => [(1, (.b 0 0)), (2, (.b 1 0)), (3, (.b 4 0)), (4, (intA i4))]) (fun (⟨i4, box4_facts⟩ : Int × (List Fact)) => [.box [(sl tRelation d0.relations), (sl tFact d0.facts)], .box [.n, .n], .row (flat tRelation.enc us_1), .dead, .box [(.m [2] 0 us_1.length tRelation.k), (.m [5] 0 box4_facts.length tFact.k)], .row (flat tFact.own box4_facts)]) u (0, ([] : (List Fact))) (w0 6) L3_ ?_
  rintro _ ⟨i4, box4_facts⟩ L3_
  obtain ⟨k3, rfl, C3_, H, K3_⟩ := while_step L3_
  rw [hb3] at H
  refine T_seq ?_
  refine sr ?_
  refine pv tb 3 rfl ?_
  refine Tp rfl rfl (pur_lenT (T := tFact) sl46 rfl rfl) rfl ?_
  refine pv tb 1 rfl ?_
  refine TO_nil ?_
  refine T_cond (t := decide (i4 < (d0.facts.length : Int))) rfl (fun c_4 => ?_) (fun c_4 => ?_)
  ·replace H := cond_t c_4 H
   refine T_skip ?_
   refine T_seq ?_
   refine T_block ?_
   obtain ⟨v_5, h_6, H⟩ := bind_inv H
   obtain ⟨n_7, hz_8, hv_9⟩ := getI_inv h_6
   obtain ⟨us_10, h_11, H⟩ := bind_inv H
   obtain ⟨us_12, h_13, H⟩ := bind_inv H
   refine T_pad ?_
   refine T_pad ?_
   refine T_pad ?_
   refine T_pad ?_
   refine T_regionPh 6 20 mixed rfl (by kernel_rfl) ?_
   refine pa tb [0, 1, 2, 3, 4] 15 rfl (by kernel_rfl) rfl ?_
   refine tf 5 rfl (pur_ixT (T := tFact) sl46 rfl rfl hz_8 hv_9 rfl) rfl rfl (by kernel_rfl) ?_
   refine pa tb [6] 13 rfl (by kernel_rfl) rfl ?_
   refine tf 7 rfl (pur_ldT (T := tFact) (i := n_7) (off := 0) rfl one3 rfl rfl hv_9 rfl) rfl rfl (by kernel_rfl) ?_
   refine pa tb [9, 10, 11] 9 rfl (by kernel_rfl) rfl ?_
   refine tf 12 rfl (pur_ixT (T := tFact) sl46 rfl rfl hz_8 hv_9 rfl) rfl rfl (by kernel_rfl) ?_
   refine pa tb [13] 7 rfl (by kernel_rfl) rfl ?_
   refine tf 14 rfl (pur_ldT (T := tFact) (i := n_7) (off := 1) rfl one23 rfl rfl hv_9 rfl) rfl rfl (by kernel_rfl) ?_
   refine t1 8 (by kernel_rfl) rfl rfl (TOp_lit (nn := 0) (k := 1) sl23 zero3 rfl rfl rfl rfl (by decide) ?_)
   refine tmw 6 10 (by decide) (lb rfl) rfl rfl (lb rfl) rfl ?_
   refine t1 15 (by kernel_rfl) rfl rfl (TOp_appY (T := tInt) (f := tInt.enc) (xs := ([] : (List Int))) (ys := v_5.values) tInt.len sl23 zero3 rfl bytes3 (by decide) rfl rfl rfl rfl (src_T (T := tInt) rfl) (flat_cell tInt _) h_11 ?_)
   refine tmw 6 11 (by decide) (lb rfl) rfl rfl (lb rfl) rfl ?_
   refine tae [(1, (.b 0 0)), (2, (.b 1 0)), (3, (.b 4 0)), (4, (intA i4)), (18, (.m [5] 0 box4_facts.length tFact.k)), (24, (intA v_5.relation)), (32, (.m [6] 0 us_10.length tInt.k))] rfl ?_
   refine TA_st (σ' := [.dead, .dead, .row (flat tRelation.enc us_1), .dead, .dead, .row (flat tFact.own box4_facts), .row (flat tInt.enc us_10), .dead, .dead, .dead, .dead, .dead]) rfl ?_
   refine tf 16 rfl (pur_build bld65 rfl rfl) rfl rfl (by kernel_rfl) ?_
   refine t1 17 (by kernel_rfl) rfl rfl (TOp_ghost (E' := [(1, (.b 0 0)), (2, (.b 1 0)), (3, (.b 4 0)), (4, (intA i4)), (18, (.m [5] 0 box4_facts.length tFact.k)), (33, (.g [(intA v_5.relation), (.m [6] 0 us_10.length tInt.k)]))]) (σ' := [.dead, .dead, .row (flat tRelation.enc us_1), .dead, .dead, .row (flat tFact.own box4_facts), .row (flat tInt.enc us_10), .dead, .dead, .dead]) (by exact Ghost.weak (w0 10)) (TOp_litB (nn := 1) (k := 2) sl46 zero65 rfl rfl rfl rfl (by decide) ?_))
   refine TA_st (σ' := [.dead, .dead, .row (flat tRelation.enc us_1), .dead, .dead, .row (flat tFact.own box4_facts), .row (flat tInt.enc us_10), .dead, .dead, .dead, .box [(intA v_5.relation), (.m [6] 0 us_10.length tInt.k)]]) rfl ?_
   refine tmw 9 5 (by decide) (lb rfl) rfl rfl (lb rfl) rfl ?_
   refine t1 18 (by kernel_rfl) rfl rfl (TOp_boxify 9 rfl (lb rfl) (TOp_appB (T := tFact) (xs := box4_facts) (v := ({ relation := v_5.relation, values := us_10 } : Fact)) sl46 zero65 rfl bytes65 (by decide) rfl rfl rfl rfl rfl rfl rfl rfl h_13 (lb rfl) ?_))
   refine tae [(1, (.b 0 0)), (2, (.b 1 0)), (3, (.b 4 0)), (4, (intA i4)), (35, .m [11] 0 (box4_facts.length + 1) tFact.k)] rfl ?_
   refine TA_st (σ' := [.dead, .dead, .row (flat tRelation.enc us_1), .dead, .dead, .dead, .row (flat tInt.enc us_10), .dead, .dead, .dead, .box [(intA v_5.relation), (.m [6] 0 us_10.length tInt.k)], .box (flat tFact.own box4_facts ++ [(intA v_5.relation), (.m [6] 0 us_10.length tInt.k)])]) rfl ?_
   refine TA_absorbA (pr := flat tFact.own box4_facts) 11 1 6 rfl rfl rfl (by decide) tInt.pos (flat_len tInt.len _) (lb rfl) (lb rfl) rfl (nms_dead (nms_dead (nms_row (nms_dead (nms_dead (nms_dead (nms_row (nms_dead (nms_dead (nms_dead (nms_box rfl (nms_box (namesA namesL_own rfl) nms_nil)))))))))))) ?_
   refine TA_st (σ' := [.dead, .dead, .row (flat tRelation.enc us_1), .dead, .dead, .dead, .dead, .dead, .dead, .dead, .box [(intA v_5.relation), (.m [6] 0 us_10.length tInt.k)], .box (flat tFact.own box4_facts ++ [(intA v_5.relation), .o tInt.k (flat tInt.enc us_10)])]) rfl ?_
   refine TA_rowifyT (T := tFact) (xs := box4_facts) (v := ({ relation := v_5.relation, values := us_10 } : Fact)) 11 rfl rfl h_13 (lb rfl) ?_
   refine TA_st (σ' := [.dead, .dead, .row (flat tRelation.enc us_1), .dead, .dead, .dead, .dead, .dead, .dead, .dead, .box [(intA v_5.relation), (.m [6] 0 us_10.length tInt.k)], .row (flat tFact.own us_12)]) rfl ?_
   refine TA_move 9 11 (by decide) (lb rfl) rfl rfl (lb rfl) ?_
   refine TA_env (E' := [(1, (.b 0 0)), (2, (.b 1 0)), (3, (.b 4 0)), (4, (intA i4)), (35, (.m [9] 0 us_12.length tFact.k))]) ⟨rfl, rfl, rfl, rfl, (congrArg (fun q => A.m [9] 0 q tFact.k) (app_len h_13)), trivial⟩ ?_
   refine TA_kill 10 (lb rfl) ?_
   refine TA_st (σ' := [.dead, .dead, .row (flat tRelation.enc us_1), .dead, .dead, .dead, .dead, .dead, .dead, .row (flat tFact.own us_12), .dead, .dead]) rfl ?_
   refine pa tb [19] 0 rfl (by kernel_rfl) rfl ?_
   refine TA_nil (by kernel_rfl) ?_
   refine TA_st (σ' := [.box [(sl tRelation d0.relations), (sl tFact d0.facts)], .box [.n, .n], .row (flat tRelation.enc us_1), .dead, .box [(.m [2] 0 us_1.length tRelation.k), (.m [5] 0 box4_facts.length tFact.k)], .dead, .dead, .dead, .dead, .row (flat tFact.own us_12), .dead, .dead]) rfl ?_
   refine tmv 5 9 (by decide) (lb rfl) rfl rfl (lb rfl) ?_
   refine TA_st (σ' := [.box [(sl tRelation d0.relations), (sl tFact d0.facts)], .box [.n, .n], .row (flat tRelation.enc us_1), .dead, .box [(.m [2] 0 us_1.length tRelation.k), .j], .row (flat tFact.own us_12), .dead, .dead, .dead, .dead, .dead, .dead]) rfl ?_
   refine t1 20 (by kernel_rfl) rfl rfl (TOp_storeB sz46 rfl rfl rfl rfl rfl rfl rfl (by decide) (lb rfl) rfl ?_)
   refine TA_st (σ' := [.box [(sl tRelation d0.relations), (sl tFact d0.facts)], .box [.n, .n], .row (flat tRelation.enc us_1), .dead, .box [(.m [2] 0 us_1.length tRelation.k), (.m [5] 0 us_12.length tFact.k)], .row (flat tFact.own us_12), .dead, .dead, .dead, .dead, .dead, .dead]) rfl ?_
   refine TA_nil (by kernel_rfl) ?_
   refine T_region ?_
   refine pv tb 3 rfl ?_
   refine TO_nil ?_
   obtain rfl := some_inj H
   exact again k3 ((w64 (i4 + 1)), us_12) (Nat.lt_succ_self _) (w0 6) K3_
  ·replace H := cond_f c_4 H
   refine T_exit ?_
   refine then_exit ?_
   refine then_exit ?_
   refine block_exit ?_
   obtain rfl := some_inj H
   obtain rfl := some_inj K3_
   replace H := onS_l N3_
   refine sr ?_
   refine pv tb 1 rfl ?_
   refine TO_cons rfl (TOp_storeB sz48 rfl rfl rfl rfl rfl rfl rfl (by decide) (lb rfl) rfl ?_)
   refine TO_st (σ' := [.box [(sl tRelation d0.relations), (sl tFact d0.facts)], .box [(.m [2] 0 us_1.length tRelation.k), (.m [5] 0 box4_facts.length tFact.k)], .row (flat tRelation.enc us_1), .dead, .box [(.m [2] 0 us_1.length tRelation.k), (.m [5] 0 box4_facts.length tFact.k)], .row (flat tFact.own box4_facts)]) rfl ?_
   refine TO_nil ?_
   refine T_ret ?_
   obtain rfl := some_inj H
   exact end_pick (.cellK rfl agg48 rfl (lb rfl) .nil) rfl [2, 5] (by decide) rfl rfl rfl rfl rfl rfl
theorem m_spec_l4Copy_ok (u : Nat) (d0 : Database) (r : Database) (H : m_spec_l4Copy u d0 = some r) : FnV prg 112 [(.g (tDatabase.enc d0))] (.g (tDatabase.enc r)) := (m_spec_l4Copy_own u d0 r H).frz (frzOK_g (frz_cons (frzT (T := tRelation) rfl) (frz_cons (frzT (T := tFact) rfl) frz_nil)).1 (frz_cons (frzT (T := tRelation) rfl) (frz_cons (frzT (T := tFact) rfl) frz_nil)).2)

set_option maxHeartbeats 1000000 in
theorem m_spec_l4Copy_enc (u : Nat) (d0 : Database) (r : Database) (H : m_spec_l4Copy u d0 = some r) : FnO prg 112 [(.g (tDatabase.enc d0))] (.g [(.m [0] 0 r.relations.length tRelation.k), (.m [1] 0 r.facts.length tFact.k)]) [.row (flat tRelation.enc r.relations), .row (flat tFact.enc r.facts)] := by
  unfold m_spec_l4Copy at H
  refine fnO_of_T Try.func112 rfl rfl (Nat.le_of_ble_eq_true rfl) ?_
  refine te [(0, (.g (tDatabase.enc d0)))] rfl ?_
  refine sr ?_
  refine TO_cons rfl (TOp_box rfl (boxAll rfl) rfl rfl ?_)
  refine TO_cons rfl (TOp_alloc zero48 rfl rfl ?_)
  refine TO_nil ?_
  refine sr ?_
  refine TO_cons rfl (TOp_lit (nn := 0) (k := 3) sl45 zero130 rfl rfl rfl rfl (by decide) ?_)
  refine TO_st (σ' := [.box [(sl tRelation d0.relations), (sl tFact d0.facts)], .box [.n, .n], .row (flat tRelation.enc ([] : (List Relation)))]) rfl ?_
  obtain ⟨us_1, h_2, H⟩ := bind_inv H
  refine pv tb 2 rfl ?_
  refine TO_cons rfl (TOp_appZ (T := tRelation) (f := tRelation.enc) (xs := ([] : (List Relation))) (ys := d0.relations) tRelation.len sl45 zero130 rfl bytes130 (by decide) rfl rfl rfl rfl (src_T (T := tRelation) rfl) (flat_cell tRelation _) h_2 (lb rfl) ?_)
  refine toe [(1, (.b 0 0)), (2, (.b 1 0)), (6, (.b 0 0)), (7, (sl tRelation d0.relations)), (8, (.m [2] 0 us_1.length tRelation.k))] rfl ?_
  refine TO_st (σ' := [.box [(sl tRelation d0.relations), (sl tFact d0.facts)], .box [.n, .n], .row (flat tRelation.enc us_1), .dead]) rfl ?_
  refine Tp rfl rfl (pur_build bld48 rfl rfl) rfl ?_
  refine TO_cons rfl (TOp_alloc zero48 rfl rfl ?_)
  refine TO_cons rfl (TOp_storeB sz48 rfl rfl rfl rfl rfl rfl rfl (by decide) (lb rfl) rfl ?_)
  refine TO_st (σ' := [.box [(sl tRelation d0.relations), (sl tFact d0.facts)], .box [.n, .n], .row (flat tRelation.enc us_1), .dead, .box [(.m [2] 0 us_1.length tRelation.k), .n]]) rfl ?_
  refine TO_nil ?_
  refine T_seq ?_
  refine sr ?_
  refine pv tb 1 rfl ?_
  refine TO_nil ?_
  refine T_row0 ?_
  refine T_boxle (xs := [(.m [2] 0 us_1.length tRelation.k), .n]) (ys := [(.m [2] 0 us_1.length tRelation.k), (.m [5] 0 ([] : (List Fact)).length tFact.k)]) 4 rfl (leCons (leR rfl) (leCons leM leNil)) ?_
  refine T_st (σ' := [.box [(sl tRelation d0.relations), (sl tFact d0.facts)], .box [.n, .n], .row (flat tRelation.enc us_1), .dead, .box [(.m [2] 0 us_1.length tRelation.k), (.m [5] 0 ([] : (List Fact)).length tFact.k)], .row (flat tFact.enc ([] : (List Fact)))]) rfl ?_
  obtain ⟨O3_, L3_, N3_⟩ := bind_inv H
  clear H
  obtain ⟨B3_, hb3, L3_⟩ := gen_whileF L3_
  refine T_block ?_
  refine T_loopX (fun k => fun (⟨i4, box4_facts⟩ : Int × (List Fact)) => whileF B3_ k (i4, box4_facts) = some O3_) (fun (⟨i4, box4_facts⟩ : Int × (List Fact)) => [(1, (.b 0 0)), (2, (.b 1 0)), (3, (.b 4 0)), (4, (intA i4))]) (fun (⟨i4, box4_facts⟩ : Int × (List Fact)) => [.box [(sl tRelation d0.relations), (sl tFact d0.facts)], .box [.n, .n], .row (flat tRelation.enc us_1), .dead, .box [(.m [2] 0 us_1.length tRelation.k), (.m [5] 0 box4_facts.length tFact.k)], .row (flat tFact.enc box4_facts)]) u (0, ([] : (List Fact))) (w0 6) L3_ ?_
  rintro _ ⟨i4, box4_facts⟩ L3_
  obtain ⟨k3, rfl, C3_, H, K3_⟩ := while_step L3_
  rw [hb3] at H
  refine T_seq ?_
  refine sr ?_
  refine pv tb 3 rfl ?_
  refine Tp rfl rfl (pur_lenT (T := tFact) sl46 rfl rfl) rfl ?_
  refine pv tb 1 rfl ?_
  refine TO_nil ?_
  refine T_cond (t := decide (i4 < (d0.facts.length : Int))) rfl (fun c_4 => ?_) (fun c_4 => ?_)
  ·replace H := cond_t c_4 H
   refine T_skip ?_
   refine T_seq ?_
   refine T_block ?_
   obtain ⟨v_5, h_6, H⟩ := bind_inv H
   obtain ⟨n_7, hz_8, hv_9⟩ := getI_inv h_6
   obtain ⟨us_10, h_11, H⟩ := bind_inv H
   obtain ⟨us_12, h_13, H⟩ := bind_inv H
   refine T_pad ?_
   refine T_pad ?_
   refine T_pad ?_
   refine T_pad ?_
   refine T_regionPh 6 20 mixed rfl (by kernel_rfl) ?_
   refine pa tb [0, 1, 2, 3, 4] 15 rfl (by kernel_rfl) rfl ?_
   refine tf 5 rfl (pur_ixT (T := tFact) sl46 rfl rfl hz_8 hv_9 rfl) rfl rfl (by kernel_rfl) ?_
   refine pa tb [6] 13 rfl (by kernel_rfl) rfl ?_
   refine tf 7 rfl (pur_ldT (T := tFact) (i := n_7) (off := 0) rfl one3 rfl rfl hv_9 rfl) rfl rfl (by kernel_rfl) ?_
   refine pa tb [9, 10, 11] 9 rfl (by kernel_rfl) rfl ?_
   refine tf 12 rfl (pur_ixT (T := tFact) sl46 rfl rfl hz_8 hv_9 rfl) rfl rfl (by kernel_rfl) ?_
   refine pa tb [13] 7 rfl (by kernel_rfl) rfl ?_
   refine tf 14 rfl (pur_ldT (T := tFact) (i := n_7) (off := 1) rfl one23 rfl rfl hv_9 rfl) rfl rfl (by kernel_rfl) ?_
   refine t1 8 (by kernel_rfl) rfl rfl (TOp_lit (nn := 0) (k := 1) sl23 zero3 rfl rfl rfl rfl (by decide) ?_)
   refine tmw 6 10 (by decide) (lb rfl) rfl rfl (lb rfl) rfl ?_
   refine t1 15 (by kernel_rfl) rfl rfl (TOp_appY (T := tInt) (f := tInt.enc) (xs := ([] : (List Int))) (ys := v_5.values) tInt.len sl23 zero3 rfl bytes3 (by decide) rfl rfl rfl rfl (src_T (T := tInt) rfl) (flat_cell tInt _) h_11 ?_)
   refine tmw 6 11 (by decide) (lb rfl) rfl rfl (lb rfl) rfl ?_
   refine tae [(1, (.b 0 0)), (2, (.b 1 0)), (3, (.b 4 0)), (4, (intA i4)), (18, (.m [5] 0 box4_facts.length tFact.k)), (24, (intA v_5.relation)), (32, (.m [6] 0 us_10.length tInt.k))] rfl ?_
   refine TA_st (σ' := [.dead, .dead, .row (flat tRelation.enc us_1), .dead, .dead, .row (flat tFact.enc box4_facts), .row (flat tInt.enc us_10), .dead, .dead, .dead, .dead, .dead]) rfl ?_
   refine tf 16 rfl (pur_build bld65 rfl rfl) rfl rfl (by kernel_rfl) ?_
   refine TA_ghost (E' := [(1, (.b 0 0)), (2, (.b 1 0)), (3, (.b 4 0)), (4, (intA i4)), (18, (.m [5] 0 box4_facts.length tFact.k)), (33, (.g [(intA v_5.relation), (.m [6] 0 us_10.length tInt.k)]))]) (σ' := [.dead, .dead, .row (flat tRelation.enc us_1), .dead, .dead, .row (flat tFact.enc box4_facts), .row (flat tInt.enc us_10), .dead, .dead, .dead, .dead, .dead]) (Ghost.weak (WeakL.to 12 (lb rfl) rfl rfl rfl rfl ⟨leR rfl, leR rfl, leR rfl, leR rfl, leR rfl, leR rfl, trivial⟩)) ?_
   refine TA_frz1 6 (E' := [(1, (.b 0 0)), (2, (.b 1 0)), (3, (.b 4 0)), (4, (intA i4)), (18, (.m [5] 0 box4_facts.length tFact.k)), (33, (.g [(intA v_5.relation), (sl tInt us_10)]))]) rfl rfl (lb rfl) ?_ ?_
   ·exact ⟨(.keep rfl), (.keep rfl), (.keep rfl), (.keep rfl), (.keep rfl), (fz1G (fzC (.keep rfl) (fzC fz1E fzN))), trivial⟩
   refine TA_st (σ' := [.dead, .dead, .row (flat tRelation.enc us_1), .dead, .dead, .row (flat tFact.enc box4_facts), .dead, .dead, .dead, .dead, .dead, .dead]) rfl ?_
   refine t1 17 (by kernel_rfl) rfl rfl (TOp_lit (nn := 1) (k := 2) sl46 zero65 rfl rfl rfl rfl (by decide) ?_)
   refine tmw 8 12 (by decide) (lb rfl) rfl rfl (lb rfl) rfl ?_
   refine t1 18 (by kernel_rfl) rfl rfl (TOp_appY (T := tFact) (f := tFact.enc) (xs := box4_facts) (ys := ([({ relation := v_5.relation, values := us_10 } : Fact)] : (List Fact))) tFact.len sl46 zero65 rfl bytes65 (by decide) rfl rfl rfl rfl (src_mT (f := tFact.enc) tFact.len rfl rfl (flat_cell tFact _)) (flat_cell tFact _) h_13 ?_)
   refine tmw 9 13 (by decide) (lb rfl) rfl rfl (lb rfl) rfl ?_
   refine tae [(1, (.b 0 0)), (2, (.b 1 0)), (3, (.b 4 0)), (4, (intA i4)), (35, (.m [9] 0 us_12.length tFact.k))] rfl ?_
   refine TA_st (σ' := [.dead, .dead, .row (flat tRelation.enc us_1), .dead, .dead, .dead, .dead, .dead, .row (flat tFact.enc ([({ relation := v_5.relation, values := us_10 } : Fact)] : (List Fact))), .row (flat tFact.enc us_12), .dead, .dead, .dead, .dead]) rfl ?_
   refine pa tb [19] 0 rfl (by kernel_rfl) rfl ?_
   refine TA_nil (by kernel_rfl) ?_
   refine TA_st (σ' := [.box [(sl tRelation d0.relations), (sl tFact d0.facts)], .box [.n, .n], .row (flat tRelation.enc us_1), .dead, .box [(.m [2] 0 us_1.length tRelation.k), (.m [5] 0 box4_facts.length tFact.k)], .dead, .dead, .dead, .row (flat tFact.enc ([({ relation := v_5.relation, values := us_10 } : Fact)] : (List Fact))), .row (flat tFact.enc us_12), .dead, .dead, .dead, .dead]) rfl ?_
   refine tmv 5 9 (by decide) (lb rfl) rfl rfl (lb rfl) ?_
   refine TA_st (σ' := [.box [(sl tRelation d0.relations), (sl tFact d0.facts)], .box [.n, .n], .row (flat tRelation.enc us_1), .dead, .box [(.m [2] 0 us_1.length tRelation.k), .j], .row (flat tFact.enc us_12), .dead, .dead, .row (flat tFact.enc ([({ relation := v_5.relation, values := us_10 } : Fact)] : (List Fact))), .dead, .dead, .dead, .dead, .dead]) rfl ?_
   refine t1 20 (by kernel_rfl) rfl rfl (TOp_storeB sz46 rfl rfl rfl rfl rfl rfl rfl (by decide) (lb rfl) rfl ?_)
   refine TA_st (σ' := [.box [(sl tRelation d0.relations), (sl tFact d0.facts)], .box [.n, .n], .row (flat tRelation.enc us_1), .dead, .box [(.m [2] 0 us_1.length tRelation.k), (.m [5] 0 us_12.length tFact.k)], .row (flat tFact.enc us_12), .dead, .dead, .row (flat tFact.enc ([({ relation := v_5.relation, values := us_10 } : Fact)] : (List Fact))), .dead, .dead, .dead, .dead, .dead]) rfl ?_
   refine TA_nil (by kernel_rfl) ?_
   refine T_region ?_
   refine pv tb 3 rfl ?_
   refine TO_nil ?_
   obtain rfl := some_inj H
   exact again k3 ((w64 (i4 + 1)), us_12) (Nat.lt_succ_self _) (w0 6) K3_
  ·replace H := cond_f c_4 H
   refine T_exit ?_
   refine then_exit ?_
   refine then_exit ?_
   refine block_exit ?_
   obtain rfl := some_inj H
   obtain rfl := some_inj K3_
   replace H := onS_l N3_
   refine sr ?_
   refine pv tb 1 rfl ?_
   refine TO_cons rfl (TOp_storeB sz48 rfl rfl rfl rfl rfl rfl rfl (by decide) (lb rfl) rfl ?_)
   refine TO_st (σ' := [.box [(sl tRelation d0.relations), (sl tFact d0.facts)], .box [(.m [2] 0 us_1.length tRelation.k), (.m [5] 0 box4_facts.length tFact.k)], .row (flat tRelation.enc us_1), .dead, .box [(.m [2] 0 us_1.length tRelation.k), (.m [5] 0 box4_facts.length tFact.k)], .row (flat tFact.enc box4_facts)]) rfl ?_
   refine TO_nil ?_
   refine T_ret ?_
   obtain rfl := some_inj H
   exact end_pick (.cellK rfl agg48 rfl (lb rfl) .nil) rfl [2, 5] (by decide) rfl rfl rfl rfl rfl rfl

set_option maxHeartbeats 1000000 in
theorem m_spec_l7Has_ok (l0 : (List Int)) (x1 : Int) (r : Bool) (H : m_spec_l7Has l0 x1 = some r) : FnV prg 127 [(sl tInt l0), (intA x1)] (boolA r) := by
  unfold m_spec_l7Has at H
  refine fnV_of_T Try.func127 rfl rfl (Nat.le_of_ble_eq_true rfl) ?_
  refine te [(0, (sl tInt l0)), (1, (intA x1))] rfl ?_
  refine sr ?_
  refine pv tb 1 rfl ?_
  refine TO_nil ?_
  refine T_seq ?_
  refine sr ?_
  refine pv tb 1 rfl ?_
  refine TO_nil ?_
  obtain ⟨O2_, L2_, N2_⟩ := bind_inv H
  clear H
  obtain ⟨B2_, hb2, L2_⟩ := gen_forL L2_
  refine T_block ?_
  refine T_loopX (fun k => fun (i_1 : Nat) => k = l0.length - i_1 ∧ forL B2_ (l0.drop i_1) (i_1 : Int) () = some O2_) (fun (i_1 : Nat) => [(0, (sl tInt l0)), (1, (intA x1)), (5, (intA (i_1 : Int)))]) (fun (i_1 : Nat) => []) _ (0 : Nat) (w0 0) ⟨rfl, L2_⟩ ?_
  rintro _ i_1 ⟨rfl, L2_⟩
  refine T_fact (len_sl (T := tInt) (.tmp 0) rfl) (fun hl2 => ?_)
  refine T_seq ?_
  refine sr ?_
  refine pv tb 2 rfl ?_
  refine Tp rfl rfl (pur_lenT (T := tInt) sl23 rfl rfl) rfl ?_
  refine pv tb 1 rfl ?_
  refine TO_nil ?_
  refine T_cond (t := decide ((i_1 : Int) < (l0.length : Int))) rfl (fun d2 => ?_) (fun d2 => ?_)
  ·replace d2 := of_decide_eq_true d2
   obtain ⟨x_i_1, hx_i_1⟩ : ∃ v, (l0)[i_1]? = some v := ⟨_, List.getElem?_eq_getElem (by omega)⟩
   obtain ⟨C2_, H, K2_⟩ := forL_step L2_ hx_i_1
   rw [hb2] at H
   refine T_skip ?_
   refine T_seq ?_
   refine T_block ?_
   refine sr ?_
   refine pv tb 2 rfl ?_
   refine Tp rfl rfl (pur_ixT (T := tInt) sl23 rfl rfl rfl hx_i_1 rfl) rfl ?_
   refine Tp rfl rfl (pur_ldT (T := tInt) (i := i_1) (off := 0) rfl one3 rfl rfl hx_i_1 rfl) rfl ?_
   refine pv tb 2 rfl ?_
   refine TO_nil ?_
   refine T_cond (t := decide (x_i_1 = x1)) rfl (fun c_3 => ?_) (fun c_3 => ?_)
   ·replace H := cond_t c_3 H
    refine sr ?_
    refine pv tb 1 rfl ?_
    refine TO_nil ?_
    refine T_ret ?_
    refine block_ret ?_
    refine then_ret ?_
    refine then_ret ?_
    refine block_ret ?_
    refine then_ret ?_
    obtain rfl := some_inj H
    obtain rfl := some_inj K2_
    replace H := onS_r N2_
    obtain rfl := some_inj H
    refine end_ret (.tmp .nil) rfl rfl ⟨?_, rfl⟩
    rfl
   ·replace H := cond_f c_3 H
    refine T_skip ?_
    refine T_region ?_
    refine pv tb 1 rfl ?_
    refine Tp rfl rfl (pur_add rfl rfl rfl (fits64 (by omega) (by omega))) rfl ?_
    refine pv tb 1 rfl ?_
    refine TO_nil ?_
    obtain rfl := some_inj H
    exact again (l0.length - (i_1 + 1)) (i_1 + 1) (by omega) (w0 0) ⟨rfl, K2_⟩
  ·replace d2 := of_decide_eq_false d2
   obtain rfl := forL_end L2_ (by omega)
   refine T_exit ?_
   refine then_exit ?_
   refine then_exit ?_
   refine block_exit ?_
   replace H := onS_l N2_
   refine sr ?_
   refine pv tb 1 rfl ?_
   refine TO_nil ?_
   refine T_ret ?_
   obtain rfl := some_inj H
   refine end_ret (.tmp .nil) rfl rfl ⟨?_, rfl⟩
   rfl

set_option maxHeartbeats 1000000 in
theorem m_spec_l4Set_ok (d0 : Database) (l1 : (List Int)) (r : Bool) (H : m_spec_l4Set d0 l1 = some r) : FnV prg 171 [(.g (tDatabase.enc d0)), (sl tInt l1)] (boolA r) := by
  unfold m_spec_l4Set at H
  refine fnV_of_T Try.func171 rfl rfl (Nat.le_of_ble_eq_true rfl) ?_
  refine te [(0, (.g (tDatabase.enc d0))), (1, (sl tInt l1))] rfl ?_
  refine sr ?_
  refine TO_cons rfl (TOp_box rfl (boxAll rfl) rfl rfl ?_)
  refine pv tb 1 rfl ?_
  refine TO_nil ?_
  refine T_seq ?_
  refine sr ?_
  refine pv tb 1 rfl ?_
  refine TO_nil ?_
  obtain ⟨O2_, L2_, N2_⟩ := bind_inv H
  clear H
  obtain ⟨B2_, hb2, L2_⟩ := gen_forL L2_
  refine T_block ?_
  refine T_loopX (fun k => fun (i_1 : Nat) => k = l1.length - i_1 ∧ forL B2_ (l1.drop i_1) (i_1 : Int) () = some O2_) (fun (i_1 : Nat) => [(1, (sl tInt l1)), (2, (.b 0 0)), (5, (intA (i_1 : Int)))]) (fun (i_1 : Nat) => [.box [(sl tRelation d0.relations), (sl tFact d0.facts)]]) _ (0 : Nat) (w0 1) ⟨rfl, L2_⟩ ?_
  rintro _ i_1 ⟨rfl, L2_⟩
  refine T_fact (len_sl (T := tInt) (.tmp 1) rfl) (fun hl2 => ?_)
  refine T_seq ?_
  refine sr ?_
  refine pv tb 2 rfl ?_
  refine Tp rfl rfl (pur_lenT (T := tInt) sl23 rfl rfl) rfl ?_
  refine pv tb 1 rfl ?_
  refine TO_nil ?_
  refine T_cond (t := decide ((i_1 : Int) < (l1.length : Int))) rfl (fun d2 => ?_) (fun d2 => ?_)
  ·replace d2 := of_decide_eq_true d2
   obtain ⟨x_i_1, hx_i_1⟩ : ∃ v, (l1)[i_1]? = some v := ⟨_, List.getElem?_eq_getElem (by omega)⟩
   obtain ⟨C2_, H, K2_⟩ := forL_step L2_ hx_i_1
   rw [hb2] at H
   refine T_skip ?_
   refine T_seq ?_
   refine T_block ?_
   obtain ⟨t37_3, J_3, H_4⟩ := bind_inv H
   refine T_cutX (fun x => t37_3 = x) (fun (t37_3 : Bool) => [(1, (sl tInt l1)), (2, (.b 0 0)), (5, (intA (i_1 : Int))), (37, (boolA t37_3))]) (fun (t37_3 : Bool) => [.box [(sl tRelation d0.relations), (sl tFact d0.facts)]]) ?_ ?_
   ·replace H := J_3
    refine T_regionD mixed (by kernel_rfl) ?_
    refine pq tb 2 rfl ?_
    refine TQ_pure rfl (pur_ixT (T := tInt) sl23 rfl rfl rfl hx_i_1 rfl) rfl ?_
    refine TQ_pure rfl (pur_ldT (T := tInt) (i := i_1) (off := 0) rfl one3 rfl rfl hx_i_1 rfl) rfl ?_
    refine pq tb 2 rfl ?_
    refine TQ_pure rfl (pur_lenT (T := tFact) sl46 rfl rfl) rfl ?_
    refine TQ_fact (len_sl (T := tFact) (.tmp 17) rfl) (fun hl_5 => ?_)
    refine TQ_pure rfl (pur_sub rfl rfl rfl (fits64 (by omega) (by omega))) rfl ?_
    obtain ⟨r_6, h_7, H⟩ := bind_inv H
    refine TQ_callV rfl (call_static ent137 rfl) (m_spec_l1In_ok _ _ _ _ h_7) rfl rfl ?_
    refine pq tb 2 rfl ?_
    refine TQ_split (t := (!r_6)) 22 rfl (fun g_8 => ?_) (fun g_8 => ?_)
    ·replace H := cond_t g_8 H
     refine pq tb 8 rfl ?_
     refine tqe [(1, (sl tInt l1)), (2, (.b 0 0)), (5, (intA (i_1 : Int))), (22, (boolA true)), (25, (.v undef)), (29, (.v undef)), (30, (.v undef))] rfl ?_
     refine pq tb 7 rfl ?_
     refine TQ_nil ?_
     exact joined true (w0 1) (some_inj H).symm
    ·replace H := cond_f g_8 H
     refine pq tb 3 rfl ?_
     refine TQ_split (t := decide (0 < (i_1 : Int))) 25 rfl (fun g_9 => ?_) (fun g_9 => ?_)
     ·replace H := cond_t g_9 H
      refine pq tb 2 rfl ?_
      refine TQ_on rfl rfl (by decide) rfl (pur_ixT (T := tInt) sl23 rfl rfl rfl hx_i_1 rfl) rfl ?_
      refine TQ_on rfl rfl (by decide) rfl (pur_ldT (T := tInt) (i := i_1) (off := 0) rfl one3 rfl rfl hx_i_1 rfl) rfl ?_
      refine pq tb 2 rfl ?_
      refine TQ_on rfl rfl (by decide) rfl (pur_sub rfl rfl rfl (fits64 (by omega) (by omega))) rfl ?_
      obtain ⟨v_10, h_11, H⟩ := bind_inv H
      obtain ⟨n_12, hz_13, hv_14⟩ := getI_inv h_11
      refine TQ_on rfl rfl (by decide) rfl (pur_ixT (T := tInt) sl23 rfl rfl hz_13 hv_14 rfl) rfl ?_
      refine tqe [(1, (sl tInt l1)), (2, (.b 0 0)), (5, (intA (i_1 : Int))), (22, (boolA false)), (25, (boolA true)), (29, (intA x_i_1)), (33, (.q (flat tInt.enc l1) (n_12 * tInt.k)))] rfl ?_
      refine TQ_on rfl rfl (by decide) rfl (pur_ldT (T := tInt) (i := n_12) (off := 0) rfl one3 rfl rfl hv_14 rfl) rfl ?_
      refine pq tb 3 rfl ?_
      refine TQ_nil ?_
      exact joined (decide (x_i_1 ≤ v_10)) (w0 1) (some_inj H).symm
     ·replace H := cond_f g_9 H
      refine pq tb 8 rfl ?_
      refine tqe [(1, (sl tInt l1)), (2, (.b 0 0)), (5, (intA (i_1 : Int))), (22, (boolA false)), (25, (boolA false)), (29, (.v undef)), (33, (.v undef))] rfl ?_
      refine pq tb 4 rfl ?_
      refine TQ_nil ?_
      exact joined false (w0 1) (some_inj H).symm
   ·rintro _ rfl
    replace H := H_4
    refine T_cond (t := t37_3) rfl (fun c_15 => ?_) (fun c_15 => ?_)
    ·replace H := cond_t c_15 H
     refine sr ?_
     refine pv tb 1 rfl ?_
     refine TO_nil ?_
     refine T_ret ?_
     refine block_ret ?_
     refine then_ret ?_
     refine then_ret ?_
     refine block_ret ?_
     refine then_ret ?_
     obtain rfl := some_inj H
     obtain rfl := some_inj K2_
     replace H := onS_r N2_
     obtain rfl := some_inj H
     refine end_ret (.tmp .nil) rfl rfl ⟨?_, rfl⟩
     rfl
    ·replace H := cond_f c_15 H
     refine T_skip ?_
     refine T_region ?_
     refine pv tb 1 rfl ?_
     refine Tp rfl rfl (pur_add rfl rfl rfl (fits64 (by omega) (by omega))) rfl ?_
     refine pv tb 1 rfl ?_
     refine TO_nil ?_
     obtain rfl := some_inj H
     exact again (l1.length - (i_1 + 1)) (i_1 + 1) (by omega) (w0 1) ⟨rfl, K2_⟩
  ·replace d2 := of_decide_eq_false d2
   obtain rfl := forL_end L2_ (by omega)
   refine T_exit ?_
   refine then_exit ?_
   refine then_exit ?_
   refine block_exit ?_
   replace H := onS_l N2_
   refine sr ?_
   refine pv tb 1 rfl ?_
   refine TO_nil ?_
   refine T_ret ?_
   obtain rfl := some_inj H
   refine end_ret (.tmp .nil) rfl rfl ⟨?_, rfl⟩
   rfl
end Go.Proofs.Ytjdpolnakhmkmaa

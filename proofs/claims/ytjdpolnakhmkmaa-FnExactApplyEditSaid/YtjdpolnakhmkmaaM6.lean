/- Walks. -/
import Derived.Test.YtjdpolnakhmkmaaM1
import Derived.Test.YtjdpolnakhmkmaaM2
import Derived.Test.YtjdpolnakhmkmaaM3
import Derived.Test.YtjdpolnakhmkmaaM4
import Derived.Test.YtjdpolnakhmkmaaM5
set_option linter.unusedVariables false
set_option linter.unusedSimpArgs false
set_option maxRecDepth 4000
namespace Go.Proofs.Ytjdpolnakhmkmaa
open Go Go.Proofs Go.Sep
set_option maxHeartbeats 1000000 in
/-- impl.InsertFact -/
theorem m_impl_InsertFact_own (u : Nat) (db0 : Database) (fact1 : Fact) (r : (Database × Bool)) (H : m_impl_InsertFact u db0 fact1 = some r) : FnO prg 134 [(.g (tDatabase.enc db0)), (.g (tFact.enc fact1))] (.t [(.g [(.m [0] 0 r.1.relations.length tRelation.k), (.m [1] 0 r.1.facts.length tFact.k)]), (boolA r.2)]) [.row (flat tRelation.own r.1.relations), .row (flat tFact.own r.1.facts)] := by
  unfold m_impl_InsertFact at H
  refine fnO_of_T Try.func134 rfl rfl (Nat.le_of_ble_eq_true rfl) ?_
  refine te [(0, (.g (tDatabase.enc db0))), (1, (.g (tFact.enc fact1)))] rfl ?_
  refine sr ?_
  refine TO_cons rfl (TOp_box rfl (boxAll rfl) rfl rfl ?_)
  refine TO_cons rfl (TOp_box rfl (boxAll rfl) rfl rfl ?_)
  refine TO_cons rfl (TOp_alloc zero48 rfl rfl ?_)
  refine pv tb 1 rfl ?_
  refine TO_nil ?_
  refine sr ?_
  obtain ⟨r_1, h_2, H⟩ := bind_inv H
  refine pv tb 1 rfl ?_
  refine TO_cons rfl (TOp_callO (call_static ent107 rfl) rfl (m_impl_copyDatabase_own _ _ h_2) rfl rfl rfl ?_)
  refine toe [(2, (.b 0 0)), (3, (.b 1 0)), (4, (.b 2 0)), (8, (.g (tDatabase.enc db0))), (9, (.g [(.m [3] 0 r_1.relations.length tRelation.k), (.m [4] 0 r_1.facts.length tFact.k)]))] rfl ?_
  refine TO_st (σ' := [.box [(sl tRelation db0.relations), (sl tFact db0.facts)], .box [(intA fact1.relation), (sl tInt fact1.values)], .box [.n, .n], .row (flat tRelation.own r_1.relations), .row (flat tFact.own r_1.facts)]) rfl ?_
  refine TO_cons rfl (TOp_alloc zero48 rfl rfl ?_)
  refine TO_cons rfl (TOp_storeB sz48 rfl rfl rfl rfl rfl rfl rfl (by decide) (lb rfl) rfl ?_)
  refine TO_st (σ' := [.box [(sl tRelation db0.relations), (sl tFact db0.facts)], .box [(intA fact1.relation), (sl tInt fact1.values)], .box [.n, .n], .row (flat tRelation.own r_1.relations), .row (flat tFact.own r_1.facts), .box [(.m [3] 0 r_1.relations.length tRelation.k), (.m [4] 0 r_1.facts.length tFact.k)]]) rfl ?_
  refine TO_nil ?_
  refine T_seq ?_
  obtain ⟨t31_3, J_3, H_4⟩ := bind_inv H
  refine T_cutX (fun x => t31_3 = x) (fun (t31_3 : Bool) => [(2, (.b 0 0)), (3, (.b 1 0)), (4, (.b 2 0)), (6, (.b 5 0)), (31, (boolA t31_3))]) (fun (t31_3 : Bool) => [.box [(sl tRelation db0.relations), (sl tFact db0.facts)], .box [(intA fact1.relation), (sl tInt fact1.values)], .box [.n, .n], .row (flat tRelation.own r_1.relations), .row (flat tFact.own r_1.facts), .box [(.m [3] 0 r_1.relations.length tRelation.k), (.m [4] 0 r_1.facts.length tFact.k)]]) ?_ ?_
  ·replace H := J_3
   refine T_region ?_
   obtain ⟨r_5, h_6, H⟩ := bind_inv H
   refine pv tb 1 rfl ?_
   refine TO_cons rfl (TOp_callV (call_static ent117 rfl) (m_impl_IsValidDatabase_ok _ _ h_6) rfl rfl rfl ?_)
   refine pv tb 2 rfl ?_
   refine TO_split (t := (!r_5)) 13 rfl (fun g_7 => ?_) (fun g_7 => ?_)
   ·replace H := cond_t g_7 H
    refine pv tb 18 rfl ?_
    refine TO_nil ?_
    exact joined true (w0 6) (some_inj H).symm
   ·replace H := cond_f g_7 H
    obtain ⟨r_8, h_9, H⟩ := bind_inv H
    refine pv tb 3 rfl ?_
    refine TO_on rfl rfl (by decide) rfl rfl (TOp_callV (call_static ent166 rfl) (m_impl_isFact_ok _ _ _ h_9) rfl rfl rfl ?_)
    refine pv tb 3 rfl ?_
    refine TO_split (t := (!r_8)) 20 rfl (fun g_10 => ?_) (fun g_10 => ?_)
    ·replace H := cond_t g_10 H
     refine pv tb 8 rfl ?_
     refine toe [(2, (.b 0 0)), (3, (.b 1 0)), (4, (.b 2 0)), (6, (.b 5 0)), (26, (boolA true)), (28, (.v undef))] rfl ?_
     refine pv tb 3 rfl ?_
     refine TO_nil ?_
     exact joined true (w0 6) (some_inj H).symm
    ·replace H := cond_f g_10 H
     obtain ⟨r_11, h_12, H⟩ := bind_inv H
     refine pv tb 2 rfl ?_
     refine TO_on rfl rfl (by decide) rfl rfl (TOp_callV (call_static ent106 rfl) (m_impl_FactIndex_ok _ _ _ h_12) rfl rfl rfl ?_)
     refine pv tb 3 rfl ?_
     refine TO_split (t := decide (0 ≤ r_11)) 26 rfl (fun g_13 => ?_) (fun g_13 => ?_)
     ·replace H := cond_t g_13 H
      refine pv tb 5 rfl ?_
      refine TO_nil ?_
      exact joined true (w0 6) (some_inj H).symm
     ·replace H := cond_f g_13 H
      refine pv tb 2 rfl ?_
      refine TO_on rfl rfl (by decide) rfl rfl (TOp_pure (pur_lenT (T := tFact) sl46 rfl rfl) rfl ?_)
      refine pv tb 2 rfl ?_
      refine TO_nil ?_
      exact joined (decide ((db0.facts.length : Int) = 14)) (w0 6) (some_inj H).symm
  ·rintro _ rfl
   replace H := H_4
   refine T_cond (t := t31_3) rfl (fun c_14 => ?_) (fun c_14 => ?_)
   ·replace H := cond_t c_14 H
    refine sr ?_
    refine pv tb 1 rfl ?_
    refine TO_cons rfl (TOp_storeB sz48 rfl rfl rfl rfl rfl rfl rfl (by decide) (lb rfl) rfl ?_)
    refine TO_st (σ' := [.box [(sl tRelation db0.relations), (sl tFact db0.facts)], .box [(intA fact1.relation), (sl tInt fact1.values)], .box [(.m [3] 0 r_1.relations.length tRelation.k), (.m [4] 0 r_1.facts.length tFact.k)], .row (flat tRelation.own r_1.relations), .row (flat tFact.own r_1.facts), .box [(.m [3] 0 r_1.relations.length tRelation.k), (.m [4] 0 r_1.facts.length tFact.k)]]) rfl ?_
    refine pv tb 1 rfl ?_
    refine TO_nil ?_
    refine T_ret ?_
    refine then_ret ?_
    obtain rfl := some_inj H
    exact end_pick (.cellK rfl agg48 rfl (lb rfl) (.tmp .nil)) rfl [3, 4] (by decide) rfl rfl rfl rfl rfl rfl
   ·replace H := cond_f c_14 H
    refine T_skip ?_
    refine sr ?_
    refine pv tb 1 rfl ?_
    refine TO_nil ?_
    obtain ⟨O15_, L15_, N15_⟩ := bind_inv H
    clear H
    obtain ⟨B15_, hb15, L15_⟩ := gen_whileF L15_
    refine T_cutX (fun (x : Int) => O15_ = .inl x) (fun (at7 : Int) => [(3, (.b 1 0)), (4, (.b 2 0)), (6, (.b 5 0)), (7, (intA at7))]) (fun (at7 : Int) => [.box [(sl tRelation db0.relations), (sl tFact db0.facts)], .box [(intA fact1.relation), (sl tInt fact1.values)], .box [.n, .n], .row (flat tRelation.own r_1.relations), .row (flat tFact.own r_1.facts), .box [(.m [3] 0 r_1.relations.length tRelation.k), (.m [4] 0 r_1.facts.length tFact.k)]]) ?_ ?_
    ·skip
     refine T_block ?_
     refine T_loopX (fun k => fun (at7 : Int) => whileF B15_ k at7 = some O15_) (fun (at7 : Int) => [(2, (.b 0 0)), (3, (.b 1 0)), (4, (.b 2 0)), (6, (.b 5 0)), (7, (intA at7))]) (fun (at7 : Int) => [.box [(sl tRelation db0.relations), (sl tFact db0.facts)], .box [(intA fact1.relation), (sl tInt fact1.values)], .box [.n, .n], .row (flat tRelation.own r_1.relations), .row (flat tFact.own r_1.facts), .box [(.m [3] 0 r_1.relations.length tRelation.k), (.m [4] 0 r_1.facts.length tFact.k)]]) u 0 (w0 6) L15_ ?_
     rintro _ at7 L15_
     obtain ⟨k15, rfl, C15_, H, K15_⟩ := while_step L15_
     rw [hb15] at H
     refine T_seq ?_
     obtain ⟨t47_16, J_16, H_17⟩ := bind_inv H
     refine T_cutX (fun x => t47_16 = x) (fun (t47_16 : Bool) => [(2, (.b 0 0)), (3, (.b 1 0)), (4, (.b 2 0)), (6, (.b 5 0)), (7, (intA at7)), (47, (boolA t47_16))]) (fun (t47_16 : Bool) => [.box [(sl tRelation db0.relations), (sl tFact db0.facts)], .box [(intA fact1.relation), (sl tInt fact1.values)], .box [.n, .n], .row (flat tRelation.own r_1.relations), .row (flat tFact.own r_1.facts), .box [(.m [3] 0 r_1.relations.length tRelation.k), (.m [4] 0 r_1.facts.length tFact.k)]]) ?_ ?_
     ·replace H := J_16
      refine T_regionD mixed (by kernel_rfl) ?_
      refine pq tb 3 rfl ?_
      refine TQ_pure rfl (pur_lenT (T := tFact) sl46 rfl rfl) rfl ?_
      refine pq tb 2 rfl ?_
      refine TQ_split (t := decide (at7 < (db0.facts.length : Int))) 38 rfl (fun g_18 => ?_) (fun g_18 => ?_)
      ·replace H := cond_t g_18 H
       obtain ⟨v_19, h_20, H⟩ := bind_inv H
       obtain ⟨n_21, hz_22, hv_23⟩ := getI_inv h_20
       refine pq tb 3 rfl ?_
       refine TQ_on rfl rfl (by decide) rfl (pur_ixT (T := tFact) sl46 rfl rfl hz_22 hv_23 rfl) rfl ?_
       refine TQ_on rfl rfl (by decide) rfl (pur_ldTK (T := tFact) (i := n_21) (off := 0) rfl agg65 rfl rfl hv_23 (by decide) rfl) rfl ?_
       obtain ⟨r_24, h_25, H⟩ := bind_inv H
       refine pq tb 1 rfl ?_
       refine TQ_onV rfl rfl (by decide) rfl (call_static ent152 rfl) (m_impl_CompareFacts_ok _ _ _ h_25) rfl rfl ?_
       refine pq tb 2 rfl ?_
       refine TQ_nil ?_
       exact joined (decide (r_24 < 0)) (w0 6) (some_inj H).symm
      ·replace H := cond_f g_18 H
       refine pq tb 9 rfl ?_
       refine TQ_nil ?_
       exact joined false (w0 6) (some_inj H).symm
     ·rintro _ rfl
      replace H := H_17
      refine T_cond (t := t47_16) rfl (fun c_26 => ?_) (fun c_26 => ?_)
      ·replace H := cond_t c_26 H
       refine T_skip ?_
       refine T_block ?_
       refine T_region ?_
       refine pv tb 3 rfl ?_
       refine TO_nil ?_
       obtain rfl := some_inj H
       exact again k15 (w64 (at7 + 1)) (Nat.lt_succ_self _) (w0 6) K15_
      ·replace H := cond_f c_26 H
       refine T_exit ?_
       refine then_exit ?_
       refine then_exit ?_
       refine block_exit ?_
       obtain rfl := some_inj H
       obtain rfl := some_inj K15_
       exact joined at7 (w0 6) rfl
    ·rintro at7 rfl
     replace H := onS_l N15_
     obtain ⟨us_27, h_28, H⟩ := bind_inv H
     obtain ⟨r_29, h_30, H⟩ := bind_inv H
     refine T_pad ?_
     refine T_pad ?_
     refine T_cutX (fun (_ : Unit) => True) (fun _ => [(4, (.b 2 0)), (6, (.b 5 0))]) (fun _ => [.box [(sl tRelation db0.relations), (sl tFact db0.facts)], .box [(intA fact1.relation), (sl tInt fact1.values)], .box [.n, .n], .row (flat tRelation.own r_1.relations), .row (flat tFact.own r_29), .box [(.m [3] 0 r_1.relations.length tRelation.k), (.m [4] 0 r_29.length tFact.k)]]) ?_ ?_
     ·skip
      refine T_regionP 4 mixed rfl ?_
      refine TA_have 3 #[true, true, true, true, true, true, true, true, true, true, true, false, false, false] [(4, (.b 2 0)), (6, (.b 5 0)), (51, (.m [4] 0 r_1.facts.length tFact.k)), (52, (intA at7)), (60, (.m [8] 0 1 tFact.k))] [.dead, .dead, .dead, .row (flat tRelation.own r_1.relations), .row (flat tFact.own r_1.facts), .box [(.m [3] 0 r_1.relations.length tRelation.k), (.m [4] 0 r_1.facts.length tFact.k)], .row (flat tInt.enc us_27), .dead, .box [(intA fact1.relation), (.m [6] 0 us_27.length tInt.k)]] ?_ (fun hj0_7 => ?_)
      ·skip
       refine tae [(4, (.b 2 0)), (6, (.b 5 0)), (51, (.m [4] 0 r_1.facts.length tFact.k)), (52, (intA at7)), (60, (.m [8] 0 1 tFact.k))] rfl ?_
       refine TA_st (σ' := [.dead, .dead, .dead, .row (flat tRelation.own r_1.relations), .row (flat tFact.own r_1.facts), .box [(.m [3] 0 r_1.relations.length tRelation.k), (.m [4] 0 r_1.facts.length tFact.k)], .row (flat tInt.enc us_27), .dead, .box [(intA fact1.relation), (.m [6] 0 us_27.length tInt.k)]]) rfl ?_
       refine TA_absorbA (pr := []) 8 1 6 rfl rfl rfl (by decide) tInt.pos (flat_len tInt.len _) (lb rfl) (lb rfl) rfl (nms_dead (nms_dead (nms_dead (nms_row (nms_row (nms_box rfl (nms_row (nms_dead (nms_box rfl nms_nil))))))))) ?_
       refine TA_st (σ' := [.dead, .dead, .dead, .row (flat tRelation.own r_1.relations), .row (flat tFact.own r_1.facts), .box [(.m [3] 0 r_1.relations.length tRelation.k), (.m [4] 0 r_1.facts.length tFact.k)], .dead, .dead, .box [(intA fact1.relation), .o tInt.k (flat tInt.enc us_27)]]) rfl ?_
       refine TA_rowifyT (T := tFact) (xs := []) (us := ([({ relation := fact1.relation, values := us_27 } : Fact)] : List Fact)) (v := ({ relation := fact1.relation, values := us_27 } : Fact)) 8 rfl rfl (app_ok (b := 32) (xs := []) (ys := ([({ relation := fact1.relation, values := us_27 } : Fact)] : List Fact)) (show (0 + 1) * 32 ≤ 140737488355328 by decide)) (lb rfl) ?_
       refine tae [(4, (.b 2 0)), (6, (.b 5 0)), (51, (.m [4] 0 r_1.facts.length tFact.k)), (52, (intA at7)), (60, (.m [8] 0 ([({ relation := fact1.relation, values := us_27 } : Fact)] : List Fact).length tFact.k))] rfl ?_
       refine TA_st (σ' := [.dead, .dead, .dead, .row (flat tRelation.own r_1.relations), .row (flat tFact.own r_1.facts), .box [(.m [3] 0 r_1.relations.length tRelation.k), (.m [4] 0 r_1.facts.length tFact.k)], .dead, .dead, .row (flat tFact.own ([({ relation := fact1.relation, values := us_27 } : Fact)] : List Fact))]) rfl ?_
       refine t1 11 (by kernel_rfl) rfl rfl (TOp_callS [4, 8] (call_static ent174 rfl) (by decide) rfl rfl rfl rfl rfl rfl (m_slices_Insert_Simpl_Fact_impl_Fact_xo _ _ _ _ h_30) rfl rfl ?_)
       refine tmv 4 9 (by decide) (lb rfl) rfl rfl (lb rfl) ?_
       refine TA_st (σ' := [.dead, .dead, .dead, .row (flat tRelation.own r_1.relations), .row (flat tFact.own r_29), .box [(.m [3] 0 r_1.relations.length tRelation.k), .j], .dead, .dead, .dead, .dead]) rfl ?_
       refine tae [(4, (.b 2 0)), (6, (.b 5 0)), (52, (intA at7)), (61, (.m [4] 0 r_29.length tFact.k))] rfl ?_
       refine TA_st (σ' := [.dead, .dead, .dead, .row (flat tRelation.own r_1.relations), .row (flat tFact.own r_29), .box [(.m [3] 0 r_1.relations.length tRelation.k), .j], .dead, .dead, .dead, .dead]) rfl ?_
       refine pa tb [12] 1 rfl (by kernel_rfl) rfl ?_
       refine t1 13 (by kernel_rfl) rfl rfl (TOp_storeB sz46 rfl rfl rfl rfl rfl rfl rfl (by decide) (lb rfl) rfl ?_)
       refine TA_st (σ' := [.dead, .dead, .dead, .row (flat tRelation.own r_1.relations), .row (flat tFact.own r_29), .box [(.m [3] 0 r_1.relations.length tRelation.k), (.m [4] 0 r_29.length tFact.k)], .dead, .dead, .dead, .dead]) rfl ?_
       exact TA_nil (by kernel_rfl) (joined () (w0 6) trivial)
      refine TA_have 4 #[true, true, true, true, true, true, true, true, true, true, false, false, false, false] [(4, (.b 2 0)), (6, (.b 5 0)), (51, (.m [4] 0 r_1.facts.length tFact.k)), (52, (intA at7)), (59, (.g [(intA fact1.relation), (.m [6] 0 us_27.length tInt.k)]))] [.dead, .dead, .dead, .row (flat tRelation.own r_1.relations), .row (flat tFact.own r_1.facts), .box [(.m [3] 0 r_1.relations.length tRelation.k), (.m [4] 0 r_1.facts.length tFact.k)], .row (flat tInt.enc us_27), .dead] ?_ (fun hj1_7 => ?_)
      ·skip
       refine t1 10 (by kernel_rfl) rfl rfl (TOp_litB (nn := 1) (k := 2) sl46 zero65 rfl rfl rfl rfl (by decide) ?_)
       refine TA_st (σ' := [.dead, .dead, .dead, .row (flat tRelation.own r_1.relations), .row (flat tFact.own r_1.facts), .box [(.m [3] 0 r_1.relations.length tRelation.k), (.m [4] 0 r_1.facts.length tFact.k)], .row (flat tInt.enc us_27), .dead, .box [(intA fact1.relation), (.m [6] 0 us_27.length tInt.k)]]) rfl ?_
       exact tj hj0_7 rfl (w0 9)
      refine TA_have 6 #[true, true, true, true, true, true, true, true, false, false, false, false, false, false] [(4, (.b 2 0)), (6, (.b 5 0)), (51, (.m [4] 0 r_1.facts.length tFact.k)), (52, (intA at7)), (54, (intA fact1.relation)), (55, (.m [6] 0 ([] : (List Int)).length tInt.k)), (57, (sl tInt fact1.values))] [.dead, .dead, .dead, .row (flat tRelation.own r_1.relations), .row (flat tFact.own r_1.facts), .box [(.m [3] 0 r_1.relations.length tRelation.k), (.m [4] 0 r_1.facts.length tFact.k)], .row (flat tInt.enc ([] : (List Int))), .dead] ?_ (fun hj2_7 => ?_)
      ·skip
       refine t1 8 (by kernel_rfl) rfl rfl (TOp_appY (T := tInt) (f := tInt.enc) (xs := ([] : (List Int))) (ys := fact1.values) tInt.len sl23 zero3 rfl bytes3 (by decide) rfl rfl rfl rfl (src_T (T := tInt) rfl) (flat_cell tInt _) h_28 ?_)
       refine tmw 6 8 (by decide) (lb rfl) rfl rfl (lb rfl) rfl ?_
       refine tf 9 rfl (pur_build bld65 rfl rfl) rfl rfl (by kernel_rfl) ?_
       exact tj hj1_7 rfl (w0 8)
      refine pa tb [0, 2, 3, 4, 6, 7] 8 rfl (by kernel_rfl) rfl ?_
      refine TA_all [1, 5] (by kernel_rfl) (by decide) ⟨?_, ?_, trivial⟩
      ·skip
       refine ⟨_, rfl, rfl, (TOp_pure (pur_ld_b one46 rfl rfl rfl rfl) rfl ?_)⟩
       refine t1 5 (by kernel_rfl) rfl rfl (TOp_lit (nn := 0) (k := 1) sl23 zero3 rfl rfl rfl rfl (by decide) ?_)
       refine tmw 6 8 (by decide) (lb rfl) rfl rfl (lb rfl) rfl ?_
       exact tj hj2_7 rfl (w0 8)
      ·skip
       refine ⟨_, rfl, rfl, (TOp_lit (nn := 0) (k := 1) sl23 zero3 rfl rfl rfl rfl (by decide) ?_)⟩
       refine tmw 6 8 (by decide) (lb rfl) rfl rfl (lb rfl) rfl ?_
       refine TA_all [1, 8] (by kernel_rfl) (by decide) ⟨?_, ?_, trivial⟩
       ·skip
        refine ⟨_, rfl, rfl, (TOp_pure (pur_ld_b one46 rfl rfl rfl rfl) rfl ?_)⟩
        exact tj hj2_7 rfl (w0 8)
       ·skip
        refine ⟨_, rfl, rfl, (TOp_appY (T := tInt) (f := tInt.enc) (xs := ([] : (List Int))) (ys := fact1.values) tInt.len sl23 zero3 rfl bytes3 (by decide) rfl rfl rfl rfl (src_T (T := tInt) rfl) (flat_cell tInt _) h_28 ?_)⟩
        refine tmw 6 9 (by decide) (lb rfl) rfl rfl (lb rfl) rfl ?_
        refine tae [(4, (.b 2 0)), (6, (.b 5 0)), (50, (.b 5 1)), (52, (intA at7)), (54, (intA fact1.relation)), (58, (.m [6] 0 us_27.length tInt.k))] rfl ?_
        refine TA_st (σ' := [.dead, .dead, .dead, .row (flat tRelation.own r_1.relations), .row (flat tFact.own r_1.facts), .box [(.m [3] 0 r_1.relations.length tRelation.k), (.m [4] 0 r_1.facts.length tFact.k)], .row (flat tInt.enc us_27), .dead, .dead, .dead]) rfl ?_
        refine tf 9 rfl (pur_build bld65 rfl rfl) rfl rfl (by kernel_rfl) ?_
        refine TA_all [1, 10] (by kernel_rfl) (by decide) ⟨?_, ?_, trivial⟩
        ·skip
         refine ⟨_, rfl, rfl, (TOp_pure (pur_ld_b one46 rfl rfl rfl rfl) rfl ?_)⟩
         exact tj hj1_7 rfl (w0 8)
        ·skip
         refine ⟨_, rfl, rfl, (TOp_ghost (E' := [(4, (.b 2 0)), (6, (.b 5 0)), (50, (.b 5 1)), (52, (intA at7)), (54, (intA fact1.relation)), (58, (.m [6] 0 us_27.length tInt.k)), (59, (.g [(intA fact1.relation), (.m [6] 0 us_27.length tInt.k)]))]) (σ' := [.dead, .dead, .dead, .row (flat tRelation.own r_1.relations), .row (flat tFact.own r_1.facts), .box [(.m [3] 0 r_1.relations.length tRelation.k), (.m [4] 0 r_1.facts.length tFact.k)], .row (flat tInt.enc us_27), .dead]) (by exact Ghost.weak (w0 8)) (TOp_litB (nn := 1) (k := 2) sl46 zero65 rfl rfl rfl rfl (by decide) ?_))⟩
         refine TA_st (σ' := [.dead, .dead, .dead, .row (flat tRelation.own r_1.relations), .row (flat tFact.own r_1.facts), .box [(.m [3] 0 r_1.relations.length tRelation.k), (.m [4] 0 r_1.facts.length tFact.k)], .row (flat tInt.enc us_27), .dead, .box [(intA fact1.relation), (.m [6] 0 us_27.length tInt.k)]]) rfl ?_
         refine t1 1 (by kernel_rfl) rfl rfl (TOp_pure (pur_ld_b one46 rfl rfl rfl rfl) rfl ?_)
         exact tj hj0_7 rfl (w0 9)
     ·rintro _ _
      refine sr ?_
      refine pv tb 1 rfl ?_
      refine TO_cons rfl (TOp_storeB sz48 rfl rfl rfl rfl rfl rfl rfl (by decide) (lb rfl) rfl ?_)
      refine TO_st (σ' := [.box [(sl tRelation db0.relations), (sl tFact db0.facts)], .box [(intA fact1.relation), (sl tInt fact1.values)], .box [(.m [3] 0 r_1.relations.length tRelation.k), (.m [4] 0 r_29.length tFact.k)], .row (flat tRelation.own r_1.relations), .row (flat tFact.own r_29), .box [(.m [3] 0 r_1.relations.length tRelation.k), (.m [4] 0 r_29.length tFact.k)]]) rfl ?_
      refine pv tb 1 rfl ?_
      refine TO_nil ?_
      refine T_ret ?_
      obtain rfl := some_inj H
      exact end_pick (.cellK rfl agg48 rfl (lb rfl) (.tmp .nil)) rfl [3, 4] (by decide) rfl rfl rfl rfl rfl rfl
theorem m_impl_InsertFact_ok (u : Nat) (db0 : Database) (fact1 : Fact) (r : (Database × Bool)) (H : m_impl_InsertFact u db0 fact1 = some r) : FnV prg 134 [(.g (tDatabase.enc db0)), (.g (tFact.enc fact1))] (.t [(.g (tDatabase.enc r.1)), (boolA r.2)]) := (m_impl_InsertFact_own u db0 fact1 r H).frz (frzOK_t (frz_cons (frzOK_g (frz_cons (frzT (T := tRelation) rfl) (frz_cons (frzT (T := tFact) rfl) frz_nil)).1 (frz_cons (frzT (T := tRelation) rfl) (frz_cons (frzT (T := tFact) rfl) frz_nil)).2) (frz_cons (frz_loose rfl) frz_nil)).1 (frz_cons (frzOK_g (frz_cons (frzT (T := tRelation) rfl) (frz_cons (frzT (T := tFact) rfl) frz_nil)).1 (frz_cons (frzT (T := tRelation) rfl) (frz_cons (frzT (T := tFact) rfl) frz_nil)).2) (frz_cons (frz_loose rfl) frz_nil)).2)

set_option maxHeartbeats 1000000 in
/-- impl.ApplyEdit -/
theorem m_impl_ApplyEdit_own (u : Nat) (db0 : Database) (edit1 : Edit) (r : (Database × Bool)) (H : m_impl_ApplyEdit u db0 edit1 = some r) : FnO prg 72 [(.g (tDatabase.enc db0)), (.g (tEdit.enc edit1))] (.t [(.g [(.m [0] 0 r.1.relations.length tRelation.k), (.m [1] 0 r.1.facts.length tFact.k)]), (boolA r.2)]) [.row (flat tRelation.own r.1.relations), .row (flat tFact.own r.1.facts)] := by
  unfold m_impl_ApplyEdit at H
  refine fnO_of_T Try.func72 rfl rfl (Nat.le_of_ble_eq_true rfl) ?_
  refine te [(0, (.g (tDatabase.enc db0))), (1, (.g (tEdit.enc edit1)))] rfl ?_
  refine sr ?_
  refine TO_cons rfl (TOp_box rfl (boxAll rfl) rfl rfl ?_)
  refine TO_cons rfl (TOp_box rfl (boxAll rfl) rfl rfl ?_)
  refine TO_cons rfl (TOp_alloc zero48 rfl rfl ?_)
  refine pv tb 1 rfl ?_
  refine TO_nil ?_
  refine T_seq ?_
  refine sr ?_
  refine pv tb 2 rfl ?_
  refine TO_nil ?_
  refine T_block ?_
  refine sr ?_
  refine pv tb 2 rfl ?_
  refine TO_nil ?_
  refine T_cond (t := decide (edit1.kind = 1)) rfl (fun c_1 => ?_) (fun c_1 => ?_)
  ·replace H := cond_t c_1 H
   refine sr ?_
   obtain ⟨r_2, h_3, H⟩ := bind_inv H
   refine pv tb 3 rfl ?_
   refine TO_cons rfl (TOp_callO (call_static ent134 rfl) rfl (m_impl_InsertFact_own u _ _ _ h_3) rfl rfl rfl ?_)
   refine toe [(2, (.b 0 0)), (3, (.b 1 0)), (4, (.b 2 0)), (7, (intA edit1.kind)), (8, (boolA (decide (edit1.kind = 1)))), (10, (.g (tDatabase.enc db0))), (11, (.b 1 1)), (12, (.g (tFact.enc edit1.fact))), (13, (.t [(.g [(.m [3] 0 r_2.1.relations.length tRelation.k), (.m [4] 0 r_2.1.facts.length tFact.k)]), (boolA r_2.2)]))] rfl ?_
   refine TO_st (σ' := [.box [(sl tRelation db0.relations), (sl tFact db0.facts)], .box [(intA edit1.kind), (intA edit1.fact.relation), (sl tInt edit1.fact.values)], .box [.n, .n], .row (flat tRelation.own r_2.1.relations), .row (flat tFact.own r_2.1.facts)]) rfl ?_
   refine pv tb 2 rfl ?_
   refine TO_cons rfl (TOp_storeB sz48 rfl rfl rfl rfl rfl rfl rfl (by decide) (lb rfl) rfl ?_)
   refine TO_st (σ' := [.box [(sl tRelation db0.relations), (sl tFact db0.facts)], .box [(intA edit1.kind), (intA edit1.fact.relation), (sl tInt edit1.fact.values)], .box [(.m [3] 0 r_2.1.relations.length tRelation.k), (.m [4] 0 r_2.1.facts.length tFact.k)], .row (flat tRelation.own r_2.1.relations), .row (flat tFact.own r_2.1.facts)]) rfl ?_
   refine pv tb 1 rfl ?_
   refine TO_nil ?_
   refine T_ret ?_
   refine block_ret ?_
   refine then_ret ?_
   obtain rfl := some_inj H
   exact end_pick (.cellK rfl agg48 rfl (lb rfl) (.tmp .nil)) rfl [3, 4] (by decide) rfl rfl rfl rfl rfl rfl
  ·replace H := cond_f c_1 H
   refine sr ?_
   refine pv tb 2 rfl ?_
   refine TO_nil ?_
   refine T_cond (t := decide (edit1.kind = 2)) rfl (fun c_4 => ?_) (fun c_4 => ?_)
   ·replace H := cond_t c_4 H
    refine sr ?_
    obtain ⟨r_5, h_6, H⟩ := bind_inv H
    refine pv tb 3 rfl ?_
    refine TO_cons rfl (TOp_callO (call_static ent108 rfl) rfl (m_impl_DeleteFact_own _ _ _ h_6) rfl rfl rfl ?_)
    refine toe [(2, (.b 0 0)), (3, (.b 1 0)), (4, (.b 2 0)), (7, (intA edit1.kind)), (16, (boolA (decide (edit1.kind = 2)))), (18, (.g (tDatabase.enc db0))), (19, (.b 1 1)), (20, (.g (tFact.enc edit1.fact))), (21, (.t [(.g [(.m [3] 0 r_5.1.relations.length tRelation.k), (.m [4] 0 r_5.1.facts.length tFact.k)]), (boolA r_5.2)]))] rfl ?_
    refine TO_st (σ' := [.box [(sl tRelation db0.relations), (sl tFact db0.facts)], .box [(intA edit1.kind), (intA edit1.fact.relation), (sl tInt edit1.fact.values)], .box [.n, .n], .row (flat tRelation.own r_5.1.relations), .row (flat tFact.own r_5.1.facts)]) rfl ?_
    refine pv tb 2 rfl ?_
    refine TO_cons rfl (TOp_storeB sz48 rfl rfl rfl rfl rfl rfl rfl (by decide) (lb rfl) rfl ?_)
    refine TO_st (σ' := [.box [(sl tRelation db0.relations), (sl tFact db0.facts)], .box [(intA edit1.kind), (intA edit1.fact.relation), (sl tInt edit1.fact.values)], .box [(.m [3] 0 r_5.1.relations.length tRelation.k), (.m [4] 0 r_5.1.facts.length tFact.k)], .row (flat tRelation.own r_5.1.relations), .row (flat tFact.own r_5.1.facts)]) rfl ?_
    refine pv tb 1 rfl ?_
    refine TO_nil ?_
    refine T_ret ?_
    refine block_ret ?_
    refine then_ret ?_
    obtain rfl := some_inj H
    exact end_pick (.cellK rfl agg48 rfl (lb rfl) (.tmp .nil)) rfl [3, 4] (by decide) rfl rfl rfl rfl rfl rfl
   ·replace H := cond_f c_4 H
    refine sr ?_
    refine pv tb 2 rfl ?_
    refine TO_nil ?_
    refine T_cond (t := decide (edit1.kind = 3)) rfl (fun c_7 => ?_) (fun c_7 => ?_)
    ·replace H := cond_t c_7 H
     refine sr ?_
     obtain ⟨r_8, h_9, H⟩ := bind_inv H
     refine pv tb 3 rfl ?_
     refine TO_cons rfl (TOp_callO (call_static ent60 rfl) rfl (m_impl_ResolveConflict_own _ _ _ h_9) rfl rfl rfl ?_)
     refine toe [(2, (.b 0 0)), (3, (.b 1 0)), (4, (.b 2 0)), (24, (boolA (decide (edit1.kind = 3)))), (26, (.g (tDatabase.enc db0))), (27, (.b 1 1)), (28, (.g (tFact.enc edit1.fact))), (29, (.t [(.g [(.m [3] 0 r_8.1.relations.length tRelation.k), (.m [4] 0 r_8.1.facts.length tFact.k)]), (boolA r_8.2)]))] rfl ?_
     refine TO_st (σ' := [.box [(sl tRelation db0.relations), (sl tFact db0.facts)], .box [(intA edit1.kind), (intA edit1.fact.relation), (sl tInt edit1.fact.values)], .box [.n, .n], .row (flat tRelation.own r_8.1.relations), .row (flat tFact.own r_8.1.facts)]) rfl ?_
     refine pv tb 2 rfl ?_
     refine TO_cons rfl (TOp_storeB sz48 rfl rfl rfl rfl rfl rfl rfl (by decide) (lb rfl) rfl ?_)
     refine TO_st (σ' := [.box [(sl tRelation db0.relations), (sl tFact db0.facts)], .box [(intA edit1.kind), (intA edit1.fact.relation), (sl tInt edit1.fact.values)], .box [(.m [3] 0 r_8.1.relations.length tRelation.k), (.m [4] 0 r_8.1.facts.length tFact.k)], .row (flat tRelation.own r_8.1.relations), .row (flat tFact.own r_8.1.facts)]) rfl ?_
     refine pv tb 1 rfl ?_
     refine TO_nil ?_
     refine T_ret ?_
     refine block_ret ?_
     refine then_ret ?_
     obtain rfl := some_inj H
     exact end_pick (.cellK rfl agg48 rfl (lb rfl) (.tmp .nil)) rfl [3, 4] (by decide) rfl rfl rfl rfl rfl rfl
    ·replace H := cond_f c_7 H
     refine T_skip ?_
     refine sr ?_
     obtain ⟨r_10, h_11, H⟩ := bind_inv H
     refine pv tb 1 rfl ?_
     refine TO_cons rfl (TOp_callO (call_static ent107 rfl) rfl (m_impl_copyDatabase_own _ _ h_11) rfl rfl rfl ?_)
     refine toe [(2, (.b 0 0)), (4, (.b 2 0)), (32, (.g (tDatabase.enc db0))), (33, (.g [(.m [3] 0 r_10.relations.length tRelation.k), (.m [4] 0 r_10.facts.length tFact.k)]))] rfl ?_
     refine TO_st (σ' := [.box [(sl tRelation db0.relations), (sl tFact db0.facts)], .box [(intA edit1.kind), (intA edit1.fact.relation), (sl tInt edit1.fact.values)], .box [.n, .n], .row (flat tRelation.own r_10.relations), .row (flat tFact.own r_10.facts)]) rfl ?_
     refine TO_cons rfl (TOp_storeB sz48 rfl rfl rfl rfl rfl rfl rfl (by decide) (lb rfl) rfl ?_)
     refine TO_st (σ' := [.box [(sl tRelation db0.relations), (sl tFact db0.facts)], .box [(intA edit1.kind), (intA edit1.fact.relation), (sl tInt edit1.fact.values)], .box [(.m [3] 0 r_10.relations.length tRelation.k), (.m [4] 0 r_10.facts.length tFact.k)], .row (flat tRelation.own r_10.relations), .row (flat tFact.own r_10.facts)]) rfl ?_
     refine pv tb 1 rfl ?_
     refine TO_nil ?_
     refine T_ret ?_
     obtain rfl := some_inj H
     exact end_pick (.cellK rfl agg48 rfl (lb rfl) (.tmp .nil)) rfl [3, 4] (by decide) rfl rfl rfl rfl rfl rfl
theorem m_impl_ApplyEdit_ok (u : Nat) (db0 : Database) (edit1 : Edit) (r : (Database × Bool)) (H : m_impl_ApplyEdit u db0 edit1 = some r) : FnV prg 72 [(.g (tDatabase.enc db0)), (.g (tEdit.enc edit1))] (.t [(.g (tDatabase.enc r.1)), (boolA r.2)]) := (m_impl_ApplyEdit_own u db0 edit1 r H).frz (frzOK_t (frz_cons (frzOK_g (frz_cons (frzT (T := tRelation) rfl) (frz_cons (frzT (T := tFact) rfl) frz_nil)).1 (frz_cons (frzT (T := tRelation) rfl) (frz_cons (frzT (T := tFact) rfl) frz_nil)).2) (frz_cons (frz_loose rfl) frz_nil)).1 (frz_cons (frzOK_g (frz_cons (frzT (T := tRelation) rfl) (frz_cons (frzT (T := tFact) rfl) frz_nil)).1 (frz_cons (frzT (T := tRelation) rfl) (frz_cons (frzT (T := tFact) rfl) frz_nil)).2) (frz_cons (frz_loose rfl) frz_nil)).2)

set_option maxHeartbeats 1000000 in
/-- laws.eqEdit -/
theorem m_laws_eqEdit_ok (a0 : Edit) (b1 : Edit) (r : Bool) (H : m_laws_eqEdit a0 b1 = some r) : FnV prg 73 [(.g (tEdit.enc a0)), (.g (tEdit.enc b1))] (boolA r) := by
  unfold m_laws_eqEdit at H
  refine fnV_of_T Try.func73 rfl rfl (Nat.le_of_ble_eq_true rfl) ?_
  refine te [(0, (.g (tEdit.enc a0))), (1, (.g (tEdit.enc b1)))] rfl ?_
  refine sr ?_
  refine TO_cons rfl (TOp_box rfl (boxAll rfl) rfl rfl ?_)
  refine TO_cons rfl (TOp_box rfl (boxAll rfl) rfl rfl ?_)
  refine pv tb 1 rfl ?_
  refine TO_nil ?_
  refine T_seq ?_
  refine sr ?_
  refine pv tb 5 rfl ?_
  refine TO_nil ?_
  refine T_cond (t := decide (a0.kind ≠ b1.kind)) rfl (fun c_1 => ?_) (fun c_1 => ?_)
  ·replace H := cond_t c_1 H
   refine sr ?_
   refine pv tb 1 rfl ?_
   refine TO_nil ?_
   refine T_ret ?_
   refine then_ret ?_
   obtain rfl := some_inj H
   refine end_ret (.tmp .nil) rfl rfl ⟨?_, rfl⟩
   rfl
  ·replace H := cond_f c_1 H
   refine T_skip ?_
   refine T_seq ?_
   refine sr ?_
   obtain ⟨r_2, h_3, H⟩ := bind_inv H
   refine pv tb 4 rfl ?_
   refine TO_cons rfl (TOp_callV (call_static ent56 rfl) (m_laws_eqFact_ok _ _ _ h_3) rfl rfl rfl ?_)
   refine pv tb 1 rfl ?_
   refine TO_nil ?_
   refine te [(15, (boolA (!r_2)))] rfl ?_
   refine T_cond (t := (!r_2)) rfl (fun c_4 => ?_) (fun c_4 => ?_)
   ·replace H := cond_t c_4 H
    refine sr ?_
    refine pv tb 1 rfl ?_
    refine TO_nil ?_
    refine T_ret ?_
    refine then_ret ?_
    obtain rfl := some_inj H
    refine end_ret (.tmp .nil) rfl rfl ⟨?_, rfl⟩
    rfl
   ·replace H := cond_f c_4 H
    refine T_skip ?_
    refine sr ?_
    refine pv tb 1 rfl ?_
    refine TO_nil ?_
    refine T_ret ?_
    obtain rfl := some_inj H
    refine end_ret (.tmp .nil) rfl rfl ⟨?_, rfl⟩
    rfl

set_option maxHeartbeats 1000000 in
/-- laws.markFact -/
theorem m_laws_markFact_mut (a0 : Fact) (k1 : Int) (r : (Int × Fact)) (H : m_laws_markFact a0 k1 = some r) : FnM prg 57 [(.g [(intA a0.relation), (.m [0] 0 a0.values.length tInt.k)]), (intA k1)] [flat tInt.own a0.values] (.int .i64 r.1) [flat tInt.own r.2.values] := by
  unfold m_laws_markFact at H
  refine fnM_of_T Try.func57 rfl rfl (Nat.le_of_ble_eq_true rfl) ?_
  refine te [(0, (.g [(intA a0.relation), (.m [0] 0 a0.values.length tInt.k)])), (1, (intA k1))] rfl ?_
  refine T_st (σ' := [.row (flat tInt.own a0.values)]) rfl ?_
  refine sr ?_
  refine TO_cons rfl (TOp_box rfl (boxAll rfl) rfl rfl ?_)
  refine pv tb 1 rfl ?_
  refine TO_nil ?_
  refine sr ?_
  obtain ⟨r_1, h_2, H⟩ := bind_inv H
  refine pv tb 3 rfl ?_
  refine TO_cons rfl (TOp_callG (aa := [(.m [0] 0 a0.values.length tInt.k), (intA k1)]) [[0]] (call_static ent23 rfl) rfl (.cons rfl rfl (by decide) .nil) rfl rfl (m_laws_markIntS_mut _ _ _ h_2) rfl (fun hl_3 => ?_))
  obtain ⟨hq_4, hl_3⟩ := sameLens_T (T := tInt) hl_3
  refine TO_env (E' := [(1, (intA k1)), (2, (.b 1 0)), (5, (.b 1 1)), (6, (.m [0] 0 r_1.2.length tInt.k)), (7, (intA k1)), (8, (intA r_1.1))]) ⟨rfl, rfl, rfl, (congrArg (fun q => A.m [0] 0 q tInt.k) hq_4.symm), rfl, rfl, trivial⟩ ?_
  refine TO_st (σ' := [.row (flat tInt.own r_1.2), .box [(intA a0.relation), (.m [0] 0 a0.values.length tInt.k)]]) rfl ?_
  refine TO_st (σ' := [.row (flat tInt.own r_1.2), .box [(intA a0.relation), (.m [0] 0 r_1.2.length tInt.k)]]) (by simp only [hq_4]) ?_
  refine pv tb 1 rfl ?_
  refine TO_nil ?_
  refine sr ?_
  refine pv tb 2 rfl ?_
  refine TO_nil ?_
  refine T_ret ?_
  obtain rfl := some_inj H
  exact end_M (.tmp .nil) rfl rfl (Nat.le_refl _) (sameLens_c (T := tInt) hq_4 trivial) rfl rfl

set_option maxHeartbeats 1000000 in
/-- laws.markEdit -/
theorem m_laws_markEdit_mut (a0 : Edit) (k1 : Int) (r : (Int × Edit)) (H : m_laws_markEdit a0 k1 = some r) : FnM prg 74 [(.g [(intA a0.kind), (intA a0.fact.relation), (.m [0] 0 a0.fact.values.length tInt.k)]), (intA k1)] [flat tInt.own a0.fact.values] (.int .i64 r.1) [flat tInt.own r.2.fact.values] := by
  unfold m_laws_markEdit at H
  refine fnM_of_T Try.func74 rfl rfl (Nat.le_of_ble_eq_true rfl) ?_
  refine te [(0, (.g [(intA a0.kind), (intA a0.fact.relation), (.m [0] 0 a0.fact.values.length tInt.k)])), (1, (intA k1))] rfl ?_
  refine T_st (σ' := [.row (flat tInt.own a0.fact.values)]) rfl ?_
  refine sr ?_
  refine TO_cons rfl (TOp_box rfl (boxAll rfl) rfl rfl ?_)
  refine pv tb 1 rfl ?_
  refine TO_nil ?_
  refine sr ?_
  obtain ⟨r_1, h_2, H⟩ := bind_inv H
  refine pv tb 3 rfl ?_
  refine TO_cons rfl (TOp_callG (aa := [(.g [(intA a0.fact.relation), (.m [0] 0 a0.fact.values.length tInt.k)]), (intA k1)]) [[0]] (call_static ent57 rfl) rfl (.cons rfl rfl (by decide) .nil) rfl rfl (m_laws_markFact_mut _ _ _ h_2) rfl (fun hl_3 => ?_))
  obtain ⟨hq_4, hl_3⟩ := sameLens_T (T := tInt) hl_3
  refine TO_env (E' := [(1, (intA k1)), (2, (.b 1 0)), (5, (.b 1 1)), (6, (.g [(intA a0.fact.relation), (.m [0] 0 r_1.2.values.length tInt.k)])), (7, (intA k1)), (8, (intA r_1.1))]) ⟨rfl, rfl, rfl, (by simp only [hq_4]; rfl), rfl, rfl, trivial⟩ ?_
  refine TO_st (σ' := [.row (flat tInt.own r_1.2.values), .box [(intA a0.kind), (intA a0.fact.relation), (.m [0] 0 a0.fact.values.length tInt.k)]]) rfl ?_
  refine TO_st (σ' := [.row (flat tInt.own r_1.2.values), .box [(intA a0.kind), (intA a0.fact.relation), (.m [0] 0 r_1.2.values.length tInt.k)]]) (by simp only [hq_4]) ?_
  refine pv tb 1 rfl ?_
  refine TO_nil ?_
  refine sr ?_
  refine pv tb 2 rfl ?_
  refine TO_nil ?_
  refine T_ret ?_
  obtain rfl := some_inj H
  exact end_M (.tmp .nil) rfl rfl (Nat.le_refl _) (sameLens_c (T := tInt) hq_4 trivial) rfl rfl

set_option maxHeartbeats 1000000 in
/-- laws.FnExactApplyEdit -/
theorem m_laws_FnExactApplyEdit_ok (u : Nat) (aDb0 : Database) (aEdit1 : Edit) (r : Bool) (H : m_laws_FnExactApplyEdit u aDb0 aEdit1 = some r) : FnV prg 12 [(.g (tDatabase.enc aDb0)), (.g (tEdit.enc aEdit1))] (boolA r) := by
  unfold m_laws_FnExactApplyEdit at H
  refine fnV_of_T Try.func12 rfl rfl (Nat.le_of_ble_eq_true rfl) ?_
  refine te [(0, (.g (tDatabase.enc aDb0))), (1, (.g (tEdit.enc aEdit1)))] rfl ?_
  refine sr ?_
  refine TO_cons rfl (TOp_box rfl (boxAll rfl) rfl rfl ?_)
  refine TO_cons rfl (TOp_box rfl (boxAll rfl) rfl rfl ?_)
  refine pv tb 1 rfl ?_
  refine TO_nil ?_
  refine sr ?_
  refine pv tb 1 rfl ?_
  refine TO_nil ?_
  refine sr ?_
  obtain ⟨r_1, h_2, H⟩ := bind_inv H
  refine pv tb 2 rfl ?_
  refine TO_cons rfl (TOp_callV (call_static ent25 rfl) (m_laws_szDatabase_ok _ _ _ h_2) rfl rfl rfl ?_)
  refine pv tb 1 rfl ?_
  refine TO_nil ?_
  refine T_seq ?_
  refine sr ?_
  refine pv tb 2 rfl ?_
  refine TO_nil ?_
  refine T_cond (t := decide (r_1 < 0)) rfl (fun c_3 => ?_) (fun c_3 => ?_)
  ·replace H := cond_t c_3 H
   refine sr ?_
   refine pv tb 1 rfl ?_
   refine TO_nil ?_
   refine T_ret ?_
   refine then_ret ?_
   obtain rfl := some_inj H
   refine end_ret (.tmp .nil) rfl rfl ⟨?_, rfl⟩
   rfl
  ·replace H := cond_f c_3 H
   refine T_skip ?_
   refine sr ?_
   obtain ⟨r_4, h_5, H⟩ := bind_inv H
   refine pv tb 2 rfl ?_
   refine TO_cons rfl (TOp_callV (call_static ent69 rfl) (m_laws_szEdit_ok _ _ _ h_5) rfl rfl rfl ?_)
   refine pv tb 1 rfl ?_
   refine TO_nil ?_
   refine T_seq ?_
   refine sr ?_
   refine pv tb 2 rfl ?_
   refine TO_nil ?_
   refine T_cond (t := decide (r_4 < 0)) rfl (fun c_6 => ?_) (fun c_6 => ?_)
   ·replace H := cond_t c_6 H
    refine sr ?_
    refine pv tb 1 rfl ?_
    refine TO_nil ?_
    refine te [(4, (boolA true))] rfl ?_
    refine T_ret ?_
    refine then_ret ?_
    obtain rfl := some_inj H
    refine end_ret (.tmp .nil) rfl rfl ⟨?_, rfl⟩
    rfl
   ·replace H := cond_f c_6 H
    refine T_skip ?_
    obtain ⟨r_7, h_8, H⟩ := bind_inv H
    obtain ⟨r_9, h_10, H⟩ := bind_inv H
    obtain ⟨r_11, h_12, H⟩ := bind_inv H
    refine T_pad ?_
    refine T_cutX (fun (_ : Unit) => True) (fun _ => [(2, (.b 0 0)), (3, (.b 1 0)), (6, (.b 3 0)), (7, (boolA r_11.2))]) (fun _ => [.box [(sl tRelation aDb0.relations), (sl tFact aDb0.facts)], .box [(intA aEdit1.kind), (intA aEdit1.fact.relation), (sl tInt aEdit1.fact.values)], .dead, .box [(sl tRelation r_11.1.relations), (sl tFact r_11.1.facts)]]) ?_ ?_
    ·skip
     refine T_regionP 2 mixed rfl ?_
     refine TA_have 2 #[true, true, true, true, true, true, true, true, true, false, false] [(2, (.b 0 0)), (3, (.b 1 0)), (6, (.b 3 0)), (33, (.g (tDatabase.enc r_11.1))), (34, (boolA r_11.2))] [.dead, .dead, .dead, .box [.n, .n]] ?_ (fun hj0_8 => ?_)
     ·skip
      refine t1 9 (by kernel_rfl) rfl rfl (TOp_storeB sz48 rfl rfl rfl rfl rfl rfl rfl (by decide) (lb rfl) rfl ?_)
      refine TA_st (σ' := [.dead, .dead, .dead, .box [(sl tRelation r_11.1.relations), (sl tFact r_11.1.facts)]]) rfl ?_
      refine pa tb [10] 0 rfl (by kernel_rfl) rfl ?_
      exact TA_nil (by kernel_rfl) (joined () (w0 4) trivial)
     refine TA_have 6 #[true, true, true, true, false, false, false, false, true, false, false] [(2, (.b 0 0)), (3, (.b 1 0)), (6, (.b 3 0)), (29, (.g (tDatabase.enc r_7))), (31, (.g (tEdit.enc r_9)))] [.dead, .dead, .dead, .box [.n, .n]] ?_ (fun hj1_8 => ?_)
     ·skip
      refine t1 4 (by kernel_rfl) rfl rfl (TOp_callV (call_static ent70 rfl) (m_spec_ApplyEdit_ok u _ _ _ h_12) rfl rfl rfl ?_)
      refine pa tb [5, 6, 7] 2 rfl (by kernel_rfl) rfl ?_
      exact tj hj0_8 rfl (w0 4)
     refine TA_have 7 #[true, true, true, false, false, false, false, false, true, false, false] [(2, (.b 0 0)), (3, (.b 1 0)), (6, (.b 3 0)), (29, (.g (tDatabase.enc r_7))), (30, (.g (tEdit.enc aEdit1)))] [.dead, .dead, .dead, .box [.n, .n]] ?_ (fun hj2_8 => ?_)
     ·skip
      refine t1 3 (by kernel_rfl) rfl rfl (TOp_callV (call_static ent71 rfl) (m_laws_toEdit_ok _ _ h_10) rfl rfl rfl ?_)
      exact tj hj1_8 rfl (w0 4)
     refine pa tb [0, 2] 9 rfl (by kernel_rfl) rfl ?_
     refine TA_all [1, 8] (by kernel_rfl) (by decide) ⟨?_, ?_, trivial⟩
     ·skip
      refine ⟨_, rfl, rfl, (TOp_callV (call_static ent27 rfl) (m_laws_toDatabase_ok _ _ h_8) rfl rfl rfl ?_)⟩
      refine TA_all [3, 8] (by kernel_rfl) (by decide) ⟨?_, ?_, trivial⟩
      ·skip
       refine ⟨_, rfl, rfl, (TOp_callV (call_static ent71 rfl) (m_laws_toEdit_ok _ _ h_10) rfl rfl rfl ?_)⟩
       refine TA_all [4, 8] (by kernel_rfl) (by decide) ⟨?_, ?_, trivial⟩
       ·skip
        refine ⟨_, rfl, rfl, (TOp_callV (call_static ent70 rfl) (m_spec_ApplyEdit_ok u _ _ _ h_12) rfl rfl rfl ?_)⟩
        refine pa tb [5] 5 rfl (by kernel_rfl) rfl ?_
        refine tae [(2, (.b 0 0)), (3, (.b 1 0)), (27, (.t [(.g (tDatabase.enc r_11.1)), (boolA r_11.2)]))] rfl ?_
        refine pa tb [6, 7] 3 rfl (by kernel_rfl) rfl ?_
        refine t1 8 (by kernel_rfl) rfl rfl (TOp_alloc zero48 rfl rfl ?_)
        exact tj hj0_8 rfl (w0 4)
       ·skip
        refine ⟨_, rfl, rfl, (TOp_alloc zero48 rfl rfl ?_)⟩
        exact tj hj1_8 rfl (w0 4)
      ·skip
       refine ⟨_, rfl, rfl, (TOp_alloc zero48 rfl rfl ?_)⟩
       exact tj hj2_8 rfl (w0 4)
     ·skip
      refine ⟨_, rfl, rfl, (TOp_alloc zero48 rfl rfl ?_)⟩
      refine t1 1 (by kernel_rfl) rfl rfl (TOp_callV (call_static ent27 rfl) (m_laws_toDatabase_ok _ _ h_8) rfl rfl rfl ?_)
      exact tj hj2_8 rfl (w0 4)
    ·rintro _ _
     refine sr ?_
     obtain ⟨r_13, h_14, H⟩ := bind_inv H
     refine pv tb 1 rfl ?_
     refine TO_cons rfl (TOp_callO (call_static ent27 rfl) rfl (m_laws_toDatabase_own _ _ h_14) rfl rfl rfl ?_)
     refine toe [(2, (.b 0 0)), (3, (.b 1 0)), (6, (.b 3 0)), (7, (boolA r_11.2)), (35, (.g (tDatabase.enc aDb0))), (36, (.g [(.m [4] 0 r_13.relations.length tRelation.k), (.m [5] 0 r_13.facts.length tFact.k)]))] rfl ?_
     refine TO_st (σ' := [.box [(sl tRelation aDb0.relations), (sl tFact aDb0.facts)], .box [(intA aEdit1.kind), (intA aEdit1.fact.relation), (sl tInt aEdit1.fact.values)], .dead, .box [(sl tRelation r_11.1.relations), (sl tFact r_11.1.facts)], .row (flat tRelation.own r_13.relations), .row (flat tFact.own r_13.facts)]) rfl ?_
     refine TO_cons rfl (TOp_alloc zero48 rfl rfl ?_)
     refine TO_cons rfl (TOp_storeB sz48 rfl rfl rfl rfl rfl rfl rfl (by decide) (lb rfl) rfl ?_)
     refine TO_st (σ' := [.box [(sl tRelation aDb0.relations), (sl tFact aDb0.facts)], .box [(intA aEdit1.kind), (intA aEdit1.fact.relation), (sl tInt aEdit1.fact.values)], .dead, .box [(sl tRelation r_11.1.relations), (sl tFact r_11.1.facts)], .row (flat tRelation.own r_13.relations), .row (flat tFact.own r_13.facts), .box [(.m [4] 0 r_13.relations.length tRelation.k), (.m [5] 0 r_13.facts.length tFact.k)]]) rfl ?_
     refine TO_nil ?_
     refine sr ?_
     obtain ⟨r_15, h_16, H⟩ := bind_inv H
     refine pv tb 1 rfl ?_
     refine TO_cons rfl (TOp_callO (call_static ent71 rfl) rfl (m_laws_toEdit_own _ _ h_16) rfl rfl rfl ?_)
     refine toe [(2, (.b 0 0)), (3, (.b 1 0)), (6, (.b 3 0)), (7, (boolA r_11.2)), (8, (.b 6 0)), (37, (.g (tEdit.enc aEdit1))), (38, (.g [(intA r_15.kind), (intA r_15.fact.relation), (.m [7] 0 r_15.fact.values.length tInt.k)]))] rfl ?_
     refine TO_st (σ' := [.box [(sl tRelation aDb0.relations), (sl tFact aDb0.facts)], .box [(intA aEdit1.kind), (intA aEdit1.fact.relation), (sl tInt aEdit1.fact.values)], .dead, .box [(sl tRelation r_11.1.relations), (sl tFact r_11.1.facts)], .row (flat tRelation.own r_13.relations), .row (flat tFact.own r_13.facts), .box [(.m [4] 0 r_13.relations.length tRelation.k), (.m [5] 0 r_13.facts.length tFact.k)], .row (flat tInt.own r_15.fact.values)]) rfl ?_
     refine TO_cons rfl (TOp_alloc zero100 rfl rfl ?_)
     refine TO_cons rfl (TOp_storeB sz100 rfl rfl rfl rfl rfl rfl rfl (by decide) (lb rfl) rfl ?_)
     refine TO_st (σ' := [.box [(sl tRelation aDb0.relations), (sl tFact aDb0.facts)], .box [(intA aEdit1.kind), (intA aEdit1.fact.relation), (sl tInt aEdit1.fact.values)], .dead, .box [(sl tRelation r_11.1.relations), (sl tFact r_11.1.facts)], .row (flat tRelation.own r_13.relations), .row (flat tFact.own r_13.facts), .box [(.m [4] 0 r_13.relations.length tRelation.k), (.m [5] 0 r_13.facts.length tFact.k)], .row (flat tInt.own r_15.fact.values), .box [(intA r_15.kind), (intA r_15.fact.relation), (.m [7] 0 r_15.fact.values.length tInt.k)]]) rfl ?_
     refine TO_nil ?_
     refine sr ?_
     obtain ⟨r_17, h_18, H⟩ := bind_inv H
     refine pv tb 2 rfl ?_
     refine TO_cons rfl (TOp_callOG (call_static ent72 rfl) (frz_cons (frzOK_g (frz_cons (frzT (T := tRelation) rfl) (frz_cons (frzT (T := tFact) rfl) frz_nil)).1 (frz_cons (frzT (T := tRelation) rfl) (frz_cons (frzT (T := tFact) rfl) frz_nil)).2) (frz_cons (frzOK_g (frz_cons (frz_loose rfl) (frz_cons (frz_loose rfl) (frz_cons (frzT (T := tInt) rfl) frz_nil))).1 (frz_cons (frz_loose rfl) (frz_cons (frz_loose rfl) (frz_cons (frzT (T := tInt) rfl) frz_nil))).2) frz_nil)).1 (frz_cons (frzOK_g (frz_cons (frzT (T := tRelation) rfl) (frz_cons (frzT (T := tFact) rfl) frz_nil)).1 (frz_cons (frzT (T := tRelation) rfl) (frz_cons (frzT (T := tFact) rfl) frz_nil)).2) (frz_cons (frzOK_g (frz_cons (frz_loose rfl) (frz_cons (frz_loose rfl) (frz_cons (frzT (T := tInt) rfl) frz_nil))).1 (frz_cons (frz_loose rfl) (frz_cons (frz_loose rfl) (frz_cons (frzT (T := tInt) rfl) frz_nil))).2) frz_nil)).2 (m_impl_ApplyEdit_own u _ _ _ h_18) rfl (ownC_of (ownSB_cons (flat_ownR tRelation _) (ownSB_cons (flat_ownR tFact _) ownSB_nil))) rfl rfl rfl ?_)
     refine toe [(2, (.b 0 0)), (3, (.b 1 0)), (6, (.b 3 0)), (7, (boolA r_11.2)), (8, (.b 6 0)), (9, (.b 8 0)), (40, (.g [(.m [4] 0 r_13.relations.length tRelation.k), (.m [5] 0 r_13.facts.length tFact.k)])), (41, (.g [(intA r_15.kind), (intA r_15.fact.relation), (.m [7] 0 r_15.fact.values.length tInt.k)])), (42, (.t [(.g [(.m [9] 0 r_17.1.relations.length tRelation.k), (.m [10] 0 r_17.1.facts.length tFact.k)]), (boolA r_17.2)]))] rfl ?_
     refine TO_st (σ' := [.box [(sl tRelation aDb0.relations), (sl tFact aDb0.facts)], .box [(intA aEdit1.kind), (intA aEdit1.fact.relation), (sl tInt aEdit1.fact.values)], .dead, .box [(sl tRelation r_11.1.relations), (sl tFact r_11.1.facts)], .row (flat tRelation.own r_13.relations), .row (flat tFact.own r_13.facts), .box [(.m [4] 0 r_13.relations.length tRelation.k), (.m [5] 0 r_13.facts.length tFact.k)], .row (flat tInt.own r_15.fact.values), .box [(intA r_15.kind), (intA r_15.fact.relation), (.m [7] 0 r_15.fact.values.length tInt.k)], .row (flat tRelation.own r_17.1.relations), .row (flat tFact.own r_17.1.facts)]) rfl ?_
     refine pv tb 3 rfl ?_
     refine TO_cons rfl (TOp_alloc zero48 rfl rfl ?_)
     refine TO_cons rfl (TOp_storeB sz48 rfl rfl rfl rfl rfl rfl rfl (by decide) (lb rfl) rfl ?_)
     refine TO_st (σ' := [.box [(sl tRelation aDb0.relations), (sl tFact aDb0.facts)], .box [(intA aEdit1.kind), (intA aEdit1.fact.relation), (sl tInt aEdit1.fact.values)], .dead, .box [(sl tRelation r_11.1.relations), (sl tFact r_11.1.facts)], .row (flat tRelation.own r_13.relations), .row (flat tFact.own r_13.facts), .box [(.m [4] 0 r_13.relations.length tRelation.k), (.m [5] 0 r_13.facts.length tFact.k)], .row (flat tInt.own r_15.fact.values), .box [(intA r_15.kind), (intA r_15.fact.relation), (.m [7] 0 r_15.fact.values.length tInt.k)], .row (flat tRelation.own r_17.1.relations), .row (flat tFact.own r_17.1.facts), .box [(.m [9] 0 r_17.1.relations.length tRelation.k), (.m [10] 0 r_17.1.facts.length tFact.k)]]) rfl ?_
     refine pv tb 1 rfl ?_
     refine TO_nil ?_
     refine T_seq ?_
     obtain ⟨t53_19, J_19, H_20⟩ := bind_inv H
     refine T_cutX (fun x => t53_19 = x) (fun (t53_19 : Bool) => [(2, (.b 0 0)), (3, (.b 1 0)), (6, (.b 3 0)), (7, (boolA r_11.2)), (8, (.b 6 0)), (9, (.b 8 0)), (10, (.b 11 0)), (11, (boolA r_17.2)), (53, (boolA t53_19))]) (fun (t53_19 : Bool) => [.box [(sl tRelation aDb0.relations), (sl tFact aDb0.facts)], .box [(intA aEdit1.kind), (intA aEdit1.fact.relation), (sl tInt aEdit1.fact.values)], .dead, .box [(sl tRelation r_11.1.relations), (sl tFact r_11.1.facts)], .row (flat tRelation.own r_13.relations), .row (flat tFact.own r_13.facts), .box [(.m [4] 0 r_13.relations.length tRelation.k), (.m [5] 0 r_13.facts.length tFact.k)], .row (flat tInt.own r_15.fact.values), .box [(intA r_15.kind), (intA r_15.fact.relation), (.m [7] 0 r_15.fact.values.length tInt.k)], .row (flat tRelation.own r_17.1.relations), .row (flat tFact.own r_17.1.facts), .box [(.m [9] 0 r_17.1.relations.length tRelation.k), (.m [10] 0 r_17.1.facts.length tFact.k)]]) ?_ ?_
     ·replace H := J_19
      refine T_region ?_
      obtain ⟨r_21, h_22, H⟩ := bind_inv H
      refine pv tb 2 rfl ?_
      refine TO_cons rfl (TOp_callB (call_static ent29 rfl) (frz_cons (frzOK_g (frz_cons (frzT (T := tRelation) rfl) (frz_cons (frzT (T := tFact) rfl) frz_nil)).1 (frz_cons (frzT (T := tRelation) rfl) (frz_cons (frzT (T := tFact) rfl) frz_nil)).2) (frz_cons (frz_loose rfl) frz_nil)).1 (frz_cons (frzOK_g (frz_cons (frzT (T := tRelation) rfl) (frz_cons (frzT (T := tFact) rfl) frz_nil)).1 (frz_cons (frzT (T := tRelation) rfl) (frz_cons (frzT (T := tFact) rfl) frz_nil)).2) (frz_cons (frz_loose rfl) frz_nil)).2 (m_laws_eqDatabase_ok _ _ _ h_22) rfl ?_)
      refine pv tb 2 rfl ?_
      refine TO_split (t := (!r_21)) 49 rfl (fun g_23 => ?_) (fun g_23 => ?_)
      ·replace H := cond_t g_23 H
       refine pv tb 4 rfl ?_
       refine TO_nil ?_
       exact joined true (w0 12) (some_inj H).symm
      ·replace H := cond_f g_23 H
       refine pv tb 2 rfl ?_
       refine TO_on rfl rfl (by decide) rfl rfl (TOp_pure (pur_neqB (by kernel_rfl) rfl rfl rfl) rfl ?_)
       refine pv tb 1 rfl ?_
       refine TO_nil ?_
       exact joined (r_17.2 != r_11.2) (w0 12) (some_inj H).symm
     ·rintro _ rfl
      replace H := H_20
      refine T_cond (t := t53_19) rfl (fun c_24 => ?_) (fun c_24 => ?_)
      ·replace H := cond_t c_24 H
       refine sr ?_
       refine pv tb 1 rfl ?_
       refine TO_nil ?_
       refine T_ret ?_
       refine then_ret ?_
       obtain rfl := some_inj H
       refine end_ret (.tmp .nil) rfl rfl ⟨?_, rfl⟩
       rfl
      ·replace H := cond_f c_24 H
       refine T_skip ?_
       refine T_seq ?_
       obtain ⟨r_25, h_26, H⟩ := bind_inv H
       obtain ⟨r_27, h_28, H⟩ := bind_inv H
       refine T_cutX (fun (_ : Unit) => True) (fun _ => [(2, (.b 0 0)), (3, (.b 1 0)), (6, (.b 3 0)), (7, (boolA r_11.2)), (8, (.b 6 0)), (9, (.b 8 0)), (10, (.b 11 0)), (11, (boolA r_17.2)), (58, (boolA (!r_27)))]) (fun _ => [.box [(sl tRelation aDb0.relations), (sl tFact aDb0.facts)], .box [(intA aEdit1.kind), (intA aEdit1.fact.relation), (sl tInt aEdit1.fact.values)], .dead, .box [(sl tRelation r_11.1.relations), (sl tFact r_11.1.facts)], .row (flat tRelation.own r_13.relations), .row (flat tFact.own r_13.facts), .box [(.m [4] 0 r_13.relations.length tRelation.k), (.m [5] 0 r_13.facts.length tFact.k)], .row (flat tInt.own r_15.fact.values), .box [(intA r_15.kind), (intA r_15.fact.relation), (.m [7] 0 r_15.fact.values.length tInt.k)], .row (flat tRelation.own r_17.1.relations), .row (flat tFact.own r_17.1.facts), .box [(.m [9] 0 r_17.1.relations.length tRelation.k), (.m [10] 0 r_17.1.facts.length tFact.k)]]) ?_ ?_
       ·skip
        refine T_regionP 12 mixed rfl ?_
        refine pa tb [0, 1] 3 rfl (by kernel_rfl) rfl ?_
        refine t1 2 (by kernel_rfl) rfl rfl (TOp_callV (call_static ent27 rfl) (m_laws_toDatabase_ok _ _ h_26) rfl rfl rfl ?_)
        refine t1 3 (by kernel_rfl) rfl rfl (TOp_callB (call_static ent29 rfl) (frz_cons (frzOK_g (frz_cons (frzT (T := tRelation) rfl) (frz_cons (frzT (T := tFact) rfl) frz_nil)).1 (frz_cons (frzT (T := tRelation) rfl) (frz_cons (frzT (T := tFact) rfl) frz_nil)).2) (frz_cons (frz_loose rfl) frz_nil)).1 (frz_cons (frzOK_g (frz_cons (frzT (T := tRelation) rfl) (frz_cons (frzT (T := tFact) rfl) frz_nil)).1 (frz_cons (frzT (T := tRelation) rfl) (frz_cons (frzT (T := tFact) rfl) frz_nil)).2) (frz_cons (frz_loose rfl) frz_nil)).2 (m_laws_eqDatabase_ok _ _ _ h_28) rfl ?_)
        refine pa tb [4] 0 rfl (by kernel_rfl) rfl ?_
        exact TA_nil (by kernel_rfl) (joined () (w0 12) trivial)
       ·rintro _ _
        refine T_cond (t := (!r_27)) rfl (fun c_29 => ?_) (fun c_29 => ?_)
        ·replace H := cond_t c_29 H
         refine sr ?_
         refine pv tb 1 rfl ?_
         refine TO_nil ?_
         refine T_ret ?_
         refine then_ret ?_
         obtain rfl := some_inj H
         refine end_ret (.tmp .nil) rfl rfl ⟨?_, rfl⟩
         rfl
        ·replace H := cond_f c_29 H
         refine T_skip ?_
         refine T_seq ?_
         obtain ⟨r_30, h_31, H⟩ := bind_inv H
         obtain ⟨r_32, h_33, H⟩ := bind_inv H
         refine T_cutX (fun (_ : Unit) => True) (fun _ => [(2, (.b 0 0)), (3, (.b 1 0)), (6, (.b 3 0)), (7, (boolA r_11.2)), (8, (.b 6 0)), (9, (.b 8 0)), (10, (.b 11 0)), (11, (boolA r_17.2)), (63, (boolA (!r_32)))]) (fun _ => [.box [(sl tRelation aDb0.relations), (sl tFact aDb0.facts)], .box [(intA aEdit1.kind), (intA aEdit1.fact.relation), (sl tInt aEdit1.fact.values)], .dead, .box [(sl tRelation r_11.1.relations), (sl tFact r_11.1.facts)], .row (flat tRelation.own r_13.relations), .row (flat tFact.own r_13.facts), .box [(.m [4] 0 r_13.relations.length tRelation.k), (.m [5] 0 r_13.facts.length tFact.k)], .row (flat tInt.own r_15.fact.values), .box [(intA r_15.kind), (intA r_15.fact.relation), (.m [7] 0 r_15.fact.values.length tInt.k)], .row (flat tRelation.own r_17.1.relations), .row (flat tFact.own r_17.1.facts), .box [(.m [9] 0 r_17.1.relations.length tRelation.k), (.m [10] 0 r_17.1.facts.length tFact.k)]]) ?_ ?_
         ·skip
          refine T_regionP 12 mixed rfl ?_
          refine pa tb [0, 1] 3 rfl (by kernel_rfl) rfl ?_
          refine t1 2 (by kernel_rfl) rfl rfl (TOp_callV (call_static ent71 rfl) (m_laws_toEdit_ok _ _ h_31) rfl rfl rfl ?_)
          refine t1 3 (by kernel_rfl) rfl rfl (TOp_callB (call_static ent73 rfl) (frz_cons (frzOK_g (frz_cons (frz_loose rfl) (frz_cons (frz_loose rfl) (frz_cons (frzT (T := tInt) rfl) frz_nil))).1 (frz_cons (frz_loose rfl) (frz_cons (frz_loose rfl) (frz_cons (frzT (T := tInt) rfl) frz_nil))).2) (frz_cons (frz_loose rfl) frz_nil)).1 (frz_cons (frzOK_g (frz_cons (frz_loose rfl) (frz_cons (frz_loose rfl) (frz_cons (frzT (T := tInt) rfl) frz_nil))).1 (frz_cons (frz_loose rfl) (frz_cons (frz_loose rfl) (frz_cons (frzT (T := tInt) rfl) frz_nil))).2) (frz_cons (frz_loose rfl) frz_nil)).2 (m_laws_eqEdit_ok _ _ _ h_33) rfl ?_)
          refine pa tb [4] 0 rfl (by kernel_rfl) rfl ?_
          exact TA_nil (by kernel_rfl) (joined () (w0 12) trivial)
         ·rintro _ _
          refine T_cond (t := (!r_32)) rfl (fun c_34 => ?_) (fun c_34 => ?_)
          ·replace H := cond_t c_34 H
           refine sr ?_
           refine pv tb 1 rfl ?_
           refine TO_nil ?_
           refine T_ret ?_
           refine then_ret ?_
           obtain rfl := some_inj H
           refine end_ret (.tmp .nil) rfl rfl ⟨?_, rfl⟩
           rfl
          ·replace H := cond_f c_34 H
           refine T_skip ?_
           refine sr ?_
           refine pv tb 1 rfl ?_
           refine TO_nil ?_
           refine sr ?_
           obtain ⟨r_35, h_36, H⟩ := bind_inv H
           refine pv tb 2 rfl ?_
           refine TO_cons rfl (TOp_callG (aa := [(.g [(.m [4] 0 r_13.relations.length tRelation.k), (.m [5] 0 r_13.facts.length tFact.k)]), (intA 1)]) [[4], [5]] (call_static ent30 rfl) rfl (.cons rfl rfl (by decide) (.cons rfl rfl (by decide) .nil)) rfl rfl (m_laws_markDatabase_mut u _ _ _ h_36) rfl (fun hl_37 => ?_))
           obtain ⟨hq_38, hl_37⟩ := sameLens_T (T := tRelation) hl_37
           refine TO_env (E' := [(2, (.b 0 0)), (3, (.b 1 0)), (6, (.b 3 0)), (7, (boolA r_11.2)), (8, (.b 6 0)), (9, (.b 8 0)), (10, (.b 11 0)), (11, (boolA r_17.2)), (12, (intA 1)), (64, (.g [(.m [4] 0 r_35.2.relations.length tRelation.k), (.m [5] 0 r_13.facts.length tFact.k)])), (65, (intA 1)), (66, (intA r_35.1))]) ⟨rfl, rfl, rfl, rfl, rfl, rfl, rfl, rfl, rfl, (by simp only [hq_38]; rfl), rfl, rfl, trivial⟩ ?_
           obtain ⟨hq_39, hl_37⟩ := sameLens_T (T := tFact) hl_37
           refine TO_env (E' := [(2, (.b 0 0)), (3, (.b 1 0)), (6, (.b 3 0)), (7, (boolA r_11.2)), (8, (.b 6 0)), (9, (.b 8 0)), (10, (.b 11 0)), (11, (boolA r_17.2)), (12, (intA 1)), (64, (.g [(.m [4] 0 r_35.2.relations.length tRelation.k), (.m [5] 0 r_35.2.facts.length tFact.k)])), (65, (intA 1)), (66, (intA r_35.1))]) ⟨rfl, rfl, rfl, rfl, rfl, rfl, rfl, rfl, rfl, (by simp only [hq_39]; rfl), rfl, rfl, trivial⟩ ?_
           refine TO_st (σ' := [.box [(sl tRelation aDb0.relations), (sl tFact aDb0.facts)], .box [(intA aEdit1.kind), (intA aEdit1.fact.relation), (sl tInt aEdit1.fact.values)], .dead, .box [(sl tRelation r_11.1.relations), (sl tFact r_11.1.facts)], .row (flat tRelation.own r_35.2.relations), .row (flat tFact.own r_35.2.facts), .box [(.m [4] 0 r_13.relations.length tRelation.k), (.m [5] 0 r_13.facts.length tFact.k)], .row (flat tInt.own r_15.fact.values), .box [(intA r_15.kind), (intA r_15.fact.relation), (.m [7] 0 r_15.fact.values.length tInt.k)], .row (flat tRelation.own r_17.1.relations), .row (flat tFact.own r_17.1.facts), .box [(.m [9] 0 r_17.1.relations.length tRelation.k), (.m [10] 0 r_17.1.facts.length tFact.k)]]) rfl ?_
           refine TO_st (σ' := [.box [(sl tRelation aDb0.relations), (sl tFact aDb0.facts)], .box [(intA aEdit1.kind), (intA aEdit1.fact.relation), (sl tInt aEdit1.fact.values)], .dead, .box [(sl tRelation r_11.1.relations), (sl tFact r_11.1.facts)], .row (flat tRelation.own r_35.2.relations), .row (flat tFact.own r_35.2.facts), .box [(.m [4] 0 r_35.2.relations.length tRelation.k), (.m [5] 0 r_13.facts.length tFact.k)], .row (flat tInt.own r_15.fact.values), .box [(intA r_15.kind), (intA r_15.fact.relation), (.m [7] 0 r_15.fact.values.length tInt.k)], .row (flat tRelation.own r_17.1.relations), .row (flat tFact.own r_17.1.facts), .box [(.m [9] 0 r_17.1.relations.length tRelation.k), (.m [10] 0 r_17.1.facts.length tFact.k)]]) (by simp only [hq_38]) ?_
           refine TO_st (σ' := [.box [(sl tRelation aDb0.relations), (sl tFact aDb0.facts)], .box [(intA aEdit1.kind), (intA aEdit1.fact.relation), (sl tInt aEdit1.fact.values)], .dead, .box [(sl tRelation r_11.1.relations), (sl tFact r_11.1.facts)], .row (flat tRelation.own r_35.2.relations), .row (flat tFact.own r_35.2.facts), .box [(.m [4] 0 r_35.2.relations.length tRelation.k), (.m [5] 0 r_35.2.facts.length tFact.k)], .row (flat tInt.own r_15.fact.values), .box [(intA r_15.kind), (intA r_15.fact.relation), (.m [7] 0 r_15.fact.values.length tInt.k)], .row (flat tRelation.own r_17.1.relations), .row (flat tFact.own r_17.1.facts), .box [(.m [9] 0 r_17.1.relations.length tRelation.k), (.m [10] 0 r_17.1.facts.length tFact.k)]]) (by simp only [hq_39]) ?_
           refine pv tb 1 rfl ?_
           refine TO_nil ?_
           refine sr ?_
           obtain ⟨r_40, h_41, H⟩ := bind_inv H
           refine pv tb 2 rfl ?_
           refine TO_cons rfl (TOp_callG (aa := [(.g [(intA r_15.kind), (intA r_15.fact.relation), (.m [7] 0 r_15.fact.values.length tInt.k)]), (intA r_35.1)]) [[7]] (call_static ent74 rfl) rfl (.cons rfl rfl (by decide) .nil) rfl rfl (m_laws_markEdit_mut _ _ _ h_41) rfl (fun hl_42 => ?_))
           obtain ⟨hq_43, hl_42⟩ := sameLens_T (T := tInt) hl_42
           refine TO_env (E' := [(2, (.b 0 0)), (3, (.b 1 0)), (6, (.b 3 0)), (7, (boolA r_11.2)), (9, (.b 8 0)), (10, (.b 11 0)), (11, (boolA r_17.2)), (12, (intA r_35.1)), (67, (.g [(intA r_15.kind), (intA r_15.fact.relation), (.m [7] 0 r_40.2.fact.values.length tInt.k)])), (68, (intA r_35.1)), (69, (intA r_40.1))]) ⟨rfl, rfl, rfl, rfl, rfl, rfl, rfl, rfl, (by simp only [hq_43]; rfl), rfl, rfl, trivial⟩ ?_
           refine TO_st (σ' := [.box [(sl tRelation aDb0.relations), (sl tFact aDb0.facts)], .box [(intA aEdit1.kind), (intA aEdit1.fact.relation), (sl tInt aEdit1.fact.values)], .dead, .box [(sl tRelation r_11.1.relations), (sl tFact r_11.1.facts)], .row (flat tRelation.own r_35.2.relations), .row (flat tFact.own r_35.2.facts), .box [(.m [4] 0 r_35.2.relations.length tRelation.k), (.m [5] 0 r_35.2.facts.length tFact.k)], .row (flat tInt.own r_40.2.fact.values), .box [(intA r_15.kind), (intA r_15.fact.relation), (.m [7] 0 r_15.fact.values.length tInt.k)], .row (flat tRelation.own r_17.1.relations), .row (flat tFact.own r_17.1.facts), .box [(.m [9] 0 r_17.1.relations.length tRelation.k), (.m [10] 0 r_17.1.facts.length tFact.k)]]) rfl ?_
           refine TO_st (σ' := [.box [(sl tRelation aDb0.relations), (sl tFact aDb0.facts)], .box [(intA aEdit1.kind), (intA aEdit1.fact.relation), (sl tInt aEdit1.fact.values)], .dead, .box [(sl tRelation r_11.1.relations), (sl tFact r_11.1.facts)], .row (flat tRelation.own r_35.2.relations), .row (flat tFact.own r_35.2.facts), .box [(.m [4] 0 r_35.2.relations.length tRelation.k), (.m [5] 0 r_35.2.facts.length tFact.k)], .row (flat tInt.own r_40.2.fact.values), .box [(intA r_15.kind), (intA r_15.fact.relation), (.m [7] 0 r_40.2.fact.values.length tInt.k)], .row (flat tRelation.own r_17.1.relations), .row (flat tFact.own r_17.1.facts), .box [(.m [9] 0 r_17.1.relations.length tRelation.k), (.m [10] 0 r_17.1.facts.length tFact.k)]]) (by simp only [hq_43]) ?_
           refine pv tb 1 rfl ?_
           refine TO_nil ?_
           refine T_seq ?_
           obtain ⟨t82_44, J_44, H_45⟩ := bind_inv H
           refine T_cutX (fun x => t82_44 = x) (fun (t82_44 : Bool) => [(2, (.b 0 0)), (3, (.b 1 0)), (6, (.b 3 0)), (7, (boolA r_11.2)), (10, (.b 11 0)), (82, (boolA t82_44))]) (fun (t82_44 : Bool) => [.box [(sl tRelation aDb0.relations), (sl tFact aDb0.facts)], .box [(intA aEdit1.kind), (intA aEdit1.fact.relation), (sl tInt aEdit1.fact.values)], .dead, .box [(sl tRelation r_11.1.relations), (sl tFact r_11.1.facts)], .row (flat tRelation.own r_35.2.relations), .row (flat tFact.own r_35.2.facts), .box [(.m [4] 0 r_35.2.relations.length tRelation.k), (.m [5] 0 r_35.2.facts.length tFact.k)], .row (flat tInt.own r_40.2.fact.values), .box [(intA r_15.kind), (intA r_15.fact.relation), (.m [7] 0 r_40.2.fact.values.length tInt.k)], .row (flat tRelation.own r_17.1.relations), .row (flat tFact.own r_17.1.facts), .box [(.m [9] 0 r_17.1.relations.length tRelation.k), (.m [10] 0 r_17.1.facts.length tFact.k)]]) ?_ ?_
           ·replace H := J_44
            refine T_region ?_
            refine pv tb 3 rfl ?_
            refine TO_split (t := decide (r_40.1 < 0)) 72 rfl (fun g_46 => ?_) (fun g_46 => ?_)
            ·replace H := cond_t g_46 H
             refine pv tb 10 rfl ?_
             refine TO_nil ?_
             exact joined true (w0 12) (some_inj H).symm
            ·replace H := cond_f g_46 H
             obtain ⟨r_47, h_48, H⟩ := bind_inv H
             refine pv tb 2 rfl ?_
             refine TO_on rfl rfl (by decide) rfl rfl (TOp_callB (call_static ent29 rfl) (frz_cons (frzOK_g (frz_cons (frzT (T := tRelation) rfl) (frz_cons (frzT (T := tFact) rfl) frz_nil)).1 (frz_cons (frzT (T := tRelation) rfl) (frz_cons (frzT (T := tFact) rfl) frz_nil)).2) (frz_cons (frz_loose rfl) frz_nil)).1 (frz_cons (frzOK_g (frz_cons (frzT (T := tRelation) rfl) (frz_cons (frzT (T := tFact) rfl) frz_nil)).1 (frz_cons (frzT (T := tRelation) rfl) (frz_cons (frzT (T := tFact) rfl) frz_nil)).2) (frz_cons (frz_loose rfl) frz_nil)).2 (m_laws_eqDatabase_ok _ _ _ h_48) rfl ?_)
             refine pv tb 3 rfl ?_
             refine TO_split (t := (!r_47)) 78 rfl (fun g_49 => ?_) (fun g_49 => ?_)
             ·replace H := cond_t g_49 H
              refine pv tb 4 rfl ?_
              refine TO_nil ?_
              exact joined true (w0 12) (some_inj H).symm
             ·replace H := cond_f g_49 H
              refine pv tb 2 rfl ?_
              refine TO_on rfl rfl (by decide) rfl rfl (TOp_pure (pur_neqB (by kernel_rfl) rfl rfl rfl) rfl ?_)
              refine pv tb 1 rfl ?_
              refine TO_nil ?_
              exact joined (r_17.2 != r_11.2) (w0 12) (some_inj H).symm
           ·rintro _ rfl
            replace H := H_45
            refine T_cond (t := t82_44) rfl (fun c_50 => ?_) (fun c_50 => ?_)
            ·replace H := cond_t c_50 H
             refine sr ?_
             refine pv tb 1 rfl ?_
             refine TO_nil ?_
             refine T_ret ?_
             refine then_ret ?_
             obtain rfl := some_inj H
             refine end_ret (.tmp .nil) rfl rfl ⟨?_, rfl⟩
             rfl
            ·replace H := cond_f c_50 H
             refine T_skip ?_
             refine sr ?_
             refine pv tb 1 rfl ?_
             refine TO_nil ?_
             refine sr ?_
             obtain ⟨r_51, h_52, H⟩ := bind_inv H
             refine pv tb 2 rfl ?_
             refine TO_cons rfl (TOp_callG (aa := [(.g [(.m [9] 0 r_17.1.relations.length tRelation.k), (.m [10] 0 r_17.1.facts.length tFact.k)]), (intA 1)]) [[9], [10]] (call_static ent30 rfl) rfl (.cons rfl rfl (by decide) (.cons rfl rfl (by decide) .nil)) rfl rfl (m_laws_markDatabase_mut u _ _ _ h_52) rfl (fun hl_53 => ?_))
             obtain ⟨hq_54, hl_53⟩ := sameLens_T (T := tRelation) hl_53
             refine TO_env (E' := [(2, (.b 0 0)), (3, (.b 1 0)), (6, (.b 3 0)), (7, (boolA r_11.2)), (10, (.b 11 0)), (13, (intA 1)), (83, (.g [(.m [9] 0 r_51.2.relations.length tRelation.k), (.m [10] 0 r_17.1.facts.length tFact.k)])), (84, (intA 1)), (85, (intA r_51.1))]) ⟨rfl, rfl, rfl, rfl, rfl, rfl, (by simp only [hq_54]; rfl), rfl, rfl, trivial⟩ ?_
             obtain ⟨hq_55, hl_53⟩ := sameLens_T (T := tFact) hl_53
             refine TO_env (E' := [(2, (.b 0 0)), (3, (.b 1 0)), (6, (.b 3 0)), (7, (boolA r_11.2)), (10, (.b 11 0)), (13, (intA 1)), (83, (.g [(.m [9] 0 r_51.2.relations.length tRelation.k), (.m [10] 0 r_51.2.facts.length tFact.k)])), (84, (intA 1)), (85, (intA r_51.1))]) ⟨rfl, rfl, rfl, rfl, rfl, rfl, (by simp only [hq_55]; rfl), rfl, rfl, trivial⟩ ?_
             refine TO_st (σ' := [.box [(sl tRelation aDb0.relations), (sl tFact aDb0.facts)], .box [(intA aEdit1.kind), (intA aEdit1.fact.relation), (sl tInt aEdit1.fact.values)], .dead, .box [(sl tRelation r_11.1.relations), (sl tFact r_11.1.facts)], .row (flat tRelation.own r_35.2.relations), .row (flat tFact.own r_35.2.facts), .box [(.m [4] 0 r_35.2.relations.length tRelation.k), (.m [5] 0 r_35.2.facts.length tFact.k)], .row (flat tInt.own r_40.2.fact.values), .box [(intA r_15.kind), (intA r_15.fact.relation), (.m [7] 0 r_40.2.fact.values.length tInt.k)], .row (flat tRelation.own r_51.2.relations), .row (flat tFact.own r_51.2.facts), .box [(.m [9] 0 r_17.1.relations.length tRelation.k), (.m [10] 0 r_17.1.facts.length tFact.k)]]) rfl ?_
             refine TO_st (σ' := [.box [(sl tRelation aDb0.relations), (sl tFact aDb0.facts)], .box [(intA aEdit1.kind), (intA aEdit1.fact.relation), (sl tInt aEdit1.fact.values)], .dead, .box [(sl tRelation r_11.1.relations), (sl tFact r_11.1.facts)], .row (flat tRelation.own r_35.2.relations), .row (flat tFact.own r_35.2.facts), .box [(.m [4] 0 r_35.2.relations.length tRelation.k), (.m [5] 0 r_35.2.facts.length tFact.k)], .row (flat tInt.own r_40.2.fact.values), .box [(intA r_15.kind), (intA r_15.fact.relation), (.m [7] 0 r_40.2.fact.values.length tInt.k)], .row (flat tRelation.own r_51.2.relations), .row (flat tFact.own r_51.2.facts), .box [(.m [9] 0 r_51.2.relations.length tRelation.k), (.m [10] 0 r_17.1.facts.length tFact.k)]]) (by simp only [hq_54]) ?_
             refine TO_st (σ' := [.box [(sl tRelation aDb0.relations), (sl tFact aDb0.facts)], .box [(intA aEdit1.kind), (intA aEdit1.fact.relation), (sl tInt aEdit1.fact.values)], .dead, .box [(sl tRelation r_11.1.relations), (sl tFact r_11.1.facts)], .row (flat tRelation.own r_35.2.relations), .row (flat tFact.own r_35.2.facts), .box [(.m [4] 0 r_35.2.relations.length tRelation.k), (.m [5] 0 r_35.2.facts.length tFact.k)], .row (flat tInt.own r_40.2.fact.values), .box [(intA r_15.kind), (intA r_15.fact.relation), (.m [7] 0 r_40.2.fact.values.length tInt.k)], .row (flat tRelation.own r_51.2.relations), .row (flat tFact.own r_51.2.facts), .box [(.m [9] 0 r_51.2.relations.length tRelation.k), (.m [10] 0 r_51.2.facts.length tFact.k)]]) (by simp only [hq_55]) ?_
             refine pv tb 1 rfl ?_
             refine TO_nil ?_
             refine sr ?_
             refine pv tb 1 rfl ?_
             refine TO_nil ?_
             refine sr ?_
             obtain ⟨r_56, h_57, H⟩ := bind_inv H
             refine pv tb 2 rfl ?_
             refine TO_cons rfl (TOp_callB (call_static ent58 rfl) (frz_cons (frzOK_g (frz_cons (frzT (T := tRelation) rfl) (frz_cons (frzT (T := tFact) rfl) frz_nil)).1 (frz_cons (frzT (T := tRelation) rfl) (frz_cons (frzT (T := tFact) rfl) frz_nil)).2) (frz_cons (frz_loose rfl) frz_nil)).1 (frz_cons (frzOK_g (frz_cons (frzT (T := tRelation) rfl) (frz_cons (frzT (T := tFact) rfl) frz_nil)).1 (frz_cons (frzT (T := tRelation) rfl) (frz_cons (frzT (T := tFact) rfl) frz_nil)).2) (frz_cons (frz_loose rfl) frz_nil)).2 (m_laws_heldDatabase_ok u _ _ _ h_57) rfl ?_)
             refine pv tb 1 rfl ?_
             refine TO_nil ?_
             refine T_seq ?_
             refine sr ?_
             refine pv tb 2 rfl ?_
             refine TO_nil ?_
             refine T_cond (t := decide (r_56 < 0)) rfl (fun c_58 => ?_) (fun c_58 => ?_)
             ·replace H := cond_t c_58 H
              refine sr ?_
              refine pv tb 1 rfl ?_
              refine TO_nil ?_
              refine te [(4, (boolA false))] rfl ?_
              refine T_ret ?_
              refine then_ret ?_
              obtain rfl := some_inj H
              refine end_ret (.tmp .nil) rfl rfl ⟨?_, rfl⟩
              rfl
             ·replace H := cond_f c_58 H
              refine T_skip ?_
              refine T_seq ?_
              refine sr ?_
              refine pv tb 3 rfl ?_
              refine TO_nil ?_
              refine T_cond (t := decide (r_56 ≠ r_51.1)) rfl (fun c_59 => ?_) (fun c_59 => ?_)
              ·replace H := cond_t c_59 H
               refine sr ?_
               refine pv tb 1 rfl ?_
               refine TO_nil ?_
               refine te [(4, (boolA false))] rfl ?_
               refine T_ret ?_
               refine then_ret ?_
               obtain rfl := some_inj H
               refine end_ret (.tmp .nil) rfl rfl ⟨?_, rfl⟩
               rfl
              ·replace H := cond_f c_59 H
               refine T_skip ?_
               obtain ⟨r_60, h_61, H⟩ := bind_inv H
               obtain ⟨r_62, h_63, H⟩ := bind_inv H
               obtain ⟨r_64, h_65, H⟩ := bind_inv H
               refine T_pad ?_
               refine T_cutX (fun (_ : Unit) => True) (fun _ => [(6, (.b 3 0)), (7, (boolA r_11.2)), (10, (.b 11 0)), (13, (intA r_51.1)), (15, (.b 13 0)), (16, (boolA r_64.2))]) (fun _ => [.box [(sl tRelation aDb0.relations), (sl tFact aDb0.facts)], .box [(intA aEdit1.kind), (intA aEdit1.fact.relation), (sl tInt aEdit1.fact.values)], .dead, .box [(sl tRelation r_11.1.relations), (sl tFact r_11.1.facts)], .row (flat tRelation.own r_35.2.relations), .row (flat tFact.own r_35.2.facts), .box [(.m [4] 0 r_35.2.relations.length tRelation.k), (.m [5] 0 r_35.2.facts.length tFact.k)], .row (flat tInt.own r_40.2.fact.values), .box [(intA r_15.kind), (intA r_15.fact.relation), (.m [7] 0 r_40.2.fact.values.length tInt.k)], .row (flat tRelation.own r_51.2.relations), .row (flat tFact.own r_51.2.facts), .box [(.m [9] 0 r_51.2.relations.length tRelation.k), (.m [10] 0 r_51.2.facts.length tFact.k)], .dead, .box [(sl tRelation r_64.1.relations), (sl tFact r_64.1.facts)]]) ?_ ?_
               ·skip
                refine T_regionP 12 mixed rfl ?_
                refine TA_have 2 #[true, true, true, true, true, true, true, true, true, false, false] [(6, (.b 3 0)), (7, (boolA r_11.2)), (10, (.b 11 0)), (13, (intA r_51.1)), (15, (.b 13 0)), (100, (.g (tDatabase.enc r_64.1))), (101, (boolA r_64.2))] [.dead, .dead, .dead, .dead, .row (flat tRelation.own r_35.2.relations), .row (flat tFact.own r_35.2.facts), .dead, .row (flat tInt.own r_40.2.fact.values), .dead, .row (flat tRelation.own r_51.2.relations), .row (flat tFact.own r_51.2.facts), .dead, .dead, .box [.n, .n]] ?_ (fun hj0_31 => ?_)
                ·skip
                 refine t1 9 (by kernel_rfl) rfl rfl (TOp_storeB sz48 rfl rfl rfl rfl rfl rfl rfl (by decide) (lb rfl) rfl ?_)
                 refine TA_st (σ' := [.dead, .dead, .dead, .dead, .row (flat tRelation.own r_35.2.relations), .row (flat tFact.own r_35.2.facts), .dead, .row (flat tInt.own r_40.2.fact.values), .dead, .row (flat tRelation.own r_51.2.relations), .row (flat tFact.own r_51.2.facts), .dead, .dead, .box [(sl tRelation r_64.1.relations), (sl tFact r_64.1.facts)]]) rfl ?_
                 refine pa tb [10] 0 rfl (by kernel_rfl) rfl ?_
                 exact TA_nil (by kernel_rfl) (joined () (w0 14) trivial)
                refine TA_have 6 #[true, true, true, true, false, false, false, false, true, false, false] [(6, (.b 3 0)), (7, (boolA r_11.2)), (10, (.b 11 0)), (13, (intA r_51.1)), (15, (.b 13 0)), (96, (.g (tDatabase.enc r_60))), (98, (.g (tEdit.enc r_62)))] [.dead, .dead, .dead, .dead, .row (flat tRelation.own r_35.2.relations), .row (flat tFact.own r_35.2.facts), .dead, .row (flat tInt.own r_40.2.fact.values), .dead, .row (flat tRelation.own r_51.2.relations), .row (flat tFact.own r_51.2.facts), .dead, .dead, .box [.n, .n]] ?_ (fun hj1_31 => ?_)
                ·skip
                 refine t1 4 (by kernel_rfl) rfl rfl (TOp_callV (call_static ent72 rfl) (m_impl_ApplyEdit_ok u _ _ _ h_65) rfl rfl rfl ?_)
                 refine pa tb [5, 6, 7] 2 rfl (by kernel_rfl) rfl ?_
                 exact tj hj0_31 rfl (w0 14)
                refine TA_have 7 #[true, true, true, false, false, false, false, false, true, false, false] [(6, (.b 3 0)), (7, (boolA r_11.2)), (10, (.b 11 0)), (13, (intA r_51.1)), (15, (.b 13 0)), (96, (.g (tDatabase.enc r_60))), (97, (.g (tEdit.enc aEdit1)))] [.dead, .dead, .dead, .dead, .row (flat tRelation.own r_35.2.relations), .row (flat tFact.own r_35.2.facts), .dead, .row (flat tInt.own r_40.2.fact.values), .dead, .row (flat tRelation.own r_51.2.relations), .row (flat tFact.own r_51.2.facts), .dead, .dead, .box [.n, .n]] ?_ (fun hj2_31 => ?_)
                ·skip
                 refine t1 3 (by kernel_rfl) rfl rfl (TOp_callV (call_static ent71 rfl) (m_laws_toEdit_ok _ _ h_63) rfl rfl rfl ?_)
                 exact tj hj1_31 rfl (w0 14)
                refine pa tb [0, 2] 9 rfl (by kernel_rfl) rfl ?_
                refine TA_all [1, 8] (by kernel_rfl) (by decide) ⟨?_, ?_, trivial⟩
                ·skip
                 refine ⟨_, rfl, rfl, (TOp_callV (call_static ent27 rfl) (m_laws_toDatabase_ok _ _ h_61) rfl rfl rfl ?_)⟩
                 refine TA_all [3, 8] (by kernel_rfl) (by decide) ⟨?_, ?_, trivial⟩
                 ·skip
                  refine ⟨_, rfl, rfl, (TOp_callV (call_static ent71 rfl) (m_laws_toEdit_ok _ _ h_63) rfl rfl rfl ?_)⟩
                  refine TA_all [4, 8] (by kernel_rfl) (by decide) ⟨?_, ?_, trivial⟩
                  ·skip
                   refine ⟨_, rfl, rfl, (TOp_callV (call_static ent72 rfl) (m_impl_ApplyEdit_ok u _ _ _ h_65) rfl rfl rfl ?_)⟩
                   refine pa tb [5] 5 rfl (by kernel_rfl) rfl ?_
                   refine tae [(6, (.b 3 0)), (7, (boolA r_11.2)), (10, (.b 11 0)), (13, (intA r_51.1)), (94, (.t [(.g (tDatabase.enc r_64.1)), (boolA r_64.2)]))] rfl ?_
                   refine pa tb [6, 7] 3 rfl (by kernel_rfl) rfl ?_
                   refine t1 8 (by kernel_rfl) rfl rfl (TOp_alloc zero48 rfl rfl ?_)
                   exact tj hj0_31 rfl (w0 14)
                  ·skip
                   refine ⟨_, rfl, rfl, (TOp_alloc zero48 rfl rfl ?_)⟩
                   exact tj hj1_31 rfl (w0 14)
                 ·skip
                  refine ⟨_, rfl, rfl, (TOp_alloc zero48 rfl rfl ?_)⟩
                  exact tj hj2_31 rfl (w0 14)
                ·skip
                 refine ⟨_, rfl, rfl, (TOp_alloc zero48 rfl rfl ?_)⟩
                 refine t1 1 (by kernel_rfl) rfl rfl (TOp_callV (call_static ent27 rfl) (m_laws_toDatabase_ok _ _ h_61) rfl rfl rfl ?_)
                 exact tj hj2_31 rfl (w0 14)
               ·rintro _ _
                refine T_seq ?_
                obtain ⟨t110_66, J_66, H_67⟩ := bind_inv H
                refine T_cutX (fun x => t110_66 = x) (fun (t110_66 : Bool) => [(10, (.b 11 0)), (13, (intA r_51.1)), (110, (boolA t110_66))]) (fun (t110_66 : Bool) => [.box [(sl tRelation aDb0.relations), (sl tFact aDb0.facts)], .box [(intA aEdit1.kind), (intA aEdit1.fact.relation), (sl tInt aEdit1.fact.values)], .dead, .box [(sl tRelation r_11.1.relations), (sl tFact r_11.1.facts)], .row (flat tRelation.own r_35.2.relations), .row (flat tFact.own r_35.2.facts), .box [(.m [4] 0 r_35.2.relations.length tRelation.k), (.m [5] 0 r_35.2.facts.length tFact.k)], .row (flat tInt.own r_40.2.fact.values), .box [(intA r_15.kind), (intA r_15.fact.relation), (.m [7] 0 r_40.2.fact.values.length tInt.k)], .row (flat tRelation.own r_51.2.relations), .row (flat tFact.own r_51.2.facts), .box [(.m [9] 0 r_51.2.relations.length tRelation.k), (.m [10] 0 r_51.2.facts.length tFact.k)]]) ?_ ?_
                ·replace H := J_66
                 refine T_region ?_
                 obtain ⟨r_68, h_69, H⟩ := bind_inv H
                 refine pv tb 2 rfl ?_
                 refine TO_cons rfl (TOp_callV (call_static ent29 rfl) (m_laws_eqDatabase_ok _ _ _ h_69) rfl rfl rfl ?_)
                 refine pv tb 2 rfl ?_
                 refine TO_split (t := (!r_68)) 106 rfl (fun g_70 => ?_) (fun g_70 => ?_)
                 ·replace H := cond_t g_70 H
                  refine pv tb 4 rfl ?_
                  refine TO_nil ?_
                  exact joined true (w0 12) (some_inj H).symm
                 ·replace H := cond_f g_70 H
                  refine pv tb 2 rfl ?_
                  refine TO_on rfl rfl (by decide) rfl rfl (TOp_pure (pur_neqB (by kernel_rfl) rfl rfl rfl) rfl ?_)
                  refine pv tb 1 rfl ?_
                  refine TO_nil ?_
                  exact joined (r_64.2 != r_11.2) (w0 12) (some_inj H).symm
                ·rintro _ rfl
                 replace H := H_67
                 refine T_cond (t := t110_66) rfl (fun c_71 => ?_) (fun c_71 => ?_)
                 ·replace H := cond_t c_71 H
                  refine sr ?_
                  refine pv tb 1 rfl ?_
                  refine TO_nil ?_
                  refine T_ret ?_
                  refine then_ret ?_
                  obtain rfl := some_inj H
                  refine end_ret (.tmp .nil) rfl rfl ⟨?_, rfl⟩
                  rfl
                 ·replace H := cond_f c_71 H
                  refine T_skip ?_
                  refine sr ?_
                  refine pv tb 1 rfl ?_
                  refine TO_nil ?_
                  refine sr ?_
                  obtain ⟨r_72, h_73, H⟩ := bind_inv H
                  refine pv tb 2 rfl ?_
                  refine TO_cons rfl (TOp_callB (call_static ent58 rfl) (frz_cons (frzOK_g (frz_cons (frzT (T := tRelation) rfl) (frz_cons (frzT (T := tFact) rfl) frz_nil)).1 (frz_cons (frzT (T := tRelation) rfl) (frz_cons (frzT (T := tFact) rfl) frz_nil)).2) (frz_cons (frz_loose rfl) frz_nil)).1 (frz_cons (frzOK_g (frz_cons (frzT (T := tRelation) rfl) (frz_cons (frzT (T := tFact) rfl) frz_nil)).1 (frz_cons (frzT (T := tRelation) rfl) (frz_cons (frzT (T := tFact) rfl) frz_nil)).2) (frz_cons (frz_loose rfl) frz_nil)).2 (m_laws_heldDatabase_ok u _ _ _ h_73) rfl ?_)
                  refine pv tb 1 rfl ?_
                  refine TO_nil ?_
                  refine T_seq ?_
                  refine sr ?_
                  refine pv tb 2 rfl ?_
                  refine TO_nil ?_
                  refine T_cond (t := decide (r_72 < 0)) rfl (fun c_74 => ?_) (fun c_74 => ?_)
                  ·replace H := cond_t c_74 H
                   refine sr ?_
                   refine pv tb 1 rfl ?_
                   refine TO_nil ?_
                   refine T_ret ?_
                   refine then_ret ?_
                   obtain rfl := some_inj H
                   refine end_ret (.tmp .nil) rfl rfl ⟨?_, rfl⟩
                   rfl
                  ·replace H := cond_f c_74 H
                   refine T_skip ?_
                   refine T_seq ?_
                   refine sr ?_
                   refine pv tb 3 rfl ?_
                   refine TO_nil ?_
                   refine T_cond (t := decide (r_72 ≠ r_51.1)) rfl (fun c_75 => ?_) (fun c_75 => ?_)
                   ·replace H := cond_t c_75 H
                    refine sr ?_
                    refine pv tb 1 rfl ?_
                    refine TO_nil ?_
                    refine T_ret ?_
                    refine then_ret ?_
                    obtain rfl := some_inj H
                    refine end_ret (.tmp .nil) rfl rfl ⟨?_, rfl⟩
                    rfl
                   ·replace H := cond_f c_75 H
                    refine T_skip ?_
                    refine sr ?_
                    refine pv tb 1 rfl ?_
                    refine TO_nil ?_
                    refine T_ret ?_
                    obtain rfl := some_inj H
                    refine end_ret (.tmp .nil) rfl rfl ⟨?_, rfl⟩
                    rfl
end Go.Proofs.Ytjdpolnakhmkmaa

/- Walks. -/
import Derived.Test.YtjdpolnakhmkmaaM1
import Derived.Test.YtjdpolnakhmkmaaM2
import Derived.Test.YtjdpolnakhmkmaaM3
set_option linter.unusedVariables false
set_option linter.unusedSimpArgs false
set_option maxRecDepth 4000
namespace Go.Proofs.Ytjdpolnakhmkmaa
open Go Go.Proofs Go.Sep
set_option maxHeartbeats 1000000 in
/-- spec.BlockOf -/
theorem m_spec_BlockOf_own (u : Nat) (d0 : Database) (i1 : Int) (r : (List Int)) (H : m_spec_BlockOf u d0 i1 = some r) : FnO prg 110 [(.g (tDatabase.enc d0)), (intA i1)] (.m [0] 0 r.length tInt.k) [.row (flat tInt.own r)] := by
  unfold m_spec_BlockOf at H
  refine fnO_of_T Try.func110 rfl rfl (Nat.le_of_ble_eq_true rfl) ?_
  refine te [(0, (.g (tDatabase.enc d0))), (1, (intA i1))] rfl ?_
  refine sr ?_
  refine TO_cons rfl (TOp_box rfl (boxAll rfl) rfl rfl ?_)
  refine pv tb 1 rfl ?_
  refine TO_nil ?_
  refine sr ?_
  refine TO_cons rfl (TOp_lit (nn := 0) (k := 1) sl23 zero3 rfl rfl rfl rfl (by decide) ?_)
  refine TO_st (σ' := [.box [(sl tRelation d0.relations), (sl tFact d0.facts)], .row (flat tInt.enc ([] : (List Int)))]) rfl ?_
  refine pv tb 1 rfl ?_
  refine TO_nil ?_
  refine T_seq ?_
  refine sr ?_
  refine pv tb 1 rfl ?_
  refine TO_nil ?_
  obtain ⟨O1_, L1_, N1_⟩ := bind_inv H
  clear H
  obtain ⟨B1_, hb1, L1_⟩ := gen_whileF L1_
  refine T_block ?_
  refine T_loopX (fun k => fun (⟨out5, k6⟩ : (List Int) × Int) => whileF B1_ k (out5, k6) = some O1_) (fun (⟨out5, k6⟩ : (List Int) × Int) => [(1, (intA i1)), (2, (.b 0 0)), (5, (.m [1] 0 out5.length tInt.k)), (6, (intA k6))]) (fun (⟨out5, k6⟩ : (List Int) × Int) => [.box [(sl tRelation d0.relations), (sl tFact d0.facts)], .row (flat tInt.enc out5)]) u (([] : (List Int)), 0) (w0 2) L1_ ?_
  rintro _ ⟨out5, k6⟩ L1_
  obtain ⟨k1, rfl, C1_, H, K1_⟩ := while_step L1_
  rw [hb1] at H
  refine T_seq ?_
  obtain ⟨t24_2, J_2, H_3⟩ := bind_inv H
  refine T_cutX (fun x => t24_2 = x) (fun (t24_2 : Bool) => [(1, (intA i1)), (2, (.b 0 0)), (5, (.m [1] 0 out5.length tInt.k)), (6, (intA k6)), (24, (boolA t24_2))]) (fun (t24_2 : Bool) => [.box [(sl tRelation d0.relations), (sl tFact d0.facts)], .row (flat tInt.enc out5)]) ?_ ?_
  ·replace H := J_2
   refine T_region ?_
   refine pv tb 3 rfl ?_
   refine Tp rfl rfl (pur_lenT (T := tFact) sl46 rfl rfl) rfl ?_
   refine pv tb 2 rfl ?_
   refine TO_split (t := decide (k6 < (d0.facts.length : Int))) 13 rfl (fun g_4 => ?_) (fun g_4 => ?_)
   ·replace H := cond_t g_4 H
    obtain ⟨r_5, h_6, H⟩ := bind_inv H
    refine pv tb 1 rfl ?_
    refine TO_on rfl rfl (by decide) rfl rfl (TOp_callV (call_static ent53 rfl) (m_spec_IsValidDatabase_ok u _ _ h_6) rfl rfl rfl ?_)
    refine pv tb 2 rfl ?_
    refine TO_split (t := r_5) 17 rfl (fun g_7 => ?_) (fun g_7 => ?_)
    ·replace H := cond_t g_7 H
     refine pv tb 3 rfl ?_
     refine TO_on rfl rfl (by decide) rfl rfl (TOp_pure (pur_lenT (T := tFact) sl46 rfl rfl) rfl ?_)
     refine TO_fact (len_sl (T := tFact) (.tmp 10) rfl) (fun hl_8 => ?_)
     refine TO_on rfl rfl (by decide) rfl rfl (TOp_pure (pur_sub rfl rfl rfl (fits64 (by omega) (by omega))) rfl ?_)
     obtain ⟨r_9, h_10, H⟩ := bind_inv H
     refine TO_on rfl rfl (by decide) rfl rfl (TOp_callV (call_static ent137 rfl) (m_spec_l1In_ok _ _ _ _ h_10) rfl rfl rfl ?_)
     refine pv tb 1 rfl ?_
     refine TO_nil ?_
     exact joined r_9 (w0 2) (some_inj H).symm
    ·replace H := cond_f g_7 H
     refine pv tb 7 rfl ?_
     refine TO_nil ?_
     exact joined false (w0 2) (some_inj H).symm
   ·replace H := cond_f g_4 H
    refine pv tb 11 rfl ?_
    refine TO_nil ?_
    exact joined false (w0 2) (some_inj H).symm
  ·rintro _ rfl
   replace H := H_3
   refine T_cond (t := t24_2) rfl (fun c_11 => ?_) (fun c_11 => ?_)
   ·replace H := cond_t c_11 H
    refine T_skip ?_
    refine T_seq ?_
    refine T_block ?_
    refine T_seq ?_
    refine T_regionD mixed (by kernel_rfl) ?_
    obtain ⟨v_12, h_13, H⟩ := bind_inv H
    obtain ⟨n_14, hz_15, hv_16⟩ := getI_inv h_13
    refine pq tb 5 rfl ?_
    refine TQ_pure rfl (pur_ixT (T := tFact) sl46 rfl rfl hz_15 hv_16 rfl) rfl ?_
    refine TQ_pure rfl (pur_ldTK (T := tFact) (i := n_14) (off := 0) rfl agg65 rfl rfl hv_16 (by decide) rfl) rfl ?_
    obtain ⟨v_17, h_18, H⟩ := bind_inv H
    obtain ⟨n_19, hz_20, hv_21⟩ := getI_inv h_18
    refine pq tb 3 rfl ?_
    refine TQ_pure rfl (pur_ixT (T := tFact) sl46 rfl rfl hz_20 hv_21 rfl) rfl ?_
    refine TQ_pure rfl (pur_ldTK (T := tFact) (i := n_19) (off := 0) rfl agg65 rfl rfl hv_21 (by decide) rfl) rfl ?_
    obtain ⟨r_22, h_23, H⟩ := bind_inv H
    refine TQ_callV rfl (call_static ent161 rfl) (m_spec_HaveSameKey_ok u _ _ _ _ h_23) rfl rfl ?_
    refine TQ_nil ?_
    refine T_cond (t := r_22) rfl (fun c_24 => ?_) (fun c_24 => ?_)
    ·replace H := cond_t c_24 H
     refine T_region ?_
     refine pv tb 2 rfl ?_
     refine TO_cons rfl (TOp_lit (nn := 1) (k := 1) sl23 zero3 rfl rfl rfl rfl (by decide) ?_)
     refine TO_st (σ' := [.box [(sl tRelation d0.relations), (sl tFact d0.facts)], .row (flat tInt.enc out5), .row (flat tInt.enc ([k6] : (List Int)))]) rfl ?_
     obtain ⟨us_25, h_26, H⟩ := bind_inv H
     refine TO_cons rfl (TOp_appZ (T := tInt) (f := tInt.enc) (xs := out5) (ys := ([k6] : (List Int))) tInt.len sl23 zero3 rfl bytes3 (by decide) rfl rfl rfl rfl (src_mT (f := tInt.enc) tInt.len rfl rfl (flat_cell tInt _)) (flat_cell tInt _) h_26 (lb rfl) ?_)
     refine toe [(1, (intA i1)), (2, (.b 0 0)), (6, (intA k6)), (39, (boolA r_22)), (41, (intA k6)), (42, (.m [2] 0 ([k6] : (List Int)).length tInt.k)), (43, (.m [1] 0 us_25.length tInt.k))] rfl ?_
     refine TO_st (σ' := [.box [(sl tRelation d0.relations), (sl tFact d0.facts)], .row (flat tInt.enc us_25), .row (flat tInt.enc ([k6] : (List Int))), .dead]) rfl ?_
     refine pv tb 1 rfl ?_
     refine TO_nil ?_
     refine T_region ?_
     refine pv tb 3 rfl ?_
     refine TO_nil ?_
     obtain rfl := some_inj H
     exact again k1 (us_25, (w64 (k6 + 1))) (Nat.lt_succ_self _) (w0 2) K1_
    ·replace H := cond_f c_24 H
     refine T_skip ?_
     refine T_region ?_
     refine pv tb 3 rfl ?_
     refine TO_nil ?_
     obtain rfl := some_inj H
     exact again k1 (out5, (w64 (k6 + 1))) (Nat.lt_succ_self _) (w0 2) K1_
   ·replace H := cond_f c_11 H
    refine T_exit ?_
    refine then_exit ?_
    refine then_exit ?_
    refine block_exit ?_
    obtain rfl := some_inj H
    obtain rfl := some_inj K1_
    replace H := onS_l N1_
    refine sr ?_
    refine pv tb 2 rfl ?_
    refine TO_nil ?_
    refine T_ret ?_
    obtain rfl := some_inj H
    exact end_pick (.tmp .nil) rfl [1] (by decide) rfl rfl rfl rfl rfl rfl
theorem m_spec_BlockOf_ok (u : Nat) (d0 : Database) (i1 : Int) (r : (List Int)) (H : m_spec_BlockOf u d0 i1 = some r) : FnV prg 110 [(.g (tDatabase.enc d0)), (intA i1)] (sl tInt r) := (m_spec_BlockOf_own u d0 i1 r H).frz (frzT (T := tInt) rfl)

set_option maxHeartbeats 1000000 in
/-- spec.l4Copy -/
theorem m_spec_l4Copy_own (u : Nat) (d0 : Database) (r : Database) (H : m_spec_l4Copy u d0 = some r) : FnO prg 112 [(.g (tDatabase.enc d0))] (.g [(.m [0] 0 r.relations.length tRelation.k), (.m [1] 0 r.facts.length tFact.k)]) [.row (flat tRelation.own r.relations), .row (flat tFact.own r.facts)] := by
  unfold m_spec_l4Copy at H
  refine fnO_of_T Try.func112 rfl rfl (Nat.le_of_ble_eq_true rfl) ?_
  refine te [(0, (.g (tDatabase.enc d0)))] rfl ?_
  refine sr ?_
  refine TO_cons rfl (TOp_box rfl (boxAll rfl) rfl rfl ?_)
  refine TO_cons rfl (TOp_alloc zero48 rfl rfl ?_)
  refine TO_nil ?_
  refine sr ?_
  refine TO_cons rfl (TOp_lit (nn := 0) (k := 3) sl45 zero130 rfl rfl rfl rfl (by decide) ?_)
  refine TO_st (σ' := [.box [(sl tRelation d0.relations), (sl tFact d0.facts)], .box [.n, .n], .row (flat tRelation.enc ([] : (List Relation)))]) rfl ?_
  obtain ⟨us_1, h_2, H⟩ := bind_inv H
  refine pv tb 2 rfl ?_
  refine TO_cons rfl (TOp_appZ (T := tRelation) (f := tRelation.enc) (xs := ([] : (List Relation))) (ys := d0.relations) tRelation.len sl45 zero130 rfl bytes130 (by decide) rfl rfl rfl rfl (src_T (T := tRelation) rfl) (flat_cell tRelation _) h_2 (lb rfl) ?_)
  refine toe [(1, (.b 0 0)), (2, (.b 1 0)), (6, (.b 0 0)), (7, (sl tRelation d0.relations)), (8, (.m [2] 0 us_1.length tRelation.k))] rfl ?_
  refine TO_st (σ' := [.box [(sl tRelation d0.relations), (sl tFact d0.facts)], .box [.n, .n], .row (flat tRelation.enc us_1), .dead]) rfl ?_
  refine Tp rfl rfl (pur_build bld48 rfl rfl) rfl ?_
  refine TO_cons rfl (TOp_alloc zero48 rfl rfl ?_)
  refine TO_cons rfl (TOp_storeB sz48 rfl rfl rfl rfl rfl rfl rfl (by decide) (lb rfl) rfl ?_)
  refine TO_st (σ' := [.box [(sl tRelation d0.relations), (sl tFact d0.facts)], .box [.n, .n], .row (flat tRelation.enc us_1), .dead, .box [(.m [2] 0 us_1.length tRelation.k), .n]]) rfl ?_
  refine TO_nil ?_
  refine T_seq ?_
  refine sr ?_
  refine pv tb 1 rfl ?_
  refine TO_nil ?_
  refine T_row0 ?_
  refine T_boxle (xs := [(.m [2] 0 us_1.length tRelation.k), .n]) (ys := [(.m [2] 0 us_1.length tRelation.k), (.m [5] 0 ([] : (List Fact)).length tFact.k)]) 4 rfl (leCons (leR rfl) (leCons leM leNil)) ?_
  refine T_st (σ' := [.box [(sl tRelation d0.relations), (sl tFact d0.facts)], .box [.n, .n], .row (flat tRelation.enc us_1), .dead, .box [(.m [2] 0 us_1.length tRelation.k), (.m [5] 0 ([] : (List Fact)).length tFact.k)], .row (flat tFact.own ([] : (List Fact)))]) rfl ?_
  obtain ⟨O3_, L3_, N3_⟩ := bind_inv H
  clear H
  obtain ⟨B3_, hb3, L3_⟩ := gen_whileF L3_
  refine T_block ?_
  refine T_loopX (fun k => fun (⟨i4, box4_facts⟩ : Int × (List Fact)) => whileF B3_ k (i4, box4_facts) = some O3_) (fun (⟨i4, box4_facts⟩ : Int × (List Fact)) => [(1, (.b 0 0)), (2, (.b 1 0)), (3, (.b 4 0)), (4, (intA i4))]) (fun (⟨i4, box4_facts⟩ : Int × (List Fact)) => [.box [(sl tRelation d0.relations), (sl tFact d0.facts)], .box [.n, .n], .row (flat tRelation.enc us_1), .dead, .box [(.m [2] 0 us_1.length tRelation.k), (.m [5] 0 box4_facts.length tFact.k)], .row (flat tFact.own box4_facts)]) u (0, ([] : (List Fact))) (w0 6) L3_ ?_
  rintro _ ⟨i4, box4_facts⟩ L3_
  obtain ⟨k3, rfl, C3_, H, K3_⟩ := while_step L3_
  rw [hb3] at H
  refine T_seq ?_
  refine sr ?_
  refine pv tb 3 rfl ?_
  refine Tp rfl rfl (pur_lenT (T := tFact) sl46 rfl rfl) rfl ?_
  refine pv tb 1 rfl ?_
  refine TO_nil ?_
  refine T_cond (t := decide (i4 < (d0.facts.length : Int))) rfl (fun c_4 => ?_) (fun c_4 => ?_)
  ·replace H := cond_t c_4 H
   refine T_skip ?_
   refine T_seq ?_
   refine T_block ?_
   obtain ⟨v_5, h_6, H⟩ := bind_inv H
   obtain ⟨n_7, hz_8, hv_9⟩ := getI_inv h_6
   obtain ⟨us_10, h_11, H⟩ := bind_inv H
   obtain ⟨us_12, h_13, H⟩ := bind_inv H
   refine T_pad ?_
   refine T_pad ?_
   refine T_pad ?_
   refine T_pad ?_
   refine T_regionPh 6 20 mixed rfl (by kernel_rfl) ?_
   refine pa tb [0, 1, 2, 3, 4] 15 rfl (by kernel_rfl) rfl ?_
   refine tf 5 rfl (pur_ixT (T := tFact) sl46 rfl rfl hz_8 hv_9 rfl) rfl rfl (by kernel_rfl) ?_
   refine pa tb [6] 13 rfl (by kernel_rfl) rfl ?_
   refine tf 7 rfl (pur_ldT (T := tFact) (i := n_7) (off := 0) rfl one3 rfl rfl hv_9 rfl) rfl rfl (by kernel_rfl) ?_
   refine pa tb [9, 10, 11] 9 rfl (by kernel_rfl) rfl ?_
   refine tf 12 rfl (pur_ixT (T := tFact) sl46 rfl rfl hz_8 hv_9 rfl) rfl rfl (by kernel_rfl) ?_
   refine pa tb [13] 7 rfl (by kernel_rfl) rfl ?_
   refine tf 14 rfl (pur_ldT (T := tFact) (i := n_7) (off := 1) rfl one23 rfl rfl hv_9 rfl) rfl rfl (by kernel_rfl) ?_
   refine t1 8 (by kernel_rfl) rfl rfl (TOp_lit (nn := 0) (k := 1) sl23 zero3 rfl rfl rfl rfl (by decide) ?_)
   refine tmw 6 10 (by decide) (lb rfl) rfl rfl (lb rfl) rfl ?_
   refine t1 15 (by kernel_rfl) rfl rfl (TOp_appY (T := tInt) (f := tInt.enc) (xs := ([] : (List Int))) (ys := v_5.values) tInt.len sl23 zero3 rfl bytes3 (by decide) rfl rfl rfl rfl (src_T (T := tInt) rfl) (flat_cell tInt _) h_11 ?_)
   refine tmw 6 11 (by decide) (lb rfl) rfl rfl (lb rfl) rfl ?_
   refine tae [(1, (.b 0 0)), (2, (.b 1 0)), (3, (.b 4 0)), (4, (intA i4)), (18, (.m [5] 0 box4_facts.length tFact.k)), (24, (intA v_5.relation)), (32, (.m [6] 0 us_10.length tInt.k))] rfl ?_
   refine TA_st (σ' := [.dead, .dead, .row (flat tRelation.enc us_1), .dead, .dead, .row (flat tFact.own box4_facts), .row (flat tInt.enc us_10), .dead, .dead, .dead, .dead, .dead]) rfl ?_
   refine tf 16 rfl (pur_build bld65 rfl rfl) rfl rfl (by kernel_rfl) ?_
   refine t1 17 (by kernel_rfl) rfl rfl (TOp_litB (nn := 1) (k := 2) sl46 zero65 rfl rfl rfl rfl (by decide) ?_)
   refine TA_st (σ' := [.dead, .dead, .row (flat tRelation.enc us_1), .dead, .dead, .row (flat tFact.own box4_facts), .row (flat tInt.enc us_10), .dead, .dead, .dead, .dead, .dead, .box [(intA v_5.relation), (.m [6] 0 us_10.length tInt.k)]]) rfl ?_
   refine tmw 9 5 (by decide) (lb rfl) rfl rfl (lb rfl) rfl ?_
   refine t1 18 (by kernel_rfl) rfl rfl (TOp_boxify 9 rfl (lb rfl) (TOp_appB (T := tFact) (xs := box4_facts) (v := ({ relation := v_5.relation, values := us_10 } : Fact)) sl46 zero65 rfl bytes65 (by decide) rfl rfl rfl rfl rfl rfl rfl rfl h_13 (lb rfl) ?_))
   refine tae [(1, (.b 0 0)), (2, (.b 1 0)), (3, (.b 4 0)), (4, (intA i4)), (35, .m [13] 0 (box4_facts.length + 1) tFact.k)] rfl ?_
   refine TA_st (σ' := [.dead, .dead, .row (flat tRelation.enc us_1), .dead, .dead, .dead, .row (flat tInt.enc us_10), .dead, .dead, .dead, .dead, .dead, .box [(intA v_5.relation), (.m [6] 0 us_10.length tInt.k)], .box (flat tFact.own box4_facts ++ [(intA v_5.relation), (.m [6] 0 us_10.length tInt.k)])]) rfl ?_
   refine TA_absorbA (pr := flat tFact.own box4_facts) 13 1 6 rfl rfl rfl (by decide) tInt.pos (flat_len tInt.len _) (lb rfl) (lb rfl) rfl (nms_dead (nms_dead (nms_row (nms_dead (nms_dead (nms_dead (nms_row (nms_dead (nms_dead (nms_dead (nms_dead (nms_dead (nms_box rfl (nms_box (namesA namesL_own rfl) nms_nil)))))))))))))) ?_
   refine TA_st (σ' := [.dead, .dead, .row (flat tRelation.enc us_1), .dead, .dead, .dead, .dead, .dead, .dead, .dead, .dead, .dead, .box [(intA v_5.relation), (.m [6] 0 us_10.length tInt.k)], .box (flat tFact.own box4_facts ++ [(intA v_5.relation), .o tInt.k (flat tInt.enc us_10)])]) rfl ?_
   refine TA_rowifyT (T := tFact) (xs := box4_facts) (v := ({ relation := v_5.relation, values := us_10 } : Fact)) 13 rfl rfl h_13 (lb rfl) ?_
   refine TA_st (σ' := [.dead, .dead, .row (flat tRelation.enc us_1), .dead, .dead, .dead, .dead, .dead, .dead, .dead, .dead, .dead, .box [(intA v_5.relation), (.m [6] 0 us_10.length tInt.k)], .row (flat tFact.own us_12)]) rfl ?_
   refine TA_move 9 13 (by decide) (lb rfl) rfl rfl (lb rfl) ?_
   refine TA_env (E' := [(1, (.b 0 0)), (2, (.b 1 0)), (3, (.b 4 0)), (4, (intA i4)), (35, (.m [9] 0 us_12.length tFact.k))]) ⟨rfl, rfl, rfl, rfl, (congrArg (fun q => A.m [9] 0 q tFact.k) (app_len h_13)), trivial⟩ ?_
   refine TA_kill 12 (lb rfl) ?_
   refine TA_st (σ' := [.dead, .dead, .row (flat tRelation.enc us_1), .dead, .dead, .dead, .dead, .dead, .dead, .row (flat tFact.own us_12), .dead, .dead, .dead, .dead]) rfl ?_
   refine pa tb [19] 0 rfl (by kernel_rfl) rfl ?_
   refine TA_nil (by kernel_rfl) ?_
   refine TA_st (σ' := [.box [(sl tRelation d0.relations), (sl tFact d0.facts)], .box [.n, .n], .row (flat tRelation.enc us_1), .dead, .box [(.m [2] 0 us_1.length tRelation.k), (.m [5] 0 box4_facts.length tFact.k)], .dead, .dead, .dead, .dead, .row (flat tFact.own us_12), .dead, .dead, .dead, .dead]) rfl ?_
   refine tmv 5 9 (by decide) (lb rfl) rfl rfl (lb rfl) ?_
   refine TA_st (σ' := [.box [(sl tRelation d0.relations), (sl tFact d0.facts)], .box [.n, .n], .row (flat tRelation.enc us_1), .dead, .box [(.m [2] 0 us_1.length tRelation.k), .j], .row (flat tFact.own us_12), .dead, .dead, .dead, .dead, .dead, .dead, .dead, .dead]) rfl ?_
   refine t1 20 (by kernel_rfl) rfl rfl (TOp_storeB sz46 rfl rfl rfl rfl rfl rfl rfl (by decide) (lb rfl) rfl ?_)
   refine TA_st (σ' := [.box [(sl tRelation d0.relations), (sl tFact d0.facts)], .box [.n, .n], .row (flat tRelation.enc us_1), .dead, .box [(.m [2] 0 us_1.length tRelation.k), (.m [5] 0 us_12.length tFact.k)], .row (flat tFact.own us_12), .dead, .dead, .dead, .dead, .dead, .dead, .dead, .dead]) rfl ?_
   refine TA_nil (by kernel_rfl) ?_
   refine T_region ?_
   refine pv tb 3 rfl ?_
   refine TO_nil ?_
   obtain rfl := some_inj H
   exact again k3 ((w64 (i4 + 1)), us_12) (Nat.lt_succ_self _) (w0 6) K3_
  ·replace H := cond_f c_4 H
   refine T_exit ?_
   refine then_exit ?_
   refine then_exit ?_
   refine block_exit ?_
   obtain rfl := some_inj H
   obtain rfl := some_inj K3_
   replace H := onS_l N3_
   refine sr ?_
   refine pv tb 1 rfl ?_
   refine TO_cons rfl (TOp_storeB sz48 rfl rfl rfl rfl rfl rfl rfl (by decide) (lb rfl) rfl ?_)
   refine TO_st (σ' := [.box [(sl tRelation d0.relations), (sl tFact d0.facts)], .box [(.m [2] 0 us_1.length tRelation.k), (.m [5] 0 box4_facts.length tFact.k)], .row (flat tRelation.enc us_1), .dead, .box [(.m [2] 0 us_1.length tRelation.k), (.m [5] 0 box4_facts.length tFact.k)], .row (flat tFact.own box4_facts)]) rfl ?_
   refine TO_nil ?_
   refine T_ret ?_
   obtain rfl := some_inj H
   exact end_pick (.cellK rfl agg48 rfl (lb rfl) .nil) rfl [2, 5] (by decide) rfl rfl rfl rfl rfl rfl
theorem m_spec_l4Copy_ok (u : Nat) (d0 : Database) (r : Database) (H : m_spec_l4Copy u d0 = some r) : FnV prg 112 [(.g (tDatabase.enc d0))] (.g (tDatabase.enc r)) := (m_spec_l4Copy_own u d0 r H).frz (frzOK_g (frz_cons (frzT (T := tRelation) rfl) (frz_cons (frzT (T := tFact) rfl) frz_nil)).1 (frz_cons (frzT (T := tRelation) rfl) (frz_cons (frzT (T := tFact) rfl) frz_nil)).2)

set_option maxHeartbeats 1000000 in
/-- spec.l4Copy -/
theorem m_spec_l4Copy_enc (u : Nat) (d0 : Database) (r : Database) (H : m_spec_l4Copy u d0 = some r) : FnO prg 112 [(.g (tDatabase.enc d0))] (.g [(.m [0] 0 r.relations.length tRelation.k), (.m [1] 0 r.facts.length tFact.k)]) [.row (flat tRelation.enc r.relations), .row (flat tFact.enc r.facts)] := by
  unfold m_spec_l4Copy at H
  refine fnO_of_T Try.func112 rfl rfl (Nat.le_of_ble_eq_true rfl) ?_
  refine te [(0, (.g (tDatabase.enc d0)))] rfl ?_
  refine sr ?_
  refine TO_cons rfl (TOp_box rfl (boxAll rfl) rfl rfl ?_)
  refine TO_cons rfl (TOp_alloc zero48 rfl rfl ?_)
  refine TO_nil ?_
  refine sr ?_
  refine TO_cons rfl (TOp_lit (nn := 0) (k := 3) sl45 zero130 rfl rfl rfl rfl (by decide) ?_)
  refine TO_st (σ' := [.box [(sl tRelation d0.relations), (sl tFact d0.facts)], .box [.n, .n], .row (flat tRelation.enc ([] : (List Relation)))]) rfl ?_
  obtain ⟨us_1, h_2, H⟩ := bind_inv H
  refine pv tb 2 rfl ?_
  refine TO_cons rfl (TOp_appZ (T := tRelation) (f := tRelation.enc) (xs := ([] : (List Relation))) (ys := d0.relations) tRelation.len sl45 zero130 rfl bytes130 (by decide) rfl rfl rfl rfl (src_T (T := tRelation) rfl) (flat_cell tRelation _) h_2 (lb rfl) ?_)
  refine toe [(1, (.b 0 0)), (2, (.b 1 0)), (6, (.b 0 0)), (7, (sl tRelation d0.relations)), (8, (.m [2] 0 us_1.length tRelation.k))] rfl ?_
  refine TO_st (σ' := [.box [(sl tRelation d0.relations), (sl tFact d0.facts)], .box [.n, .n], .row (flat tRelation.enc us_1), .dead]) rfl ?_
  refine Tp rfl rfl (pur_build bld48 rfl rfl) rfl ?_
  refine TO_cons rfl (TOp_alloc zero48 rfl rfl ?_)
  refine TO_cons rfl (TOp_storeB sz48 rfl rfl rfl rfl rfl rfl rfl (by decide) (lb rfl) rfl ?_)
  refine TO_st (σ' := [.box [(sl tRelation d0.relations), (sl tFact d0.facts)], .box [.n, .n], .row (flat tRelation.enc us_1), .dead, .box [(.m [2] 0 us_1.length tRelation.k), .n]]) rfl ?_
  refine TO_nil ?_
  refine T_seq ?_
  refine sr ?_
  refine pv tb 1 rfl ?_
  refine TO_nil ?_
  refine T_row0 ?_
  refine T_boxle (xs := [(.m [2] 0 us_1.length tRelation.k), .n]) (ys := [(.m [2] 0 us_1.length tRelation.k), (.m [5] 0 ([] : (List Fact)).length tFact.k)]) 4 rfl (leCons (leR rfl) (leCons leM leNil)) ?_
  refine T_st (σ' := [.box [(sl tRelation d0.relations), (sl tFact d0.facts)], .box [.n, .n], .row (flat tRelation.enc us_1), .dead, .box [(.m [2] 0 us_1.length tRelation.k), (.m [5] 0 ([] : (List Fact)).length tFact.k)], .row (flat tFact.enc ([] : (List Fact)))]) rfl ?_
  obtain ⟨O3_, L3_, N3_⟩ := bind_inv H
  clear H
  obtain ⟨B3_, hb3, L3_⟩ := gen_whileF L3_
  refine T_block ?_
  refine T_loopX (fun k => fun (⟨i4, box4_facts⟩ : Int × (List Fact)) => whileF B3_ k (i4, box4_facts) = some O3_) (fun (⟨i4, box4_facts⟩ : Int × (List Fact)) => [(1, (.b 0 0)), (2, (.b 1 0)), (3, (.b 4 0)), (4, (intA i4))]) (fun (⟨i4, box4_facts⟩ : Int × (List Fact)) => [.box [(sl tRelation d0.relations), (sl tFact d0.facts)], .box [.n, .n], .row (flat tRelation.enc us_1), .dead, .box [(.m [2] 0 us_1.length tRelation.k), (.m [5] 0 box4_facts.length tFact.k)], .row (flat tFact.enc box4_facts)]) u (0, ([] : (List Fact))) (w0 6) L3_ ?_
  rintro _ ⟨i4, box4_facts⟩ L3_
  obtain ⟨k3, rfl, C3_, H, K3_⟩ := while_step L3_
  rw [hb3] at H
  refine T_seq ?_
  refine sr ?_
  refine pv tb 3 rfl ?_
  refine Tp rfl rfl (pur_lenT (T := tFact) sl46 rfl rfl) rfl ?_
  refine pv tb 1 rfl ?_
  refine TO_nil ?_
  refine T_cond (t := decide (i4 < (d0.facts.length : Int))) rfl (fun c_4 => ?_) (fun c_4 => ?_)
  ·replace H := cond_t c_4 H
   refine T_skip ?_
   refine T_seq ?_
   refine T_block ?_
   obtain ⟨v_5, h_6, H⟩ := bind_inv H
   obtain ⟨n_7, hz_8, hv_9⟩ := getI_inv h_6
   obtain ⟨us_10, h_11, H⟩ := bind_inv H
   obtain ⟨us_12, h_13, H⟩ := bind_inv H
   refine T_pad ?_
   refine T_pad ?_
   refine T_pad ?_
   refine T_pad ?_
   refine T_regionPh 6 20 mixed rfl (by kernel_rfl) ?_
   refine pa tb [0, 1, 2, 3, 4] 15 rfl (by kernel_rfl) rfl ?_
   refine tf 5 rfl (pur_ixT (T := tFact) sl46 rfl rfl hz_8 hv_9 rfl) rfl rfl (by kernel_rfl) ?_
   refine pa tb [6] 13 rfl (by kernel_rfl) rfl ?_
   refine tf 7 rfl (pur_ldT (T := tFact) (i := n_7) (off := 0) rfl one3 rfl rfl hv_9 rfl) rfl rfl (by kernel_rfl) ?_
   refine pa tb [9, 10, 11] 9 rfl (by kernel_rfl) rfl ?_
   refine tf 12 rfl (pur_ixT (T := tFact) sl46 rfl rfl hz_8 hv_9 rfl) rfl rfl (by kernel_rfl) ?_
   refine pa tb [13] 7 rfl (by kernel_rfl) rfl ?_
   refine tf 14 rfl (pur_ldT (T := tFact) (i := n_7) (off := 1) rfl one23 rfl rfl hv_9 rfl) rfl rfl (by kernel_rfl) ?_
   refine t1 8 (by kernel_rfl) rfl rfl (TOp_lit (nn := 0) (k := 1) sl23 zero3 rfl rfl rfl rfl (by decide) ?_)
   refine tmw 6 10 (by decide) (lb rfl) rfl rfl (lb rfl) rfl ?_
   refine t1 15 (by kernel_rfl) rfl rfl (TOp_appY (T := tInt) (f := tInt.enc) (xs := ([] : (List Int))) (ys := v_5.values) tInt.len sl23 zero3 rfl bytes3 (by decide) rfl rfl rfl rfl (src_T (T := tInt) rfl) (flat_cell tInt _) h_11 ?_)
   refine tmw 6 11 (by decide) (lb rfl) rfl rfl (lb rfl) rfl ?_
   refine tae [(1, (.b 0 0)), (2, (.b 1 0)), (3, (.b 4 0)), (4, (intA i4)), (18, (.m [5] 0 box4_facts.length tFact.k)), (24, (intA v_5.relation)), (32, (.m [6] 0 us_10.length tInt.k))] rfl ?_
   refine TA_st (σ' := [.dead, .dead, .row (flat tRelation.enc us_1), .dead, .dead, .row (flat tFact.enc box4_facts), .row (flat tInt.enc us_10), .dead, .dead, .dead, .dead, .dead]) rfl ?_
   refine tf 16 rfl (pur_build bld65 rfl rfl) rfl rfl (by kernel_rfl) ?_
   refine TA_ghost (E' := [(1, (.b 0 0)), (2, (.b 1 0)), (3, (.b 4 0)), (4, (intA i4)), (18, (.m [5] 0 box4_facts.length tFact.k)), (33, (.g [(intA v_5.relation), (.m [6] 0 us_10.length tInt.k)]))]) (σ' := [.dead, .dead, .row (flat tRelation.enc us_1), .dead, .dead, .row (flat tFact.enc box4_facts), .row (flat tInt.enc us_10), .dead, .dead, .dead, .dead, .dead]) (Ghost.weak (WeakL.to 12 (lb rfl) rfl rfl rfl rfl ⟨leR rfl, leR rfl, leR rfl, leR rfl, leR rfl, leR rfl, trivial⟩)) ?_
   refine TA_frz1 6 (E' := [(1, (.b 0 0)), (2, (.b 1 0)), (3, (.b 4 0)), (4, (intA i4)), (18, (.m [5] 0 box4_facts.length tFact.k)), (33, (.g [(intA v_5.relation), (sl tInt us_10)]))]) rfl rfl (lb rfl) ?_ ?_
   ·exact ⟨(.keep rfl), (.keep rfl), (.keep rfl), (.keep rfl), (.keep rfl), (fz1G (fzC (.keep rfl) (fzC fz1E fzN))), trivial⟩
   refine TA_st (σ' := [.dead, .dead, .row (flat tRelation.enc us_1), .dead, .dead, .row (flat tFact.enc box4_facts), .dead, .dead, .dead, .dead, .dead, .dead]) rfl ?_
   refine t1 17 (by kernel_rfl) rfl rfl (TOp_lit (nn := 1) (k := 2) sl46 zero65 rfl rfl rfl rfl (by decide) ?_)
   refine tmw 8 12 (by decide) (lb rfl) rfl rfl (lb rfl) rfl ?_
   refine t1 18 (by kernel_rfl) rfl rfl (TOp_appY (T := tFact) (f := tFact.enc) (xs := box4_facts) (ys := ([({ relation := v_5.relation, values := us_10 } : Fact)] : (List Fact))) tFact.len sl46 zero65 rfl bytes65 (by decide) rfl rfl rfl rfl (src_mT (f := tFact.enc) tFact.len rfl rfl (flat_cell tFact _)) (flat_cell tFact _) h_13 ?_)
   refine tmw 9 13 (by decide) (lb rfl) rfl rfl (lb rfl) rfl ?_
   refine tae [(1, (.b 0 0)), (2, (.b 1 0)), (3, (.b 4 0)), (4, (intA i4)), (35, (.m [9] 0 us_12.length tFact.k))] rfl ?_
   refine TA_st (σ' := [.dead, .dead, .row (flat tRelation.enc us_1), .dead, .dead, .dead, .dead, .dead, .row (flat tFact.enc ([({ relation := v_5.relation, values := us_10 } : Fact)] : (List Fact))), .row (flat tFact.enc us_12), .dead, .dead, .dead, .dead]) rfl ?_
   refine pa tb [19] 0 rfl (by kernel_rfl) rfl ?_
   refine TA_nil (by kernel_rfl) ?_
   refine TA_st (σ' := [.box [(sl tRelation d0.relations), (sl tFact d0.facts)], .box [.n, .n], .row (flat tRelation.enc us_1), .dead, .box [(.m [2] 0 us_1.length tRelation.k), (.m [5] 0 box4_facts.length tFact.k)], .dead, .dead, .dead, .row (flat tFact.enc ([({ relation := v_5.relation, values := us_10 } : Fact)] : (List Fact))), .row (flat tFact.enc us_12), .dead, .dead, .dead, .dead]) rfl ?_
   refine tmv 5 9 (by decide) (lb rfl) rfl rfl (lb rfl) ?_
   refine TA_st (σ' := [.box [(sl tRelation d0.relations), (sl tFact d0.facts)], .box [.n, .n], .row (flat tRelation.enc us_1), .dead, .box [(.m [2] 0 us_1.length tRelation.k), .j], .row (flat tFact.enc us_12), .dead, .dead, .row (flat tFact.enc ([({ relation := v_5.relation, values := us_10 } : Fact)] : (List Fact))), .dead, .dead, .dead, .dead, .dead]) rfl ?_
   refine t1 20 (by kernel_rfl) rfl rfl (TOp_storeB sz46 rfl rfl rfl rfl rfl rfl rfl (by decide) (lb rfl) rfl ?_)
   refine TA_st (σ' := [.box [(sl tRelation d0.relations), (sl tFact d0.facts)], .box [.n, .n], .row (flat tRelation.enc us_1), .dead, .box [(.m [2] 0 us_1.length tRelation.k), (.m [5] 0 us_12.length tFact.k)], .row (flat tFact.enc us_12), .dead, .dead, .row (flat tFact.enc ([({ relation := v_5.relation, values := us_10 } : Fact)] : (List Fact))), .dead, .dead, .dead, .dead, .dead]) rfl ?_
   refine TA_nil (by kernel_rfl) ?_
   refine T_region ?_
   refine pv tb 3 rfl ?_
   refine TO_nil ?_
   obtain rfl := some_inj H
   exact again k3 ((w64 (i4 + 1)), us_12) (Nat.lt_succ_self _) (w0 6) K3_
  ·replace H := cond_f c_4 H
   refine T_exit ?_
   refine then_exit ?_
   refine then_exit ?_
   refine block_exit ?_
   obtain rfl := some_inj H
   obtain rfl := some_inj K3_
   replace H := onS_l N3_
   refine sr ?_
   refine pv tb 1 rfl ?_
   refine TO_cons rfl (TOp_storeB sz48 rfl rfl rfl rfl rfl rfl rfl (by decide) (lb rfl) rfl ?_)
   refine TO_st (σ' := [.box [(sl tRelation d0.relations), (sl tFact d0.facts)], .box [(.m [2] 0 us_1.length tRelation.k), (.m [5] 0 box4_facts.length tFact.k)], .row (flat tRelation.enc us_1), .dead, .box [(.m [2] 0 us_1.length tRelation.k), (.m [5] 0 box4_facts.length tFact.k)], .row (flat tFact.enc box4_facts)]) rfl ?_
   refine TO_nil ?_
   refine T_ret ?_
   obtain rfl := some_inj H
   exact end_pick (.cellK rfl agg48 rfl (lb rfl) .nil) rfl [2, 5] (by decide) rfl rfl rfl rfl rfl rfl

set_option maxHeartbeats 1000000 in
/-- spec.DeleteFact -/
theorem m_spec_DeleteFact_own (u : Nat) (d0 : Database) (f1 : Fact) (r : (Database × Bool)) (H : m_spec_DeleteFact u d0 f1 = some r) : FnO prg 113 [(.g (tDatabase.enc d0)), (.g (tFact.enc f1))] (.t [(.g [(.m [0] 0 r.1.relations.length tRelation.k), (.m [1] 0 r.1.facts.length tFact.k)]), (boolA r.2)]) [.row (flat tRelation.enc r.1.relations), .row (flat tFact.enc r.1.facts)] := by
  unfold m_spec_DeleteFact at H
  refine fnO_of_T Try.func113 rfl rfl (Nat.le_of_ble_eq_true rfl) ?_
  refine te [(0, (.g (tDatabase.enc d0))), (1, (.g (tFact.enc f1)))] rfl ?_
  refine sr ?_
  refine TO_cons rfl (TOp_box rfl (boxAll rfl) rfl rfl ?_)
  refine TO_cons rfl (TOp_box rfl (boxAll rfl) rfl rfl ?_)
  refine TO_cons rfl (TOp_alloc zero48 rfl rfl ?_)
  refine pv tb 1 rfl ?_
  refine TO_nil ?_
  refine sr ?_
  obtain ⟨r_1, h_2, H⟩ := bind_inv H
  refine pv tb 1 rfl ?_
  refine TO_cons rfl (TOp_callO (call_static ent112 rfl) rfl (m_spec_l4Copy_enc u _ _ h_2) rfl rfl rfl ?_)
  refine toe [(2, (.b 0 0)), (3, (.b 1 0)), (4, (.b 2 0)), (8, (.g (tDatabase.enc d0))), (9, (.g [(.m [3] 0 r_1.relations.length tRelation.k), (.m [4] 0 r_1.facts.length tFact.k)]))] rfl ?_
  refine TO_st (σ' := [.box [(sl tRelation d0.relations), (sl tFact d0.facts)], .box [(intA f1.relation), (sl tInt f1.values)], .box [.n, .n], .row (flat tRelation.enc r_1.relations), .row (flat tFact.enc r_1.facts)]) rfl ?_
  refine TO_cons rfl (TOp_alloc zero48 rfl rfl ?_)
  refine TO_cons rfl (TOp_storeB sz48 rfl rfl rfl rfl rfl rfl rfl (by decide) (lb rfl) rfl ?_)
  refine TO_st (σ' := [.box [(sl tRelation d0.relations), (sl tFact d0.facts)], .box [(intA f1.relation), (sl tInt f1.values)], .box [.n, .n], .row (flat tRelation.enc r_1.relations), .row (flat tFact.enc r_1.facts), .box [(.m [3] 0 r_1.relations.length tRelation.k), (.m [4] 0 r_1.facts.length tFact.k)]]) rfl ?_
  refine TO_nil ?_
  refine T_seq ?_
  refine sr ?_
  obtain ⟨r_3, h_4, H⟩ := bind_inv H
  refine pv tb 2 rfl ?_
  refine TO_cons rfl (TOp_callV (call_static ent109 rfl) (m_spec_ContainsFact_ok u _ _ _ h_4) rfl rfl rfl ?_)
  refine pv tb 1 rfl ?_
  refine TO_nil ?_
  refine T_cond (t := (!r_3)) rfl (fun c_5 => ?_) (fun c_5 => ?_)
  ·replace H := cond_t c_5 H
   refine sr ?_
   refine pv tb 1 rfl ?_
   refine TO_cons rfl (TOp_storeB sz48 rfl rfl rfl rfl rfl rfl rfl (by decide) (lb rfl) rfl ?_)
   refine TO_st (σ' := [.box [(sl tRelation d0.relations), (sl tFact d0.facts)], .box [(intA f1.relation), (sl tInt f1.values)], .box [(.m [3] 0 r_1.relations.length tRelation.k), (.m [4] 0 r_1.facts.length tFact.k)], .row (flat tRelation.enc r_1.relations), .row (flat tFact.enc r_1.facts), .box [(.m [3] 0 r_1.relations.length tRelation.k), (.m [4] 0 r_1.facts.length tFact.k)]]) rfl ?_
   refine pv tb 1 rfl ?_
   refine TO_nil ?_
   refine T_ret ?_
   refine then_ret ?_
   obtain rfl := some_inj H
   exact end_pick (.cellK rfl agg48 rfl (lb rfl) (.tmp .nil)) rfl [3, 4] (by decide) rfl rfl rfl rfl rfl rfl
  ·replace H := cond_f c_5 H
   refine T_skip ?_
   refine sr ?_
   obtain ⟨r_6, h_7, H⟩ := bind_inv H
   refine pv tb 2 rfl ?_
   refine TO_cons rfl (TOp_callV (call_static ent111 rfl) (m_spec_FactIndex_ok u _ _ _ h_7) rfl rfl rfl ?_)
   refine pv tb 1 rfl ?_
   refine TO_nil ?_
   obtain ⟨ys_8, h_9, H⟩ := bind_inv H
   obtain ⟨i_10, j_11, hi_12, hj_13, hij_14, hjl_15, hys_16, _⟩ := cutI_inv h_9
   obtain ⟨us_17, h_18, H⟩ := bind_inv H
   obtain ⟨ys_19, h_20, H⟩ := bind_inv H
   obtain ⟨i_21, j_22, hi_23, hj_24, hij_25, hjl_26, hys_27, _⟩ := cutI_inv h_20
   obtain ⟨us_28, h_29, H⟩ := bind_inv H
   refine T_pad ?_
   refine T_cutX (fun (_ : Unit) => True) (fun _ => [(4, (.b 2 0)), (6, (.b 5 0))]) (fun _ => [.box [(sl tRelation d0.relations), (sl tFact d0.facts)], .box [(intA f1.relation), (sl tInt f1.values)], .box [.n, .n], .row (flat tRelation.enc r_1.relations), .row (flat tFact.enc r_1.facts), .box [(.m [3] 0 r_1.relations.length tRelation.k), (.m [6] 0 us_28.length tFact.k)], .row (flat tFact.enc us_28)]) ?_ ?_
   ·skip
    refine T_regionPh 6 13 mixed rfl (by kernel_rfl) ?_
    refine pa tb [1, 2, 3] 10 rfl (by kernel_rfl) rfl ?_
    refine tf 4 rfl (pur_cutM (lo := none) (hi := (some (.tmp 21))) sl46 rfl hi_12.symm ⟨_, congrArg (fun z => A.v (.int .i64 z)) hj_13⟩ hij_14 hjl_15 rfl) rfl rfl (by kernel_rfl) ?_
    refine pa tb [6, 7] 7 rfl (by kernel_rfl) rfl ?_
    refine tae [(4, (.b 2 0)), (6, (.b 5 0)), (7, (intA r_6)), (22, (.m [4] (i_10 * tFact.k) (j_11 - i_10) tFact.k)), (25, (.m [4] 0 r_1.facts.length tFact.k))] rfl ?_
    refine pa tb [8, 9] 5 rfl (by kernel_rfl) rfl ?_
    refine tf 10 rfl (pur_cutM (lo := (some (.tmp 27))) (hi := none) sl46 rfl ⟨_, congrArg (fun z => A.v (.int .i64 z)) hi_23⟩ hj_24.symm hij_25 hjl_26 rfl) rfl rfl (by kernel_rfl) ?_
    refine t1 0 (by kernel_rfl) rfl rfl (TOp_lit (nn := 0) (k := 2) sl46 zero65 rfl rfl rfl rfl (by decide) ?_)
    refine t1 5 (by kernel_rfl) rfl rfl (TOp_appY (T := tFact) (f := tFact.enc) (xs := ([] : (List Fact))) (ys := ys_8) tFact.len sl46 zero65 rfl bytes65 (by decide) rfl rfl rfl rfl (src_cut (T := tFact) (xs := r_1.facts) (i := i_10) (j := j_11) rfl rfl hij_14 hjl_15 hys_16) (flat_cell tFact _) h_18 ?_)
    refine tmw 7 8 (by decide) (lb rfl) rfl rfl (lb rfl) rfl ?_
    refine t1 11 (by kernel_rfl) rfl rfl (TOp_appY (T := tFact) (f := tFact.enc) (xs := us_17) (ys := ys_19) tFact.len sl46 zero65 rfl bytes65 (by decide) rfl rfl rfl rfl (src_cut (T := tFact) (xs := r_1.facts) (i := i_21) (j := j_22) rfl rfl hij_25 hjl_26 hys_27) (flat_cell tFact _) h_29 ?_)
    refine tmw 7 9 (by decide) (lb rfl) rfl rfl (lb rfl) rfl ?_
    refine pa tb [12] 0 rfl (by kernel_rfl) rfl ?_
    refine TA_nil (by kernel_rfl) ?_
    refine TA_st (σ' := [.box [(sl tRelation d0.relations), (sl tFact d0.facts)], .box [(intA f1.relation), (sl tInt f1.values)], .box [.n, .n], .row (flat tRelation.enc r_1.relations), .row (flat tFact.enc r_1.facts), .box [(.m [3] 0 r_1.relations.length tRelation.k), (.m [4] 0 r_1.facts.length tFact.k)], .dead, .row (flat tFact.enc us_28), .dead, .dead]) rfl ?_
    refine t1 13 (by kernel_rfl) rfl rfl (TOp_storeB sz46 rfl rfl rfl rfl rfl rfl rfl (by decide) (lb rfl) rfl ?_)
    refine TA_st (σ' := [.box [(sl tRelation d0.relations), (sl tFact d0.facts)], .box [(intA f1.relation), (sl tInt f1.values)], .box [.n, .n], .row (flat tRelation.enc r_1.relations), .row (flat tFact.enc r_1.facts), .box [(.m [3] 0 r_1.relations.length tRelation.k), (.m [7] 0 us_28.length tFact.k)], .dead, .row (flat tFact.enc us_28), .dead, .dead]) rfl ?_
    refine TA_ghost (E' := [(4, (.b 2 0)), (6, (.b 5 0))]) (σ' := [.box [(sl tRelation d0.relations), (sl tFact d0.facts)], .box [(intA f1.relation), (sl tInt f1.values)], .box [.n, .n], .row (flat tRelation.enc r_1.relations), .row (flat tFact.enc r_1.facts), .box [(.m [3] 0 r_1.relations.length tRelation.k), (.m [6] 0 us_28.length tFact.k)], .row (flat tFact.enc us_28), .dead, .dead, .dead]) (Ghost.move 6 7 (by decide) (lb rfl) rfl rfl (lb rfl) (Ghost.weak (WeakL.to 10 (lb rfl) rfl rfl rfl rfl ⟨leR rfl, leR rfl, trivial⟩))) ?_
    exact TA_nil (by kernel_rfl) (joined () (w0 7) trivial)
   ·rintro _ _
    refine sr ?_
    refine pv tb 1 rfl ?_
    refine TO_cons rfl (TOp_storeB sz48 rfl rfl rfl rfl rfl rfl rfl (by decide) (lb rfl) rfl ?_)
    refine TO_st (σ' := [.box [(sl tRelation d0.relations), (sl tFact d0.facts)], .box [(intA f1.relation), (sl tInt f1.values)], .box [(.m [3] 0 r_1.relations.length tRelation.k), (.m [6] 0 us_28.length tFact.k)], .row (flat tRelation.enc r_1.relations), .row (flat tFact.enc r_1.facts), .box [(.m [3] 0 r_1.relations.length tRelation.k), (.m [6] 0 us_28.length tFact.k)], .row (flat tFact.enc us_28)]) rfl ?_
    refine pv tb 1 rfl ?_
    refine TO_nil ?_
    refine T_ret ?_
    obtain rfl := some_inj H
    exact end_pick (.cellK rfl agg48 rfl (lb rfl) (.tmp .nil)) rfl [3, 6] (by decide) rfl rfl rfl rfl rfl rfl
theorem m_spec_DeleteFact_ok (u : Nat) (d0 : Database) (f1 : Fact) (r : (Database × Bool)) (H : m_spec_DeleteFact u d0 f1 = some r) : FnV prg 113 [(.g (tDatabase.enc d0)), (.g (tFact.enc f1))] (.t [(.g (tDatabase.enc r.1)), (boolA r.2)]) := (m_spec_DeleteFact_own u d0 f1 r H).frz (frzOK_t (frz_cons (frzOK_g (frz_cons (frzTE (T := tRelation) rfl) (frz_cons (frzTE (T := tFact) rfl) frz_nil)).1 (frz_cons (frzTE (T := tRelation) rfl) (frz_cons (frzTE (T := tFact) rfl) frz_nil)).2) (frz_cons (frz_loose rfl) frz_nil)).1 (frz_cons (frzOK_g (frz_cons (frzTE (T := tRelation) rfl) (frz_cons (frzTE (T := tFact) rfl) frz_nil)).1 (frz_cons (frzTE (T := tRelation) rfl) (frz_cons (frzTE (T := tFact) rfl) frz_nil)).2) (frz_cons (frz_loose rfl) frz_nil)).2)

set_option maxHeartbeats 1000000 in
/-- spec.RetractFact -/
theorem m_spec_RetractFact_own (u : Nat) (d0 : Database) (f1 : Fact) (r : (Database × Bool)) (H : m_spec_RetractFact u d0 f1 = some r) : FnO prg 40 [(.g (tDatabase.enc d0)), (.g (tFact.enc f1))] (.t [(.g [(.m [0] 0 r.1.relations.length tRelation.k), (.m [1] 0 r.1.facts.length tFact.k)]), (boolA r.2)]) [.row (flat tRelation.enc r.1.relations), .row (flat tFact.enc r.1.facts)] := by
  unfold m_spec_RetractFact at H
  refine fnO_of_T Try.func40 rfl rfl (Nat.le_of_ble_eq_true rfl) ?_
  refine te [(0, (.g (tDatabase.enc d0))), (1, (.g (tFact.enc f1)))] rfl ?_
  refine sr ?_
  refine TO_cons rfl (TOp_box rfl (boxAll rfl) rfl rfl ?_)
  refine TO_cons rfl (TOp_box rfl (boxAll rfl) rfl rfl ?_)
  refine TO_cons rfl (TOp_alloc zero48 rfl rfl ?_)
  refine pv tb 1 rfl ?_
  refine TO_nil ?_
  refine T_seq ?_
  obtain ⟨t20_1, J_1, H_2⟩ := bind_inv H
  refine T_cutX (fun x => t20_1 = x) (fun (t20_1 : Bool) => [(2, (.b 0 0)), (3, (.b 1 0)), (4, (.b 2 0)), (20, (boolA t20_1))]) (fun (t20_1 : Bool) => [.box [(sl tRelation d0.relations), (sl tFact d0.facts)], .box [(intA f1.relation), (sl tInt f1.values)], .box [.n, .n]]) ?_ ?_
  ·replace H := J_1
   obtain ⟨r_3, h_4, H⟩ := bind_inv H
   refine T_caseB (!r_3) (fun g_5 => ?_) (fun g_5 => ?_)
   ·replace H := cond_t g_5 H
    refine T_regionP 3 mixed rfl ?_
    refine pa tb [0, 1] 11 rfl (by kernel_rfl) rfl ?_
    refine TA_allG [2] (by kernel_rfl) (by decide) ⟨⟨_, rfl, goN rfl, (TOp_callV (call_static ent109 rfl) (m_spec_ContainsFact_ok u _ _ _ h_4) rfl rfl rfl ?_)⟩, trivial⟩
    refine pa tb [3, 4] 8 rfl (by kernel_rfl) rfl ?_
    refine TA_bool 12 g_5 rfl ?_
    refine pa tb [5, 6, 7, 8, 9, 10, 11, 12] 0 rfl (by kernel_rfl) rfl ?_
    refine tae [(2, (.b 0 0)), (3, (.b 1 0)), (4, (.b 2 0)), (20, (boolA true))] rfl ?_
    refine TA_nil (by kernel_rfl) ?_
    exact joined true (w0 3) (some_inj H).symm
   ·replace H := cond_f g_5 H
    obtain ⟨r_6, h_7, H⟩ := bind_inv H
    obtain ⟨r_8, h_9, H⟩ := bind_inv H
    refine T_regionP 3 mixed rfl ?_
    refine pa tb [0, 1] 11 rfl (by kernel_rfl) rfl ?_
    refine TA_allG [2] (by kernel_rfl) (by decide) ⟨⟨_, rfl, goN rfl, (TOp_callV (call_static ent109 rfl) (m_spec_ContainsFact_ok u _ _ _ h_4) rfl rfl rfl ?_)⟩, trivial⟩
    refine pa tb [3, 4] 8 rfl (by kernel_rfl) rfl ?_
    refine TA_bool 12 g_5 rfl ?_
    refine pa tb [5, 6, 7] 5 rfl (by kernel_rfl) rfl ?_
    refine TA_allG [8] (by kernel_rfl) (by decide) ⟨⟨_, rfl, goG rfl rfl (by decide) rfl, (TOp_callV (call_static ent111 rfl) (m_spec_FactIndex_ok u _ _ _ h_7) rfl rfl rfl ?_)⟩, trivial⟩
    refine TA_allG [9] (by kernel_rfl) (by decide) ⟨⟨_, rfl, goG rfl rfl (by decide) rfl, (TOp_callV (call_static ent110 rfl) (m_spec_BlockOf_ok u _ _ _ h_9) rfl rfl rfl ?_)⟩, trivial⟩
    refine TA_firstG 10 _ rfl (pur_lenT (T := tInt) sl23 rfl rfl) rfl rfl (by decide) rfl rfl rfl (by kernel_rfl) (by kernel_rfl) (by kernel_rfl) ?_
    refine pa tb [11, 12] 0 rfl (by kernel_rfl) rfl ?_
    refine TA_nil (by kernel_rfl) ?_
    exact joined (decide ((r_8.length : Int) < 2)) (w0 3) (some_inj H).symm
  ·rintro _ rfl
   replace H := H_2
   refine T_cond (t := t20_1) rfl (fun c_10 => ?_) (fun c_10 => ?_)
   ·replace H := cond_t c_10 H
    refine sr ?_
    obtain ⟨r_11, h_12, H⟩ := bind_inv H
    refine pv tb 1 rfl ?_
    refine TO_cons rfl (TOp_callO (call_static ent112 rfl) rfl (m_spec_l4Copy_enc u _ _ h_12) rfl rfl rfl ?_)
    refine toe [(2, (.b 0 0)), (3, (.b 1 0)), (4, (.b 2 0)), (20, (boolA t20_1)), (21, (.g (tDatabase.enc d0))), (22, (.g [(.m [3] 0 r_11.relations.length tRelation.k), (.m [4] 0 r_11.facts.length tFact.k)]))] rfl ?_
    refine TO_st (σ' := [.box [(sl tRelation d0.relations), (sl tFact d0.facts)], .box [(intA f1.relation), (sl tInt f1.values)], .box [.n, .n], .row (flat tRelation.enc r_11.relations), .row (flat tFact.enc r_11.facts)]) rfl ?_
    refine TO_cons rfl (TOp_storeB sz48 rfl rfl rfl rfl rfl rfl rfl (by decide) (lb rfl) rfl ?_)
    refine TO_st (σ' := [.box [(sl tRelation d0.relations), (sl tFact d0.facts)], .box [(intA f1.relation), (sl tInt f1.values)], .box [(.m [3] 0 r_11.relations.length tRelation.k), (.m [4] 0 r_11.facts.length tFact.k)], .row (flat tRelation.enc r_11.relations), .row (flat tFact.enc r_11.facts)]) rfl ?_
    refine pv tb 1 rfl ?_
    refine TO_nil ?_
    refine T_ret ?_
    refine then_ret ?_
    obtain rfl := some_inj H
    exact end_pick (.cellK rfl agg48 rfl (lb rfl) (.tmp .nil)) rfl [3, 4] (by decide) rfl rfl rfl rfl rfl rfl
   ·replace H := cond_f c_10 H
    refine T_skip ?_
    refine sr ?_
    obtain ⟨r_13, h_14, H⟩ := bind_inv H
    refine pv tb 2 rfl ?_
    refine TO_cons rfl (TOp_callO (call_static ent113 rfl) rfl (m_spec_DeleteFact_own u _ _ _ h_14) rfl rfl rfl ?_)
    refine toe [(2, (.b 0 0)), (3, (.b 1 0)), (4, (.b 2 0)), (24, (.g (tDatabase.enc d0))), (25, (.g (tFact.enc f1))), (26, (.t [(.g [(.m [3] 0 r_13.1.relations.length tRelation.k), (.m [4] 0 r_13.1.facts.length tFact.k)]), (boolA r_13.2)]))] rfl ?_
    refine TO_st (σ' := [.box [(sl tRelation d0.relations), (sl tFact d0.facts)], .box [(intA f1.relation), (sl tInt f1.values)], .box [.n, .n], .row (flat tRelation.enc r_13.1.relations), .row (flat tFact.enc r_13.1.facts)]) rfl ?_
    refine pv tb 3 rfl ?_
    refine TO_cons rfl (TOp_alloc zero48 rfl rfl ?_)
    refine TO_cons rfl (TOp_storeB sz48 rfl rfl rfl rfl rfl rfl rfl (by decide) (lb rfl) rfl ?_)
    refine TO_st (σ' := [.box [(sl tRelation d0.relations), (sl tFact d0.facts)], .box [(intA f1.relation), (sl tInt f1.values)], .box [.n, .n], .row (flat tRelation.enc r_13.1.relations), .row (flat tFact.enc r_13.1.facts), .box [(.m [3] 0 r_13.1.relations.length tRelation.k), (.m [4] 0 r_13.1.facts.length tFact.k)]]) rfl ?_
    refine pv tb 1 rfl ?_
    refine TO_nil ?_
    refine sr ?_
    refine pv tb 2 rfl ?_
    refine TO_cons rfl (TOp_storeB sz48 rfl rfl rfl rfl rfl rfl rfl (by decide) (lb rfl) rfl ?_)
    refine TO_st (σ' := [.box [(sl tRelation d0.relations), (sl tFact d0.facts)], .box [(intA f1.relation), (sl tInt f1.values)], .box [(.m [3] 0 r_13.1.relations.length tRelation.k), (.m [4] 0 r_13.1.facts.length tFact.k)], .row (flat tRelation.enc r_13.1.relations), .row (flat tFact.enc r_13.1.facts), .box [(.m [3] 0 r_13.1.relations.length tRelation.k), (.m [4] 0 r_13.1.facts.length tFact.k)]]) rfl ?_
    refine pv tb 1 rfl ?_
    refine TO_nil ?_
    refine T_ret ?_
    obtain rfl := some_inj H
    exact end_pick (.cellK rfl agg48 rfl (lb rfl) (.tmp .nil)) rfl [3, 4] (by decide) rfl rfl rfl rfl rfl rfl
theorem m_spec_RetractFact_ok (u : Nat) (d0 : Database) (f1 : Fact) (r : (Database × Bool)) (H : m_spec_RetractFact u d0 f1 = some r) : FnV prg 40 [(.g (tDatabase.enc d0)), (.g (tFact.enc f1))] (.t [(.g (tDatabase.enc r.1)), (boolA r.2)]) := (m_spec_RetractFact_own u d0 f1 r H).frz (frzOK_t (frz_cons (frzOK_g (frz_cons (frzTE (T := tRelation) rfl) (frz_cons (frzTE (T := tFact) rfl) frz_nil)).1 (frz_cons (frzTE (T := tRelation) rfl) (frz_cons (frzTE (T := tFact) rfl) frz_nil)).2) (frz_cons (frz_loose rfl) frz_nil)).1 (frz_cons (frzOK_g (frz_cons (frzTE (T := tRelation) rfl) (frz_cons (frzTE (T := tFact) rfl) frz_nil)).1 (frz_cons (frzTE (T := tRelation) rfl) (frz_cons (frzTE (T := tFact) rfl) frz_nil)).2) (frz_cons (frz_loose rfl) frz_nil)).2)

set_option maxHeartbeats 1000000 in
/-- laws.markFact -/
theorem m_laws_markFact_mut (a0 : Fact) (k1 : Int) (r : (Int × Fact)) (H : m_laws_markFact a0 k1 = some r) : FnM prg 57 [(.g [(intA a0.relation), (.m [0] 0 a0.values.length tInt.k)]), (intA k1)] [flat tInt.own a0.values] (.int .i64 r.1) [flat tInt.own r.2.values] := by
  unfold m_laws_markFact at H
  refine fnM_of_T Try.func57 rfl rfl (Nat.le_of_ble_eq_true rfl) ?_
  refine te [(0, (.g [(intA a0.relation), (.m [0] 0 a0.values.length tInt.k)])), (1, (intA k1))] rfl ?_
  refine T_st (σ' := [.row (flat tInt.own a0.values)]) rfl ?_
  refine sr ?_
  refine TO_cons rfl (TOp_box rfl (boxAll rfl) rfl rfl ?_)
  refine pv tb 1 rfl ?_
  refine TO_nil ?_
  refine sr ?_
  obtain ⟨r_1, h_2, H⟩ := bind_inv H
  refine pv tb 3 rfl ?_
  refine TO_cons rfl (TOp_callG (aa := [(.m [0] 0 a0.values.length tInt.k), (intA k1)]) [[0]] (call_static ent23 rfl) rfl (.cons rfl rfl (by decide) .nil) rfl rfl (m_laws_markIntS_mut _ _ _ h_2) rfl (fun hl_3 => ?_))
  obtain ⟨hq_4, hl_3⟩ := sameLens_T (T := tInt) hl_3
  refine TO_env (E' := [(1, (intA k1)), (2, (.b 1 0)), (5, (.b 1 1)), (6, (.m [0] 0 r_1.2.length tInt.k)), (7, (intA k1)), (8, (intA r_1.1))]) ⟨rfl, rfl, rfl, (congrArg (fun q => A.m [0] 0 q tInt.k) hq_4.symm), rfl, rfl, trivial⟩ ?_
  refine TO_st (σ' := [.row (flat tInt.own r_1.2), .box [(intA a0.relation), (.m [0] 0 a0.values.length tInt.k)]]) rfl ?_
  refine TO_st (σ' := [.row (flat tInt.own r_1.2), .box [(intA a0.relation), (.m [0] 0 r_1.2.length tInt.k)]]) (by simp only [hq_4]) ?_
  refine pv tb 1 rfl ?_
  refine TO_nil ?_
  refine sr ?_
  refine pv tb 2 rfl ?_
  refine TO_nil ?_
  refine T_ret ?_
  obtain rfl := some_inj H
  exact end_M (.tmp .nil) rfl rfl (Nat.le_refl _) (sameLens_c (T := tInt) hq_4 trivial) rfl rfl

set_option maxHeartbeats 1000000 in
/-- laws.heldRelationS -/
theorem m_laws_heldRelationS_ok (u : Nat) (a0 : (List Relation)) (k1 : Int) (r : Int) (H : m_laws_heldRelationS u a0 k1 = some r) : FnV prg 125 [(sl tRelation a0), (intA k1)] (intA r) := by
  unfold m_laws_heldRelationS at H
  refine fnV_of_T Try.func125 rfl rfl (Nat.le_of_ble_eq_true rfl) ?_
  refine te [(0, (sl tRelation a0)), (1, (intA k1))] rfl ?_
  refine sr ?_
  refine pv tb 1 rfl ?_
  refine TO_nil ?_
  refine T_seq ?_
  refine sr ?_
  refine pv tb 1 rfl ?_
  refine TO_nil ?_
  obtain ⟨O2_, L2_, N2_⟩ := bind_inv H
  clear H
  obtain ⟨B2_, hb2, L2_⟩ := gen_forL L2_
  refine T_block ?_
  refine T_loopX (fun k => fun (⟨i_1, k1⟩ : Nat × Int) => k = a0.length - i_1 ∧ forL B2_ (a0.drop i_1) (i_1 : Int) k1 = some O2_) (fun (⟨i_1, k1⟩ : Nat × Int) => [(0, (sl tRelation a0)), (1, (intA k1)), (5, (intA (i_1 : Int)))]) (fun (⟨i_1, k1⟩ : Nat × Int) => []) _ (0, k1) (w0 0) ⟨rfl, L2_⟩ ?_
  rintro _ ⟨i_1, k1⟩ ⟨rfl, L2_⟩
  refine T_fact (len_sl (T := tRelation) (.tmp 0) rfl) (fun hl2 => ?_)
  refine T_seq ?_
  refine sr ?_
  refine pv tb 2 rfl ?_
  refine Tp rfl rfl (pur_lenT (T := tRelation) sl45 rfl rfl) rfl ?_
  refine pv tb 1 rfl ?_
  refine TO_nil ?_
  refine T_cond (t := decide ((i_1 : Int) < (a0.length : Int))) rfl (fun d2 => ?_) (fun d2 => ?_)
  ·replace d2 := of_decide_eq_true d2
   obtain ⟨x_i_1, hx_i_1⟩ : ∃ v, (a0)[i_1]? = some v := ⟨_, List.getElem?_eq_getElem (by omega)⟩
   obtain ⟨C2_, H, K2_⟩ := forL_step L2_ hx_i_1
   rw [hb2] at H
   refine T_skip ?_
   refine T_seq ?_
   refine T_block ?_
   refine T_seq ?_
   refine T_seq ?_
   refine T_regionD mixed (by kernel_rfl) ?_
   refine pq tb 2 rfl ?_
   refine TQ_pure rfl (pur_ixT (T := tRelation) sl45 rfl rfl rfl hx_i_1 rfl) rfl ?_
   refine pq tb 1 rfl ?_
   refine TQ_pure rfl (pur_ldT (T := tRelation) (i := i_1) (off := 0) rfl one9 rfl rfl hx_i_1 rfl) rfl ?_
   obtain ⟨r_3, h_4, H⟩ := bind_inv H
   refine pq tb 1 rfl ?_
   refine TQ_callV rfl (call_static ent147 rfl) (m_laws_markText_ok u _ _ h_4) rfl rfl ?_
   refine TQ_pure rfl (pur_neqS rfl rfl rfl) rfl ?_
   refine TQ_nil ?_
   refine T_cond (t := decide (x_i_1.name ≠ r_3)) rfl (fun c_5 => ?_) (fun c_5 => ?_)
   ·replace H := cond_t c_5 H
    refine sr ?_
    refine pv tb 1 rfl ?_
    refine TO_nil ?_
    refine te [(4, (intA (-1)))] rfl ?_
    refine T_ret ?_
    refine then_ret ?_
    refine block_ret ?_
    refine then_ret ?_
    refine then_ret ?_
    refine block_ret ?_
    refine then_ret ?_
    obtain rfl := some_inj H
    obtain rfl := some_inj K2_
    replace H := onS_r N2_
    obtain rfl := some_inj H
    refine end_ret (.tmp .nil) rfl rfl ⟨?_, rfl⟩
    rfl
   ·replace H := cond_f c_5 H
    refine T_skip ?_
    refine sr ?_
    refine pv tb 3 rfl ?_
    refine TO_nil ?_
    refine T_seq ?_
    refine sr ?_
    refine pv tb 2 rfl ?_
    refine Tp rfl rfl (pur_ixT (T := tRelation) sl45 rfl rfl rfl hx_i_1 rfl) rfl ?_
    refine pv tb 1 rfl ?_
    refine Tp rfl rfl (pur_ldT (T := tRelation) (i := i_1) (off := 1) rfl one3 rfl rfl hx_i_1 rfl) rfl ?_
    refine pv tb 2 rfl ?_
    refine TO_nil ?_
    refine te [(0, (sl tRelation a0)), (1, (intA (w64 (k1 + 1)))), (5, (intA (i_1 : Int))), (28, (boolA (decide (x_i_1.arity ≠ (w64 (k1 + 1))))))] rfl ?_
    refine T_cond (t := decide (x_i_1.arity ≠ (w64 (k1 + 1)))) rfl (fun c_6 => ?_) (fun c_6 => ?_)
    ·replace H := cond_t c_6 H
     refine sr ?_
     refine pv tb 1 rfl ?_
     refine TO_nil ?_
     refine T_ret ?_
     refine then_ret ?_
     refine block_ret ?_
     refine then_ret ?_
     refine then_ret ?_
     refine block_ret ?_
     refine then_ret ?_
     obtain rfl := some_inj H
     obtain rfl := some_inj K2_
     replace H := onS_r N2_
     obtain rfl := some_inj H
     refine end_ret (.tmp .nil) rfl rfl ⟨?_, rfl⟩
     rfl
    ·replace H := cond_f c_6 H
     refine T_skip ?_
     refine sr ?_
     refine pv tb 3 rfl ?_
     refine TO_nil ?_
     refine T_seq ?_
     refine sr ?_
     refine pv tb 2 rfl ?_
     refine Tp rfl rfl (pur_ixT (T := tRelation) sl45 rfl rfl rfl hx_i_1 rfl) rfl ?_
     refine pv tb 1 rfl ?_
     refine Tp rfl rfl (pur_ldT (T := tRelation) (i := i_1) (off := 2) rfl one3 rfl rfl hx_i_1 rfl) rfl ?_
     refine pv tb 2 rfl ?_
     refine TO_nil ?_
     refine T_cond (t := decide (x_i_1.keyLength ≠ (w64 ((w64 (k1 + 1)) + 1)))) rfl (fun c_7 => ?_) (fun c_7 => ?_)
     ·replace H := cond_t c_7 H
      refine sr ?_
      refine pv tb 1 rfl ?_
      refine TO_nil ?_
      refine T_ret ?_
      refine then_ret ?_
      refine block_ret ?_
      refine then_ret ?_
      refine then_ret ?_
      refine block_ret ?_
      refine then_ret ?_
      obtain rfl := some_inj H
      obtain rfl := some_inj K2_
      replace H := onS_r N2_
      obtain rfl := some_inj H
      refine end_ret (.tmp .nil) rfl rfl ⟨?_, rfl⟩
      rfl
     ·replace H := cond_f c_7 H
      refine T_skip ?_
      refine T_region ?_
      refine pv tb 3 rfl ?_
      refine TO_nil ?_
      refine T_region ?_
      refine pv tb 1 rfl ?_
      refine Tp rfl rfl (pur_add rfl rfl rfl (fits64 (by omega) (by omega))) rfl ?_
      refine pv tb 1 rfl ?_
      refine TO_nil ?_
      obtain rfl := some_inj H
      exact again (a0.length - (i_1 + 1)) (i_1 + 1, (w64 ((w64 ((w64 (k1 + 1)) + 1)) + 1))) (by omega) (w0 0) ⟨rfl, K2_⟩
  ·replace d2 := of_decide_eq_false d2
   obtain rfl := forL_end L2_ (by omega)
   refine T_exit ?_
   refine then_exit ?_
   refine then_exit ?_
   refine block_exit ?_
   replace H := onS_l N2_
   refine sr ?_
   refine pv tb 2 rfl ?_
   refine TO_nil ?_
   refine T_ret ?_
   obtain rfl := some_inj H
   refine end_ret (.tmp .nil) rfl rfl ⟨?_, rfl⟩
   rfl

set_option maxHeartbeats 1000000 in
/-- laws.heldIntS -/
theorem m_laws_heldIntS_ok (a0 : (List Int)) (k1 : Int) (r : Int) (H : m_laws_heldIntS a0 k1 = some r) : FnV prg 31 [(sl tInt a0), (intA k1)] (intA r) := by
  unfold m_laws_heldIntS at H
  refine fnV_of_T Try.func31 rfl rfl (Nat.le_of_ble_eq_true rfl) ?_
  refine te [(0, (sl tInt a0)), (1, (intA k1))] rfl ?_
  refine sr ?_
  refine pv tb 1 rfl ?_
  refine TO_nil ?_
  refine T_seq ?_
  refine sr ?_
  refine pv tb 1 rfl ?_
  refine TO_nil ?_
  obtain ⟨O2_, L2_, N2_⟩ := bind_inv H
  clear H
  obtain ⟨B2_, hb2, L2_⟩ := gen_forL L2_
  refine T_block ?_
  refine T_loopX (fun k => fun (⟨i_1, k1⟩ : Nat × Int) => k = a0.length - i_1 ∧ forL B2_ (a0.drop i_1) (i_1 : Int) k1 = some O2_) (fun (⟨i_1, k1⟩ : Nat × Int) => [(0, (sl tInt a0)), (1, (intA k1)), (5, (intA (i_1 : Int)))]) (fun (⟨i_1, k1⟩ : Nat × Int) => []) _ (0, k1) (w0 0) ⟨rfl, L2_⟩ ?_
  rintro _ ⟨i_1, k1⟩ ⟨rfl, L2_⟩
  refine T_fact (len_sl (T := tInt) (.tmp 0) rfl) (fun hl2 => ?_)
  refine T_seq ?_
  refine sr ?_
  refine pv tb 2 rfl ?_
  refine Tp rfl rfl (pur_lenT (T := tInt) sl23 rfl rfl) rfl ?_
  refine pv tb 1 rfl ?_
  refine TO_nil ?_
  refine T_cond (t := decide ((i_1 : Int) < (a0.length : Int))) rfl (fun d2 => ?_) (fun d2 => ?_)
  ·replace d2 := of_decide_eq_true d2
   obtain ⟨x_i_1, hx_i_1⟩ : ∃ v, (a0)[i_1]? = some v := ⟨_, List.getElem?_eq_getElem (by omega)⟩
   obtain ⟨C2_, H, K2_⟩ := forL_step L2_ hx_i_1
   rw [hb2] at H
   refine T_skip ?_
   refine T_seq ?_
   refine T_block ?_
   refine T_seq ?_
   refine sr ?_
   refine pv tb 2 rfl ?_
   refine Tp rfl rfl (pur_ixT (T := tInt) sl23 rfl rfl rfl hx_i_1 rfl) rfl ?_
   refine Tp rfl rfl (pur_ldT (T := tInt) (i := i_1) (off := 0) rfl one3 rfl rfl hx_i_1 rfl) rfl ?_
   refine pv tb 2 rfl ?_
   refine TO_nil ?_
   refine T_cond (t := decide (x_i_1 ≠ k1)) rfl (fun c_3 => ?_) (fun c_3 => ?_)
   ·replace H := cond_t c_3 H
    refine sr ?_
    refine pv tb 1 rfl ?_
    refine TO_nil ?_
    refine T_ret ?_
    refine then_ret ?_
    refine block_ret ?_
    refine then_ret ?_
    refine then_ret ?_
    refine block_ret ?_
    refine then_ret ?_
    obtain rfl := some_inj H
    obtain rfl := some_inj K2_
    replace H := onS_r N2_
    obtain rfl := some_inj H
    refine end_ret (.tmp .nil) rfl rfl ⟨?_, rfl⟩
    rfl
   ·replace H := cond_f c_3 H
    refine T_skip ?_
    refine T_region ?_
    refine pv tb 3 rfl ?_
    refine TO_nil ?_
    refine T_region ?_
    refine pv tb 1 rfl ?_
    refine Tp rfl rfl (pur_add rfl rfl rfl (fits64 (by omega) (by omega))) rfl ?_
    refine pv tb 1 rfl ?_
    refine TO_nil ?_
    obtain rfl := some_inj H
    exact again (a0.length - (i_1 + 1)) (i_1 + 1, (w64 (k1 + 1))) (by omega) (w0 0) ⟨rfl, K2_⟩
  ·replace d2 := of_decide_eq_false d2
   obtain rfl := forL_end L2_ (by omega)
   refine T_exit ?_
   refine then_exit ?_
   refine then_exit ?_
   refine block_exit ?_
   replace H := onS_l N2_
   refine sr ?_
   refine pv tb 2 rfl ?_
   refine TO_nil ?_
   refine T_ret ?_
   obtain rfl := some_inj H
   refine end_ret (.tmp .nil) rfl rfl ⟨?_, rfl⟩
   rfl

set_option maxHeartbeats 1000000 in
/-- laws.heldFactS -/
theorem m_laws_heldFactS_ok (a0 : (List Fact)) (k1 : Int) (r : Int) (H : m_laws_heldFactS a0 k1 = some r) : FnV prg 126 [(sl tFact a0), (intA k1)] (intA r) := by
  unfold m_laws_heldFactS at H
  refine fnV_of_T Try.func126 rfl rfl (Nat.le_of_ble_eq_true rfl) ?_
  refine te [(0, (sl tFact a0)), (1, (intA k1))] rfl ?_
  refine sr ?_
  refine pv tb 1 rfl ?_
  refine TO_nil ?_
  refine T_seq ?_
  refine sr ?_
  refine pv tb 1 rfl ?_
  refine TO_nil ?_
  obtain ⟨O2_, L2_, N2_⟩ := bind_inv H
  clear H
  obtain ⟨B2_, hb2, L2_⟩ := gen_forL L2_
  refine T_block ?_
  refine T_loopX (fun k => fun (⟨i_1, k1⟩ : Nat × Int) => k = a0.length - i_1 ∧ forL B2_ (a0.drop i_1) (i_1 : Int) k1 = some O2_) (fun (⟨i_1, k1⟩ : Nat × Int) => [(0, (sl tFact a0)), (1, (intA k1)), (5, (intA (i_1 : Int)))]) (fun (⟨i_1, k1⟩ : Nat × Int) => []) _ (0, k1) (w0 0) ⟨rfl, L2_⟩ ?_
  rintro _ ⟨i_1, k1⟩ ⟨rfl, L2_⟩
  refine T_fact (len_sl (T := tFact) (.tmp 0) rfl) (fun hl2 => ?_)
  refine T_seq ?_
  refine sr ?_
  refine pv tb 2 rfl ?_
  refine Tp rfl rfl (pur_lenT (T := tFact) sl46 rfl rfl) rfl ?_
  refine pv tb 1 rfl ?_
  refine TO_nil ?_
  refine T_cond (t := decide ((i_1 : Int) < (a0.length : Int))) rfl (fun d2 => ?_) (fun d2 => ?_)
  ·replace d2 := of_decide_eq_true d2
   obtain ⟨x_i_1, hx_i_1⟩ : ∃ v, (a0)[i_1]? = some v := ⟨_, List.getElem?_eq_getElem (by omega)⟩
   obtain ⟨C2_, H, K2_⟩ := forL_step L2_ hx_i_1
   rw [hb2] at H
   refine T_skip ?_
   refine T_seq ?_
   refine T_block ?_
   refine T_seq ?_
   refine sr ?_
   refine pv tb 2 rfl ?_
   refine Tp rfl rfl (pur_ixT (T := tFact) sl46 rfl rfl rfl hx_i_1 rfl) rfl ?_
   refine pv tb 1 rfl ?_
   refine Tp rfl rfl (pur_ldT (T := tFact) (i := i_1) (off := 0) rfl one3 rfl rfl hx_i_1 rfl) rfl ?_
   refine pv tb 2 rfl ?_
   refine TO_nil ?_
   refine T_cond (t := decide (x_i_1.relation ≠ k1)) rfl (fun c_3 => ?_) (fun c_3 => ?_)
   ·replace H := cond_t c_3 H
    refine sr ?_
    refine pv tb 1 rfl ?_
    refine TO_nil ?_
    refine T_ret ?_
    refine then_ret ?_
    refine block_ret ?_
    refine then_ret ?_
    refine then_ret ?_
    refine block_ret ?_
    refine then_ret ?_
    obtain rfl := some_inj H
    obtain rfl := some_inj K2_
    replace H := onS_r N2_
    obtain rfl := some_inj H
    refine end_ret (.tmp .nil) rfl rfl ⟨?_, rfl⟩
    rfl
   ·replace H := cond_f c_3 H
    refine T_skip ?_
    refine sr ?_
    refine pv tb 3 rfl ?_
    refine TO_nil ?_
    refine sr ?_
    refine pv tb 2 rfl ?_
    refine Tp rfl rfl (pur_ixT (T := tFact) sl46 rfl rfl rfl hx_i_1 rfl) rfl ?_
    refine pv tb 1 rfl ?_
    refine Tp rfl rfl (pur_ldT (T := tFact) (i := i_1) (off := 1) rfl one23 rfl rfl hx_i_1 rfl) rfl ?_
    obtain ⟨r_4, h_5, H⟩ := bind_inv H
    refine pv tb 1 rfl ?_
    refine TO_cons rfl (TOp_callV (call_static ent31 rfl) (m_laws_heldIntS_ok _ _ _ h_5) rfl rfl rfl ?_)
    refine pv tb 1 rfl ?_
    refine TO_nil ?_
    refine te [(0, (sl tFact a0)), (1, (intA r_4)), (5, (intA (i_1 : Int)))] rfl ?_
    refine sr ?_
    refine pv tb 2 rfl ?_
    refine TO_nil ?_
    refine T_cond (t := decide (r_4 < 0)) rfl (fun c_6 => ?_) (fun c_6 => ?_)
    ·replace H := cond_t c_6 H
     refine sr ?_
     refine pv tb 1 rfl ?_
     refine TO_nil ?_
     refine T_ret ?_
     refine block_ret ?_
     refine then_ret ?_
     refine then_ret ?_
     refine block_ret ?_
     refine then_ret ?_
     obtain rfl := some_inj H
     obtain rfl := some_inj K2_
     replace H := onS_r N2_
     obtain rfl := some_inj H
     refine end_ret (.tmp .nil) rfl rfl ⟨?_, rfl⟩
     rfl
    ·replace H := cond_f c_6 H
     refine T_skip ?_
     refine T_region ?_
     refine pv tb 1 rfl ?_
     refine Tp rfl rfl (pur_add rfl rfl rfl (fits64 (by omega) (by omega))) rfl ?_
     refine pv tb 1 rfl ?_
     refine TO_nil ?_
     obtain rfl := some_inj H
     exact again (a0.length - (i_1 + 1)) (i_1 + 1, r_4) (by omega) (w0 0) ⟨rfl, K2_⟩
  ·replace d2 := of_decide_eq_false d2
   obtain rfl := forL_end L2_ (by omega)
   refine T_exit ?_
   refine then_exit ?_
   refine then_exit ?_
   refine block_exit ?_
   replace H := onS_l N2_
   refine sr ?_
   refine pv tb 2 rfl ?_
   refine TO_nil ?_
   refine T_ret ?_
   obtain rfl := some_inj H
   refine end_ret (.tmp .nil) rfl rfl ⟨?_, rfl⟩
   rfl

set_option maxHeartbeats 1000000 in
/-- laws.heldDatabase -/
theorem m_laws_heldDatabase_ok (u : Nat) (a0 : Database) (k1 : Int) (r : Int) (H : m_laws_heldDatabase u a0 k1 = some r) : FnV prg 58 [(.g (tDatabase.enc a0)), (intA k1)] (intA r) := by
  unfold m_laws_heldDatabase at H
  refine fnV_of_T Try.func58 rfl rfl (Nat.le_of_ble_eq_true rfl) ?_
  refine te [(0, (.g (tDatabase.enc a0))), (1, (intA k1))] rfl ?_
  refine sr ?_
  refine TO_cons rfl (TOp_box rfl (boxAll rfl) rfl rfl ?_)
  refine pv tb 1 rfl ?_
  refine TO_nil ?_
  refine sr ?_
  obtain ⟨r_1, h_2, H⟩ := bind_inv H
  refine pv tb 3 rfl ?_
  refine TO_cons rfl (TOp_callV (call_static ent125 rfl) (m_laws_heldRelationS_ok u _ _ _ h_2) rfl rfl rfl ?_)
  refine pv tb 1 rfl ?_
  refine TO_nil ?_
  refine T_seq ?_
  refine sr ?_
  refine pv tb 2 rfl ?_
  refine TO_nil ?_
  refine T_cond (t := decide (r_1 < 0)) rfl (fun c_3 => ?_) (fun c_3 => ?_)
  ·replace H := cond_t c_3 H
   refine sr ?_
   refine pv tb 1 rfl ?_
   refine TO_nil ?_
   refine T_ret ?_
   refine then_ret ?_
   obtain rfl := some_inj H
   refine end_ret (.tmp .nil) rfl rfl ⟨?_, rfl⟩
   rfl
  ·replace H := cond_f c_3 H
   refine T_skip ?_
   refine sr ?_
   obtain ⟨r_4, h_5, H⟩ := bind_inv H
   refine pv tb 3 rfl ?_
   refine TO_cons rfl (TOp_callV (call_static ent126 rfl) (m_laws_heldFactS_ok _ _ _ h_5) rfl rfl rfl ?_)
   refine pv tb 1 rfl ?_
   refine TO_nil ?_
   refine T_seq ?_
   refine sr ?_
   refine pv tb 2 rfl ?_
   refine TO_nil ?_
   refine T_cond (t := decide (r_4 < 0)) rfl (fun c_6 => ?_) (fun c_6 => ?_)
   ·replace H := cond_t c_6 H
    refine sr ?_
    refine pv tb 1 rfl ?_
    refine TO_nil ?_
    refine te [(4, (intA (-1)))] rfl ?_
    refine T_ret ?_
    refine then_ret ?_
    obtain rfl := some_inj H
    refine end_ret (.tmp .nil) rfl rfl ⟨?_, rfl⟩
    rfl
   ·replace H := cond_f c_6 H
    refine T_skip ?_
    refine te [(1, (intA r_4))] rfl ?_
    refine sr ?_
    refine pv tb 2 rfl ?_
    refine TO_nil ?_
    refine T_ret ?_
    obtain rfl := some_inj H
    refine end_ret (.tmp .nil) rfl rfl ⟨?_, rfl⟩
    rfl

set_option maxHeartbeats 1000000 in
/-- laws.FnExactRetractFact -/
theorem m_laws_FnExactRetractFact_ok (u : Nat) (aDb0 : Database) (aFact1 : Fact) (r : Bool) (H : m_laws_FnExactRetractFact u aDb0 aFact1 = some r) : FnV prg 8 [(.g (tDatabase.enc aDb0)), (.g (tFact.enc aFact1))] (boolA r) := by
  unfold m_laws_FnExactRetractFact at H
  refine fnV_of_T Try.func8 rfl rfl (Nat.le_of_ble_eq_true rfl) ?_
  refine te [(0, (.g (tDatabase.enc aDb0))), (1, (.g (tFact.enc aFact1)))] rfl ?_
  refine sr ?_
  refine TO_cons rfl (TOp_box rfl (boxAll rfl) rfl rfl ?_)
  refine TO_cons rfl (TOp_box rfl (boxAll rfl) rfl rfl ?_)
  refine pv tb 1 rfl ?_
  refine TO_nil ?_
  refine sr ?_
  refine pv tb 1 rfl ?_
  refine TO_nil ?_
  refine sr ?_
  obtain ⟨r_1, h_2, H⟩ := bind_inv H
  refine pv tb 2 rfl ?_
  refine TO_cons rfl (TOp_callV (call_static ent25 rfl) (m_laws_szDatabase_ok _ _ _ h_2) rfl rfl rfl ?_)
  refine pv tb 1 rfl ?_
  refine TO_nil ?_
  refine T_seq ?_
  refine sr ?_
  refine pv tb 2 rfl ?_
  refine TO_nil ?_
  refine T_cond (t := decide (r_1 < 0)) rfl (fun c_3 => ?_) (fun c_3 => ?_)
  ·replace H := cond_t c_3 H
   refine sr ?_
   refine pv tb 1 rfl ?_
   refine TO_nil ?_
   refine T_ret ?_
   refine then_ret ?_
   obtain rfl := some_inj H
   refine end_ret (.tmp .nil) rfl rfl ⟨?_, rfl⟩
   rfl
  ·replace H := cond_f c_3 H
   refine T_skip ?_
   refine sr ?_
   obtain ⟨r_4, h_5, H⟩ := bind_inv H
   refine pv tb 2 rfl ?_
   refine TO_cons rfl (TOp_callV (call_static ent54 rfl) (m_laws_szFact_ok _ _ _ h_5) rfl rfl rfl ?_)
   refine pv tb 1 rfl ?_
   refine TO_nil ?_
   refine T_seq ?_
   refine sr ?_
   refine pv tb 2 rfl ?_
   refine TO_nil ?_
   refine T_cond (t := decide (r_4 < 0)) rfl (fun c_6 => ?_) (fun c_6 => ?_)
   ·replace H := cond_t c_6 H
    refine sr ?_
    refine pv tb 1 rfl ?_
    refine TO_nil ?_
    refine te [(4, (boolA true))] rfl ?_
    refine T_ret ?_
    refine then_ret ?_
    obtain rfl := some_inj H
    refine end_ret (.tmp .nil) rfl rfl ⟨?_, rfl⟩
    rfl
   ·replace H := cond_f c_6 H
    refine T_skip ?_
    obtain ⟨r_7, h_8, H⟩ := bind_inv H
    obtain ⟨r_9, h_10, H⟩ := bind_inv H
    obtain ⟨r_11, h_12, H⟩ := bind_inv H
    refine T_pad ?_
    refine T_cutX (fun (_ : Unit) => True) (fun _ => [(2, (.b 0 0)), (3, (.b 1 0)), (6, (.b 3 0)), (7, (boolA r_11.2))]) (fun _ => [.box [(sl tRelation aDb0.relations), (sl tFact aDb0.facts)], .box [(intA aFact1.relation), (sl tInt aFact1.values)], .dead, .box [(sl tRelation r_11.1.relations), (sl tFact r_11.1.facts)]]) ?_ ?_
    ·skip
     refine T_regionP 2 mixed rfl ?_
     refine TA_have 2 #[true, true, true, true, true, true, true, true, true, false, false] [(2, (.b 0 0)), (3, (.b 1 0)), (6, (.b 3 0)), (33, (.g (tDatabase.enc r_11.1))), (34, (boolA r_11.2))] [.dead, .dead, .dead, .box [.n, .n]] ?_ (fun hj0_8 => ?_)
     ·skip
      refine t1 9 (by kernel_rfl) rfl rfl (TOp_storeB sz48 rfl rfl rfl rfl rfl rfl rfl (by decide) (lb rfl) rfl ?_)
      refine TA_st (σ' := [.dead, .dead, .dead, .box [(sl tRelation r_11.1.relations), (sl tFact r_11.1.facts)]]) rfl ?_
      refine pa tb [10] 0 rfl (by kernel_rfl) rfl ?_
      exact TA_nil (by kernel_rfl) (joined () (w0 4) trivial)
     refine TA_have 6 #[true, true, true, true, false, false, false, false, true, false, false] [(2, (.b 0 0)), (3, (.b 1 0)), (6, (.b 3 0)), (29, (.g (tDatabase.enc r_7))), (31, (.g (tFact.enc r_9)))] [.dead, .dead, .dead, .box [.n, .n]] ?_ (fun hj1_8 => ?_)
     ·skip
      refine t1 4 (by kernel_rfl) rfl rfl (TOp_callV (call_static ent40 rfl) (m_spec_RetractFact_ok u _ _ _ h_12) rfl rfl rfl ?_)
      refine pa tb [5, 6, 7] 2 rfl (by kernel_rfl) rfl ?_
      exact tj hj0_8 rfl (w0 4)
     refine TA_have 7 #[true, true, true, false, false, false, false, false, true, false, false] [(2, (.b 0 0)), (3, (.b 1 0)), (6, (.b 3 0)), (29, (.g (tDatabase.enc r_7))), (30, (.g (tFact.enc aFact1)))] [.dead, .dead, .dead, .box [.n, .n]] ?_ (fun hj2_8 => ?_)
     ·skip
      refine t1 3 (by kernel_rfl) rfl rfl (TOp_callV (call_static ent55 rfl) (m_laws_toFact_ok _ _ h_10) rfl rfl rfl ?_)
      exact tj hj1_8 rfl (w0 4)
     refine pa tb [0, 2] 9 rfl (by kernel_rfl) rfl ?_
     refine TA_all [1, 8] (by kernel_rfl) (by decide) ⟨?_, ?_, trivial⟩
     ·skip
      refine ⟨_, rfl, rfl, (TOp_callV (call_static ent27 rfl) (m_laws_toDatabase_ok _ _ h_8) rfl rfl rfl ?_)⟩
      refine TA_all [3, 8] (by kernel_rfl) (by decide) ⟨?_, ?_, trivial⟩
      ·skip
       refine ⟨_, rfl, rfl, (TOp_callV (call_static ent55 rfl) (m_laws_toFact_ok _ _ h_10) rfl rfl rfl ?_)⟩
       refine TA_all [4, 8] (by kernel_rfl) (by decide) ⟨?_, ?_, trivial⟩
       ·skip
        refine ⟨_, rfl, rfl, (TOp_callV (call_static ent40 rfl) (m_spec_RetractFact_ok u _ _ _ h_12) rfl rfl rfl ?_)⟩
        refine pa tb [5] 5 rfl (by kernel_rfl) rfl ?_
        refine tae [(2, (.b 0 0)), (3, (.b 1 0)), (27, (.t [(.g (tDatabase.enc r_11.1)), (boolA r_11.2)]))] rfl ?_
        refine pa tb [6, 7] 3 rfl (by kernel_rfl) rfl ?_
        refine t1 8 (by kernel_rfl) rfl rfl (TOp_alloc zero48 rfl rfl ?_)
        exact tj hj0_8 rfl (w0 4)
       ·skip
        refine ⟨_, rfl, rfl, (TOp_alloc zero48 rfl rfl ?_)⟩
        exact tj hj1_8 rfl (w0 4)
      ·skip
       refine ⟨_, rfl, rfl, (TOp_alloc zero48 rfl rfl ?_)⟩
       exact tj hj2_8 rfl (w0 4)
     ·skip
      refine ⟨_, rfl, rfl, (TOp_alloc zero48 rfl rfl ?_)⟩
      refine t1 1 (by kernel_rfl) rfl rfl (TOp_callV (call_static ent27 rfl) (m_laws_toDatabase_ok _ _ h_8) rfl rfl rfl ?_)
      exact tj hj2_8 rfl (w0 4)
    ·rintro _ _
     refine sr ?_
     obtain ⟨r_13, h_14, H⟩ := bind_inv H
     refine pv tb 1 rfl ?_
     refine TO_cons rfl (TOp_callO (call_static ent27 rfl) rfl (m_laws_toDatabase_own _ _ h_14) rfl rfl rfl ?_)
     refine toe [(2, (.b 0 0)), (3, (.b 1 0)), (6, (.b 3 0)), (7, (boolA r_11.2)), (35, (.g (tDatabase.enc aDb0))), (36, (.g [(.m [4] 0 r_13.relations.length tRelation.k), (.m [5] 0 r_13.facts.length tFact.k)]))] rfl ?_
     refine TO_st (σ' := [.box [(sl tRelation aDb0.relations), (sl tFact aDb0.facts)], .box [(intA aFact1.relation), (sl tInt aFact1.values)], .dead, .box [(sl tRelation r_11.1.relations), (sl tFact r_11.1.facts)], .row (flat tRelation.own r_13.relations), .row (flat tFact.own r_13.facts)]) rfl ?_
     refine TO_cons rfl (TOp_alloc zero48 rfl rfl ?_)
     refine TO_cons rfl (TOp_storeB sz48 rfl rfl rfl rfl rfl rfl rfl (by decide) (lb rfl) rfl ?_)
     refine TO_st (σ' := [.box [(sl tRelation aDb0.relations), (sl tFact aDb0.facts)], .box [(intA aFact1.relation), (sl tInt aFact1.values)], .dead, .box [(sl tRelation r_11.1.relations), (sl tFact r_11.1.facts)], .row (flat tRelation.own r_13.relations), .row (flat tFact.own r_13.facts), .box [(.m [4] 0 r_13.relations.length tRelation.k), (.m [5] 0 r_13.facts.length tFact.k)]]) rfl ?_
     refine TO_nil ?_
     refine sr ?_
     obtain ⟨r_15, h_16, H⟩ := bind_inv H
     refine pv tb 1 rfl ?_
     refine TO_cons rfl (TOp_callO (call_static ent55 rfl) rfl (m_laws_toFact_own _ _ h_16) rfl rfl rfl ?_)
     refine toe [(2, (.b 0 0)), (3, (.b 1 0)), (6, (.b 3 0)), (7, (boolA r_11.2)), (8, (.b 6 0)), (37, (.g (tFact.enc aFact1))), (38, (.g [(intA r_15.relation), (.m [7] 0 r_15.values.length tInt.k)]))] rfl ?_
     refine TO_st (σ' := [.box [(sl tRelation aDb0.relations), (sl tFact aDb0.facts)], .box [(intA aFact1.relation), (sl tInt aFact1.values)], .dead, .box [(sl tRelation r_11.1.relations), (sl tFact r_11.1.facts)], .row (flat tRelation.own r_13.relations), .row (flat tFact.own r_13.facts), .box [(.m [4] 0 r_13.relations.length tRelation.k), (.m [5] 0 r_13.facts.length tFact.k)], .row (flat tInt.own r_15.values)]) rfl ?_
     refine TO_cons rfl (TOp_alloc zero65 rfl rfl ?_)
     refine TO_cons rfl (TOp_storeB sz65 rfl rfl rfl rfl rfl rfl rfl (by decide) (lb rfl) rfl ?_)
     refine TO_st (σ' := [.box [(sl tRelation aDb0.relations), (sl tFact aDb0.facts)], .box [(intA aFact1.relation), (sl tInt aFact1.values)], .dead, .box [(sl tRelation r_11.1.relations), (sl tFact r_11.1.facts)], .row (flat tRelation.own r_13.relations), .row (flat tFact.own r_13.facts), .box [(.m [4] 0 r_13.relations.length tRelation.k), (.m [5] 0 r_13.facts.length tFact.k)], .row (flat tInt.own r_15.values), .box [(intA r_15.relation), (.m [7] 0 r_15.values.length tInt.k)]]) rfl ?_
     refine TO_nil ?_
     refine sr ?_
     obtain ⟨r_17, h_18, H⟩ := bind_inv H
     refine pv tb 2 rfl ?_
     refine TO_cons rfl (TOp_callOG (call_static ent39 rfl) (frz_cons (frzOK_g (frz_cons (frzT (T := tRelation) rfl) (frz_cons (frzT (T := tFact) rfl) frz_nil)).1 (frz_cons (frzT (T := tRelation) rfl) (frz_cons (frzT (T := tFact) rfl) frz_nil)).2) (frz_cons (frzOK_g (frz_cons (frz_loose rfl) (frz_cons (frzT (T := tInt) rfl) frz_nil)).1 (frz_cons (frz_loose rfl) (frz_cons (frzT (T := tInt) rfl) frz_nil)).2) frz_nil)).1 (frz_cons (frzOK_g (frz_cons (frzT (T := tRelation) rfl) (frz_cons (frzT (T := tFact) rfl) frz_nil)).1 (frz_cons (frzT (T := tRelation) rfl) (frz_cons (frzT (T := tFact) rfl) frz_nil)).2) (frz_cons (frzOK_g (frz_cons (frz_loose rfl) (frz_cons (frzT (T := tInt) rfl) frz_nil)).1 (frz_cons (frz_loose rfl) (frz_cons (frzT (T := tInt) rfl) frz_nil)).2) frz_nil)).2 (m_impl_RetractFact_own _ _ _ h_18) rfl (ownC_of (ownSB_cons (flat_ownR tRelation _) (ownSB_cons (flat_ownR tFact _) ownSB_nil))) rfl rfl rfl ?_)
     refine toe [(2, (.b 0 0)), (3, (.b 1 0)), (6, (.b 3 0)), (7, (boolA r_11.2)), (8, (.b 6 0)), (9, (.b 8 0)), (40, (.g [(.m [4] 0 r_13.relations.length tRelation.k), (.m [5] 0 r_13.facts.length tFact.k)])), (41, (.g [(intA r_15.relation), (.m [7] 0 r_15.values.length tInt.k)])), (42, (.t [(.g [(.m [9] 0 r_17.1.relations.length tRelation.k), (.m [10] 0 r_17.1.facts.length tFact.k)]), (boolA r_17.2)]))] rfl ?_
     refine TO_st (σ' := [.box [(sl tRelation aDb0.relations), (sl tFact aDb0.facts)], .box [(intA aFact1.relation), (sl tInt aFact1.values)], .dead, .box [(sl tRelation r_11.1.relations), (sl tFact r_11.1.facts)], .row (flat tRelation.own r_13.relations), .row (flat tFact.own r_13.facts), .box [(.m [4] 0 r_13.relations.length tRelation.k), (.m [5] 0 r_13.facts.length tFact.k)], .row (flat tInt.own r_15.values), .box [(intA r_15.relation), (.m [7] 0 r_15.values.length tInt.k)], .row (flat tRelation.own r_17.1.relations), .row (flat tFact.own r_17.1.facts)]) rfl ?_
     refine pv tb 3 rfl ?_
     refine TO_cons rfl (TOp_alloc zero48 rfl rfl ?_)
     refine TO_cons rfl (TOp_storeB sz48 rfl rfl rfl rfl rfl rfl rfl (by decide) (lb rfl) rfl ?_)
     refine TO_st (σ' := [.box [(sl tRelation aDb0.relations), (sl tFact aDb0.facts)], .box [(intA aFact1.relation), (sl tInt aFact1.values)], .dead, .box [(sl tRelation r_11.1.relations), (sl tFact r_11.1.facts)], .row (flat tRelation.own r_13.relations), .row (flat tFact.own r_13.facts), .box [(.m [4] 0 r_13.relations.length tRelation.k), (.m [5] 0 r_13.facts.length tFact.k)], .row (flat tInt.own r_15.values), .box [(intA r_15.relation), (.m [7] 0 r_15.values.length tInt.k)], .row (flat tRelation.own r_17.1.relations), .row (flat tFact.own r_17.1.facts), .box [(.m [9] 0 r_17.1.relations.length tRelation.k), (.m [10] 0 r_17.1.facts.length tFact.k)]]) rfl ?_
     refine pv tb 1 rfl ?_
     refine TO_nil ?_
     refine T_seq ?_
     obtain ⟨t53_19, J_19, H_20⟩ := bind_inv H
     refine T_cutX (fun x => t53_19 = x) (fun (t53_19 : Bool) => [(2, (.b 0 0)), (3, (.b 1 0)), (6, (.b 3 0)), (7, (boolA r_11.2)), (8, (.b 6 0)), (9, (.b 8 0)), (10, (.b 11 0)), (11, (boolA r_17.2)), (53, (boolA t53_19))]) (fun (t53_19 : Bool) => [.box [(sl tRelation aDb0.relations), (sl tFact aDb0.facts)], .box [(intA aFact1.relation), (sl tInt aFact1.values)], .dead, .box [(sl tRelation r_11.1.relations), (sl tFact r_11.1.facts)], .row (flat tRelation.own r_13.relations), .row (flat tFact.own r_13.facts), .box [(.m [4] 0 r_13.relations.length tRelation.k), (.m [5] 0 r_13.facts.length tFact.k)], .row (flat tInt.own r_15.values), .box [(intA r_15.relation), (.m [7] 0 r_15.values.length tInt.k)], .row (flat tRelation.own r_17.1.relations), .row (flat tFact.own r_17.1.facts), .box [(.m [9] 0 r_17.1.relations.length tRelation.k), (.m [10] 0 r_17.1.facts.length tFact.k)]]) ?_ ?_
     ·replace H := J_19
      refine T_region ?_
      obtain ⟨r_21, h_22, H⟩ := bind_inv H
      refine pv tb 2 rfl ?_
      refine TO_cons rfl (TOp_callB (call_static ent29 rfl) (frz_cons (frzOK_g (frz_cons (frzT (T := tRelation) rfl) (frz_cons (frzT (T := tFact) rfl) frz_nil)).1 (frz_cons (frzT (T := tRelation) rfl) (frz_cons (frzT (T := tFact) rfl) frz_nil)).2) (frz_cons (frz_loose rfl) frz_nil)).1 (frz_cons (frzOK_g (frz_cons (frzT (T := tRelation) rfl) (frz_cons (frzT (T := tFact) rfl) frz_nil)).1 (frz_cons (frzT (T := tRelation) rfl) (frz_cons (frzT (T := tFact) rfl) frz_nil)).2) (frz_cons (frz_loose rfl) frz_nil)).2 (m_laws_eqDatabase_ok _ _ _ h_22) rfl ?_)
      refine pv tb 2 rfl ?_
      refine TO_split (t := (!r_21)) 49 rfl (fun g_23 => ?_) (fun g_23 => ?_)
      ·replace H := cond_t g_23 H
       refine pv tb 4 rfl ?_
       refine TO_nil ?_
       exact joined true (w0 12) (some_inj H).symm
      ·replace H := cond_f g_23 H
       refine pv tb 2 rfl ?_
       refine TO_on rfl rfl (by decide) rfl rfl (TOp_pure (pur_neqB (by kernel_rfl) rfl rfl rfl) rfl ?_)
       refine pv tb 1 rfl ?_
       refine TO_nil ?_
       exact joined (r_17.2 != r_11.2) (w0 12) (some_inj H).symm
     ·rintro _ rfl
      replace H := H_20
      refine T_cond (t := t53_19) rfl (fun c_24 => ?_) (fun c_24 => ?_)
      ·replace H := cond_t c_24 H
       refine sr ?_
       refine pv tb 1 rfl ?_
       refine TO_nil ?_
       refine T_ret ?_
       refine then_ret ?_
       obtain rfl := some_inj H
       refine end_ret (.tmp .nil) rfl rfl ⟨?_, rfl⟩
       rfl
      ·replace H := cond_f c_24 H
       refine T_skip ?_
       refine T_seq ?_
       obtain ⟨r_25, h_26, H⟩ := bind_inv H
       obtain ⟨r_27, h_28, H⟩ := bind_inv H
       refine T_cutX (fun (_ : Unit) => True) (fun _ => [(2, (.b 0 0)), (3, (.b 1 0)), (6, (.b 3 0)), (7, (boolA r_11.2)), (8, (.b 6 0)), (9, (.b 8 0)), (10, (.b 11 0)), (11, (boolA r_17.2)), (58, (boolA (!r_27)))]) (fun _ => [.box [(sl tRelation aDb0.relations), (sl tFact aDb0.facts)], .box [(intA aFact1.relation), (sl tInt aFact1.values)], .dead, .box [(sl tRelation r_11.1.relations), (sl tFact r_11.1.facts)], .row (flat tRelation.own r_13.relations), .row (flat tFact.own r_13.facts), .box [(.m [4] 0 r_13.relations.length tRelation.k), (.m [5] 0 r_13.facts.length tFact.k)], .row (flat tInt.own r_15.values), .box [(intA r_15.relation), (.m [7] 0 r_15.values.length tInt.k)], .row (flat tRelation.own r_17.1.relations), .row (flat tFact.own r_17.1.facts), .box [(.m [9] 0 r_17.1.relations.length tRelation.k), (.m [10] 0 r_17.1.facts.length tFact.k)]]) ?_ ?_
       ·skip
        refine T_regionP 12 mixed rfl ?_
        refine pa tb [0, 1] 3 rfl (by kernel_rfl) rfl ?_
        refine t1 2 (by kernel_rfl) rfl rfl (TOp_callV (call_static ent27 rfl) (m_laws_toDatabase_ok _ _ h_26) rfl rfl rfl ?_)
        refine t1 3 (by kernel_rfl) rfl rfl (TOp_callB (call_static ent29 rfl) (frz_cons (frzOK_g (frz_cons (frzT (T := tRelation) rfl) (frz_cons (frzT (T := tFact) rfl) frz_nil)).1 (frz_cons (frzT (T := tRelation) rfl) (frz_cons (frzT (T := tFact) rfl) frz_nil)).2) (frz_cons (frz_loose rfl) frz_nil)).1 (frz_cons (frzOK_g (frz_cons (frzT (T := tRelation) rfl) (frz_cons (frzT (T := tFact) rfl) frz_nil)).1 (frz_cons (frzT (T := tRelation) rfl) (frz_cons (frzT (T := tFact) rfl) frz_nil)).2) (frz_cons (frz_loose rfl) frz_nil)).2 (m_laws_eqDatabase_ok _ _ _ h_28) rfl ?_)
        refine pa tb [4] 0 rfl (by kernel_rfl) rfl ?_
        exact TA_nil (by kernel_rfl) (joined () (w0 12) trivial)
       ·rintro _ _
        refine T_cond (t := (!r_27)) rfl (fun c_29 => ?_) (fun c_29 => ?_)
        ·replace H := cond_t c_29 H
         refine sr ?_
         refine pv tb 1 rfl ?_
         refine TO_nil ?_
         refine T_ret ?_
         refine then_ret ?_
         obtain rfl := some_inj H
         refine end_ret (.tmp .nil) rfl rfl ⟨?_, rfl⟩
         rfl
        ·replace H := cond_f c_29 H
         refine T_skip ?_
         refine T_seq ?_
         obtain ⟨r_30, h_31, H⟩ := bind_inv H
         obtain ⟨r_32, h_33, H⟩ := bind_inv H
         refine T_cutX (fun (_ : Unit) => True) (fun _ => [(2, (.b 0 0)), (3, (.b 1 0)), (6, (.b 3 0)), (7, (boolA r_11.2)), (8, (.b 6 0)), (9, (.b 8 0)), (10, (.b 11 0)), (11, (boolA r_17.2)), (63, (boolA (!r_32)))]) (fun _ => [.box [(sl tRelation aDb0.relations), (sl tFact aDb0.facts)], .box [(intA aFact1.relation), (sl tInt aFact1.values)], .dead, .box [(sl tRelation r_11.1.relations), (sl tFact r_11.1.facts)], .row (flat tRelation.own r_13.relations), .row (flat tFact.own r_13.facts), .box [(.m [4] 0 r_13.relations.length tRelation.k), (.m [5] 0 r_13.facts.length tFact.k)], .row (flat tInt.own r_15.values), .box [(intA r_15.relation), (.m [7] 0 r_15.values.length tInt.k)], .row (flat tRelation.own r_17.1.relations), .row (flat tFact.own r_17.1.facts), .box [(.m [9] 0 r_17.1.relations.length tRelation.k), (.m [10] 0 r_17.1.facts.length tFact.k)]]) ?_ ?_
         ·skip
          refine T_regionP 12 mixed rfl ?_
          refine pa tb [0, 1] 3 rfl (by kernel_rfl) rfl ?_
          refine t1 2 (by kernel_rfl) rfl rfl (TOp_callV (call_static ent55 rfl) (m_laws_toFact_ok _ _ h_31) rfl rfl rfl ?_)
          refine t1 3 (by kernel_rfl) rfl rfl (TOp_callB (call_static ent56 rfl) (frz_cons (frzOK_g (frz_cons (frz_loose rfl) (frz_cons (frzT (T := tInt) rfl) frz_nil)).1 (frz_cons (frz_loose rfl) (frz_cons (frzT (T := tInt) rfl) frz_nil)).2) (frz_cons (frz_loose rfl) frz_nil)).1 (frz_cons (frzOK_g (frz_cons (frz_loose rfl) (frz_cons (frzT (T := tInt) rfl) frz_nil)).1 (frz_cons (frz_loose rfl) (frz_cons (frzT (T := tInt) rfl) frz_nil)).2) (frz_cons (frz_loose rfl) frz_nil)).2 (m_laws_eqFact_ok _ _ _ h_33) rfl ?_)
          refine pa tb [4] 0 rfl (by kernel_rfl) rfl ?_
          exact TA_nil (by kernel_rfl) (joined () (w0 12) trivial)
         ·rintro _ _
          refine T_cond (t := (!r_32)) rfl (fun c_34 => ?_) (fun c_34 => ?_)
          ·replace H := cond_t c_34 H
           refine sr ?_
           refine pv tb 1 rfl ?_
           refine TO_nil ?_
           refine T_ret ?_
           refine then_ret ?_
           obtain rfl := some_inj H
           refine end_ret (.tmp .nil) rfl rfl ⟨?_, rfl⟩
           rfl
          ·replace H := cond_f c_34 H
           refine T_skip ?_
           refine sr ?_
           refine pv tb 1 rfl ?_
           refine TO_nil ?_
           refine sr ?_
           obtain ⟨r_35, h_36, H⟩ := bind_inv H
           refine pv tb 2 rfl ?_
           refine TO_cons rfl (TOp_callG (aa := [(.g [(.m [4] 0 r_13.relations.length tRelation.k), (.m [5] 0 r_13.facts.length tFact.k)]), (intA 1)]) [[4], [5]] (call_static ent30 rfl) rfl (.cons rfl rfl (by decide) (.cons rfl rfl (by decide) .nil)) rfl rfl (m_laws_markDatabase_mut u _ _ _ h_36) rfl (fun hl_37 => ?_))
           obtain ⟨hq_38, hl_37⟩ := sameLens_T (T := tRelation) hl_37
           refine TO_env (E' := [(2, (.b 0 0)), (3, (.b 1 0)), (6, (.b 3 0)), (7, (boolA r_11.2)), (8, (.b 6 0)), (9, (.b 8 0)), (10, (.b 11 0)), (11, (boolA r_17.2)), (12, (intA 1)), (64, (.g [(.m [4] 0 r_35.2.relations.length tRelation.k), (.m [5] 0 r_13.facts.length tFact.k)])), (65, (intA 1)), (66, (intA r_35.1))]) ⟨rfl, rfl, rfl, rfl, rfl, rfl, rfl, rfl, rfl, (by simp only [hq_38]; rfl), rfl, rfl, trivial⟩ ?_
           obtain ⟨hq_39, hl_37⟩ := sameLens_T (T := tFact) hl_37
           refine TO_env (E' := [(2, (.b 0 0)), (3, (.b 1 0)), (6, (.b 3 0)), (7, (boolA r_11.2)), (8, (.b 6 0)), (9, (.b 8 0)), (10, (.b 11 0)), (11, (boolA r_17.2)), (12, (intA 1)), (64, (.g [(.m [4] 0 r_35.2.relations.length tRelation.k), (.m [5] 0 r_35.2.facts.length tFact.k)])), (65, (intA 1)), (66, (intA r_35.1))]) ⟨rfl, rfl, rfl, rfl, rfl, rfl, rfl, rfl, rfl, (by simp only [hq_39]; rfl), rfl, rfl, trivial⟩ ?_
           refine TO_st (σ' := [.box [(sl tRelation aDb0.relations), (sl tFact aDb0.facts)], .box [(intA aFact1.relation), (sl tInt aFact1.values)], .dead, .box [(sl tRelation r_11.1.relations), (sl tFact r_11.1.facts)], .row (flat tRelation.own r_35.2.relations), .row (flat tFact.own r_35.2.facts), .box [(.m [4] 0 r_13.relations.length tRelation.k), (.m [5] 0 r_13.facts.length tFact.k)], .row (flat tInt.own r_15.values), .box [(intA r_15.relation), (.m [7] 0 r_15.values.length tInt.k)], .row (flat tRelation.own r_17.1.relations), .row (flat tFact.own r_17.1.facts), .box [(.m [9] 0 r_17.1.relations.length tRelation.k), (.m [10] 0 r_17.1.facts.length tFact.k)]]) rfl ?_
           refine TO_st (σ' := [.box [(sl tRelation aDb0.relations), (sl tFact aDb0.facts)], .box [(intA aFact1.relation), (sl tInt aFact1.values)], .dead, .box [(sl tRelation r_11.1.relations), (sl tFact r_11.1.facts)], .row (flat tRelation.own r_35.2.relations), .row (flat tFact.own r_35.2.facts), .box [(.m [4] 0 r_35.2.relations.length tRelation.k), (.m [5] 0 r_13.facts.length tFact.k)], .row (flat tInt.own r_15.values), .box [(intA r_15.relation), (.m [7] 0 r_15.values.length tInt.k)], .row (flat tRelation.own r_17.1.relations), .row (flat tFact.own r_17.1.facts), .box [(.m [9] 0 r_17.1.relations.length tRelation.k), (.m [10] 0 r_17.1.facts.length tFact.k)]]) (by simp only [hq_38]) ?_
           refine TO_st (σ' := [.box [(sl tRelation aDb0.relations), (sl tFact aDb0.facts)], .box [(intA aFact1.relation), (sl tInt aFact1.values)], .dead, .box [(sl tRelation r_11.1.relations), (sl tFact r_11.1.facts)], .row (flat tRelation.own r_35.2.relations), .row (flat tFact.own r_35.2.facts), .box [(.m [4] 0 r_35.2.relations.length tRelation.k), (.m [5] 0 r_35.2.facts.length tFact.k)], .row (flat tInt.own r_15.values), .box [(intA r_15.relation), (.m [7] 0 r_15.values.length tInt.k)], .row (flat tRelation.own r_17.1.relations), .row (flat tFact.own r_17.1.facts), .box [(.m [9] 0 r_17.1.relations.length tRelation.k), (.m [10] 0 r_17.1.facts.length tFact.k)]]) (by simp only [hq_39]) ?_
           refine pv tb 1 rfl ?_
           refine TO_nil ?_
           refine sr ?_
           obtain ⟨r_40, h_41, H⟩ := bind_inv H
           refine pv tb 2 rfl ?_
           refine TO_cons rfl (TOp_callG (aa := [(.g [(intA r_15.relation), (.m [7] 0 r_15.values.length tInt.k)]), (intA r_35.1)]) [[7]] (call_static ent57 rfl) rfl (.cons rfl rfl (by decide) .nil) rfl rfl (m_laws_markFact_mut _ _ _ h_41) rfl (fun hl_42 => ?_))
           obtain ⟨hq_43, hl_42⟩ := sameLens_T (T := tInt) hl_42
           refine TO_env (E' := [(2, (.b 0 0)), (3, (.b 1 0)), (6, (.b 3 0)), (7, (boolA r_11.2)), (9, (.b 8 0)), (10, (.b 11 0)), (11, (boolA r_17.2)), (12, (intA r_35.1)), (67, (.g [(intA r_15.relation), (.m [7] 0 r_40.2.values.length tInt.k)])), (68, (intA r_35.1)), (69, (intA r_40.1))]) ⟨rfl, rfl, rfl, rfl, rfl, rfl, rfl, rfl, (by simp only [hq_43]; rfl), rfl, rfl, trivial⟩ ?_
           refine TO_st (σ' := [.box [(sl tRelation aDb0.relations), (sl tFact aDb0.facts)], .box [(intA aFact1.relation), (sl tInt aFact1.values)], .dead, .box [(sl tRelation r_11.1.relations), (sl tFact r_11.1.facts)], .row (flat tRelation.own r_35.2.relations), .row (flat tFact.own r_35.2.facts), .box [(.m [4] 0 r_35.2.relations.length tRelation.k), (.m [5] 0 r_35.2.facts.length tFact.k)], .row (flat tInt.own r_40.2.values), .box [(intA r_15.relation), (.m [7] 0 r_15.values.length tInt.k)], .row (flat tRelation.own r_17.1.relations), .row (flat tFact.own r_17.1.facts), .box [(.m [9] 0 r_17.1.relations.length tRelation.k), (.m [10] 0 r_17.1.facts.length tFact.k)]]) rfl ?_
           refine TO_st (σ' := [.box [(sl tRelation aDb0.relations), (sl tFact aDb0.facts)], .box [(intA aFact1.relation), (sl tInt aFact1.values)], .dead, .box [(sl tRelation r_11.1.relations), (sl tFact r_11.1.facts)], .row (flat tRelation.own r_35.2.relations), .row (flat tFact.own r_35.2.facts), .box [(.m [4] 0 r_35.2.relations.length tRelation.k), (.m [5] 0 r_35.2.facts.length tFact.k)], .row (flat tInt.own r_40.2.values), .box [(intA r_15.relation), (.m [7] 0 r_40.2.values.length tInt.k)], .row (flat tRelation.own r_17.1.relations), .row (flat tFact.own r_17.1.facts), .box [(.m [9] 0 r_17.1.relations.length tRelation.k), (.m [10] 0 r_17.1.facts.length tFact.k)]]) (by simp only [hq_43]) ?_
           refine pv tb 1 rfl ?_
           refine TO_nil ?_
           refine T_seq ?_
           obtain ⟨t82_44, J_44, H_45⟩ := bind_inv H
           refine T_cutX (fun x => t82_44 = x) (fun (t82_44 : Bool) => [(2, (.b 0 0)), (3, (.b 1 0)), (6, (.b 3 0)), (7, (boolA r_11.2)), (10, (.b 11 0)), (82, (boolA t82_44))]) (fun (t82_44 : Bool) => [.box [(sl tRelation aDb0.relations), (sl tFact aDb0.facts)], .box [(intA aFact1.relation), (sl tInt aFact1.values)], .dead, .box [(sl tRelation r_11.1.relations), (sl tFact r_11.1.facts)], .row (flat tRelation.own r_35.2.relations), .row (flat tFact.own r_35.2.facts), .box [(.m [4] 0 r_35.2.relations.length tRelation.k), (.m [5] 0 r_35.2.facts.length tFact.k)], .row (flat tInt.own r_40.2.values), .box [(intA r_15.relation), (.m [7] 0 r_40.2.values.length tInt.k)], .row (flat tRelation.own r_17.1.relations), .row (flat tFact.own r_17.1.facts), .box [(.m [9] 0 r_17.1.relations.length tRelation.k), (.m [10] 0 r_17.1.facts.length tFact.k)]]) ?_ ?_
           ·replace H := J_44
            refine T_region ?_
            refine pv tb 3 rfl ?_
            refine TO_split (t := decide (r_40.1 < 0)) 72 rfl (fun g_46 => ?_) (fun g_46 => ?_)
            ·replace H := cond_t g_46 H
             refine pv tb 10 rfl ?_
             refine TO_nil ?_
             exact joined true (w0 12) (some_inj H).symm
            ·replace H := cond_f g_46 H
             obtain ⟨r_47, h_48, H⟩ := bind_inv H
             refine pv tb 2 rfl ?_
             refine TO_on rfl rfl (by decide) rfl rfl (TOp_callB (call_static ent29 rfl) (frz_cons (frzOK_g (frz_cons (frzT (T := tRelation) rfl) (frz_cons (frzT (T := tFact) rfl) frz_nil)).1 (frz_cons (frzT (T := tRelation) rfl) (frz_cons (frzT (T := tFact) rfl) frz_nil)).2) (frz_cons (frz_loose rfl) frz_nil)).1 (frz_cons (frzOK_g (frz_cons (frzT (T := tRelation) rfl) (frz_cons (frzT (T := tFact) rfl) frz_nil)).1 (frz_cons (frzT (T := tRelation) rfl) (frz_cons (frzT (T := tFact) rfl) frz_nil)).2) (frz_cons (frz_loose rfl) frz_nil)).2 (m_laws_eqDatabase_ok _ _ _ h_48) rfl ?_)
             refine pv tb 3 rfl ?_
             refine TO_split (t := (!r_47)) 78 rfl (fun g_49 => ?_) (fun g_49 => ?_)
             ·replace H := cond_t g_49 H
              refine pv tb 4 rfl ?_
              refine TO_nil ?_
              exact joined true (w0 12) (some_inj H).symm
             ·replace H := cond_f g_49 H
              refine pv tb 2 rfl ?_
              refine TO_on rfl rfl (by decide) rfl rfl (TOp_pure (pur_neqB (by kernel_rfl) rfl rfl rfl) rfl ?_)
              refine pv tb 1 rfl ?_
              refine TO_nil ?_
              exact joined (r_17.2 != r_11.2) (w0 12) (some_inj H).symm
           ·rintro _ rfl
            replace H := H_45
            refine T_cond (t := t82_44) rfl (fun c_50 => ?_) (fun c_50 => ?_)
            ·replace H := cond_t c_50 H
             refine sr ?_
             refine pv tb 1 rfl ?_
             refine TO_nil ?_
             refine T_ret ?_
             refine then_ret ?_
             obtain rfl := some_inj H
             refine end_ret (.tmp .nil) rfl rfl ⟨?_, rfl⟩
             rfl
            ·replace H := cond_f c_50 H
             refine T_skip ?_
             refine sr ?_
             refine pv tb 1 rfl ?_
             refine TO_nil ?_
             refine sr ?_
             obtain ⟨r_51, h_52, H⟩ := bind_inv H
             refine pv tb 2 rfl ?_
             refine TO_cons rfl (TOp_callG (aa := [(.g [(.m [9] 0 r_17.1.relations.length tRelation.k), (.m [10] 0 r_17.1.facts.length tFact.k)]), (intA 1)]) [[9], [10]] (call_static ent30 rfl) rfl (.cons rfl rfl (by decide) (.cons rfl rfl (by decide) .nil)) rfl rfl (m_laws_markDatabase_mut u _ _ _ h_52) rfl (fun hl_53 => ?_))
             obtain ⟨hq_54, hl_53⟩ := sameLens_T (T := tRelation) hl_53
             refine TO_env (E' := [(2, (.b 0 0)), (3, (.b 1 0)), (6, (.b 3 0)), (7, (boolA r_11.2)), (10, (.b 11 0)), (13, (intA 1)), (83, (.g [(.m [9] 0 r_51.2.relations.length tRelation.k), (.m [10] 0 r_17.1.facts.length tFact.k)])), (84, (intA 1)), (85, (intA r_51.1))]) ⟨rfl, rfl, rfl, rfl, rfl, rfl, (by simp only [hq_54]; rfl), rfl, rfl, trivial⟩ ?_
             obtain ⟨hq_55, hl_53⟩ := sameLens_T (T := tFact) hl_53
             refine TO_env (E' := [(2, (.b 0 0)), (3, (.b 1 0)), (6, (.b 3 0)), (7, (boolA r_11.2)), (10, (.b 11 0)), (13, (intA 1)), (83, (.g [(.m [9] 0 r_51.2.relations.length tRelation.k), (.m [10] 0 r_51.2.facts.length tFact.k)])), (84, (intA 1)), (85, (intA r_51.1))]) ⟨rfl, rfl, rfl, rfl, rfl, rfl, (by simp only [hq_55]; rfl), rfl, rfl, trivial⟩ ?_
             refine TO_st (σ' := [.box [(sl tRelation aDb0.relations), (sl tFact aDb0.facts)], .box [(intA aFact1.relation), (sl tInt aFact1.values)], .dead, .box [(sl tRelation r_11.1.relations), (sl tFact r_11.1.facts)], .row (flat tRelation.own r_35.2.relations), .row (flat tFact.own r_35.2.facts), .box [(.m [4] 0 r_35.2.relations.length tRelation.k), (.m [5] 0 r_35.2.facts.length tFact.k)], .row (flat tInt.own r_40.2.values), .box [(intA r_15.relation), (.m [7] 0 r_40.2.values.length tInt.k)], .row (flat tRelation.own r_51.2.relations), .row (flat tFact.own r_51.2.facts), .box [(.m [9] 0 r_17.1.relations.length tRelation.k), (.m [10] 0 r_17.1.facts.length tFact.k)]]) rfl ?_
             refine TO_st (σ' := [.box [(sl tRelation aDb0.relations), (sl tFact aDb0.facts)], .box [(intA aFact1.relation), (sl tInt aFact1.values)], .dead, .box [(sl tRelation r_11.1.relations), (sl tFact r_11.1.facts)], .row (flat tRelation.own r_35.2.relations), .row (flat tFact.own r_35.2.facts), .box [(.m [4] 0 r_35.2.relations.length tRelation.k), (.m [5] 0 r_35.2.facts.length tFact.k)], .row (flat tInt.own r_40.2.values), .box [(intA r_15.relation), (.m [7] 0 r_40.2.values.length tInt.k)], .row (flat tRelation.own r_51.2.relations), .row (flat tFact.own r_51.2.facts), .box [(.m [9] 0 r_51.2.relations.length tRelation.k), (.m [10] 0 r_17.1.facts.length tFact.k)]]) (by simp only [hq_54]) ?_
             refine TO_st (σ' := [.box [(sl tRelation aDb0.relations), (sl tFact aDb0.facts)], .box [(intA aFact1.relation), (sl tInt aFact1.values)], .dead, .box [(sl tRelation r_11.1.relations), (sl tFact r_11.1.facts)], .row (flat tRelation.own r_35.2.relations), .row (flat tFact.own r_35.2.facts), .box [(.m [4] 0 r_35.2.relations.length tRelation.k), (.m [5] 0 r_35.2.facts.length tFact.k)], .row (flat tInt.own r_40.2.values), .box [(intA r_15.relation), (.m [7] 0 r_40.2.values.length tInt.k)], .row (flat tRelation.own r_51.2.relations), .row (flat tFact.own r_51.2.facts), .box [(.m [9] 0 r_51.2.relations.length tRelation.k), (.m [10] 0 r_51.2.facts.length tFact.k)]]) (by simp only [hq_55]) ?_
             refine pv tb 1 rfl ?_
             refine TO_nil ?_
             refine sr ?_
             refine pv tb 1 rfl ?_
             refine TO_nil ?_
             refine sr ?_
             obtain ⟨r_56, h_57, H⟩ := bind_inv H
             refine pv tb 2 rfl ?_
             refine TO_cons rfl (TOp_callB (call_static ent58 rfl) (frz_cons (frzOK_g (frz_cons (frzT (T := tRelation) rfl) (frz_cons (frzT (T := tFact) rfl) frz_nil)).1 (frz_cons (frzT (T := tRelation) rfl) (frz_cons (frzT (T := tFact) rfl) frz_nil)).2) (frz_cons (frz_loose rfl) frz_nil)).1 (frz_cons (frzOK_g (frz_cons (frzT (T := tRelation) rfl) (frz_cons (frzT (T := tFact) rfl) frz_nil)).1 (frz_cons (frzT (T := tRelation) rfl) (frz_cons (frzT (T := tFact) rfl) frz_nil)).2) (frz_cons (frz_loose rfl) frz_nil)).2 (m_laws_heldDatabase_ok u _ _ _ h_57) rfl ?_)
             refine pv tb 1 rfl ?_
             refine TO_nil ?_
             refine T_seq ?_
             refine sr ?_
             refine pv tb 2 rfl ?_
             refine TO_nil ?_
             refine T_cond (t := decide (r_56 < 0)) rfl (fun c_58 => ?_) (fun c_58 => ?_)
             ·replace H := cond_t c_58 H
              refine sr ?_
              refine pv tb 1 rfl ?_
              refine TO_nil ?_
              refine te [(4, (boolA false))] rfl ?_
              refine T_ret ?_
              refine then_ret ?_
              obtain rfl := some_inj H
              refine end_ret (.tmp .nil) rfl rfl ⟨?_, rfl⟩
              rfl
             ·replace H := cond_f c_58 H
              refine T_skip ?_
              refine T_seq ?_
              refine sr ?_
              refine pv tb 3 rfl ?_
              refine TO_nil ?_
              refine T_cond (t := decide (r_56 ≠ r_51.1)) rfl (fun c_59 => ?_) (fun c_59 => ?_)
              ·replace H := cond_t c_59 H
               refine sr ?_
               refine pv tb 1 rfl ?_
               refine TO_nil ?_
               refine te [(4, (boolA false))] rfl ?_
               refine T_ret ?_
               refine then_ret ?_
               obtain rfl := some_inj H
               refine end_ret (.tmp .nil) rfl rfl ⟨?_, rfl⟩
               rfl
              ·replace H := cond_f c_59 H
               refine T_skip ?_
               obtain ⟨r_60, h_61, H⟩ := bind_inv H
               obtain ⟨r_62, h_63, H⟩ := bind_inv H
               obtain ⟨r_64, h_65, H⟩ := bind_inv H
               refine T_pad ?_
               refine T_cutX (fun (_ : Unit) => True) (fun _ => [(6, (.b 3 0)), (7, (boolA r_11.2)), (10, (.b 11 0)), (13, (intA r_51.1)), (15, (.b 13 0)), (16, (boolA r_64.2))]) (fun _ => [.box [(sl tRelation aDb0.relations), (sl tFact aDb0.facts)], .box [(intA aFact1.relation), (sl tInt aFact1.values)], .dead, .box [(sl tRelation r_11.1.relations), (sl tFact r_11.1.facts)], .row (flat tRelation.own r_35.2.relations), .row (flat tFact.own r_35.2.facts), .box [(.m [4] 0 r_35.2.relations.length tRelation.k), (.m [5] 0 r_35.2.facts.length tFact.k)], .row (flat tInt.own r_40.2.values), .box [(intA r_15.relation), (.m [7] 0 r_40.2.values.length tInt.k)], .row (flat tRelation.own r_51.2.relations), .row (flat tFact.own r_51.2.facts), .box [(.m [9] 0 r_51.2.relations.length tRelation.k), (.m [10] 0 r_51.2.facts.length tFact.k)], .dead, .box [(sl tRelation r_64.1.relations), (sl tFact r_64.1.facts)]]) ?_ ?_
               ·skip
                refine T_regionP 12 mixed rfl ?_
                refine TA_have 2 #[true, true, true, true, true, true, true, true, true, false, false] [(6, (.b 3 0)), (7, (boolA r_11.2)), (10, (.b 11 0)), (13, (intA r_51.1)), (15, (.b 13 0)), (100, (.g (tDatabase.enc r_64.1))), (101, (boolA r_64.2))] [.dead, .dead, .dead, .dead, .row (flat tRelation.own r_35.2.relations), .row (flat tFact.own r_35.2.facts), .dead, .row (flat tInt.own r_40.2.values), .dead, .row (flat tRelation.own r_51.2.relations), .row (flat tFact.own r_51.2.facts), .dead, .dead, .box [.n, .n]] ?_ (fun hj0_31 => ?_)
                ·skip
                 refine t1 9 (by kernel_rfl) rfl rfl (TOp_storeB sz48 rfl rfl rfl rfl rfl rfl rfl (by decide) (lb rfl) rfl ?_)
                 refine TA_st (σ' := [.dead, .dead, .dead, .dead, .row (flat tRelation.own r_35.2.relations), .row (flat tFact.own r_35.2.facts), .dead, .row (flat tInt.own r_40.2.values), .dead, .row (flat tRelation.own r_51.2.relations), .row (flat tFact.own r_51.2.facts), .dead, .dead, .box [(sl tRelation r_64.1.relations), (sl tFact r_64.1.facts)]]) rfl ?_
                 refine pa tb [10] 0 rfl (by kernel_rfl) rfl ?_
                 exact TA_nil (by kernel_rfl) (joined () (w0 14) trivial)
                refine TA_have 6 #[true, true, true, true, false, false, false, false, true, false, false] [(6, (.b 3 0)), (7, (boolA r_11.2)), (10, (.b 11 0)), (13, (intA r_51.1)), (15, (.b 13 0)), (96, (.g (tDatabase.enc r_60))), (98, (.g (tFact.enc r_62)))] [.dead, .dead, .dead, .dead, .row (flat tRelation.own r_35.2.relations), .row (flat tFact.own r_35.2.facts), .dead, .row (flat tInt.own r_40.2.values), .dead, .row (flat tRelation.own r_51.2.relations), .row (flat tFact.own r_51.2.facts), .dead, .dead, .box [.n, .n]] ?_ (fun hj1_31 => ?_)
                ·skip
                 refine t1 4 (by kernel_rfl) rfl rfl (TOp_callV (call_static ent39 rfl) (m_impl_RetractFact_ok _ _ _ h_65) rfl rfl rfl ?_)
                 refine pa tb [5, 6, 7] 2 rfl (by kernel_rfl) rfl ?_
                 exact tj hj0_31 rfl (w0 14)
                refine TA_have 7 #[true, true, true, false, false, false, false, false, true, false, false] [(6, (.b 3 0)), (7, (boolA r_11.2)), (10, (.b 11 0)), (13, (intA r_51.1)), (15, (.b 13 0)), (96, (.g (tDatabase.enc r_60))), (97, (.g (tFact.enc aFact1)))] [.dead, .dead, .dead, .dead, .row (flat tRelation.own r_35.2.relations), .row (flat tFact.own r_35.2.facts), .dead, .row (flat tInt.own r_40.2.values), .dead, .row (flat tRelation.own r_51.2.relations), .row (flat tFact.own r_51.2.facts), .dead, .dead, .box [.n, .n]] ?_ (fun hj2_31 => ?_)
                ·skip
                 refine t1 3 (by kernel_rfl) rfl rfl (TOp_callV (call_static ent55 rfl) (m_laws_toFact_ok _ _ h_63) rfl rfl rfl ?_)
                 exact tj hj1_31 rfl (w0 14)
                refine pa tb [0, 2] 9 rfl (by kernel_rfl) rfl ?_
                refine TA_all [1, 8] (by kernel_rfl) (by decide) ⟨?_, ?_, trivial⟩
                ·skip
                 refine ⟨_, rfl, rfl, (TOp_callV (call_static ent27 rfl) (m_laws_toDatabase_ok _ _ h_61) rfl rfl rfl ?_)⟩
                 refine TA_all [3, 8] (by kernel_rfl) (by decide) ⟨?_, ?_, trivial⟩
                 ·skip
                  refine ⟨_, rfl, rfl, (TOp_callV (call_static ent55 rfl) (m_laws_toFact_ok _ _ h_63) rfl rfl rfl ?_)⟩
                  refine TA_all [4, 8] (by kernel_rfl) (by decide) ⟨?_, ?_, trivial⟩
                  ·skip
                   refine ⟨_, rfl, rfl, (TOp_callV (call_static ent39 rfl) (m_impl_RetractFact_ok _ _ _ h_65) rfl rfl rfl ?_)⟩
                   refine pa tb [5] 5 rfl (by kernel_rfl) rfl ?_
                   refine tae [(6, (.b 3 0)), (7, (boolA r_11.2)), (10, (.b 11 0)), (13, (intA r_51.1)), (94, (.t [(.g (tDatabase.enc r_64.1)), (boolA r_64.2)]))] rfl ?_
                   refine pa tb [6, 7] 3 rfl (by kernel_rfl) rfl ?_
                   refine t1 8 (by kernel_rfl) rfl rfl (TOp_alloc zero48 rfl rfl ?_)
                   exact tj hj0_31 rfl (w0 14)
                  ·skip
                   refine ⟨_, rfl, rfl, (TOp_alloc zero48 rfl rfl ?_)⟩
                   exact tj hj1_31 rfl (w0 14)
                 ·skip
                  refine ⟨_, rfl, rfl, (TOp_alloc zero48 rfl rfl ?_)⟩
                  exact tj hj2_31 rfl (w0 14)
                ·skip
                 refine ⟨_, rfl, rfl, (TOp_alloc zero48 rfl rfl ?_)⟩
                 refine t1 1 (by kernel_rfl) rfl rfl (TOp_callV (call_static ent27 rfl) (m_laws_toDatabase_ok _ _ h_61) rfl rfl rfl ?_)
                 exact tj hj2_31 rfl (w0 14)
               ·rintro _ _
                refine T_seq ?_
                obtain ⟨t110_66, J_66, H_67⟩ := bind_inv H
                refine T_cutX (fun x => t110_66 = x) (fun (t110_66 : Bool) => [(10, (.b 11 0)), (13, (intA r_51.1)), (110, (boolA t110_66))]) (fun (t110_66 : Bool) => [.box [(sl tRelation aDb0.relations), (sl tFact aDb0.facts)], .box [(intA aFact1.relation), (sl tInt aFact1.values)], .dead, .box [(sl tRelation r_11.1.relations), (sl tFact r_11.1.facts)], .row (flat tRelation.own r_35.2.relations), .row (flat tFact.own r_35.2.facts), .box [(.m [4] 0 r_35.2.relations.length tRelation.k), (.m [5] 0 r_35.2.facts.length tFact.k)], .row (flat tInt.own r_40.2.values), .box [(intA r_15.relation), (.m [7] 0 r_40.2.values.length tInt.k)], .row (flat tRelation.own r_51.2.relations), .row (flat tFact.own r_51.2.facts), .box [(.m [9] 0 r_51.2.relations.length tRelation.k), (.m [10] 0 r_51.2.facts.length tFact.k)]]) ?_ ?_
                ·replace H := J_66
                 refine T_region ?_
                 obtain ⟨r_68, h_69, H⟩ := bind_inv H
                 refine pv tb 2 rfl ?_
                 refine TO_cons rfl (TOp_callV (call_static ent29 rfl) (m_laws_eqDatabase_ok _ _ _ h_69) rfl rfl rfl ?_)
                 refine pv tb 2 rfl ?_
                 refine TO_split (t := (!r_68)) 106 rfl (fun g_70 => ?_) (fun g_70 => ?_)
                 ·replace H := cond_t g_70 H
                  refine pv tb 4 rfl ?_
                  refine TO_nil ?_
                  exact joined true (w0 12) (some_inj H).symm
                 ·replace H := cond_f g_70 H
                  refine pv tb 2 rfl ?_
                  refine TO_on rfl rfl (by decide) rfl rfl (TOp_pure (pur_neqB (by kernel_rfl) rfl rfl rfl) rfl ?_)
                  refine pv tb 1 rfl ?_
                  refine TO_nil ?_
                  exact joined (r_64.2 != r_11.2) (w0 12) (some_inj H).symm
                ·rintro _ rfl
                 replace H := H_67
                 refine T_cond (t := t110_66) rfl (fun c_71 => ?_) (fun c_71 => ?_)
                 ·replace H := cond_t c_71 H
                  refine sr ?_
                  refine pv tb 1 rfl ?_
                  refine TO_nil ?_
                  refine T_ret ?_
                  refine then_ret ?_
                  obtain rfl := some_inj H
                  refine end_ret (.tmp .nil) rfl rfl ⟨?_, rfl⟩
                  rfl
                 ·replace H := cond_f c_71 H
                  refine T_skip ?_
                  refine sr ?_
                  refine pv tb 1 rfl ?_
                  refine TO_nil ?_
                  refine sr ?_
                  obtain ⟨r_72, h_73, H⟩ := bind_inv H
                  refine pv tb 2 rfl ?_
                  refine TO_cons rfl (TOp_callB (call_static ent58 rfl) (frz_cons (frzOK_g (frz_cons (frzT (T := tRelation) rfl) (frz_cons (frzT (T := tFact) rfl) frz_nil)).1 (frz_cons (frzT (T := tRelation) rfl) (frz_cons (frzT (T := tFact) rfl) frz_nil)).2) (frz_cons (frz_loose rfl) frz_nil)).1 (frz_cons (frzOK_g (frz_cons (frzT (T := tRelation) rfl) (frz_cons (frzT (T := tFact) rfl) frz_nil)).1 (frz_cons (frzT (T := tRelation) rfl) (frz_cons (frzT (T := tFact) rfl) frz_nil)).2) (frz_cons (frz_loose rfl) frz_nil)).2 (m_laws_heldDatabase_ok u _ _ _ h_73) rfl ?_)
                  refine pv tb 1 rfl ?_
                  refine TO_nil ?_
                  refine T_seq ?_
                  refine sr ?_
                  refine pv tb 2 rfl ?_
                  refine TO_nil ?_
                  refine T_cond (t := decide (r_72 < 0)) rfl (fun c_74 => ?_) (fun c_74 => ?_)
                  ·replace H := cond_t c_74 H
                   refine sr ?_
                   refine pv tb 1 rfl ?_
                   refine TO_nil ?_
                   refine T_ret ?_
                   refine then_ret ?_
                   obtain rfl := some_inj H
                   refine end_ret (.tmp .nil) rfl rfl ⟨?_, rfl⟩
                   rfl
                  ·replace H := cond_f c_74 H
                   refine T_skip ?_
                   refine T_seq ?_
                   refine sr ?_
                   refine pv tb 3 rfl ?_
                   refine TO_nil ?_
                   refine T_cond (t := decide (r_72 ≠ r_51.1)) rfl (fun c_75 => ?_) (fun c_75 => ?_)
                   ·replace H := cond_t c_75 H
                    refine sr ?_
                    refine pv tb 1 rfl ?_
                    refine TO_nil ?_
                    refine T_ret ?_
                    refine then_ret ?_
                    obtain rfl := some_inj H
                    refine end_ret (.tmp .nil) rfl rfl ⟨?_, rfl⟩
                    rfl
                   ·replace H := cond_f c_75 H
                    refine T_skip ?_
                    refine sr ?_
                    refine pv tb 1 rfl ?_
                    refine TO_nil ?_
                    refine T_ret ?_
                    obtain rfl := some_inj H
                    refine end_ret (.tmp .nil) rfl rfl ⟨?_, rfl⟩
                    rfl
end Go.Proofs.Ytjdpolnakhmkmaa

import Derived.Test.YtjdpolnakhmkmaaM1
import Derived.Test.YtjdpolnakhmkmaaM3
set_option linter.unusedVariables false
set_option linter.unusedSimpArgs false
set_option maxRecDepth 4000
namespace Go.Proofs.Ytjdpolnakhmkmaa
open Go Go.Proofs Go.Sep
set_option maxHeartbeats 1000000 in
theorem m_spec_InverseEdits_ok (u : Nat) (d0 : Database) (e1 : Edit) (r : ((List Edit) × Bool)) (H : m_spec_InverseEdits u d0 e1 = some r) : FnV prg 75 [(.g (tDatabase.enc d0)), (.g (tEdit.enc e1))] (.t [(sl tEdit r.1), (boolA r.2)]) := by
  unfold m_spec_InverseEdits at H
  refine fnV_of_T Try.func75 rfl rfl (Nat.le_of_ble_eq_true rfl) ?_
  refine te [(0, (.g (tDatabase.enc d0))), (1, (.g (tEdit.enc e1)))] rfl ?_
  refine sr ?_
  refine TO_cons rfl (TOp_box rfl (boxAll rfl) rfl rfl ?_)
  refine TO_cons rfl (TOp_box rfl (boxAll rfl) rfl rfl ?_)
  refine pv tb 2 rfl ?_
  refine TO_nil ?_
  refine sr ?_
  refine TO_cons rfl (TOp_lit (nn := 0) (k := 3) sl90 zero100 rfl rfl rfl rfl (by decide) ?_)
  refine TO_st (σ' := [.box [(sl tRelation d0.relations), (sl tFact d0.facts)], .box [(intA e1.kind), (intA e1.fact.relation), (sl tInt e1.fact.values)], .row (flat tEdit.enc ([] : (List Edit)))]) rfl ?_
  refine pv tb 1 rfl ?_
  refine TO_nil ?_
  refine sr ?_
  obtain ⟨r_1, h_2, H⟩ := bind_inv H
  refine pv tb 2 rfl ?_
  refine TO_cons rfl (TOp_callV (call_static ent70 rfl) (m_spec_ApplyEdit_ok u _ _ _ h_2) rfl rfl rfl ?_)
  refine pv tb 3 rfl ?_
  refine TO_cons rfl (TOp_alloc zero48 rfl rfl ?_)
  refine TO_cons rfl (TOp_storeB sz48 rfl rfl rfl rfl rfl rfl rfl (by decide) (lb rfl) rfl ?_)
  refine TO_st (σ' := [.box [(sl tRelation d0.relations), (sl tFact d0.facts)], .box [(intA e1.kind), (intA e1.fact.relation), (sl tInt e1.fact.values)], .row (flat tEdit.enc ([] : (List Edit))), .box [(sl tRelation r_1.1.relations), (sl tFact r_1.1.facts)]]) rfl ?_
  refine pv tb 1 rfl ?_
  refine TO_nil ?_
  refine T_seq ?_
  refine sr ?_
  refine pv tb 2 rfl ?_
  refine TO_nil ?_
  refine T_cond (t := (!r_1.2)) rfl (fun c_3 => ?_) (fun c_3 => ?_)
  ·replace H := cond_t c_3 H
   refine sr ?_
   refine pv tb 3 rfl ?_
   refine TO_nil ?_
   refine te [(4, (.m [2] 0 ([] : (List Edit)).length tEdit.k)), (5, (boolA false))] rfl ?_
   refine T_frz1 2 (E' := [(4, (sl tEdit ([] : (List Edit)))), (5, (boolA false))]) rfl rfl (lb rfl) ⟨fz1E, (.keep rfl), trivial⟩ ?_
   refine T_st (σ' := [.box [(sl tRelation d0.relations), (sl tFact d0.facts)], .box [(intA e1.kind), (intA e1.fact.relation), (sl tInt e1.fact.values)], .dead, .box [(sl tRelation r_1.1.relations), (sl tFact r_1.1.facts)]]) rfl ?_
   refine T_ret ?_
   refine then_ret ?_
   obtain rfl := some_inj H
   refine end_ret (.tmp (.tmp .nil)) rfl rfl ⟨?_, rfl⟩
   rfl
  ·replace H := cond_f c_3 H
   refine T_skip ?_
   refine te [(2, (.b 0 0)), (6, (.m [2] 0 ([] : (List Edit)).length tEdit.k)), (7, (.b 3 0))] rfl ?_
   refine T_seq ?_
   refine sr ?_
   refine pv tb 1 rfl ?_
   refine TO_nil ?_
   obtain ⟨O4_, L4_, N4_⟩ := bind_inv H
   clear H
   obtain ⟨B4_, hb4, L4_⟩ := gen_whileF L4_
   refine T_block ?_
   refine T_loopX (fun k => fun (⟨out6, i9⟩ : (List Edit) × Int) => whileF B4_ k (out6, i9) = some O4_) (fun (⟨out6, i9⟩ : (List Edit) × Int) => [(2, (.b 0 0)), (6, (.m [2] 0 out6.length tEdit.k)), (7, (.b 3 0)), (9, (intA i9))]) (fun (⟨out6, i9⟩ : (List Edit) × Int) => [.box [(sl tRelation d0.relations), (sl tFact d0.facts)], .box [(intA e1.kind), (intA e1.fact.relation), (sl tInt e1.fact.values)], .row (flat tEdit.enc out6), .box [(sl tRelation r_1.1.relations), (sl tFact r_1.1.facts)]]) u (([] : (List Edit)), 0) (w0 4) L4_ ?_
   rintro _ ⟨out6, i9⟩ L4_
   obtain ⟨k4, rfl, C4_, H, K4_⟩ := while_step L4_
   rw [hb4] at H
   refine T_seq ?_
   refine sr ?_
   refine pv tb 3 rfl ?_
   refine Tp rfl rfl (pur_lenT (T := tFact) sl46 rfl rfl) rfl ?_
   refine pv tb 1 rfl ?_
   refine TO_nil ?_
   refine T_cond (t := decide (i9 < (r_1.1.facts.length : Int))) rfl (fun c_5 => ?_) (fun c_5 => ?_)
   ·replace H := cond_t c_5 H
    refine T_skip ?_
    refine T_seq ?_
    refine T_block ?_
    refine T_seq ?_
    refine T_regionD mixed (by kernel_rfl) ?_
    obtain ⟨v_6, h_7, H⟩ := bind_inv H
    obtain ⟨n_8, hz_9, hv_10⟩ := getI_inv h_7
    refine pq tb 4 rfl ?_
    refine TQ_pure rfl (pur_ixT (T := tFact) sl46 rfl rfl hz_9 hv_10 rfl) rfl ?_
    refine TQ_pure rfl (pur_ldTK (T := tFact) (i := n_8) (off := 0) rfl agg65 rfl rfl hv_10 (by decide) rfl) rfl ?_
    obtain ⟨r_11, h_12, H⟩ := bind_inv H
    refine TQ_callV rfl (call_static ent111 rfl) (m_spec_FactIndex_ok u _ _ _ h_12) rfl rfl ?_
    refine pq tb 1 rfl ?_
    refine TQ_nil ?_
    refine T_cond (t := decide (r_11 < 0)) rfl (fun c_13 => ?_) (fun c_13 => ?_)
    ·replace H := cond_t c_13 H
     refine T_region ?_
     refine pv tb 4 rfl ?_
     refine Tp rfl rfl (pur_ixT (T := tFact) sl46 rfl rfl hz_9 hv_10 rfl) rfl ?_
     refine Tp rfl rfl (pur_ldTK (T := tFact) (i := n_8) (off := 0) rfl agg65 rfl rfl hv_10 (by decide) rfl) rfl ?_
     refine Tp rfl rfl (pur_build bld100 rfl rfl) rfl ?_
     refine TO_cons rfl (TOp_lit (nn := 1) (k := 3) sl90 zero100 rfl rfl rfl rfl (by decide) ?_)
     refine TO_st (σ' := [.box [(sl tRelation d0.relations), (sl tFact d0.facts)], .box [(intA e1.kind), (intA e1.fact.relation), (sl tInt e1.fact.values)], .row (flat tEdit.enc out6), .box [(sl tRelation r_1.1.relations), (sl tFact r_1.1.facts)], .row (flat tEdit.enc ([({ kind := 2, fact := v_6 } : Edit)] : (List Edit)))]) rfl ?_
     obtain ⟨us_14, h_15, H⟩ := bind_inv H
     refine TO_cons rfl (TOp_appZ (T := tEdit) (f := tEdit.enc) (xs := out6) (ys := ([({ kind := 2, fact := v_6 } : Edit)] : (List Edit))) tEdit.len sl90 zero100 rfl bytes100 (by decide) rfl rfl rfl rfl (src_mT (f := tEdit.enc) tEdit.len rfl rfl (flat_cell tEdit _)) (flat_cell tEdit _) h_15 (lb rfl) ?_)
     refine toe [(2, (.b 0 0)), (7, (.b 3 0)), (9, (intA i9)), (36, (boolA (decide (r_11 < 0)))), (38, (.b 3 1)), (39, (sl tFact r_1.1.facts)), (40, (intA i9)), (41, (.q (flat tFact.enc r_1.1.facts) (n_8 * tFact.k))), (42, (.g (tFact.enc v_6))), (43, (.g [(intA 2), (intA v_6.relation), (sl tInt v_6.values)])), (44, (.m [4] 0 ([({ kind := 2, fact := v_6 } : Edit)] : (List Edit)).length tEdit.k)), (45, (.m [2] 0 us_14.length tEdit.k))] rfl ?_
     refine TO_st (σ' := [.box [(sl tRelation d0.relations), (sl tFact d0.facts)], .box [(intA e1.kind), (intA e1.fact.relation), (sl tInt e1.fact.values)], .row (flat tEdit.enc us_14), .box [(sl tRelation r_1.1.relations), (sl tFact r_1.1.facts)], .row (flat tEdit.enc ([({ kind := 2, fact := v_6 } : Edit)] : (List Edit))), .dead]) rfl ?_
     refine pv tb 1 rfl ?_
     refine TO_nil ?_
     refine T_region ?_
     refine pv tb 3 rfl ?_
     refine TO_nil ?_
     obtain rfl := some_inj H
     exact again k4 (us_14, (w64 (i9 + 1))) (Nat.lt_succ_self _) (w0 4) K4_
    ·replace H := cond_f c_13 H
     refine T_skip ?_
     refine T_region ?_
     refine pv tb 3 rfl ?_
     refine TO_nil ?_
     obtain rfl := some_inj H
     exact again k4 (out6, (w64 (i9 + 1))) (Nat.lt_succ_self _) (w0 4) K4_
   ·replace H := cond_f c_5 H
    refine T_exit ?_
    refine then_exit ?_
    refine then_exit ?_
    refine block_exit ?_
    obtain rfl := some_inj H
    obtain rfl := some_inj K4_
    replace H := onS_l N4_
    refine T_seq ?_
    refine sr ?_
    refine pv tb 1 rfl ?_
    refine TO_nil ?_
    obtain ⟨O16_, L16_, N16_⟩ := bind_inv H
    clear H
    obtain ⟨B16_, hb16, L16_⟩ := gen_whileF L16_
    refine T_block ?_
    refine T_loopX (fun k => fun (⟨out6, i10⟩ : (List Edit) × Int) => whileF B16_ k (out6, i10) = some O16_) (fun (⟨out6, i10⟩ : (List Edit) × Int) => [(2, (.b 0 0)), (6, (.m [2] 0 out6.length tEdit.k)), (7, (.b 3 0)), (10, (intA i10))]) (fun (⟨out6, i10⟩ : (List Edit) × Int) => [.box [(sl tRelation d0.relations), (sl tFact d0.facts)], .box [(intA e1.kind), (intA e1.fact.relation), (sl tInt e1.fact.values)], .row (flat tEdit.enc out6), .box [(sl tRelation r_1.1.relations), (sl tFact r_1.1.facts)]]) u (out6, 0) (w0 4) L16_ ?_
    rintro _ ⟨out6, i10⟩ L16_
    obtain ⟨k16, rfl, C16_, H, K16_⟩ := while_step L16_
    rw [hb16] at H
    refine T_seq ?_
    refine sr ?_
    refine pv tb 3 rfl ?_
    refine Tp rfl rfl (pur_lenT (T := tFact) sl46 rfl rfl) rfl ?_
    refine pv tb 1 rfl ?_
    refine TO_nil ?_
    refine T_cond (t := decide (i10 < (d0.facts.length : Int))) rfl (fun c_17 => ?_) (fun c_17 => ?_)
    ·replace H := cond_t c_17 H
     refine T_skip ?_
     refine T_seq ?_
     refine T_block ?_
     refine T_seq ?_
     refine T_regionD mixed (by kernel_rfl) ?_
     obtain ⟨v_18, h_19, H⟩ := bind_inv H
     obtain ⟨n_20, hz_21, hv_22⟩ := getI_inv h_19
     refine pq tb 4 rfl ?_
     refine TQ_pure rfl (pur_ixT (T := tFact) sl46 rfl rfl hz_21 hv_22 rfl) rfl ?_
     refine TQ_pure rfl (pur_ldTK (T := tFact) (i := n_20) (off := 0) rfl agg65 rfl rfl hv_22 (by decide) rfl) rfl ?_
     obtain ⟨r_23, h_24, H⟩ := bind_inv H
     refine TQ_callV rfl (call_static ent111 rfl) (m_spec_FactIndex_ok u _ _ _ h_24) rfl rfl ?_
     refine pq tb 1 rfl ?_
     refine TQ_nil ?_
     refine T_cond (t := decide (r_23 < 0)) rfl (fun c_25 => ?_) (fun c_25 => ?_)
     ·replace H := cond_t c_25 H
      obtain ⟨us_26, h_27, H⟩ := bind_inv H
      refine T_pad ?_
      refine T_pad ?_
      refine T_pad ?_
      refine T_cutX (fun (_ : Unit) => True) (fun _ => [(2, (.b 0 0)), (6, (.m [2] 0 out6.length tEdit.k)), (7, (.b 3 0)), (10, (intA i10)), (11, (.b 7 0))]) (fun _ => [.box [(sl tRelation d0.relations), (sl tFact d0.facts)], .box [(intA e1.kind), (intA e1.fact.relation), (sl tInt e1.fact.values)], .row (flat tEdit.enc out6), .box [(sl tRelation r_1.1.relations), (sl tFact r_1.1.facts)], .row (flat tInt.enc us_26), .dead, .dead, .box [(intA v_18.relation), (.m [4] 0 us_26.length tInt.k)]]) ?_ ?_
      ·skip
       refine T_regionP 4 mixed rfl ?_
       refine TA_have 1 #[true, true, true, true, true, true, true, true, true, true, true, true, true, true, true, true, false] [(2, (.b 0 0)), (6, (.m [2] 0 out6.length tEdit.k)), (7, (.b 3 0)), (10, (intA i10)), (11, (.b 7 0)), (75, (.g [(intA v_18.relation), (.m [5] 0 us_26.length tInt.k)]))] [.dead, .dead, .row (flat tEdit.enc out6), .dead, .dead, .row (flat tInt.enc us_26), .dead, .box [(intA 0), .n]] ?_ (fun hj0_14 => ?_)
       ·skip
        refine t1 16 (by kernel_rfl) rfl rfl (TOp_storeB sz65 rfl rfl rfl rfl rfl rfl rfl (by decide) (lb rfl) rfl ?_)
        refine TA_st (σ' := [.dead, .dead, .row (flat tEdit.enc out6), .dead, .dead, .row (flat tInt.enc us_26), .dead, .box [(intA v_18.relation), (.m [5] 0 us_26.length tInt.k)]]) rfl ?_
        refine TA_ghost (E' := [(2, (.b 0 0)), (6, (.m [2] 0 out6.length tEdit.k)), (7, (.b 3 0)), (10, (intA i10)), (11, (.b 7 0))]) (σ' := [.dead, .dead, .row (flat tEdit.enc out6), .dead, .row (flat tInt.enc us_26), .dead, .dead, .box [(intA v_18.relation), (.m [4] 0 us_26.length tInt.k)]]) (Ghost.move 4 5 (by decide) (lb rfl) rfl rfl (lb rfl) (Ghost.weak (WeakL.to 8 (lb rfl) rfl rfl rfl rfl ⟨leR rfl, leR rfl, leR rfl, leR rfl, leR rfl, trivial⟩))) ?_
        exact TA_nil (by kernel_rfl) (joined () (w0 8) trivial)
       refine TA_have 3 #[true, true, true, true, true, true, true, true, true, true, true, true, true, false, false, true, false] [(2, (.b 0 0)), (6, (.m [2] 0 out6.length tEdit.k)), (7, (.b 3 0)), (10, (intA i10)), (11, (.b 7 0)), (66, (intA v_18.relation)), (67, (.m [5] 0 ([] : (List Int)).length tInt.k)), (73, (sl tInt v_18.values))] [.dead, .dead, .row (flat tEdit.enc out6), .dead, .dead, .row (flat tInt.enc ([] : (List Int))), .dead, .box [(intA 0), .n]] ?_ (fun hj1_14 => ?_)
       ·skip
        refine t1 13 (by kernel_rfl) rfl rfl (TOp_appY (T := tInt) (f := tInt.enc) (xs := ([] : (List Int))) (ys := v_18.values) tInt.len sl23 zero3 rfl bytes3 (by decide) rfl rfl rfl rfl (src_T (T := tInt) rfl) (flat_cell tInt _) h_27 ?_)
        refine tmw 5 8 (by decide) (lb rfl) rfl rfl (lb rfl) rfl ?_
        refine tf 14 rfl (pur_build bld65 rfl rfl) rfl rfl (by kernel_rfl) ?_
        exact tj hj0_14 rfl (w0 8)
       refine pa tb [0, 1, 2] 14 rfl (by kernel_rfl) rfl ?_
       refine tf 3 rfl (pur_ixT (T := tFact) sl46 rfl rfl hz_21 hv_22 rfl) rfl rfl (by kernel_rfl) ?_
       refine pa tb [4] 12 rfl (by kernel_rfl) rfl ?_
       refine tf 5 rfl (pur_ldT (T := tFact) (i := n_20) (off := 0) rfl one3 rfl rfl hv_22 rfl) rfl rfl (by kernel_rfl) ?_
       refine tae [(2, (.b 0 0)), (6, (.m [2] 0 out6.length tEdit.k)), (7, (.b 3 0)), (10, (intA i10)), (66, (intA v_18.relation))] rfl ?_
       refine pa tb [7, 8, 9] 8 rfl (by kernel_rfl) rfl ?_
       refine tf 10 rfl (pur_ixT (T := tFact) sl46 rfl rfl hz_21 hv_22 rfl) rfl rfl (by kernel_rfl) ?_
       refine pa tb [11] 6 rfl (by kernel_rfl) rfl ?_
       refine tf 12 rfl (pur_ldT (T := tFact) (i := n_20) (off := 1) rfl one23 rfl rfl hv_22 rfl) rfl rfl (by kernel_rfl) ?_
       refine TA_all [6, 15] (by kernel_rfl) (by decide) ⟨?_, ?_, trivial⟩
       ·skip
        refine ⟨_, rfl, rfl, (TOp_lit (nn := 0) (k := 1) sl23 zero3 rfl rfl rfl rfl (by decide) ?_)⟩
        refine TA_ghost (E' := [(2, (.b 0 0)), (6, (.m [2] 0 out6.length tEdit.k)), (7, (.b 3 0)), (10, (intA i10)), (66, (intA v_18.relation)), (67, (.m [5] 0 ([] : (List Int)).length tInt.k)), (72, (.q (flat tFact.enc d0.facts) (n_20 * tFact.k + 1))), (73, (sl tInt v_18.values))]) (σ' := [.dead, .dead, .row (flat tEdit.enc out6), .dead, .dead, .row (flat tInt.enc ([] : (List Int))), .dead]) (Ghost.move 5 7 (by decide) (lb rfl) rfl rfl (lb rfl) (Ghost.weak (WeakL.to 7 (lb rfl) rfl rfl rfl rfl ⟨leR rfl, leR rfl, leR rfl, leR rfl, leR rfl, leR rfl, leR rfl, leR rfl, trivial⟩))) ?_
        refine TA_all [13, 15] (by kernel_rfl) (by decide) ⟨?_, ?_, trivial⟩
        ·skip
         refine ⟨_, rfl, rfl, (TOp_appY (T := tInt) (f := tInt.enc) (xs := ([] : (List Int))) (ys := v_18.values) tInt.len sl23 zero3 rfl bytes3 (by decide) rfl rfl rfl rfl (src_T (T := tInt) rfl) (flat_cell tInt _) h_27 ?_)⟩
         refine tmw 5 7 (by decide) (lb rfl) rfl rfl (lb rfl) rfl ?_
         refine tae [(2, (.b 0 0)), (6, (.m [2] 0 out6.length tEdit.k)), (7, (.b 3 0)), (10, (intA i10)), (66, (intA v_18.relation)), (74, (.m [5] 0 us_26.length tInt.k))] rfl ?_
         refine TA_st (σ' := [.dead, .dead, .row (flat tEdit.enc out6), .dead, .dead, .row (flat tInt.enc us_26), .dead, .dead]) rfl ?_
         refine tf 14 rfl (pur_build bld65 rfl rfl) rfl rfl (by kernel_rfl) ?_
         refine TA_ghost (E' := [(2, (.b 0 0)), (6, (.m [2] 0 out6.length tEdit.k)), (7, (.b 3 0)), (10, (intA i10)), (66, (intA v_18.relation)), (74, (.m [5] 0 us_26.length tInt.k)), (75, (.g [(intA v_18.relation), (.m [5] 0 us_26.length tInt.k)]))]) (σ' := [.dead, .dead, .row (flat tEdit.enc out6), .dead, .dead, .row (flat tInt.enc us_26), .dead]) (Ghost.weak (WeakL.to 7 (lb rfl) rfl rfl rfl rfl ⟨leR rfl, leR rfl, leR rfl, leR rfl, leR rfl, leR rfl, leR rfl, trivial⟩)) ?_
         refine t1 15 (by kernel_rfl) rfl rfl (TOp_alloc zero65 rfl rfl ?_)
         exact tj hj0_14 rfl (w0 8)
        ·skip
         refine ⟨_, rfl, rfl, (TOp_alloc zero65 rfl rfl ?_)⟩
         refine tae [(2, (.b 0 0)), (6, (.m [2] 0 out6.length tEdit.k)), (7, (.b 3 0)), (10, (intA i10)), (11, (.b 7 0)), (66, (intA v_18.relation)), (67, (.m [5] 0 ([] : (List Int)).length tInt.k)), (73, (sl tInt v_18.values))] rfl ?_
         refine TA_st (σ' := [.dead, .dead, .row (flat tEdit.enc out6), .dead, .dead, .row (flat tInt.enc ([] : (List Int))), .dead, .box [(intA 0), .n]]) rfl ?_
         exact tj hj1_14 rfl (w0 8)
       ·skip
        refine ⟨_, rfl, rfl, (TOp_alloc zero65 rfl rfl ?_)⟩
        refine t1 6 (by kernel_rfl) rfl rfl (TOp_lit (nn := 0) (k := 1) sl23 zero3 rfl rfl rfl rfl (by decide) ?_)
        refine TA_ghost (E' := [(2, (.b 0 0)), (6, (.m [2] 0 out6.length tEdit.k)), (7, (.b 3 0)), (10, (intA i10)), (11, (.b 7 0)), (66, (intA v_18.relation)), (67, (.m [5] 0 ([] : (List Int)).length tInt.k)), (72, (.q (flat tFact.enc d0.facts) (n_20 * tFact.k + 1))), (73, (sl tInt v_18.values))]) (σ' := [.dead, .dead, .row (flat tEdit.enc out6), .dead, .dead, .row (flat tInt.enc ([] : (List Int))), .dead, .box [(intA 0), .n]]) (Ghost.move 5 8 (by decide) (lb rfl) rfl rfl (lb rfl) (Ghost.weak (WeakL.to 8 (lb rfl) rfl rfl rfl rfl ⟨leR rfl, leR rfl, leR rfl, leR rfl, leR rfl, leR rfl, leR rfl, leR rfl, leR rfl, trivial⟩))) ?_
        refine tae [(2, (.b 0 0)), (6, (.m [2] 0 out6.length tEdit.k)), (7, (.b 3 0)), (10, (intA i10)), (11, (.b 7 0)), (66, (intA v_18.relation)), (67, (.m [5] 0 ([] : (List Int)).length tInt.k)), (73, (sl tInt v_18.values))] rfl ?_
        refine TA_st (σ' := [.dead, .dead, .row (flat tEdit.enc out6), .dead, .dead, .row (flat tInt.enc ([] : (List Int))), .dead, .box [(intA 0), .n]]) rfl ?_
        exact tj hj1_14 rfl (w0 8)
      ·rintro _ _
       refine T_region ?_
       refine pv tb 2 rfl ?_
       refine Tp rfl rfl (pur_build bld100 rfl rfl) rfl ?_
       refine TO_frzB 4 (E' := [(2, (.b 0 0)), (6, (.m [2] 0 out6.length tEdit.k)), (7, (.b 3 0)), (10, (intA i10)), (11, (.b 7 0)), (76, (.m [2] 0 out6.length tEdit.k)), (77, (.g [(intA v_18.relation), (sl tInt us_26)])), (78, (.g [(intA 1), (intA v_18.relation), (sl tInt us_26)]))]) (σ' := [.box [(sl tRelation d0.relations), (sl tFact d0.facts)], .box [(intA e1.kind), (intA e1.fact.relation), (sl tInt e1.fact.values)], .row (flat tEdit.enc out6), .box [(sl tRelation r_1.1.relations), (sl tFact r_1.1.facts)], .dead, .dead, .dead, .box [(intA v_18.relation), (sl tInt us_26)]]) rfl (lb rfl) ?_ ?_ ?_
       ·exact ⟨(.keep rfl), (.keep rfl), (.keep rfl), (.keep rfl), (.keep rfl), (.keep rfl), (fz1G (fzC (.keep rfl) (fzC fz1E fzN))), (fz1G (fzC (.keep rfl) (fzC (.keep rfl) (fzC fz1E fzN)))), trivial⟩
       ·exact ⟨(fzK rfl), (fzK rfl), rfl, (fzK rfl), trivial, trivial, trivial, (fzC (.keep rfl) (fzC fz1E fzN)), trivial⟩
       refine TO_cons rfl (TOp_lit (nn := 1) (k := 3) sl90 zero100 rfl rfl rfl rfl (by decide) ?_)
       refine TO_st (σ' := [.box [(sl tRelation d0.relations), (sl tFact d0.facts)], .box [(intA e1.kind), (intA e1.fact.relation), (sl tInt e1.fact.values)], .row (flat tEdit.enc out6), .box [(sl tRelation r_1.1.relations), (sl tFact r_1.1.facts)], .dead, .dead, .dead, .box [(intA v_18.relation), (sl tInt us_26)], .row (flat tEdit.enc ([({ kind := 1, fact := ({ relation := v_18.relation, values := us_26 } : Fact) } : Edit)] : (List Edit)))]) rfl ?_
       obtain ⟨us_28, h_29, H⟩ := bind_inv H
       refine TO_cons rfl (TOp_appZ (T := tEdit) (f := tEdit.enc) (xs := out6) (ys := ([({ kind := 1, fact := ({ relation := v_18.relation, values := us_26 } : Fact) } : Edit)] : (List Edit))) tEdit.len sl90 zero100 rfl bytes100 (by decide) rfl rfl rfl rfl (src_mT (f := tEdit.enc) tEdit.len rfl rfl (flat_cell tEdit _)) (flat_cell tEdit _) h_29 (lb rfl) ?_)
       refine toe [(2, (.b 0 0)), (7, (.b 3 0)), (10, (intA i10)), (11, (.b 7 0)), (77, (.g [(intA v_18.relation), (sl tInt us_26)])), (78, (.g [(intA 1), (intA v_18.relation), (sl tInt us_26)])), (79, (.m [8] 0 ([({ kind := 1, fact := ({ relation := v_18.relation, values := us_26 } : Fact) } : Edit)] : (List Edit)).length tEdit.k)), (80, (.m [2] 0 us_28.length tEdit.k))] rfl ?_
       refine TO_st (σ' := [.box [(sl tRelation d0.relations), (sl tFact d0.facts)], .box [(intA e1.kind), (intA e1.fact.relation), (sl tInt e1.fact.values)], .row (flat tEdit.enc us_28), .box [(sl tRelation r_1.1.relations), (sl tFact r_1.1.facts)], .dead, .dead, .dead, .box [(intA v_18.relation), (sl tInt us_26)], .row (flat tEdit.enc ([({ kind := 1, fact := ({ relation := v_18.relation, values := us_26 } : Fact) } : Edit)] : (List Edit))), .dead]) rfl ?_
       refine pv tb 1 rfl ?_
       refine TO_nil ?_
       refine T_region ?_
       refine pv tb 3 rfl ?_
       refine TO_nil ?_
       obtain rfl := some_inj H
       exact again k16 (us_28, (w64 (i10 + 1))) (Nat.lt_succ_self _) (w0 4) K16_
     ·replace H := cond_f c_25 H
      refine T_skip ?_
      refine T_region ?_
      refine pv tb 3 rfl ?_
      refine TO_nil ?_
      obtain rfl := some_inj H
      exact again k16 (out6, (w64 (i10 + 1))) (Nat.lt_succ_self _) (w0 4) K16_
    ·replace H := cond_f c_17 H
     refine T_exit ?_
     refine then_exit ?_
     refine then_exit ?_
     refine block_exit ?_
     obtain rfl := some_inj H
     obtain rfl := some_inj K16_
     replace H := onS_l N16_
     refine sr ?_
     refine pv tb 3 rfl ?_
     refine TO_nil ?_
     refine T_frz1 2 (E' := [(4, (sl tEdit out6)), (5, (boolA true))]) rfl rfl (lb rfl) ⟨fz1E, (.keep rfl), trivial⟩ ?_
     refine T_st (σ' := [.box [(sl tRelation d0.relations), (sl tFact d0.facts)], .box [(intA e1.kind), (intA e1.fact.relation), (sl tInt e1.fact.values)], .dead, .box [(sl tRelation r_1.1.relations), (sl tFact r_1.1.facts)]]) rfl ?_
     refine T_ret ?_
     obtain rfl := some_inj H
     refine end_ret (.tmp (.tmp .nil)) rfl rfl ⟨?_, rfl⟩
     rfl

set_option maxHeartbeats 1000000 in
theorem m_slices_IndexFunc_Simpl_Fact_impl_Fact_ok (s0 : (List Fact)) (f1 : (Fact → Option Bool)) (f1_g : Nat) (f1_c : List A) (f1_E : EnT prg f1_g) (f1_l : looseL f1_c = true) (f1_m : firmL f1_c = true ∧ fzL f1_c = f1_c) (f1_H : ∀ (x0 : Fact) r, f1 x0 = some r → FnV prg f1_g ([(.g (tFact.enc x0))] ++ f1_c) (boolA r)) (r : Int) (H : m_slices_IndexFunc_Simpl_Fact_impl_Fact s0 f1 = some r) : FnV prg 158 [(sl tFact s0), (.f f1_g f1_c)] (intA r) := by
  unfold m_slices_IndexFunc_Simpl_Fact_impl_Fact at H
  refine fnV_of_T Try.func158 rfl rfl (Nat.le_of_ble_eq_true rfl) ?_
  refine te [(0, (sl tFact s0)), (1, (.f f1_g f1_c))] rfl ?_
  refine sr ?_
  refine pv tb 1 rfl ?_
  refine TO_nil ?_
  refine T_seq ?_
  refine sr ?_
  refine pv tb 1 rfl ?_
  refine Tp rfl rfl (pur_lenT (T := tFact) sl46 rfl rfl) rfl ?_
  refine pv tb 1 rfl ?_
  refine TO_nil ?_
  obtain ⟨O2_, L2_, N2_⟩ := bind_inv H
  clear H
  obtain ⟨B2_, hb2, L2_⟩ := gen_forL L2_
  refine T_block ?_
  refine T_loopX (fun k => fun (t_1 : Nat) => k = s0.length - t_1 ∧ forL B2_ (s0.drop t_1) (t_1 : Int) () = some O2_) (fun (t_1 : Nat) => [(0, (sl tFact s0)), (1, (.f f1_g f1_c)), (7, (intA (s0.length : Int))), (8, (intA (t_1 : Int)))]) (fun (t_1 : Nat) => []) _ (0 : Nat) (wp 0 (lb rfl) rfl rfl (by simp only [namesE, A.names, namesL_enc, Bool.false_or, Bool.or_false, looseL_names f1_l]) rfl rfl) ⟨rfl, L2_⟩ ?_
  rintro _ t_1 ⟨rfl, L2_⟩
  refine T_fact (len_sl (T := tFact) (.tmp 0) rfl) (fun hl2 => ?_)
  refine sr ?_
  refine pv tb 1 rfl ?_
  refine TO_nil ?_
  refine T_seq ?_
  refine T_cond (t := decide ((t_1 : Int) < (s0.length : Int))) rfl (fun d2 => ?_) (fun d2 => ?_)
  ·replace d2 := of_decide_eq_true d2
   obtain ⟨x_t_1, hx_t_1⟩ : ∃ v, (s0)[t_1]? = some v := ⟨_, List.getElem?_eq_getElem (by omega)⟩
   obtain ⟨C2_, H, K2_⟩ := forL_step L2_ hx_t_1
   rw [hb2] at H
   refine T_skip ?_
   refine T_seq ?_
   refine T_block ?_
   refine sr ?_
   refine pv tb 2 rfl ?_
   refine TO_nil ?_
   refine sr ?_
   refine pv tb 3 rfl ?_
   refine Tp rfl rfl (pur_ixT (T := tFact) sl46 rfl rfl rfl hx_t_1 rfl) rfl ?_
   refine Tp rfl rfl (pur_ldTK (T := tFact) (i := t_1) (off := 0) rfl agg65 rfl rfl hx_t_1 (by decide) rfl) rfl ?_
   obtain ⟨r_3, h_4, H⟩ := bind_inv H
   refine TO_cons rfl (TOp_callV (call_closure f1_E rfl rfl) (f1_H _  _ h_4) (looseL_app rfl f1_l) rfl rfl ?_)
   refine TO_nil ?_
   refine T_cond (t := r_3) rfl (fun c_5 => ?_) (fun c_5 => ?_)
   ·replace H := cond_t c_5 H
    refine sr ?_
    refine pv tb 2 rfl ?_
    refine TO_nil ?_
    refine T_ret ?_
    refine block_ret ?_
    refine then_ret ?_
    refine then_ret ?_
    refine block_ret ?_
    refine then_ret ?_
    obtain rfl := some_inj H
    obtain rfl := some_inj K2_
    replace H := onS_r N2_
    obtain rfl := some_inj H
    refine end_ret (.tmp .nil) rfl rfl ⟨?_, rfl⟩
    rfl
   ·replace H := cond_f c_5 H
    refine T_skip ?_
    refine T_region ?_
    refine Tp rfl rfl (pur_add rfl rfl rfl (fits64 (by omega) (by omega))) rfl ?_
    refine pv tb 1 rfl ?_
    refine TO_nil ?_
    obtain rfl := some_inj H
    exact again (s0.length - (t_1 + 1)) (t_1 + 1) (by omega) (wp 0 (lb rfl) rfl rfl (by simp only [namesE, A.names, namesL_enc, Bool.false_or, Bool.or_false, looseL_names f1_l]) rfl rfl) ⟨rfl, K2_⟩
  ·replace d2 := of_decide_eq_false d2
   obtain rfl := forL_end L2_ (by omega)
   refine T_exit ?_
   refine then_exit ?_
   refine then_exit ?_
   refine block_exit ?_
   replace H := onS_l N2_
   refine sr ?_
   refine pv tb 1 rfl ?_
   refine TO_nil ?_
   refine T_ret ?_
   obtain rfl := some_inj H
   refine end_ret (.tmp .nil) rfl rfl ⟨?_, rfl⟩
   rfl

set_option maxHeartbeats 1000000 in
theorem m_impl_compare_ok (a0 : Int) (b1 : Int) (r : Int) (H : m_impl_compare a0 b1 = some r) : FnV prg 175 [(intA a0), (intA b1)] (intA r) := by
  unfold m_impl_compare at H
  refine fnV_of_T Try.func175 rfl rfl (Nat.le_of_ble_eq_true rfl) ?_
  refine te [(0, (intA a0)), (1, (intA b1))] rfl ?_
  refine sr ?_
  refine pv tb 1 rfl ?_
  refine TO_nil ?_
  refine T_seq ?_
  refine T_block ?_
  refine sr ?_
  refine pv tb 4 rfl ?_
  refine TO_nil ?_
  refine T_cond (t := decide (a0 < b1)) rfl (fun c_1 => ?_) (fun c_1 => ?_)
  ·replace H := cond_t c_1 H
   refine sr ?_
   refine pv tb 1 rfl ?_
   refine TO_nil ?_
   refine T_ret ?_
   refine block_ret ?_
   refine then_ret ?_
   obtain rfl := some_inj H
   refine end_ret (.tmp .nil) rfl rfl ⟨?_, rfl⟩
   rfl
  ·replace H := cond_f c_1 H
   refine sr ?_
   refine pv tb 4 rfl ?_
   refine TO_nil ?_
   refine T_cond (t := decide (b1 < a0)) rfl (fun c_2 => ?_) (fun c_2 => ?_)
   ·replace H := cond_t c_2 H
    refine sr ?_
    refine pv tb 1 rfl ?_
    refine TO_nil ?_
    refine T_ret ?_
    refine block_ret ?_
    refine then_ret ?_
    obtain rfl := some_inj H
    refine end_ret (.tmp .nil) rfl rfl ⟨?_, rfl⟩
    rfl
   ·replace H := cond_f c_2 H
    refine T_skip ?_
    refine sr ?_
    refine pv tb 1 rfl ?_
    refine TO_nil ?_
    refine T_ret ?_
    obtain rfl := some_inj H
    refine end_ret (.tmp .nil) rfl rfl ⟨?_, rfl⟩
    rfl

set_option maxHeartbeats 1000000 in
theorem m_cmp_isNaN_int_ok (x0 : Int) (r : Bool) (H : m_cmp_isNaN_int x0 = some r) : FnV prg 191 [(intA x0)] (boolA r) := by
  unfold m_cmp_isNaN_int at H
  refine fnV_of_T Try.func191 rfl rfl (Nat.le_of_ble_eq_true rfl) ?_
  refine te [(0, (intA x0))] rfl ?_
  refine sr ?_
  refine pv tb 1 rfl ?_
  refine TO_nil ?_
  refine sr ?_
  refine pv tb 4 rfl ?_
  refine TO_nil ?_
  refine T_ret ?_
  obtain rfl := some_inj H
  refine end_ret (.tmp .nil) rfl rfl ⟨?_, rfl⟩
  rfl

set_option maxHeartbeats 1000000 in
theorem m_cmp_Compare_int_ok (x0 : Int) (y1 : Int) (r : Int) (H : m_cmp_Compare_int x0 y1 = some r) : FnV prg 187 [(intA x0), (intA y1)] (intA r) := by
  unfold m_cmp_Compare_int at H
  refine fnV_of_T Try.func187 rfl rfl (Nat.le_of_ble_eq_true rfl) ?_
  refine te [(0, (intA x0)), (1, (intA y1))] rfl ?_
  refine sr ?_
  refine pv tb 1 rfl ?_
  refine TO_nil ?_
  refine sr ?_
  obtain ⟨r_1, h_2, H⟩ := bind_inv H
  refine pv tb 1 rfl ?_
  refine TO_cons rfl (TOp_callV (call_static ent191 rfl) (m_cmp_isNaN_int_ok _ _ h_2) rfl rfl rfl ?_)
  refine pv tb 1 rfl ?_
  refine TO_nil ?_
  refine sr ?_
  obtain ⟨r_3, h_4, H⟩ := bind_inv H
  refine pv tb 1 rfl ?_
  refine TO_cons rfl (TOp_callV (call_static ent191 rfl) (m_cmp_isNaN_int_ok _ _ h_4) rfl rfl rfl ?_)
  refine pv tb 1 rfl ?_
  refine TO_nil ?_
  refine T_seq ?_
  refine sr ?_
  refine pv tb 1 rfl ?_
  refine TO_nil ?_
  refine T_cond (t := r_1) rfl (fun c_5 => ?_) (fun c_5 => ?_)
  ·replace H := cond_t c_5 H
   refine T_seq ?_
   refine sr ?_
   refine pv tb 1 rfl ?_
   refine TO_nil ?_
   refine T_cond (t := r_3) rfl (fun c_6 => ?_) (fun c_6 => ?_)
   ·replace H := cond_t c_6 H
    refine sr ?_
    refine pv tb 1 rfl ?_
    refine TO_nil ?_
    refine T_ret ?_
    refine then_ret ?_
    refine then_ret ?_
    obtain rfl := some_inj H
    refine end_ret (.tmp .nil) rfl rfl ⟨?_, rfl⟩
    rfl
   ·replace H := cond_f c_6 H
    refine T_skip ?_
    refine sr ?_
    refine pv tb 1 rfl ?_
    refine TO_nil ?_
    refine T_ret ?_
    refine then_ret ?_
    obtain rfl := some_inj H
    refine end_ret (.tmp .nil) rfl rfl ⟨?_, rfl⟩
    rfl
  ·replace H := cond_f c_5 H
   refine T_skip ?_
   refine T_seq ?_
   refine sr ?_
   refine pv tb 1 rfl ?_
   refine TO_nil ?_
   refine T_cond (t := r_3) rfl (fun c_7 => ?_) (fun c_7 => ?_)
   ·replace H := cond_t c_7 H
    refine sr ?_
    refine pv tb 1 rfl ?_
    refine TO_nil ?_
    refine T_ret ?_
    refine then_ret ?_
    obtain rfl := some_inj H
    refine end_ret (.tmp .nil) rfl rfl ⟨?_, rfl⟩
    rfl
   ·replace H := cond_f c_7 H
    refine T_skip ?_
    refine T_seq ?_
    refine sr ?_
    refine pv tb 3 rfl ?_
    refine TO_nil ?_
    refine T_cond (t := decide (x0 < y1)) rfl (fun c_8 => ?_) (fun c_8 => ?_)
    ·replace H := cond_t c_8 H
     refine sr ?_
     refine pv tb 1 rfl ?_
     refine TO_nil ?_
     refine T_ret ?_
     refine then_ret ?_
     obtain rfl := some_inj H
     refine end_ret (.tmp .nil) rfl rfl ⟨?_, rfl⟩
     rfl
    ·replace H := cond_f c_8 H
     refine T_skip ?_
     refine T_seq ?_
     refine sr ?_
     refine pv tb 3 rfl ?_
     refine TO_nil ?_
     refine te [(19, (boolA (decide (y1 < x0))))] rfl ?_
     refine T_cond (t := decide (y1 < x0)) rfl (fun c_9 => ?_) (fun c_9 => ?_)
     ·replace H := cond_t c_9 H
      refine sr ?_
      refine pv tb 1 rfl ?_
      refine TO_nil ?_
      refine T_ret ?_
      refine then_ret ?_
      obtain rfl := some_inj H
      refine end_ret (.tmp .nil) rfl rfl ⟨?_, rfl⟩
      rfl
     ·replace H := cond_f c_9 H
      refine T_skip ?_
      refine sr ?_
      refine pv tb 1 rfl ?_
      refine TO_nil ?_
      refine T_ret ?_
      obtain rfl := some_inj H
      refine end_ret (.tmp .nil) rfl rfl ⟨?_, rfl⟩
      rfl

set_option maxHeartbeats 1000000 in
theorem m_slices_Compare_Sint_int_ok (s10 : (List Int)) (s21 : (List Int)) (r : Int) (H : m_slices_Compare_Sint_int s10 s21 = some r) : FnV prg 176 [(sl tInt s10), (sl tInt s21)] (intA r) := by
  unfold m_slices_Compare_Sint_int at H
  refine fnV_of_T Try.func176 rfl rfl (Nat.le_of_ble_eq_true rfl) ?_
  refine te [(0, (sl tInt s10)), (1, (sl tInt s21))] rfl ?_
  refine sr ?_
  refine pv tb 1 rfl ?_
  refine TO_nil ?_
  refine T_seq ?_
  refine sr ?_
  refine pv tb 1 rfl ?_
  refine Tp rfl rfl (pur_lenT (T := tInt) sl23 rfl rfl) rfl ?_
  refine pv tb 1 rfl ?_
  refine TO_nil ?_
  obtain ⟨O2_, L2_, N2_⟩ := bind_inv H
  clear H
  obtain ⟨B2_, hb2, L2_⟩ := gen_forL L2_
  refine T_block ?_
  refine T_loopX (fun k => fun (t_1 : Nat) => k = s10.length - t_1 ∧ forL B2_ (s10.drop t_1) (t_1 : Int) () = some O2_) (fun (t_1 : Nat) => [(0, (sl tInt s10)), (1, (sl tInt s21)), (9, (sl tInt s10)), (10, (intA (s10.length : Int))), (11, (intA (t_1 : Int)))]) (fun (t_1 : Nat) => []) _ (0 : Nat) (w0 0) ⟨rfl, L2_⟩ ?_
  rintro _ t_1 ⟨rfl, L2_⟩
  refine T_fact (len_sl (T := tInt) (.tmp 0) rfl) (fun hl2 => ?_)
  refine sr ?_
  refine pv tb 1 rfl ?_
  refine TO_nil ?_
  refine T_seq ?_
  refine T_cond (t := decide ((t_1 : Int) < (s10.length : Int))) rfl (fun d2 => ?_) (fun d2 => ?_)
  ·replace d2 := of_decide_eq_true d2
   obtain ⟨x_t_1, hx_t_1⟩ : ∃ v, (s10)[t_1]? = some v := ⟨_, List.getElem?_eq_getElem (by omega)⟩
   obtain ⟨C2_, H, K2_⟩ := forL_step L2_ hx_t_1
   rw [hb2] at H
   refine T_skip ?_
   refine T_seq ?_
   refine T_block ?_
   refine sr ?_
   refine pv tb 1 rfl ?_
   refine Tp rfl rfl (pur_ixT (T := tInt) sl23 rfl rfl rfl hx_t_1 rfl) rfl ?_
   refine Tp rfl rfl (pur_ldT (T := tInt) (i := t_1) (off := 0) rfl one3 rfl rfl hx_t_1 rfl) rfl ?_
   refine pv tb 2 rfl ?_
   refine TO_nil ?_
   refine T_seq ?_
   refine sr ?_
   refine pv tb 2 rfl ?_
   refine Tp rfl rfl (pur_lenT (T := tInt) sl23 rfl rfl) rfl ?_
   refine pv tb 1 rfl ?_
   refine TO_nil ?_
   refine T_cond (t := decide ((s21.length : Int) ≤ (t_1 : Int))) rfl (fun c_3 => ?_) (fun c_3 => ?_)
   ·replace H := cond_t c_3 H
    refine sr ?_
    refine pv tb 1 rfl ?_
    refine TO_nil ?_
    refine te [(4, (intA 1))] rfl ?_
    refine T_ret ?_
    refine then_ret ?_
    refine block_ret ?_
    refine then_ret ?_
    refine then_ret ?_
    refine block_ret ?_
    refine then_ret ?_
    obtain rfl := some_inj H
    obtain rfl := some_inj K2_
    replace H := onS_r N2_
    obtain rfl := some_inj H
    refine end_ret (.tmp .nil) rfl rfl ⟨?_, rfl⟩
    rfl
   ·replace H := cond_f c_3 H
    refine T_skip ?_
    refine sr ?_
    obtain ⟨v_4, h_5, H⟩ := bind_inv H
    obtain ⟨n_6, hz_7, hv_8⟩ := getI_inv h_5
    refine pv tb 2 rfl ?_
    refine Tp rfl rfl (pur_ixT (T := tInt) sl23 rfl rfl hz_7 hv_8 rfl) rfl ?_
    refine Tp rfl rfl (pur_ldT (T := tInt) (i := n_6) (off := 0) rfl one3 rfl rfl hv_8 rfl) rfl ?_
    refine pv tb 1 rfl ?_
    refine TO_nil ?_
    refine sr ?_
    obtain ⟨r_9, h_10, H⟩ := bind_inv H
    refine pv tb 2 rfl ?_
    refine TO_cons rfl (TOp_callV (call_static ent187 rfl) (m_cmp_Compare_int_ok _ _ _ h_10) rfl rfl rfl ?_)
    refine pv tb 1 rfl ?_
    refine TO_nil ?_
    refine te [(0, (sl tInt s10)), (1, (sl tInt s21)), (8, (intA r_9)), (9, (sl tInt s10)), (10, (intA (s10.length : Int))), (11, (intA (t_1 : Int)))] rfl ?_
    refine sr ?_
    refine pv tb 2 rfl ?_
    refine TO_nil ?_
    refine T_cond (t := decide (r_9 ≠ 0)) rfl (fun c_11 => ?_) (fun c_11 => ?_)
    ·replace H := cond_t c_11 H
     refine sr ?_
     refine pv tb 2 rfl ?_
     refine TO_nil ?_
     refine T_ret ?_
     refine block_ret ?_
     refine then_ret ?_
     refine then_ret ?_
     refine block_ret ?_
     refine then_ret ?_
     obtain rfl := some_inj H
     obtain rfl := some_inj K2_
     replace H := onS_r N2_
     obtain rfl := some_inj H
     refine end_ret (.tmp .nil) rfl rfl ⟨?_, rfl⟩
     rfl
    ·replace H := cond_f c_11 H
     refine T_skip ?_
     refine T_region ?_
     refine Tp rfl rfl (pur_add rfl rfl rfl (fits64 (by omega) (by omega))) rfl ?_
     refine pv tb 1 rfl ?_
     refine TO_nil ?_
     obtain rfl := some_inj H
     exact again (s10.length - (t_1 + 1)) (t_1 + 1) (by omega) (w0 0) ⟨rfl, K2_⟩
  ·replace d2 := of_decide_eq_false d2
   obtain rfl := forL_end L2_ (by omega)
   refine T_exit ?_
   refine then_exit ?_
   refine then_exit ?_
   refine block_exit ?_
   replace H := onS_l N2_
   refine T_seq ?_
   refine sr ?_
   refine pv tb 1 rfl ?_
   refine Tp rfl rfl (pur_lenT (T := tInt) sl23 rfl rfl) rfl ?_
   refine pv tb 1 rfl ?_
   refine Tp rfl rfl (pur_lenT (T := tInt) sl23 rfl rfl) rfl ?_
   refine pv tb 1 rfl ?_
   refine TO_nil ?_
   refine T_cond (t := decide ((s10.length : Int) < (s21.length : Int))) rfl (fun c_12 => ?_) (fun c_12 => ?_)
   ·replace H := cond_t c_12 H
    refine sr ?_
    refine pv tb 1 rfl ?_
    refine TO_nil ?_
    refine T_ret ?_
    refine then_ret ?_
    obtain rfl := some_inj H
    refine end_ret (.tmp .nil) rfl rfl ⟨?_, rfl⟩
    rfl
   ·replace H := cond_f c_12 H
    refine T_skip ?_
    refine sr ?_
    refine pv tb 1 rfl ?_
    refine TO_nil ?_
    refine T_ret ?_
    obtain rfl := some_inj H
    refine end_ret (.tmp .nil) rfl rfl ⟨?_, rfl⟩
    rfl

set_option maxHeartbeats 1000000 in
theorem m_impl_CompareFacts_ok (a0 : Fact) (b1 : Fact) (r : Int) (H : m_impl_CompareFacts a0 b1 = some r) : FnV prg 152 [(.g (tFact.enc a0)), (.g (tFact.enc b1))] (intA r) := by
  unfold m_impl_CompareFacts at H
  refine fnV_of_T Try.func152 rfl rfl (Nat.le_of_ble_eq_true rfl) ?_
  refine te [(0, (.g (tFact.enc a0))), (1, (.g (tFact.enc b1)))] rfl ?_
  refine sr ?_
  refine TO_cons rfl (TOp_box rfl (boxAll rfl) rfl rfl ?_)
  refine TO_cons rfl (TOp_box rfl (boxAll rfl) rfl rfl ?_)
  refine pv tb 1 rfl ?_
  refine TO_nil ?_
  refine T_seq ?_
  refine sr ?_
  refine pv tb 5 rfl ?_
  refine TO_nil ?_
  refine T_cond (t := decide (a0.relation ≠ b1.relation)) rfl (fun c_1 => ?_) (fun c_1 => ?_)
  ·replace H := cond_t c_1 H
   refine sr ?_
   obtain ⟨r_2, h_3, H⟩ := bind_inv H
   refine pv tb 4 rfl ?_
   refine TO_cons rfl (TOp_callV (call_static ent175 rfl) (m_impl_compare_ok _ _ _ h_3) rfl rfl rfl ?_)
   refine pv tb 1 rfl ?_
   refine TO_nil ?_
   refine te [(4, (intA r_2))] rfl ?_
   refine T_ret ?_
   refine then_ret ?_
   obtain rfl := some_inj H
   refine end_ret (.tmp .nil) rfl rfl ⟨?_, rfl⟩
   rfl
  ·replace H := cond_f c_1 H
   refine T_skip ?_
   refine sr ?_
   obtain ⟨r_4, h_5, H⟩ := bind_inv H
   refine pv tb 4 rfl ?_
   refine TO_cons rfl (TOp_callV (call_static ent176 rfl) (m_slices_Compare_Sint_int_ok _ _ _ h_5) rfl rfl rfl ?_)
   refine pv tb 1 rfl ?_
   refine TO_nil ?_
   refine te [(4, (intA r_4))] rfl ?_
   refine T_ret ?_
   obtain rfl := some_inj H
   refine end_ret (.tmp .nil) rfl rfl ⟨?_, rfl⟩
   rfl

set_option maxHeartbeats 1000000 in
theorem m_impl_FactIndex_1_ok (own0 : Fact) (fv1 : Fact) (r : Bool) (H : m_impl_FactIndex_1 own0 fv1 = some r) : FnV prg 159 [(.g (tFact.enc own0)), (.q [(intA fv1.relation), (sl tInt fv1.values)] 0)] (boolA r) := by
  unfold m_impl_FactIndex_1 at H
  refine fnV_of_T Try.func159 rfl rfl (Nat.le_of_ble_eq_true rfl) ?_
  refine te [(0, (.g (tFact.enc own0))), (1, (.q [(intA fv1.relation), (sl tInt fv1.values)] 0))] rfl ?_
  refine sr ?_
  refine TO_cons rfl (TOp_box rfl (boxAll rfl) rfl rfl ?_)
  refine pv tb 1 rfl ?_
  refine TO_nil ?_
  refine sr ?_
  obtain ⟨r_1, h_2, H⟩ := bind_inv H
  refine pv tb 2 rfl ?_
  refine TO_cons rfl (TOp_callV (call_static ent152 rfl) (m_impl_CompareFacts_ok _ _ _ h_2) rfl rfl rfl ?_)
  refine pv tb 2 rfl ?_
  refine TO_nil ?_
  refine T_ret ?_
  obtain rfl := some_inj H
  refine end_ret (.tmp .nil) rfl rfl ⟨?_, rfl⟩
  rfl

set_option maxHeartbeats 1000000 in
theorem m_impl_FactIndex_ok (db0 : Database) (fact1 : Fact) (r : Int) (H : m_impl_FactIndex db0 fact1 = some r) : FnV prg 106 [(.g (tDatabase.enc db0)), (.g (tFact.enc fact1))] (intA r) := by
  unfold m_impl_FactIndex at H
  refine fnV_of_T Try.func106 rfl rfl (Nat.le_of_ble_eq_true rfl) ?_
  refine te [(0, (.g (tDatabase.enc db0))), (1, (.g (tFact.enc fact1)))] rfl ?_
  refine sr ?_
  refine TO_cons rfl (TOp_box rfl (boxAll rfl) rfl rfl ?_)
  refine TO_cons rfl (TOp_box rfl (boxAll rfl) rfl rfl ?_)
  refine pv tb 1 rfl ?_
  refine TO_nil ?_
  refine sr ?_
  obtain ⟨r_1, h_2, H⟩ := bind_inv H
  refine pv tb 3 rfl ?_
  refine TO_cons rfl (TOp_callB (call_static ent158 rfl) (frz_cons (frz_loose rfl) (frz_cons (frzOK_f (frz_cons (frzOK_b (xs := [(intA fact1.relation), (sl tInt fact1.values)]) (ys := [(intA fact1.relation), (sl tInt fact1.values)]) rfl rfl rfl) frz_nil).1 (frz_cons (frzOK_b (xs := [(intA fact1.relation), (sl tInt fact1.values)]) (ys := [(intA fact1.relation), (sl tInt fact1.values)]) rfl rfl rfl) frz_nil).2) frz_nil)).1 (frz_cons (frz_loose rfl) (frz_cons (frzOK_f (frz_cons (frzOK_b (xs := [(intA fact1.relation), (sl tInt fact1.values)]) (ys := [(intA fact1.relation), (sl tInt fact1.values)]) rfl rfl rfl) frz_nil).1 (frz_cons (frzOK_b (xs := [(intA fact1.relation), (sl tInt fact1.values)]) (ys := [(intA fact1.relation), (sl tInt fact1.values)]) rfl rfl rfl) frz_nil).2) frz_nil)).2 (m_slices_IndexFunc_Simpl_Fact_impl_Fact_ok _ (fun x0 => m_impl_FactIndex_1 x0 fact1) 159 [(.q [(intA fact1.relation), (sl tInt fact1.values)] 0)] ent159 rfl ⟨rfl, rfl⟩ (fun x0 r h => m_impl_FactIndex_1_ok x0 fact1 r h) _ h_2) rfl ?_)
  refine pv tb 1 rfl ?_
  refine TO_nil ?_
  refine T_ret ?_
  obtain rfl := some_inj H
  refine end_ret (.tmp .nil) rfl rfl ⟨?_, rfl⟩
  rfl

set_option maxHeartbeats 1000000 in
theorem m_impl_within_ok (n0 : Int) (low1 : Int) (high2 : Int) (r : Bool) (H : m_impl_within n0 low1 high2 = some r) : FnV prg 140 [(intA n0), (intA low1), (intA high2)] (boolA r) := by
  unfold m_impl_within at H
  refine fnV_of_T Try.func140 rfl rfl (Nat.le_of_ble_eq_true rfl) ?_
  refine te [(0, (intA n0)), (1, (intA low1)), (2, (intA high2))] rfl ?_
  refine sr ?_
  refine pv tb 1 rfl ?_
  refine TO_nil ?_
  refine T_cutX (fun x => ((decide (low1 ≤ n0)) && (decide (n0 ≤ high2))) = x) (fun (t6_1 : Bool) => [(6, (boolA t6_1))]) (fun (t6_1 : Bool) => []) ?_ ?_
  ·skip
   refine T_region ?_
   refine pv tb 4 rfl ?_
   refine TO_split (t := decide (low1 ≤ n0)) 10 rfl (fun g_3 => ?_) (fun g_3 => ?_)
   ·skip
    refine pv tb 5 rfl ?_
    refine TO_nil ?_
    exact joined (decide (n0 ≤ high2)) (w0 0) (by first | exact Eq.symm ((and_T g_3 rfl)))
   ·skip
    refine pv tb 5 rfl ?_
    refine TO_nil ?_
    exact joined false (w0 0) (by first | exact Eq.symm ((and_F g_3 rfl)))
  ·rintro _ rfl
   refine T_ret ?_
   obtain rfl := some_inj H
   refine end_ret (.tmp .nil) rfl rfl ⟨?_, rfl⟩
   rfl

set_option maxHeartbeats 1000000 in
theorem m_impl_IsValidRelation_ok (relation0 : Relation) (r : Bool) (H : m_impl_IsValidRelation relation0 = some r) : FnV prg 182 [(.g (tRelation.enc relation0))] (boolA r) := by
  unfold m_impl_IsValidRelation at H
  refine fnV_of_T Try.func182 rfl rfl (Nat.le_of_ble_eq_true rfl) ?_
  refine te [(0, (.g (tRelation.enc relation0)))] rfl ?_
  refine sr ?_
  refine TO_cons rfl (TOp_box rfl (boxAll rfl) rfl rfl ?_)
  refine pv tb 1 rfl ?_
  refine TO_nil ?_
  obtain ⟨t2_1, J_1, H_2⟩ := bind_inv H
  refine T_cutX (fun x => t2_1 = x) (fun (t2_1 : Bool) => [(2, (boolA t2_1))]) (fun (t2_1 : Bool) => []) ?_ ?_
  ·replace H := J_1
   refine T_region ?_
   refine pv tb 2 rfl ?_
   refine Tp rfl rfl (pur_len_s (by kernel_rfl) rfl rfl) rfl ?_
   refine pv tb 2 rfl ?_
   refine TO_split (t := decide ((relation0.name.size : Int) = 1)) 7 rfl (fun g_3 => ?_) (fun g_3 => ?_)
   ·replace H := cond_t g_3 H
    obtain ⟨b_4, h_5, H⟩ := bind_inv H
    refine pv tb 2 rfl ?_
    refine TO_on rfl rfl (by decide) rfl rfl (TOp_pure (pur_ixS (by kernel_rfl) rfl rfl h_5 rfl) rfl ?_)
    refine pv tb 3 rfl ?_
    refine TO_split (t := decide (97 ≤ b_4)) 13 rfl (fun g_6 => ?_) (fun g_6 => ?_)
    ·replace H := cond_t g_6 H
     obtain ⟨b_7, h_8, H⟩ := bind_inv H
     refine pv tb 2 rfl ?_
     refine TO_on rfl rfl (by decide) rfl rfl (TOp_pure (pur_ixS (by kernel_rfl) rfl rfl h_8 rfl) rfl ?_)
     refine pv tb 3 rfl ?_
     refine TO_split (t := decide (b_7 ≤ 122)) 19 rfl (fun g_9 => ?_) (fun g_9 => ?_)
     ·replace H := cond_t g_9 H
      obtain ⟨r_10, h_11, H⟩ := bind_inv H
      refine pv tb 2 rfl ?_
      refine TO_on rfl rfl (by decide) rfl rfl (TOp_callV (call_static ent140 rfl) (m_impl_within_ok _ _ _ _ h_11) rfl rfl rfl ?_)
      refine pv tb 2 rfl ?_
      refine TO_split (t := r_10) 24 rfl (fun g_12 => ?_) (fun g_12 => ?_)
      ·replace H := cond_t g_12 H
       obtain ⟨r_13, h_14, H⟩ := bind_inv H
       refine pv tb 4 rfl ?_
       refine TO_on rfl rfl (by decide) rfl rfl (TOp_callV (call_static ent140 rfl) (m_impl_within_ok _ _ _ _ h_14) rfl rfl rfl ?_)
       refine pv tb 2 rfl ?_
       refine TO_nil ?_
       exact joined r_13 (w0 0) (some_inj H).symm
      ·replace H := cond_f g_12 H
       refine pv tb 7 rfl ?_
       refine TO_nil ?_
       exact joined false (w0 0) (some_inj H).symm
     ·replace H := cond_f g_9 H
      refine pv tb 8 rfl ?_
      refine toe [(24, (boolA false)), (26, (.v undef)), (27, (.v undef))] rfl ?_
      refine pv tb 4 rfl ?_
      refine TO_nil ?_
      exact joined false (w0 0) (some_inj H).symm
    ·replace H := cond_f g_6 H
     refine pv tb 8 rfl ?_
     refine toe [(1, (.b 0 0)), (19, (boolA false)), (21, (.v undef))] rfl ?_
     refine pv tb 10 rfl ?_
     refine TO_nil ?_
     exact joined false (w0 0) (some_inj H).symm
   ·replace H := cond_f g_3 H
    refine pv tb 16 rfl ?_
    refine toe [(1, (.b 0 0)), (23, (boolA false))] rfl ?_
    refine pv tb 8 rfl ?_
    refine TO_nil ?_
    exact joined false (w0 0) (some_inj H).symm
  ·rintro _ rfl
   replace H := H_2
   refine T_ret ?_
   obtain rfl := some_inj H
   refine end_ret (.tmp .nil) rfl rfl ⟨?_, rfl⟩
   rfl

set_option maxHeartbeats 1000000 in
theorem m_impl_AreValidRelations_ok (relations0 : (List Relation)) (r : Bool) (H : m_impl_AreValidRelations relations0 = some r) : FnV prg 165 [(sl tRelation relations0)] (boolA r) := by
  unfold m_impl_AreValidRelations at H
  refine fnV_of_T Try.func165 rfl rfl (Nat.le_of_ble_eq_true rfl) ?_
  refine te [(0, (sl tRelation relations0))] rfl ?_
  refine sr ?_
  refine pv tb 1 rfl ?_
  refine TO_nil ?_
  refine T_seq ?_
  refine sr ?_
  refine pv tb 1 rfl ?_
  refine Tp rfl rfl (pur_lenT (T := tRelation) sl45 rfl rfl) rfl ?_
  refine pv tb 1 rfl ?_
  refine TO_nil ?_
  obtain ⟨O2_, L2_, N2_⟩ := bind_inv H
  clear H
  obtain ⟨B2_, hb2, L2_⟩ := gen_forL L2_
  refine T_block ?_
  refine T_loopX (fun k => fun (t_1 : Nat) => k = relations0.length - t_1 ∧ forL B2_ (relations0.drop t_1) (t_1 : Int) () = some O2_) (fun (t_1 : Nat) => [(0, (sl tRelation relations0)), (5, (sl tRelation relations0)), (6, (intA (relations0.length : Int))), (7, (intA (t_1 : Int)))]) (fun (t_1 : Nat) => []) _ (0 : Nat) (w0 0) ⟨rfl, L2_⟩ ?_
  rintro _ t_1 ⟨rfl, L2_⟩
  refine T_fact (len_sl (T := tRelation) (.tmp 0) rfl) (fun hl2 => ?_)
  refine sr ?_
  refine pv tb 1 rfl ?_
  refine TO_nil ?_
  refine T_seq ?_
  refine T_cond (t := decide ((t_1 : Int) < (relations0.length : Int))) rfl (fun d2 => ?_) (fun d2 => ?_)
  ·replace d2 := of_decide_eq_true d2
   obtain ⟨x_t_1, hx_t_1⟩ : ∃ v, (relations0)[t_1]? = some v := ⟨_, List.getElem?_eq_getElem (by omega)⟩
   obtain ⟨C2_, H, K2_⟩ := forL_step L2_ hx_t_1
   rw [hb2] at H
   refine T_skip ?_
   refine T_seq ?_
   refine T_block ?_
   refine sr ?_
   refine pv tb 1 rfl ?_
   refine Tp rfl rfl (pur_ixT (T := tRelation) sl45 rfl rfl rfl hx_t_1 rfl) rfl ?_
   refine Tp rfl rfl (pur_ldTK (T := tRelation) (i := t_1) (off := 0) rfl agg130 rfl rfl hx_t_1 (by decide) rfl) rfl ?_
   refine TO_cons rfl (TOp_alloc zero130 rfl rfl ?_)
   refine pv tb 1 rfl ?_
   refine TO_cons rfl (TOp_storeB sz130 rfl rfl rfl rfl rfl rfl rfl (by decide) (lb rfl) rfl ?_)
   refine TO_st (σ' := [.box [(strA x_t_1.name), (intA x_t_1.arity), (intA x_t_1.keyLength)]]) rfl ?_
   refine TO_nil ?_
   obtain ⟨t29_3, J_3, H_4⟩ := bind_inv H
   refine T_cutX (fun x => t29_3 = x) (fun (t29_3 : Bool) => [(0, (sl tRelation relations0)), (5, (sl tRelation relations0)), (6, (intA (relations0.length : Int))), (7, (intA (t_1 : Int))), (29, (boolA t29_3))]) (fun (t29_3 : Bool) => []) ?_ ?_
   ·replace H := J_3
    refine T_regionD mixed (by kernel_rfl) ?_
    obtain ⟨r_5, h_6, H⟩ := bind_inv H
    refine pq tb 1 rfl ?_
    refine TQ_callV rfl (call_static ent182 rfl) (m_impl_IsValidRelation_ok _ _ h_6) rfl rfl ?_
    refine pq tb 2 rfl ?_
    refine TQ_split (t := (!r_5)) 15 rfl (fun g_7 => ?_) (fun g_7 => ?_)
    ·replace H := cond_t g_7 H
     refine pq tb 14 rfl ?_
     refine TQ_nil ?_
     exact joined true (w0 0) (some_inj H).symm
    ·replace H := cond_f g_7 H
     refine pq tb 3 rfl ?_
     refine TQ_split (t := decide (0 < (t_1 : Int))) 18 rfl (fun g_8 => ?_) (fun g_8 => ?_)
     ·replace H := cond_t g_8 H
      refine pq tb 2 rfl ?_
      refine TQ_on rfl rfl (by decide) rfl (pur_sub rfl rfl rfl (fits64 (by omega) (by omega))) rfl ?_
      obtain ⟨v_9, h_10, H⟩ := bind_inv H
      obtain ⟨n_11, hz_12, hv_13⟩ := getI_inv h_10
      refine TQ_on rfl rfl (by decide) rfl (pur_ixT (T := tRelation) sl45 rfl rfl hz_12 hv_13 rfl) rfl ?_
      refine pq tb 1 rfl ?_
      refine TQ_on rfl rfl (by decide) rfl (pur_ldT (T := tRelation) (i := n_11) (off := 0) rfl one9 rfl rfl hv_13 rfl) rfl ?_
      refine pq tb 2 rfl ?_
      refine tqe [(0, (sl tRelation relations0)), (5, (sl tRelation relations0)), (6, (intA (relations0.length : Int))), (7, (intA (t_1 : Int))), (15, (boolA false)), (18, (boolA true)), (24, (strA v_9.name)), (26, (strA x_t_1.name))] rfl ?_
      refine TQ_on rfl rfl (by decide) rfl (pur_geqS rfl rfl rfl) rfl ?_
      refine pq tb 2 rfl ?_
      refine TQ_nil ?_
      exact joined (!ltS v_9.name x_t_1.name) (w0 0) (some_inj H).symm
     ·replace H := cond_f g_8 H
      refine pq tb 8 rfl ?_
      refine tqe [(0, (sl tRelation relations0)), (5, (sl tRelation relations0)), (6, (intA (relations0.length : Int))), (7, (intA (t_1 : Int))), (15, (boolA false)), (18, (boolA false)), (24, (.v undef)), (26, (.v undef))] rfl ?_
      refine pq tb 3 rfl ?_
      refine TQ_nil ?_
      exact joined false (w0 0) (some_inj H).symm
   ·rintro _ rfl
    replace H := H_4
    refine T_cond (t := t29_3) rfl (fun c_14 => ?_) (fun c_14 => ?_)
    ·replace H := cond_t c_14 H
     refine sr ?_
     refine pv tb 1 rfl ?_
     refine TO_nil ?_
     refine T_ret ?_
     refine block_ret ?_
     refine then_ret ?_
     refine then_ret ?_
     refine block_ret ?_
     refine then_ret ?_
     obtain rfl := some_inj H
     obtain rfl := some_inj K2_
     replace H := onS_r N2_
     obtain rfl := some_inj H
     refine end_ret (.tmp .nil) rfl rfl ⟨?_, rfl⟩
     rfl
    ·replace H := cond_f c_14 H
     refine T_skip ?_
     refine T_region ?_
     refine Tp rfl rfl (pur_add rfl rfl rfl (fits64 (by omega) (by omega))) rfl ?_
     refine pv tb 1 rfl ?_
     refine TO_nil ?_
     obtain rfl := some_inj H
     exact again (relations0.length - (t_1 + 1)) (t_1 + 1) (by omega) (w0 0) ⟨rfl, K2_⟩
  ·replace d2 := of_decide_eq_false d2
   obtain rfl := forL_end L2_ (by omega)
   refine T_exit ?_
   refine then_exit ?_
   refine then_exit ?_
   refine block_exit ?_
   replace H := onS_l N2_
   refine sr ?_
   refine pv tb 1 rfl ?_
   refine Tp rfl rfl (pur_lenT (T := tRelation) sl45 rfl rfl) rfl ?_
   refine pv tb 2 rfl ?_
   refine TO_nil ?_
   refine T_ret ?_
   obtain rfl := some_inj H
   refine end_ret (.tmp .nil) rfl rfl ⟨?_, rfl⟩
   rfl

set_option maxHeartbeats 1000000 in
theorem m_slices_IndexFunc_Sint_int_ok (s0 : (List Int)) (f1 : (Int → Option Bool)) (f1_g : Nat) (f1_c : List A) (f1_E : EnT prg f1_g) (f1_l : looseL f1_c = true) (f1_m : firmL f1_c = true ∧ fzL f1_c = f1_c) (f1_H : ∀ (x0 : Int) r, f1 x0 = some r → FnV prg f1_g ([(intA x0)] ++ f1_c) (boolA r)) (r : Int) (H : m_slices_IndexFunc_Sint_int s0 f1 = some r) : FnV prg 192 [(sl tInt s0), (.f f1_g f1_c)] (intA r) := by
  unfold m_slices_IndexFunc_Sint_int at H
  refine fnV_of_T Try.func192 rfl rfl (Nat.le_of_ble_eq_true rfl) ?_
  refine te [(0, (sl tInt s0)), (1, (.f f1_g f1_c))] rfl ?_
  refine sr ?_
  refine pv tb 1 rfl ?_
  refine TO_nil ?_
  refine T_seq ?_
  refine sr ?_
  refine pv tb 1 rfl ?_
  refine Tp rfl rfl (pur_lenT (T := tInt) sl23 rfl rfl) rfl ?_
  refine pv tb 1 rfl ?_
  refine TO_nil ?_
  obtain ⟨O2_, L2_, N2_⟩ := bind_inv H
  clear H
  obtain ⟨B2_, hb2, L2_⟩ := gen_forL L2_
  refine T_block ?_
  refine T_loopX (fun k => fun (t_1 : Nat) => k = s0.length - t_1 ∧ forL B2_ (s0.drop t_1) (t_1 : Int) () = some O2_) (fun (t_1 : Nat) => [(0, (sl tInt s0)), (1, (.f f1_g f1_c)), (7, (intA (s0.length : Int))), (8, (intA (t_1 : Int)))]) (fun (t_1 : Nat) => []) _ (0 : Nat) (wp 0 (lb rfl) rfl rfl (by simp only [namesE, A.names, namesL_enc, Bool.false_or, Bool.or_false, looseL_names f1_l]) rfl rfl) ⟨rfl, L2_⟩ ?_
  rintro _ t_1 ⟨rfl, L2_⟩
  refine T_fact (len_sl (T := tInt) (.tmp 0) rfl) (fun hl2 => ?_)
  refine sr ?_
  refine pv tb 1 rfl ?_
  refine TO_nil ?_
  refine T_seq ?_
  refine T_cond (t := decide ((t_1 : Int) < (s0.length : Int))) rfl (fun d2 => ?_) (fun d2 => ?_)
  ·replace d2 := of_decide_eq_true d2
   obtain ⟨x_t_1, hx_t_1⟩ : ∃ v, (s0)[t_1]? = some v := ⟨_, List.getElem?_eq_getElem (by omega)⟩
   obtain ⟨C2_, H, K2_⟩ := forL_step L2_ hx_t_1
   rw [hb2] at H
   refine T_skip ?_
   refine T_seq ?_
   refine T_block ?_
   refine sr ?_
   refine pv tb 2 rfl ?_
   refine TO_nil ?_
   refine sr ?_
   refine pv tb 3 rfl ?_
   refine Tp rfl rfl (pur_ixT (T := tInt) sl23 rfl rfl rfl hx_t_1 rfl) rfl ?_
   refine Tp rfl rfl (pur_ldT (T := tInt) (i := t_1) (off := 0) rfl one3 rfl rfl hx_t_1 rfl) rfl ?_
   obtain ⟨r_3, h_4, H⟩ := bind_inv H
   refine TO_cons rfl (TOp_callV (call_closure f1_E rfl rfl) (f1_H _  _ h_4) (looseL_app rfl f1_l) rfl rfl ?_)
   refine TO_nil ?_
   refine T_cond (t := r_3) rfl (fun c_5 => ?_) (fun c_5 => ?_)
   ·replace H := cond_t c_5 H
    refine sr ?_
    refine pv tb 2 rfl ?_
    refine TO_nil ?_
    refine T_ret ?_
    refine block_ret ?_
    refine then_ret ?_
    refine then_ret ?_
    refine block_ret ?_
    refine then_ret ?_
    obtain rfl := some_inj H
    obtain rfl := some_inj K2_
    replace H := onS_r N2_
    obtain rfl := some_inj H
    refine end_ret (.tmp .nil) rfl rfl ⟨?_, rfl⟩
    rfl
   ·replace H := cond_f c_5 H
    refine T_skip ?_
    refine T_region ?_
    refine Tp rfl rfl (pur_add rfl rfl rfl (fits64 (by omega) (by omega))) rfl ?_
    refine pv tb 1 rfl ?_
    refine TO_nil ?_
    obtain rfl := some_inj H
    exact again (s0.length - (t_1 + 1)) (t_1 + 1) (by omega) (wp 0 (lb rfl) rfl rfl (by simp only [namesE, A.names, namesL_enc, Bool.false_or, Bool.or_false, looseL_names f1_l]) rfl rfl) ⟨rfl, K2_⟩
  ·replace d2 := of_decide_eq_false d2
   obtain rfl := forL_end L2_ (by omega)
   refine T_exit ?_
   refine then_exit ?_
   refine then_exit ?_
   refine block_exit ?_
   replace H := onS_l N2_
   refine sr ?_
   refine pv tb 1 rfl ?_
   refine TO_nil ?_
   refine T_ret ?_
   obtain rfl := some_inj H
   refine end_ret (.tmp .nil) rfl rfl ⟨?_, rfl⟩
   rfl

set_option maxHeartbeats 1000000 in
theorem m_slices_ContainsFunc_Sint_int_ok (s0 : (List Int)) (f1 : (Int → Option Bool)) (f1_g : Nat) (f1_c : List A) (f1_E : EnT prg f1_g) (f1_l : looseL f1_c = true) (f1_m : firmL f1_c = true ∧ fzL f1_c = f1_c) (f1_H : ∀ (x0 : Int) r, f1 x0 = some r → FnV prg f1_g ([(intA x0)] ++ f1_c) (boolA r)) (r : Bool) (H : m_slices_ContainsFunc_Sint_int s0 f1 = some r) : FnV prg 188 [(sl tInt s0), (.f f1_g f1_c)] (boolA r) := by
  unfold m_slices_ContainsFunc_Sint_int at H
  refine fnV_of_T Try.func188 rfl rfl (Nat.le_of_ble_eq_true rfl) ?_
  refine te [(0, (sl tInt s0)), (1, (.f f1_g f1_c))] rfl ?_
  refine sr ?_
  refine pv tb 1 rfl ?_
  refine TO_nil ?_
  refine sr ?_
  obtain ⟨r_1, h_2, H⟩ := bind_inv H
  refine pv tb 2 rfl ?_
  refine TO_cons rfl (TOp_callV (call_static ent192 rfl) (m_slices_IndexFunc_Sint_int_ok _ f1 f1_g f1_c f1_E f1_l f1_m f1_H _ h_2) (looseC rfl (looseC f1_l rfl)) rfl rfl ?_)
  refine pv tb 2 rfl ?_
  refine TO_nil ?_
  refine T_ret ?_
  obtain rfl := some_inj H
  refine end_ret (.tmp .nil) rfl rfl ⟨?_, rfl⟩
  rfl

set_option maxHeartbeats 1000000 in
theorem m_impl_areValues_1_ok (v0 : Int) (r : Bool) (H : m_impl_areValues_1 v0 = some r) : FnV prg 189 [(intA v0)] (boolA r) := by
  unfold m_impl_areValues_1 at H
  refine fnV_of_T Try.func189 rfl rfl (Nat.le_of_ble_eq_true rfl) ?_
  refine te [(0, (intA v0))] rfl ?_
  refine sr ?_
  refine pv tb 1 rfl ?_
  refine TO_nil ?_
  refine sr ?_
  obtain ⟨r_1, h_2, H⟩ := bind_inv H
  refine pv tb 1 rfl ?_
  refine TO_cons rfl (TOp_callV (call_static ent140 rfl) (m_impl_within_ok _ _ _ _ h_2) rfl rfl rfl ?_)
  refine pv tb 2 rfl ?_
  refine TO_nil ?_
  refine T_ret ?_
  obtain rfl := some_inj H
  refine end_ret (.tmp .nil) rfl rfl ⟨?_, rfl⟩
  rfl

set_option maxHeartbeats 1000000 in
theorem m_impl_areValues_ok (list0 : (List Int)) (r : Bool) (H : m_impl_areValues list0 = some r) : FnV prg 183 [(sl tInt list0)] (boolA r) := by
  unfold m_impl_areValues at H
  refine fnV_of_T Try.func183 rfl rfl (Nat.le_of_ble_eq_true rfl) ?_
  refine te [(0, (sl tInt list0))] rfl ?_
  refine sr ?_
  refine pv tb 1 rfl ?_
  refine TO_nil ?_
  refine sr ?_
  obtain ⟨r_1, h_2, H⟩ := bind_inv H
  refine pv tb 1 rfl ?_
  refine TO_cons rfl (TOp_callV (call_static ent188 rfl) (m_slices_ContainsFunc_Sint_int_ok _ (fun x0 => m_impl_areValues_1 x0) 189 [] ent189 rfl ⟨rfl, rfl⟩ (fun x0 r h => m_impl_areValues_1_ok x0  r h) _ h_2) rfl rfl rfl ?_)
  refine pv tb 2 rfl ?_
  refine TO_nil ?_
  refine T_ret ?_
  obtain rfl := some_inj H
  refine end_ret (.tmp .nil) rfl rfl ⟨?_, rfl⟩
  rfl

set_option maxHeartbeats 1000000 in
theorem m_impl_isFact_ok (relations0 : (List Relation)) (fact1 : Fact) (r : Bool) (H : m_impl_isFact relations0 fact1 = some r) : FnV prg 166 [(sl tRelation relations0), (.g (tFact.enc fact1))] (boolA r) := by
  unfold m_impl_isFact at H
  refine fnV_of_T Try.func166 rfl rfl (Nat.le_of_ble_eq_true rfl) ?_
  refine te [(0, (sl tRelation relations0)), (1, (.g (tFact.enc fact1)))] rfl ?_
  refine sr ?_
  refine TO_cons rfl (TOp_box rfl (boxAll rfl) rfl rfl ?_)
  refine pv tb 1 rfl ?_
  refine TO_nil ?_
  obtain ⟨t4_1, J_1, H_2⟩ := bind_inv H
  refine T_cutX (fun x => t4_1 = x) (fun (t4_1 : Bool) => [(4, (boolA t4_1))]) (fun (t4_1 : Bool) => []) ?_ ?_
  ·replace H := J_1
   refine T_regionD mixed (by kernel_rfl) ?_
   refine pq tb 3 rfl ?_
   refine TQ_pure rfl (pur_lenT (T := tRelation) sl45 rfl rfl) rfl ?_
   refine TQ_fact (len_sl (T := tRelation) (.tmp 0) rfl) (fun hl_3 => ?_)
   refine TQ_pure rfl (pur_sub rfl rfl rfl (fits64 (by omega) (by omega))) rfl ?_
   obtain ⟨r_4, h_5, H⟩ := bind_inv H
   refine TQ_callV rfl (call_static ent140 rfl) (m_impl_within_ok _ _ _ _ h_5) rfl rfl ?_
   refine pq tb 1 rfl ?_
   refine TQ_split (t := r_4) 11 rfl (fun g_6 => ?_) (fun g_6 => ?_)
   ·replace H := cond_t g_6 H
    refine pq tb 2 rfl ?_
    refine TQ_on rfl rfl (by decide) rfl (pur_lenT (T := tInt) sl23 rfl rfl) rfl ?_
    obtain ⟨v_7, h_8, H⟩ := bind_inv H
    obtain ⟨n_9, hz_10, hv_11⟩ := getI_inv h_8
    refine pq tb 3 rfl ?_
    refine TQ_on rfl rfl (by decide) rfl (pur_ixT (T := tRelation) sl45 rfl rfl hz_10 hv_11 rfl) rfl ?_
    refine pq tb 1 rfl ?_
    refine tqe [(3, (.b 0 0)), (11, (boolA true)), (14, (intA (fact1.values.length : Int))), (19, (.q (flat tRelation.enc relations0) (n_9 * tRelation.k + 1)))] rfl ?_
    refine TQ_on rfl rfl (by decide) rfl (pur_ldT (T := tRelation) (i := n_9) (off := 1) rfl one3 rfl rfl hv_11 rfl) rfl ?_
    refine pq tb 3 rfl ?_
    refine TQ_split (t := decide ((fact1.values.length : Int) = v_7.arity)) 23 rfl (fun g_12 => ?_) (fun g_12 => ?_)
    ·replace H := cond_t g_12 H
     obtain ⟨r_13, h_14, H⟩ := bind_inv H
     refine pq tb 2 rfl ?_
     refine TQ_onV rfl rfl (by decide) rfl (call_static ent183 rfl) (m_impl_areValues_ok _ _ h_14) rfl rfl ?_
     refine pq tb 2 rfl ?_
     refine TQ_nil ?_
     exact joined r_13 (w0 0) (some_inj H).symm
    ·replace H := cond_f g_12 H
     refine pq tb 5 rfl ?_
     refine TQ_nil ?_
     exact joined false (w0 0) (some_inj H).symm
   ·replace H := cond_f g_6 H
    refine pq tb 8 rfl ?_
    refine tqe [(3, (.b 0 0)), (11, (boolA false)), (14, (.v undef)), (19, (.v undef))] rfl ?_
    refine pq tb 9 rfl ?_
    refine TQ_nil ?_
    exact joined false (w0 0) (some_inj H).symm
  ·rintro _ rfl
   replace H := H_2
   refine T_ret ?_
   obtain rfl := some_inj H
   refine end_ret (.tmp .nil) rfl rfl ⟨?_, rfl⟩
   rfl

set_option maxHeartbeats 1000000 in
theorem m_impl_IsValidDatabase_ok (db0 : Database) (r : Bool) (H : m_impl_IsValidDatabase db0 = some r) : FnV prg 117 [(.g (tDatabase.enc db0))] (boolA r) := by
  unfold m_impl_IsValidDatabase at H
  refine fnV_of_T Try.func117 rfl rfl (Nat.le_of_ble_eq_true rfl) ?_
  refine te [(0, (.g (tDatabase.enc db0)))] rfl ?_
  refine sr ?_
  refine TO_cons rfl (TOp_box rfl (boxAll rfl) rfl rfl ?_)
  refine pv tb 1 rfl ?_
  refine TO_nil ?_
  refine T_seq ?_
  obtain ⟨t14_1, J_1, H_2⟩ := bind_inv H
  refine T_cutX (fun x => t14_1 = x) (fun (t14_1 : Bool) => [(1, (.b 0 0)), (14, (boolA t14_1))]) (fun (t14_1 : Bool) => [.box [(sl tRelation db0.relations), (sl tFact db0.facts)]]) ?_ ?_
  ·replace H := J_1
   refine T_region ?_
   obtain ⟨r_3, h_4, H⟩ := bind_inv H
   refine pv tb 2 rfl ?_
   refine TO_cons rfl (TOp_callV (call_static ent165 rfl) (m_impl_AreValidRelations_ok _ _ h_4) rfl rfl rfl ?_)
   refine pv tb 2 rfl ?_
   refine TO_split (t := (!r_3)) 9 rfl (fun g_5 => ?_) (fun g_5 => ?_)
   ·replace H := cond_t g_5 H
    refine pv tb 5 rfl ?_
    refine TO_nil ?_
    exact joined true (w0 1) (some_inj H).symm
   ·replace H := cond_f g_5 H
    refine pv tb 2 rfl ?_
    refine TO_on rfl rfl (by decide) rfl rfl (TOp_pure (pur_lenT (T := tFact) sl46 rfl rfl) rfl ?_)
    refine pv tb 2 rfl ?_
    refine TO_nil ?_
    exact joined (decide (14 < (db0.facts.length : Int))) (w0 1) (some_inj H).symm
  ·rintro _ rfl
   replace H := H_2
   refine T_cond (t := t14_1) rfl (fun c_6 => ?_) (fun c_6 => ?_)
   ·replace H := cond_t c_6 H
    refine sr ?_
    refine pv tb 1 rfl ?_
    refine TO_nil ?_
    refine T_ret ?_
    refine then_ret ?_
    obtain rfl := some_inj H
    refine end_ret (.tmp .nil) rfl rfl ⟨?_, rfl⟩
    rfl
   ·replace H := cond_f c_6 H
    refine T_skip ?_
    refine T_seq ?_
    refine sr ?_
    refine pv tb 2 rfl ?_
    refine Tp rfl rfl (pur_lenT (T := tFact) sl46 rfl rfl) rfl ?_
    refine pv tb 1 rfl ?_
    refine TO_nil ?_
    obtain ⟨O8_, L8_, N8_⟩ := bind_inv H
    clear H
    obtain ⟨B8_, hb8, L8_⟩ := gen_forL L8_
    refine T_block ?_
    refine T_loopX (fun k => fun (t_7 : Nat) => k = db0.facts.length - t_7 ∧ forL B8_ (db0.facts.drop t_7) (t_7 : Int) () = some O8_) (fun (t_7 : Nat) => [(1, (.b 0 0)), (16, (sl tFact db0.facts)), (17, (intA (db0.facts.length : Int))), (18, (intA (t_7 : Int)))]) (fun (t_7 : Nat) => [.box [(sl tRelation db0.relations), (sl tFact db0.facts)]]) _ (0 : Nat) (w0 1) ⟨rfl, L8_⟩ ?_
    rintro _ t_7 ⟨rfl, L8_⟩
    refine T_fact (len_sl (T := tFact) (.tmp 16) rfl) (fun hl8 => ?_)
    refine sr ?_
    refine pv tb 1 rfl ?_
    refine TO_nil ?_
    refine T_seq ?_
    refine T_cond (t := decide ((t_7 : Int) < (db0.facts.length : Int))) rfl (fun d8 => ?_) (fun d8 => ?_)
    ·replace d8 := of_decide_eq_true d8
     obtain ⟨x_t_7, hx_t_7⟩ : ∃ v, (db0.facts)[t_7]? = some v := ⟨_, List.getElem?_eq_getElem (by omega)⟩
     obtain ⟨C8_, H, K8_⟩ := forL_step L8_ hx_t_7
     rw [hb8] at H
     refine T_skip ?_
     refine T_seq ?_
     refine T_block ?_
     refine sr ?_
     refine pv tb 1 rfl ?_
     refine Tp rfl rfl (pur_ixT (T := tFact) sl46 rfl rfl rfl hx_t_7 rfl) rfl ?_
     refine Tp rfl rfl (pur_ldTK (T := tFact) (i := t_7) (off := 0) rfl agg65 rfl rfl hx_t_7 (by decide) rfl) rfl ?_
     refine TO_cons rfl (TOp_alloc zero65 rfl rfl ?_)
     refine pv tb 1 rfl ?_
     refine TO_cons rfl (TOp_storeB sz65 rfl rfl rfl rfl rfl rfl rfl (by decide) (lb rfl) rfl ?_)
     refine TO_st (σ' := [.box [(sl tRelation db0.relations), (sl tFact db0.facts)], .box [(intA x_t_7.relation), (sl tInt x_t_7.values)]]) rfl ?_
     refine TO_nil ?_
     obtain ⟨t42_9, J_9, H_10⟩ := bind_inv H
     refine T_cutX (fun x => t42_9 = x) (fun (t42_9 : Bool) => [(1, (.b 0 0)), (16, (sl tFact db0.facts)), (17, (intA (db0.facts.length : Int))), (18, (intA (t_7 : Int))), (42, (boolA t42_9))]) (fun (t42_9 : Bool) => [.box [(sl tRelation db0.relations), (sl tFact db0.facts)]]) ?_ ?_
     ·replace H := J_9
      refine T_regionD mixed (by kernel_rfl) ?_
      obtain ⟨r_11, h_12, H⟩ := bind_inv H
      refine pq tb 3 rfl ?_
      refine TQ_callV rfl (call_static ent166 rfl) (m_impl_isFact_ok _ _ _ h_12) rfl rfl ?_
      refine pq tb 2 rfl ?_
      refine TQ_split (t := (!r_11)) 28 rfl (fun g_13 => ?_) (fun g_13 => ?_)
      ·replace H := cond_t g_13 H
       refine pq tb 8 rfl ?_
       refine tqe [(1, (.b 0 0)), (4, (.b 1 0)), (16, (sl tFact db0.facts)), (17, (intA (db0.facts.length : Int))), (18, (intA (t_7 : Int))), (28, (boolA true)), (31, (.v undef)), (36, (.v undef))] rfl ?_
       refine pq tb 6 rfl ?_
       refine TQ_nil ?_
       exact joined true (w0 1) (some_inj H).symm
      ·replace H := cond_f g_13 H
       refine pq tb 3 rfl ?_
       refine TQ_split (t := decide (0 < (t_7 : Int))) 31 rfl (fun g_14 => ?_) (fun g_14 => ?_)
       ·replace H := cond_t g_14 H
        refine pq tb 3 rfl ?_
        refine TQ_on rfl rfl (by decide) rfl (pur_sub rfl rfl rfl (fits64 (by omega) (by omega))) rfl ?_
        obtain ⟨v_15, h_16, H⟩ := bind_inv H
        obtain ⟨n_17, hz_18, hv_19⟩ := getI_inv h_16
        refine TQ_on rfl rfl (by decide) rfl (pur_ixT (T := tFact) sl46 rfl rfl hz_18 hv_19 rfl) rfl ?_
        refine TQ_on rfl rfl (by decide) rfl (pur_ldTK (T := tFact) (i := n_17) (off := 0) rfl agg65 rfl rfl hv_19 (by decide) rfl) rfl ?_
        obtain ⟨r_20, h_21, H⟩ := bind_inv H
        refine pq tb 1 rfl ?_
        refine TQ_onV rfl rfl (by decide) rfl (call_static ent152 rfl) (m_impl_CompareFacts_ok _ _ _ h_21) rfl rfl ?_
        refine tqe [(1, (.b 0 0)), (16, (sl tFact db0.facts)), (17, (intA (db0.facts.length : Int))), (18, (intA (t_7 : Int))), (28, (boolA false)), (31, (boolA true)), (39, (intA r_20))] rfl ?_
        refine pq tb 3 rfl ?_
        refine TQ_nil ?_
        exact joined (decide (0 ≤ r_20)) (w0 1) (some_inj H).symm
       ·replace H := cond_f g_14 H
        refine pq tb 8 rfl ?_
        refine tqe [(1, (.b 0 0)), (16, (sl tFact db0.facts)), (17, (intA (db0.facts.length : Int))), (18, (intA (t_7 : Int))), (28, (boolA false)), (31, (boolA false)), (39, (.v undef))] rfl ?_
        refine pq tb 3 rfl ?_
        refine TQ_nil ?_
        exact joined false (w0 1) (some_inj H).symm
     ·rintro _ rfl
      replace H := H_10
      refine T_cond (t := t42_9) rfl (fun c_22 => ?_) (fun c_22 => ?_)
      ·replace H := cond_t c_22 H
       refine sr ?_
       refine pv tb 1 rfl ?_
       refine TO_nil ?_
       refine T_ret ?_
       refine block_ret ?_
       refine then_ret ?_
       refine then_ret ?_
       refine block_ret ?_
       refine then_ret ?_
       obtain rfl := some_inj H
       obtain rfl := some_inj K8_
       replace H := onS_r N8_
       obtain rfl := some_inj H
       refine end_ret (.tmp .nil) rfl rfl ⟨?_, rfl⟩
       rfl
      ·replace H := cond_f c_22 H
       refine T_skip ?_
       refine T_region ?_
       refine Tp rfl rfl (pur_add rfl rfl rfl (fits64 (by omega) (by omega))) rfl ?_
       refine pv tb 1 rfl ?_
       refine TO_nil ?_
       obtain rfl := some_inj H
       exact again (db0.facts.length - (t_7 + 1)) (t_7 + 1) (by omega) (w0 1) ⟨rfl, K8_⟩
    ·replace d8 := of_decide_eq_false d8
     obtain rfl := forL_end L8_ (by omega)
     refine T_exit ?_
     refine then_exit ?_
     refine then_exit ?_
     refine block_exit ?_
     replace H := onS_l N8_
     refine sr ?_
     refine pv tb 1 rfl ?_
     refine TO_nil ?_
     refine T_ret ?_
     obtain rfl := some_inj H
     refine end_ret (.tmp .nil) rfl rfl ⟨?_, rfl⟩
     rfl

set_option maxHeartbeats 1000000 in
theorem m_impl_ContainsFact_ok (db0 : Database) (fact1 : Fact) (r : Bool) (H : m_impl_ContainsFact db0 fact1 = some r) : FnV prg 49 [(.g (tDatabase.enc db0)), (.g (tFact.enc fact1))] (boolA r) := by
  unfold m_impl_ContainsFact at H
  refine fnV_of_T Try.func49 rfl rfl (Nat.le_of_ble_eq_true rfl) ?_
  refine te [(0, (.g (tDatabase.enc db0))), (1, (.g (tFact.enc fact1)))] rfl ?_
  refine sr ?_
  refine TO_cons rfl (TOp_box rfl (boxAll rfl) rfl rfl ?_)
  refine TO_cons rfl (TOp_box rfl (boxAll rfl) rfl rfl ?_)
  refine pv tb 1 rfl ?_
  refine TO_nil ?_
  obtain ⟨t4_1, J_1, H_2⟩ := bind_inv H
  refine T_cutX (fun x => t4_1 = x) (fun (t4_1 : Bool) => [(4, (boolA t4_1))]) (fun (t4_1 : Bool) => []) ?_ ?_
  ·replace H := J_1
   refine T_region ?_
   obtain ⟨r_3, h_4, H⟩ := bind_inv H
   refine pv tb 1 rfl ?_
   refine TO_cons rfl (TOp_callV (call_static ent117 rfl) (m_impl_IsValidDatabase_ok _ _ h_4) rfl rfl rfl ?_)
   refine pv tb 1 rfl ?_
   refine TO_split (t := r_3) 7 rfl (fun g_5 => ?_) (fun g_5 => ?_)
   ·replace H := cond_t g_5 H
    obtain ⟨r_6, h_7, H⟩ := bind_inv H
    refine pv tb 2 rfl ?_
    refine TO_on rfl rfl (by decide) rfl rfl (TOp_callV (call_static ent106 rfl) (m_impl_FactIndex_ok _ _ _ h_7) rfl rfl rfl ?_)
    refine pv tb 3 rfl ?_
    refine TO_nil ?_
    exact joined (decide (0 ≤ r_6)) (w0 0) (some_inj H).symm
   ·replace H := cond_f g_5 H
    refine pv tb 6 rfl ?_
    refine TO_nil ?_
    exact joined false (w0 0) (some_inj H).symm
  ·rintro _ rfl
   replace H := H_2
   refine T_ret ?_
   obtain rfl := some_inj H
   refine end_ret (.tmp .nil) rfl rfl ⟨?_, rfl⟩
   rfl

set_option maxHeartbeats 1000000 in
theorem m_slices_Equal_Sint_int_ok (s10 : (List Int)) (s21 : (List Int)) (r : Bool) (H : m_slices_Equal_Sint_int s10 s21 = some r) : FnV prg 155 [(sl tInt s10), (sl tInt s21)] (boolA r) := by
  unfold m_slices_Equal_Sint_int at H
  refine fnV_of_T Try.func155 rfl rfl (Nat.le_of_ble_eq_true rfl) ?_
  refine te [(0, (sl tInt s10)), (1, (sl tInt s21))] rfl ?_
  refine sr ?_
  refine pv tb 1 rfl ?_
  refine TO_nil ?_
  refine T_seq ?_
  refine sr ?_
  refine pv tb 1 rfl ?_
  refine Tp rfl rfl (pur_lenT (T := tInt) sl23 rfl rfl) rfl ?_
  refine pv tb 1 rfl ?_
  refine Tp rfl rfl (pur_lenT (T := tInt) sl23 rfl rfl) rfl ?_
  refine pv tb 1 rfl ?_
  refine TO_nil ?_
  refine T_cond (t := decide ((s10.length : Int) ≠ (s21.length : Int))) rfl (fun c_1 => ?_) (fun c_1 => ?_)
  ·replace H := cond_t c_1 H
   refine sr ?_
   refine pv tb 1 rfl ?_
   refine TO_nil ?_
   refine T_ret ?_
   refine then_ret ?_
   obtain rfl := some_inj H
   refine end_ret (.tmp .nil) rfl rfl ⟨?_, rfl⟩
   rfl
  ·replace H := cond_f c_1 H
   refine T_skip ?_
   refine T_seq ?_
   refine sr ?_
   refine pv tb 1 rfl ?_
   refine Tp rfl rfl (pur_lenT (T := tInt) sl23 rfl rfl) rfl ?_
   refine pv tb 1 rfl ?_
   refine TO_nil ?_
   obtain ⟨O3_, L3_, N3_⟩ := bind_inv H
   clear H
   obtain ⟨B3_, hb3, L3_⟩ := gen_forL L3_
   refine T_block ?_
   refine T_loopX (fun k => fun (t_2 : Nat) => k = s10.length - t_2 ∧ forL B3_ (s10.drop t_2) (t_2 : Int) () = some O3_) (fun (t_2 : Nat) => [(0, (sl tInt s10)), (1, (sl tInt s21)), (12, (intA (s10.length : Int))), (13, (intA (t_2 : Int)))]) (fun (t_2 : Nat) => []) _ (0 : Nat) (w0 0) ⟨rfl, L3_⟩ ?_
   rintro _ t_2 ⟨rfl, L3_⟩
   refine T_fact (len_sl (T := tInt) (.tmp 0) rfl) (fun hl3 => ?_)
   refine sr ?_
   refine pv tb 1 rfl ?_
   refine TO_nil ?_
   refine T_seq ?_
   refine T_cond (t := decide ((t_2 : Int) < (s10.length : Int))) rfl (fun d3 => ?_) (fun d3 => ?_)
   ·replace d3 := of_decide_eq_true d3
    obtain ⟨x_t_2, hx_t_2⟩ : ∃ v, (s10)[t_2]? = some v := ⟨_, List.getElem?_eq_getElem (by omega)⟩
    obtain ⟨C3_, H, K3_⟩ := forL_step L3_ hx_t_2
    rw [hb3] at H
    refine T_skip ?_
    refine T_seq ?_
    refine T_block ?_
    refine sr ?_
    refine pv tb 2 rfl ?_
    refine TO_nil ?_
    refine T_seq ?_
    refine T_regionD mixed (by kernel_rfl) ?_
    refine pq tb 2 rfl ?_
    refine TQ_pure rfl (pur_ixT (T := tInt) sl23 rfl rfl rfl hx_t_2 rfl) rfl ?_
    refine TQ_pure rfl (pur_ldT (T := tInt) (i := t_2) (off := 0) rfl one3 rfl rfl hx_t_2 rfl) rfl ?_
    obtain ⟨v_4, h_5, H⟩ := bind_inv H
    obtain ⟨n_6, hz_7, hv_8⟩ := getI_inv h_5
    refine pq tb 2 rfl ?_
    refine TQ_pure rfl (pur_ixT (T := tInt) sl23 rfl rfl hz_7 hv_8 rfl) rfl ?_
    refine TQ_pure rfl (pur_ldT (T := tInt) (i := n_6) (off := 0) rfl one3 rfl rfl hv_8 rfl) rfl ?_
    refine pq tb 1 rfl ?_
    refine TQ_nil ?_
    refine T_cond (t := decide (x_t_2 ≠ v_4)) rfl (fun c_9 => ?_) (fun c_9 => ?_)
    ·replace H := cond_t c_9 H
     refine sr ?_
     refine pv tb 1 rfl ?_
     refine TO_nil ?_
     refine te [(4, (boolA false))] rfl ?_
     refine T_ret ?_
     refine block_ret ?_
     refine then_ret ?_
     refine then_ret ?_
     refine block_ret ?_
     refine then_ret ?_
     obtain rfl := some_inj H
     obtain rfl := some_inj K3_
     replace H := onS_r N3_
     obtain rfl := some_inj H
     refine end_ret (.tmp .nil) rfl rfl ⟨?_, rfl⟩
     rfl
    ·replace H := cond_f c_9 H
     refine T_skip ?_
     refine T_region ?_
     refine Tp rfl rfl (pur_add rfl rfl rfl (fits64 (by omega) (by omega))) rfl ?_
     refine pv tb 1 rfl ?_
     refine TO_nil ?_
     obtain rfl := some_inj H
     exact again (s10.length - (t_2 + 1)) (t_2 + 1) (by omega) (w0 0) ⟨rfl, K3_⟩
   ·replace d3 := of_decide_eq_false d3
    obtain rfl := forL_end L3_ (by omega)
    refine T_exit ?_
    refine then_exit ?_
    refine then_exit ?_
    refine block_exit ?_
    replace H := onS_l N3_
    refine sr ?_
    refine pv tb 1 rfl ?_
    refine TO_nil ?_
    refine T_ret ?_
    obtain rfl := some_inj H
    refine end_ret (.tmp .nil) rfl rfl ⟨?_, rfl⟩
    rfl

set_option maxHeartbeats 1000000 in
theorem m_impl_sameKey_ok (relations0 : (List Relation)) (a1 : Fact) (b2 : Fact) (r : Bool) (H : m_impl_sameKey relations0 a1 b2 = some r) : FnV prg 167 [(sl tRelation relations0), (.g (tFact.enc a1)), (.g (tFact.enc b2))] (boolA r) := by
  unfold m_impl_sameKey at H
  refine fnV_of_T Try.func167 rfl rfl (Nat.le_of_ble_eq_true rfl) ?_
  refine te [(0, (sl tRelation relations0)), (1, (.g (tFact.enc a1))), (2, (.g (tFact.enc b2)))] rfl ?_
  refine sr ?_
  refine TO_cons rfl (TOp_box rfl (boxAll rfl) rfl rfl ?_)
  refine TO_cons rfl (TOp_box rfl (boxAll rfl) rfl rfl ?_)
  refine pv tb 1 rfl ?_
  refine TO_nil ?_
  refine T_seq ?_
  refine sr ?_
  refine pv tb 5 rfl ?_
  refine TO_nil ?_
  refine T_cond (t := decide (a1.relation ≠ b2.relation)) rfl (fun c_1 => ?_) (fun c_1 => ?_)
  ·replace H := cond_t c_1 H
   refine sr ?_
   refine pv tb 1 rfl ?_
   refine TO_nil ?_
   refine T_ret ?_
   refine then_ret ?_
   obtain rfl := some_inj H
   refine end_ret (.tmp .nil) rfl rfl ⟨?_, rfl⟩
   rfl
  ·replace H := cond_f c_1 H
   refine T_skip ?_
   refine sr ?_
   obtain ⟨v_2, h_3, H⟩ := bind_inv H
   obtain ⟨n_4, hz_5, hv_6⟩ := getI_inv h_3
   refine pv tb 3 rfl ?_
   refine Tp rfl rfl (pur_ixT (T := tRelation) sl45 rfl rfl hz_5 hv_6 rfl) rfl ?_
   refine pv tb 1 rfl ?_
   refine Tp rfl rfl (pur_ldT (T := tRelation) (i := n_4) (off := 2) rfl one3 rfl rfl hv_6 rfl) rfl ?_
   refine pv tb 1 rfl ?_
   refine TO_nil ?_
   refine te [(4, (.b 0 0)), (5, (.b 1 0)), (7, (intA v_2.keyLength))] rfl ?_
   refine T_seq ?_
   refine T_regionD mixed (by kernel_rfl) ?_
   obtain ⟨ys_7, h_8, H⟩ := bind_inv H
   refine pq tb 3 rfl ?_
   refine TQ_pure rfl (pur_cutT (T := tInt) (lo := none) (hi := (some (.tmp 21))) sl23 rfl rfl ⟨_, rfl⟩ h_8 rfl) rfl ?_
   obtain ⟨ys_9, h_10, H⟩ := bind_inv H
   refine pq tb 3 rfl ?_
   refine TQ_pure rfl (pur_cutT (T := tInt) (lo := none) (hi := (some (.tmp 25))) sl23 rfl rfl ⟨_, rfl⟩ h_10 rfl) rfl ?_
   obtain ⟨r_11, h_12, H⟩ := bind_inv H
   refine TQ_callV rfl (call_static ent155 rfl) (m_slices_Equal_Sint_int_ok _ _ _ h_12) rfl rfl ?_
   refine pq tb 1 rfl ?_
   refine TQ_nil ?_
   refine T_ret ?_
   obtain rfl := some_inj H
   refine end_ret (.tmp .nil) rfl rfl ⟨?_, rfl⟩
   rfl

set_option maxHeartbeats 1000000 in
theorem m_impl_blocks_own (db0 : Database) (r : (List (List Int))) (H : m_impl_blocks db0 = some r) : FnO prg 118 [(.g (tDatabase.enc db0))] (.m [0] 0 r.length (tSl tInt).k) [.row (flat (tSl tInt).own r)] := by
  unfold m_impl_blocks at H
  refine fnO_of_T Try.func118 rfl rfl (Nat.le_of_ble_eq_true rfl) ?_
  refine te [(0, (.g (tDatabase.enc db0)))] rfl ?_
  refine sr ?_
  refine TO_cons rfl (TOp_box rfl (boxAll rfl) rfl rfl ?_)
  refine pv tb 1 rfl ?_
  refine TO_nil ?_
  refine sr ?_
  refine TO_cons rfl (TOp_lit (nn := 0) (k := 1) sl53 zero23 rfl rfl rfl rfl (by decide) ?_)
  refine TO_st (σ' := [.box [(sl tRelation db0.relations), (sl tFact db0.facts)], .row (flat (tSl tInt).own ([] : (List (List Int))))]) rfl ?_
  refine pv tb 1 rfl ?_
  refine TO_nil ?_
  refine T_seq ?_
  refine sr ?_
  refine pv tb 2 rfl ?_
  refine Tp rfl rfl (pur_lenT (T := tFact) sl46 rfl rfl) rfl ?_
  refine pv tb 1 rfl ?_
  refine TO_nil ?_
  obtain ⟨O2_, L2_, N2_⟩ := bind_inv H
  clear H
  obtain ⟨B2_, hb2, L2_⟩ := gen_forS L2_
  refine T_block ?_
  refine T_loopX (fun k => fun (⟨t_1, out3⟩ : Nat × (List (List Int))) => k = db0.facts.length - t_1 ∧ forS B2_ (db0.facts.drop t_1) (t_1 : Int) out3 = some O2_) (fun (⟨t_1, out3⟩ : Nat × (List (List Int))) => [(1, (.b 0 0)), (3, (.m [1] 0 out3.length (tSl tInt).k)), (9, (sl tFact db0.facts)), (10, (intA (db0.facts.length : Int))), (11, (intA (t_1 : Int)))]) (fun (⟨t_1, out3⟩ : Nat × (List (List Int))) => [.box [(sl tRelation db0.relations), (sl tFact db0.facts)], .row (flat (tSl tInt).own out3)]) _ (0, ([] : (List (List Int)))) (w0 2) ⟨rfl, L2_⟩ ?_
  rintro _ ⟨t_1, out3⟩ ⟨rfl, L2_⟩
  refine T_fact (len_sl (T := tFact) (.tmp 9) rfl) (fun hl2 => ?_)
  refine sr ?_
  refine pv tb 1 rfl ?_
  refine TO_nil ?_
  refine T_seq ?_
  refine T_cond (t := decide ((t_1 : Int) < (db0.facts.length : Int))) rfl (fun d2 => ?_) (fun d2 => ?_)
  ·replace d2 := of_decide_eq_true d2
   obtain ⟨x_t_1, hx_t_1⟩ : ∃ v, (db0.facts)[t_1]? = some v := ⟨_, List.getElem?_eq_getElem (by omega)⟩
   obtain ⟨C2_, H, K2_⟩ := forS_step L2_ hx_t_1
   rw [hb2] at H
   refine T_skip ?_
   refine T_seq ?_
   refine T_block ?_
   refine sr ?_
   refine pv tb 1 rfl ?_
   refine Tp rfl rfl (pur_ixT (T := tFact) sl46 rfl rfl rfl hx_t_1 rfl) rfl ?_
   refine Tp rfl rfl (pur_ldTK (T := tFact) (i := t_1) (off := 0) rfl agg65 rfl rfl hx_t_1 (by decide) rfl) rfl ?_
   refine TO_cons rfl (TOp_alloc zero65 rfl rfl ?_)
   refine pv tb 1 rfl ?_
   refine TO_cons rfl (TOp_storeB sz65 rfl rfl rfl rfl rfl rfl rfl (by decide) (lb rfl) rfl ?_)
   refine TO_st (σ' := [.box [(sl tRelation db0.relations), (sl tFact db0.facts)], .row (flat (tSl tInt).own out3), .box [(intA x_t_1.relation), (sl tInt x_t_1.values)]]) rfl ?_
   refine TO_nil ?_
   refine sr ?_
   refine pv tb 1 rfl ?_
   refine Tp rfl rfl (pur_len_m sl53 rfl rfl) rfl ?_
   refine TO_fact (len_m (.tmp 3) rfl) (fun hl_3 => ?_)
   refine Tp rfl rfl (pur_sub rfl rfl rfl (fits64 (by omega) (by omega))) rfl ?_
   refine pv tb 1 rfl ?_
   refine TO_nil ?_
   obtain ⟨t36_4, J_4, H_5⟩ := bind_inv H
   refine T_cutX (fun x => t36_4 = x) (fun (t36_4 : Bool) => [(1, (.b 0 0)), (3, (.m [1] 0 out3.length (tSl tInt).k)), (4, (intA (t_1 : Int))), (6, (intA ((out3.length : Int) - 1))), (9, (sl tFact db0.facts)), (10, (intA (db0.facts.length : Int))), (11, (intA (t_1 : Int))), (36, (boolA t36_4))]) (fun (t36_4 : Bool) => [.box [(sl tRelation db0.relations), (sl tFact db0.facts)], .row (flat (tSl tInt).own out3)]) ?_ ?_
   ·replace H := J_4
    refine T_regionD mixed (by kernel_rfl) ?_
    refine pq tb 3 rfl ?_
    refine TQ_split (t := decide (0 ≤ ((out3.length : Int) - 1))) 21 rfl (fun g_6 => ?_) (fun g_6 => ?_)
    ·replace H := cond_t g_6 H
     obtain ⟨v_7, h_8, H⟩ := bind_inv H
     obtain ⟨n_9, hz_10, hv_11⟩ := getI_inv h_8
     refine pq tb 6 rfl ?_
     refine TQ_on rfl rfl (by decide) rfl (pur_ixM (T := (tSl tInt)) sl53 rfl rfl hz_10 hv_11 rfl) rfl ?_
     refine TQ_on rfl rfl (by decide) rfl (pur_ldE (f := (tSl tInt).own) (k := (tSl tInt).k) (i := n_9) (off := 0) (tSl tInt).lenO rfl one23 rfl rfl rfl hv_11 rfl cellVal_sl) rfl ?_
     obtain ⟨v_12, h_13, H⟩ := bind_inv H
     obtain ⟨n_14, hz_15, hv_16⟩ := getI_inv h_13
     refine TQ_on rfl rfl (by decide) rfl (pur_ixM (T := tInt) sl23 rfl rfl hz_15 hv_16 rfl) rfl ?_
     refine TQ_on rfl rfl (by decide) rfl (pur_ldE (f := tInt.own) (k := tInt.k) (i := n_14) (off := 0) tInt.lenO rfl one3 rfl (rowAt_el (f := (tSl tInt).own) (i := n_9) (off := 0) (tSl tInt).lenO rfl hv_11 rfl) rfl hv_16 rfl rfl) rfl ?_
     obtain ⟨v_17, h_18, H⟩ := bind_inv H
     obtain ⟨n_19, hz_20, hv_21⟩ := getI_inv h_18
     refine TQ_on rfl rfl (by decide) rfl (pur_ixT (T := tFact) sl46 rfl rfl hz_20 hv_21 rfl) rfl ?_
     refine TQ_on rfl rfl (by decide) rfl (pur_ldTK (T := tFact) (i := n_19) (off := 0) rfl agg65 rfl rfl hv_21 (by decide) rfl) rfl ?_
     obtain ⟨r_22, h_23, H⟩ := bind_inv H
     refine pq tb 1 rfl ?_
     refine TQ_onV rfl rfl (by decide) rfl (call_static ent167 rfl) (m_impl_sameKey_ok _ _ _ _ h_23) rfl rfl ?_
     refine pq tb 1 rfl ?_
     refine TQ_nil ?_
     exact joined r_22 (w0 2) (some_inj H).symm
    ·replace H := cond_f g_6 H
     refine pq tb 15 rfl ?_
     refine TQ_nil ?_
     exact joined false (w0 2) (some_inj H).symm
   ·rintro _ rfl
    replace H := H_5
    refine T_cond (t := t36_4) rfl (fun c_24 => ?_) (fun c_24 => ?_)
    ·replace H := cond_t c_24 H
     refine T_region ?_
     obtain ⟨v_25, h_26, H⟩ := bind_inv H
     obtain ⟨n_27, hz_28, hv_29⟩ := getI_inv h_26
     refine pv tb 4 rfl ?_
     refine Tp rfl rfl (pur_ixM (T := (tSl tInt)) sl53 rfl rfl hz_28 hv_29 rfl) rfl ?_
     refine Tp rfl rfl (pur_ldE (f := (tSl tInt).own) (k := (tSl tInt).k) (i := n_27) (off := 0) (tSl tInt).lenO rfl one23 rfl rfl rfl hv_29 rfl cellVal_sl) rfl ?_
     refine pv tb 1 rfl ?_
     refine TO_cons rfl (TOp_lit (nn := 1) (k := 1) sl23 zero3 rfl rfl rfl rfl (by decide) ?_)
     refine TO_st (σ' := [.box [(sl tRelation db0.relations), (sl tFact db0.facts)], .row (flat (tSl tInt).own out3), .row (flat tInt.enc ([(t_1 : Int)] : (List Int)))]) rfl ?_
     refine TO_boxify 1 rfl (lb rfl) ?_
     refine TO_detach (k := tInt.k) (xs := flat (tSl tInt).own out3) (ys := flat tInt.own v_25) (E' := [(1, (.b 0 0)), (3, (.m [1] 0 out3.length (tSl tInt).k)), (9, (sl tFact db0.facts)), (10, (intA (db0.facts.length : Int))), (11, (intA (t_1 : Int))), (37, (.m [1] 0 out3.length (tSl tInt).k)), (38, (intA ((out3.length : Int) - 1))), (42, (.m [3] 0 v_25.length tInt.k)), (44, (.m [2] 0 ([(t_1 : Int)] : (List Int)).length tInt.k))]) 1 (n_27 * (tSl tInt).k + 0) 42 rfl (flat_at' (tSl tInt).lenO hv_29 rfl) rfl (lb rfl) (nms_box rfl (nms_box namesL_own (nms_row nms_nil))) ⟨.inr ⟨rfl, rfl⟩, .inr ⟨rfl, rfl⟩, .inr ⟨rfl, rfl⟩, .inr ⟨rfl, rfl⟩, .inr ⟨rfl, rfl⟩, .inr ⟨rfl, rfl⟩, .inr ⟨rfl, rfl⟩, .inl ⟨rfl, rfl⟩, .inr ⟨rfl, rfl⟩, trivial⟩ ?_
     refine TO_st (σ' := [.box [(sl tRelation db0.relations), (sl tFact db0.facts)], .box (spl (flat (tSl tInt).own out3) (n_27 * (tSl tInt).k) [.j]), .row (flat tInt.enc ([(t_1 : Int)] : (List Int))), .row (flat tInt.own v_25)]) (by rw [open_T (T := (tSl tInt)) hv_29 (by decide)]; rfl) ?_
     obtain ⟨us_30, h_31, H⟩ := bind_inv H
     refine TO_cons rfl (TOp_appY (T := tInt) (f := tInt.own) (xs := v_25) (ys := ([(t_1 : Int)] : (List Int))) tInt.lenO sl23 zero3 rfl bytes3 (by decide) rfl rfl rfl rfl (src_mT (f := tInt.own) tInt.lenO rfl rfl (flat_cell tInt _)) (flat_cell tInt _) h_31 ?_)
     refine toe [(1, (.b 0 0)), (3, (.m [1] 0 out3.length (tSl tInt).k)), (9, (sl tFact db0.facts)), (10, (intA (db0.facts.length : Int))), (11, (intA (t_1 : Int))), (37, (.m [1] 0 out3.length (tSl tInt).k)), (38, (intA ((out3.length : Int) - 1))), (44, (.m [2] 0 ([(t_1 : Int)] : (List Int)).length tInt.k)), (45, (.m [4] 0 us_30.length tInt.k))] rfl ?_
     refine TO_st (σ' := [.box [(sl tRelation db0.relations), (sl tFact db0.facts)], .box (spl (flat (tSl tInt).own out3) (n_27 * (tSl tInt).k) [.j]), .row (flat tInt.enc ([(t_1 : Int)] : (List Int))), .dead, .row (flat tInt.own us_30)]) rfl ?_
     refine Tp rfl rfl (pur_ixM (T := (tSl tInt)) sl53 rfl rfl hz_28 hv_29 rfl) rfl ?_
     refine TO_cons rfl (TOp_setH (T := (tSl tInt)) (i := n_27) (off := 0) (xs := out3) (v := v_25) (zs := [.j]) sz23 (by decide) rfl rfl rfl rfl rfl rfl hv_29 rfl rfl (lb rfl) rfl ?_)
     refine toe [(1, (.b 0 0)), (3, (.m [1] 0 out3.length (tSl tInt).k)), (9, (sl tFact db0.facts)), (10, (intA (db0.facts.length : Int))), (11, (intA (t_1 : Int))), (37, (.m [1] 0 out3.length (tSl tInt).k)), (38, (intA ((out3.length : Int) - 1))), (44, (.m [2] 0 ([(t_1 : Int)] : (List Int)).length tInt.k))] rfl ?_
     refine TO_st (σ' := [.box [(sl tRelation db0.relations), (sl tFact db0.facts)], .box (spl (flat (tSl tInt).own out3) (n_27 * (tSl tInt).k) [(.m [4] 0 us_30.length tInt.k)]), .row (flat tInt.enc ([(t_1 : Int)] : (List Int))), .dead, .row (flat tInt.own us_30)]) rfl ?_
     refine TO_absorbS (T := (tSl tInt)) (i := n_27) (xs := out3) (v := v_25) 1 0 4 rfl hv_29 rfl rfl rfl (by decide) tInt.pos (flat_len tInt.lenO _) (lb rfl) (lb rfl) rfl (nms_box rfl (nms_box (namesL_spl namesL_own rfl) (nms_row (nms_dead (nms_row nms_nil))))) ?_
     refine TO_st (σ' := [.box [(sl tRelation db0.relations), (sl tFact db0.facts)], .box (spl (flat (tSl tInt).own out3) (n_27 * (tSl tInt).k) [.o tInt.k (flat tInt.own us_30)]), .row (flat tInt.enc ([(t_1 : Int)] : (List Int))), .dead, .dead]) rfl ?_
     refine TO_rowifyS (T := (tSl tInt)) (i := n_27) (xs := out3) 1 us_30 hz_28 rfl hv_29 rfl (lb rfl) ?_
     refine TO_env (E' := [(1, (.b 0 0)), (3, (.m [1] 0 (out3.set (((out3.length : Int) - 1)).toNat us_30).length (tSl tInt).k)), (9, (sl tFact db0.facts)), (10, (intA (db0.facts.length : Int))), (11, (intA (t_1 : Int))), (37, (.m [1] 0 (out3.set (((out3.length : Int) - 1)).toNat us_30).length (tSl tInt).k)), (38, (intA ((out3.length : Int) - 1))), (44, (.m [2] 0 ([(t_1 : Int)] : (List Int)).length tInt.k))]) ⟨rfl, (congrArg (fun q => A.m [1] 0 q (tSl tInt).k) (List.length_set ..).symm), rfl, rfl, rfl, (congrArg (fun q => A.m [1] 0 q (tSl tInt).k) (List.length_set ..).symm), rfl, rfl, trivial⟩ ?_
     refine TO_st (σ' := [.box [(sl tRelation db0.relations), (sl tFact db0.facts)], .row (flat (tSl tInt).own (out3.set (((out3.length : Int) - 1)).toNat us_30)), .row (flat tInt.enc ([(t_1 : Int)] : (List Int))), .dead, .dead]) rfl ?_
     refine TO_nil ?_
     refine T_region ?_
     refine Tp rfl rfl (pur_add rfl rfl rfl (fits64 (by omega) (by omega))) rfl ?_
     refine pv tb 1 rfl ?_
     refine TO_nil ?_
     obtain rfl := some_inj H
     exact again (db0.facts.length - (t_1 + 1)) (t_1 + 1, (out3.set (((out3.length : Int) - 1)).toNat us_30)) (by omega) (w0 2) ⟨rfl, K2_⟩
    ·replace H := cond_f c_24 H
     refine T_region ?_
     refine pv tb 2 rfl ?_
     refine TO_cons rfl (TOp_lit (nn := 1) (k := 1) sl23 zero3 rfl rfl rfl rfl (by decide) ?_)
     refine TO_st (σ' := [.box [(sl tRelation db0.relations), (sl tFact db0.facts)], .row (flat (tSl tInt).own out3), .row (flat tInt.enc ([(t_1 : Int)] : (List Int)))]) rfl ?_
     refine TO_cons rfl (TOp_litB (nn := 1) (k := 1) sl53 zero23 rfl rfl rfl rfl (by decide) ?_)
     refine TO_st (σ' := [.box [(sl tRelation db0.relations), (sl tFact db0.facts)], .row (flat (tSl tInt).own out3), .row (flat tInt.enc ([(t_1 : Int)] : (List Int))), .box [(.m [2] 0 ([(t_1 : Int)] : (List Int)).length tInt.k)]]) rfl ?_
     refine TO_boxify 1 rfl (lb rfl) ?_
     obtain ⟨us_32, h_33, H⟩ := bind_inv H
     refine TO_cons rfl (TOp_appB (T := (tSl tInt)) (xs := out3) (v := ([(t_1 : Int)] : (List Int))) sl53 zero23 rfl bytes23 (by decide) rfl rfl rfl rfl rfl rfl rfl rfl h_33 (lb rfl) ?_)
     refine toe [(1, (.b 0 0)), (4, (intA (t_1 : Int))), (6, (intA ((out3.length : Int) - 1))), (9, (sl tFact db0.facts)), (10, (intA (db0.facts.length : Int))), (11, (intA (t_1 : Int))), (36, (boolA t36_4)), (48, (intA (t_1 : Int))), (51, .m [4] 0 (out3.length + 1) (tSl tInt).k)] rfl ?_
     refine TO_st (σ' := [.box [(sl tRelation db0.relations), (sl tFact db0.facts)], .dead, .row (flat tInt.enc ([(t_1 : Int)] : (List Int))), .box [(.m [2] 0 ([(t_1 : Int)] : (List Int)).length tInt.k)], .box (flat (tSl tInt).own out3 ++ [(.m [2] 0 ([(t_1 : Int)] : (List Int)).length tInt.k)])]) rfl ?_
     refine TO_absorbA (pr := flat (tSl tInt).own out3) 4 0 2 rfl rfl rfl (by decide) tInt.pos (flat_len tInt.len _) (lb rfl) (lb rfl) rfl (nms_box rfl (nms_dead (nms_row (nms_box rfl (nms_box (namesA namesL_own rfl) nms_nil))))) ?_
     refine TO_st (σ' := [.box [(sl tRelation db0.relations), (sl tFact db0.facts)], .dead, .dead, .box [(.m [2] 0 ([(t_1 : Int)] : (List Int)).length tInt.k)], .box (flat (tSl tInt).own out3 ++ [.o tInt.k (flat tInt.enc ([(t_1 : Int)] : (List Int)))])]) rfl ?_
     refine TO_rowifyT (T := (tSl tInt)) (xs := out3) (v := ([(t_1 : Int)] : (List Int))) 4 rfl rfl h_33 (lb rfl) ?_
     refine TO_st (σ' := [.box [(sl tRelation db0.relations), (sl tFact db0.facts)], .dead, .dead, .box [(.m [2] 0 ([(t_1 : Int)] : (List Int)).length tInt.k)], .row (flat (tSl tInt).own us_32)]) rfl ?_
     refine TO_move 1 4 (by decide) (lb rfl) rfl rfl (lb rfl) ?_
     refine TO_env (E' := [(1, (.b 0 0)), (4, (intA (t_1 : Int))), (6, (intA ((out3.length : Int) - 1))), (9, (sl tFact db0.facts)), (10, (intA (db0.facts.length : Int))), (11, (intA (t_1 : Int))), (36, (boolA t36_4)), (48, (intA (t_1 : Int))), (51, (.m [1] 0 us_32.length (tSl tInt).k))]) ⟨rfl, rfl, rfl, rfl, rfl, rfl, rfl, rfl, (congrArg (fun q => A.m [1] 0 q (tSl tInt).k) (app_len h_33)), trivial⟩ ?_
     refine TO_kill 3 (lb rfl) ?_
     refine TO_st (σ' := [.box [(sl tRelation db0.relations), (sl tFact db0.facts)], .row (flat (tSl tInt).own us_32), .dead, .dead, .dead]) rfl ?_
     refine pv tb 1 rfl ?_
     refine TO_nil ?_
     refine T_region ?_
     refine Tp rfl rfl (pur_add rfl rfl rfl (fits64 (by omega) (by omega))) rfl ?_
     refine pv tb 1 rfl ?_
     refine TO_nil ?_
     obtain rfl := some_inj H
     exact again (db0.facts.length - (t_1 + 1)) (t_1 + 1, us_32) (by omega) (w0 2) ⟨rfl, K2_⟩
  ·replace d2 := of_decide_eq_false d2
   obtain rfl := forS_end L2_ (by omega)
   refine T_exit ?_
   refine then_exit ?_
   refine then_exit ?_
   refine block_exit ?_
   replace H := N2_
   refine sr ?_
   refine pv tb 2 rfl ?_
   refine TO_nil ?_
   refine T_ret ?_
   obtain rfl := some_inj H
   exact end_pick (.tmp .nil) rfl [1] (by decide) rfl rfl rfl rfl rfl rfl
theorem m_impl_blocks_ok (db0 : Database) (r : (List (List Int))) (H : m_impl_blocks db0 = some r) : FnV prg 118 [(.g (tDatabase.enc db0))] (sl (tSl tInt) r) := (m_impl_blocks_own db0 r H).frz (frzT (T := (tSl tInt)) rfl)

set_option maxHeartbeats 1000000 in
theorem m_impl_Blocks_own (db0 : Database) (r : (List (List Int))) (H : m_impl_Blocks db0 = some r) : FnO prg 45 [(.g (tDatabase.enc db0))] (.m [0] 0 r.length (tSl tInt).k) [.row (flat (tSl tInt).own r)] := by
  unfold m_impl_Blocks at H
  refine fnO_of_T Try.func45 rfl rfl (Nat.le_of_ble_eq_true rfl) ?_
  refine te [(0, (.g (tDatabase.enc db0)))] rfl ?_
  refine sr ?_
  refine TO_cons rfl (TOp_box rfl (boxAll rfl) rfl rfl ?_)
  refine pv tb 1 rfl ?_
  refine TO_nil ?_
  refine T_seq ?_
  refine sr ?_
  obtain ⟨r_1, h_2, H⟩ := bind_inv H
  refine pv tb 1 rfl ?_
  refine TO_cons rfl (TOp_callV (call_static ent117 rfl) (m_impl_IsValidDatabase_ok _ _ h_2) rfl rfl rfl ?_)
  refine pv tb 1 rfl ?_
  refine TO_nil ?_
  refine T_cond (t := (!r_1)) rfl (fun c_3 => ?_) (fun c_3 => ?_)
  ·replace H := cond_t c_3 H
   refine sr ?_
   refine pv tb 1 rfl ?_
   refine TO_nil ?_
   refine T_row0 ?_
   refine T_envL (E' := [(2, (.m [1] 0 ([] : (List (List Int))).length (tSl tInt).k))]) ⟨leM, trivial⟩ ?_
   refine T_st (σ' := [.box [(sl tRelation db0.relations), (sl tFact db0.facts)], .row (flat (tSl tInt).own ([] : (List (List Int))))]) rfl ?_
   refine T_ret ?_
   refine then_ret ?_
   obtain rfl := some_inj H
   exact end_pick (.tmp .nil) rfl [1] (by decide) rfl rfl rfl rfl rfl rfl
  ·replace H := cond_f c_3 H
   refine T_skip ?_
   refine sr ?_
   obtain ⟨r_4, h_5, H⟩ := bind_inv H
   refine pv tb 1 rfl ?_
   refine TO_cons rfl (TOp_callO (call_static ent118 rfl) rfl (m_impl_blocks_own _ _ h_5) rfl rfl rfl ?_)
   refine toe [(1, (.b 0 0)), (6, (.g (tDatabase.enc db0))), (7, (.m [1] 0 r_4.length (tSl tInt).k))] rfl ?_
   refine TO_st (σ' := [.box [(sl tRelation db0.relations), (sl tFact db0.facts)], .row (flat (tSl tInt).own r_4)]) rfl ?_
   refine pv tb 1 rfl ?_
   refine TO_nil ?_
   refine T_ret ?_
   obtain rfl := some_inj H
   exact end_pick (.tmp .nil) rfl [1] (by decide) rfl rfl rfl rfl rfl rfl
theorem m_impl_Blocks_ok (db0 : Database) (r : (List (List Int))) (H : m_impl_Blocks db0 = some r) : FnV prg 45 [(.g (tDatabase.enc db0))] (sl (tSl tInt) r) := (m_impl_Blocks_own db0 r H).frz (frzT (T := (tSl tInt)) rfl)

set_option maxHeartbeats 1000000 in
theorem m_slices_Index_Sint_int_ok (s0 : (List Int)) (v1 : Int) (r : Int) (H : m_slices_Index_Sint_int s0 v1 = some r) : FnV prg 177 [(sl tInt s0), (intA v1)] (intA r) := by
  unfold m_slices_Index_Sint_int at H
  refine fnV_of_T Try.func177 rfl rfl (Nat.le_of_ble_eq_true rfl) ?_
  refine te [(0, (sl tInt s0)), (1, (intA v1))] rfl ?_
  refine sr ?_
  refine pv tb 1 rfl ?_
  refine TO_nil ?_
  refine T_seq ?_
  refine sr ?_
  refine pv tb 1 rfl ?_
  refine Tp rfl rfl (pur_lenT (T := tInt) sl23 rfl rfl) rfl ?_
  refine pv tb 1 rfl ?_
  refine TO_nil ?_
  obtain ⟨O2_, L2_, N2_⟩ := bind_inv H
  clear H
  obtain ⟨B2_, hb2, L2_⟩ := gen_forL L2_
  refine T_block ?_
  refine T_loopX (fun k => fun (t_1 : Nat) => k = s0.length - t_1 ∧ forL B2_ (s0.drop t_1) (t_1 : Int) () = some O2_) (fun (t_1 : Nat) => [(0, (sl tInt s0)), (1, (intA v1)), (7, (intA (s0.length : Int))), (8, (intA (t_1 : Int)))]) (fun (t_1 : Nat) => []) _ (0 : Nat) (w0 0) ⟨rfl, L2_⟩ ?_
  rintro _ t_1 ⟨rfl, L2_⟩
  refine T_fact (len_sl (T := tInt) (.tmp 0) rfl) (fun hl2 => ?_)
  refine sr ?_
  refine pv tb 1 rfl ?_
  refine TO_nil ?_
  refine T_seq ?_
  refine T_cond (t := decide ((t_1 : Int) < (s0.length : Int))) rfl (fun d2 => ?_) (fun d2 => ?_)
  ·replace d2 := of_decide_eq_true d2
   obtain ⟨x_t_1, hx_t_1⟩ : ∃ v, (s0)[t_1]? = some v := ⟨_, List.getElem?_eq_getElem (by omega)⟩
   obtain ⟨C2_, H, K2_⟩ := forL_step L2_ hx_t_1
   rw [hb2] at H
   refine T_skip ?_
   refine T_seq ?_
   refine T_block ?_
   refine sr ?_
   refine pv tb 2 rfl ?_
   refine TO_nil ?_
   refine sr ?_
   refine pv tb 3 rfl ?_
   refine Tp rfl rfl (pur_ixT (T := tInt) sl23 rfl rfl rfl hx_t_1 rfl) rfl ?_
   refine Tp rfl rfl (pur_ldT (T := tInt) (i := t_1) (off := 0) rfl one3 rfl rfl hx_t_1 rfl) rfl ?_
   refine pv tb 1 rfl ?_
   refine TO_nil ?_
   refine T_cond (t := decide (v1 = x_t_1)) rfl (fun c_3 => ?_) (fun c_3 => ?_)
   ·replace H := cond_t c_3 H
    refine sr ?_
    refine pv tb 2 rfl ?_
    refine TO_nil ?_
    refine T_ret ?_
    refine block_ret ?_
    refine then_ret ?_
    refine then_ret ?_
    refine block_ret ?_
    refine then_ret ?_
    obtain rfl := some_inj H
    obtain rfl := some_inj K2_
    replace H := onS_r N2_
    obtain rfl := some_inj H
    refine end_ret (.tmp .nil) rfl rfl ⟨?_, rfl⟩
    rfl
   ·replace H := cond_f c_3 H
    refine T_skip ?_
    refine T_region ?_
    refine Tp rfl rfl (pur_add rfl rfl rfl (fits64 (by omega) (by omega))) rfl ?_
    refine pv tb 1 rfl ?_
    refine TO_nil ?_
    obtain rfl := some_inj H
    exact again (s0.length - (t_1 + 1)) (t_1 + 1) (by omega) (w0 0) ⟨rfl, K2_⟩
  ·replace d2 := of_decide_eq_false d2
   obtain rfl := forL_end L2_ (by omega)
   refine T_exit ?_
   refine then_exit ?_
   refine then_exit ?_
   refine block_exit ?_
   replace H := onS_l N2_
   refine sr ?_
   refine pv tb 1 rfl ?_
   refine TO_nil ?_
   refine T_ret ?_
   obtain rfl := some_inj H
   refine end_ret (.tmp .nil) rfl rfl ⟨?_, rfl⟩
   rfl

set_option maxHeartbeats 1000000 in
theorem m_slices_Contains_Sint_int_ok (s0 : (List Int)) (v1 : Int) (r : Bool) (H : m_slices_Contains_Sint_int s0 v1 = some r) : FnV prg 157 [(sl tInt s0), (intA v1)] (boolA r) := by
  unfold m_slices_Contains_Sint_int at H
  refine fnV_of_T Try.func157 rfl rfl (Nat.le_of_ble_eq_true rfl) ?_
  refine te [(0, (sl tInt s0)), (1, (intA v1))] rfl ?_
  refine sr ?_
  refine pv tb 1 rfl ?_
  refine TO_nil ?_
  refine sr ?_
  obtain ⟨r_1, h_2, H⟩ := bind_inv H
  refine pv tb 2 rfl ?_
  refine TO_cons rfl (TOp_callV (call_static ent177 rfl) (m_slices_Index_Sint_int_ok _ _ _ h_2) rfl rfl rfl ?_)
  refine pv tb 2 rfl ?_
  refine TO_nil ?_
  refine T_ret ?_
  obtain rfl := some_inj H
  refine end_ret (.tmp .nil) rfl rfl ⟨?_, rfl⟩
  rfl

set_option maxHeartbeats 1000000 in
theorem m_impl_BlockOf_own (db0 : Database) (index1 : Int) (r : (List Int)) (H : m_impl_BlockOf db0 index1 = some r) : FnO prg 105 [(.g (tDatabase.enc db0)), (intA index1)] (.m [0] 0 r.length tInt.k) [.row (flat tInt.own r)] := by
  unfold m_impl_BlockOf at H
  refine fnO_of_T Try.func105 rfl rfl (Nat.le_of_ble_eq_true rfl) ?_
  refine te [(0, (.g (tDatabase.enc db0))), (1, (intA index1))] rfl ?_
  refine sr ?_
  refine TO_cons rfl (TOp_box rfl (boxAll rfl) rfl rfl ?_)
  refine pv tb 1 rfl ?_
  refine TO_nil ?_
  refine T_seq ?_
  refine sr ?_
  obtain ⟨r_1, h_2, H⟩ := bind_inv H
  refine pv tb 1 rfl ?_
  refine TO_cons rfl (TOp_callO (call_static ent45 rfl) rfl (m_impl_Blocks_own _ _ h_2) rfl rfl rfl ?_)
  refine toe [(1, (intA index1)), (2, (.b 0 0)), (7, (.g (tDatabase.enc db0))), (8, (.m [1] 0 r_1.length (tSl tInt).k))] rfl ?_
  refine TO_st (σ' := [.box [(sl tRelation db0.relations), (sl tFact db0.facts)], .row (flat (tSl tInt).own r_1)]) rfl ?_
  refine Tp rfl rfl (pur_len_m sl53 rfl rfl) rfl ?_
  refine pv tb 1 rfl ?_
  refine TO_nil ?_
  obtain ⟨O4_, L4_, N4_⟩ := bind_inv H
  clear H
  obtain ⟨B4_, hb4, L4_⟩ := gen_forL L4_
  refine T_block ?_
  refine T_st (σ' := [.box [(sl tRelation db0.relations), (sl tFact db0.facts)], .row (hideTo (0 * (tSl tInt).k) (flat (tSl tInt).own r_1))]) (by rw [Nat.zero_mul, hideTo_zero]) ?_
  refine T_loopX (fun k => fun (t_3 : Nat) => k = r_1.length - t_3 ∧ forL B4_ (r_1.drop t_3) (t_3 : Int) () = some O4_) (fun (t_3 : Nat) => [(1, (intA index1)), (8, (.m [1] 0 r_1.length (tSl tInt).k)), (9, (intA (r_1.length : Int))), (10, (intA (t_3 : Int)))]) (fun (t_3 : Nat) => [.box [(sl tRelation db0.relations), (sl tFact db0.facts)], .row (hideTo (t_3 * (tSl tInt).k) (flat (tSl tInt).own r_1))]) _ (0 : Nat) (w0 2) ⟨rfl, L4_⟩ ?_
  rintro _ t_3 ⟨rfl, L4_⟩
  refine T_fact (len_m (.tmp 8) rfl) (fun hl4 => ?_)
  refine sr ?_
  refine pv tb 1 rfl ?_
  refine TO_nil ?_
  refine T_seq ?_
  refine T_cond (t := decide ((t_3 : Int) < (r_1.length : Int))) rfl (fun d4 => ?_) (fun d4 => ?_)
  ·replace d4 := of_decide_eq_true d4
   obtain ⟨x_t_3, hx_t_3⟩ : ∃ v, (r_1)[t_3]? = some v := ⟨_, List.getElem?_eq_getElem (by omega)⟩
   obtain ⟨C4_, H, K4_⟩ := forL_step L4_ hx_t_3
   rw [hb4] at H
   refine T_skip ?_
   refine T_seq ?_
   refine T_block ?_
   refine sr ?_
   refine Tp rfl rfl (pur_ixM (T := (tSl tInt)) sl53 rfl rfl rfl hx_t_3 rfl) rfl ?_
   refine Tp rfl rfl (pur_ldG (T := (tSl tInt)) (i := t_3) (off := 0) rfl one23 rfl rfl rfl (Nat.le_refl _) hx_t_3 rfl cellVal_sl) rfl ?_
   refine TO_gh (E' := [(1, (intA index1)), (8, (.m [1] 0 r_1.length (tSl tInt).k)), (9, (intA (r_1.length : Int))), (10, (intA (t_3 : Int))), (13, (.m [2] 0 x_t_3.length tInt.k))]) (Ghost.detT (T := (tSl tInt)) (T2 := tInt) (s := 1) (c := t_3 * (tSl tInt).k) (i := t_3) (off := 0) (xs := r_1) (v := x_t_3) (ys := x_t_3) rfl hx_t_3 (by omega) rfl (by exact lb rfl) ⟨.r _, .r _, .r _, .r _, .m _ _ _, trivial⟩) ?_
   refine TO_st (σ' := [.box [(sl tRelation db0.relations), (sl tFact db0.facts)], .row (hideTo (t_3 * (tSl tInt).k + 0 + 1) (flat (tSl tInt).own r_1)), .row (flat tInt.own x_t_3)]) rfl ?_
   refine pv tb 1 rfl ?_
   refine TO_nil ?_
   refine sr ?_
   obtain ⟨r_5, h_6, H⟩ := bind_inv H
   refine pv tb 2 rfl ?_
   refine TO_cons rfl (TOp_callB (call_static ent157 rfl) (frz_cons (frzT (T := tInt) rfl) (frz_cons (frz_loose rfl) frz_nil)).1 (frz_cons (frzT (T := tInt) rfl) (frz_cons (frz_loose rfl) frz_nil)).2 (m_slices_Contains_Sint_int_ok _ _ _ h_6) rfl ?_)
   refine TO_nil ?_
   refine T_cond (t := r_5) rfl (fun c_7 => ?_) (fun c_7 => ?_)
   ·replace H := cond_t c_7 H
    refine sr ?_
    refine pv tb 2 rfl ?_
    refine TO_nil ?_
    refine T_ret ?_
    refine block_ret ?_
    refine then_ret ?_
    refine then_ret ?_
    refine block_ret ?_
    refine then_ret ?_
    obtain rfl := some_inj H
    obtain rfl := some_inj K4_
    replace H := onS_r N4_
    obtain rfl := some_inj H
    exact end_pick (.tmp .nil) rfl [2] (by decide) rfl rfl rfl rfl rfl rfl
   ·replace H := cond_f c_7 H
    refine T_skip ?_
    refine T_gh (Ghost.hide (s := 1) (c := t_3 * (tSl tInt).k + 0 + 1) (c' := (t_3 + 1) * (tSl tInt).k) (hide_le1 (d := 0) (by decide)) rfl (by exact lb rfl)) ?_
    refine T_st (σ' := [.box [(sl tRelation db0.relations), (sl tFact db0.facts)], .row (hideTo ((t_3 + 1) * (tSl tInt).k) (flat (tSl tInt).own r_1)), .row (flat tInt.own x_t_3)]) rfl ?_
    refine T_region ?_
    refine Tp rfl rfl (pur_add rfl rfl rfl (fits64 (by omega) (by omega))) rfl ?_
    refine pv tb 1 rfl ?_
    refine TO_nil ?_
    obtain rfl := some_inj H
    exact again (r_1.length - (t_3 + 1)) (t_3 + 1) (by omega) (w0 2) ⟨rfl, K4_⟩
  ·replace d4 := of_decide_eq_false d4
   obtain rfl := forL_end L4_ (by omega)
   refine T_exit ?_
   refine then_exit ?_
   refine then_exit ?_
   refine block_exit ?_
   refine T_kill 1 (lb rfl) ?_
   refine T_st (σ' := [.box [(sl tRelation db0.relations), (sl tFact db0.facts)], .dead]) rfl ?_
   replace H := onS_l N4_
   refine sr ?_
   refine pv tb 1 rfl ?_
   refine TO_nil ?_
   refine T_row0 ?_
   refine T_envL (E' := [(4, (.m [2] 0 ([] : (List Int)).length tInt.k))]) ⟨leM, trivial⟩ ?_
   refine T_st (σ' := [.box [(sl tRelation db0.relations), (sl tFact db0.facts)], .dead, .row (flat tInt.own ([] : (List Int)))]) rfl ?_
   refine T_ret ?_
   obtain rfl := some_inj H
   exact end_pick (.tmp .nil) rfl [2] (by decide) rfl rfl rfl rfl rfl rfl
theorem m_impl_BlockOf_ok (db0 : Database) (index1 : Int) (r : (List Int)) (H : m_impl_BlockOf db0 index1 = some r) : FnV prg 105 [(.g (tDatabase.enc db0)), (intA index1)] (sl tInt r) := (m_impl_BlockOf_own db0 index1 r H).frz (frzT (T := tInt) rfl)

set_option maxHeartbeats 1000000 in
theorem m_impl_copyDatabase_own (db0 : Database) (r : Database) (H : m_impl_copyDatabase db0 = some r) : FnO prg 107 [(.g (tDatabase.enc db0))] (.g [(.m [0] 0 r.relations.length tRelation.k), (.m [1] 0 r.facts.length tFact.k)]) [.row (flat tRelation.own r.relations), .row (flat tFact.own r.facts)] := by
  unfold m_impl_copyDatabase at H
  refine fnO_of_T Try.func107 rfl rfl (Nat.le_of_ble_eq_true rfl) ?_
  refine te [(0, (.g (tDatabase.enc db0)))] rfl ?_
  refine sr ?_
  refine TO_cons rfl (TOp_box rfl (boxAll rfl) rfl rfl ?_)
  refine TO_cons rfl (TOp_alloc zero48 rfl rfl ?_)
  refine TO_nil ?_
  refine sr ?_
  refine TO_cons rfl (TOp_lit (nn := 0) (k := 3) sl45 zero130 rfl rfl rfl rfl (by decide) ?_)
  refine TO_st (σ' := [.box [(sl tRelation db0.relations), (sl tFact db0.facts)], .box [.n, .n], .row (flat tRelation.enc ([] : (List Relation)))]) rfl ?_
  obtain ⟨us_1, h_2, H⟩ := bind_inv H
  refine pv tb 2 rfl ?_
  refine TO_cons rfl (TOp_appZ (T := tRelation) (f := tRelation.enc) (xs := ([] : (List Relation))) (ys := db0.relations) tRelation.len sl45 zero130 rfl bytes130 (by decide) rfl rfl rfl rfl (src_T (T := tRelation) rfl) (flat_cell tRelation _) h_2 (lb rfl) ?_)
  refine toe [(1, (.b 0 0)), (2, (.b 1 0)), (7, (.b 0 0)), (8, (sl tRelation db0.relations)), (9, (.m [2] 0 us_1.length tRelation.k))] rfl ?_
  refine TO_st (σ' := [.box [(sl tRelation db0.relations), (sl tFact db0.facts)], .box [.n, .n], .row (flat tRelation.enc us_1), .dead]) rfl ?_
  refine TO_cons rfl (TOp_lit (nn := 0) (k := 2) sl46 zero65 rfl rfl rfl rfl (by decide) ?_)
  refine TO_st (σ' := [.box [(sl tRelation db0.relations), (sl tFact db0.facts)], .box [.n, .n], .row (flat tRelation.enc us_1), .dead, .row (flat tFact.own ([] : (List Fact)))]) rfl ?_
  refine Tp rfl rfl (pur_build bld48 rfl rfl) rfl ?_
  refine TO_cons rfl (TOp_alloc zero48 rfl rfl ?_)
  refine TO_cons rfl (TOp_storeB sz48 rfl rfl rfl rfl rfl rfl rfl (by decide) (lb rfl) rfl ?_)
  refine TO_st (σ' := [.box [(sl tRelation db0.relations), (sl tFact db0.facts)], .box [.n, .n], .row (flat tRelation.enc us_1), .dead, .row (flat tFact.own ([] : (List Fact))), .box [(.m [2] 0 us_1.length tRelation.k), (.m [4] 0 ([] : (List Fact)).length tFact.k)]]) rfl ?_
  refine TO_nil ?_
  refine T_seq ?_
  refine sr ?_
  refine pv tb 2 rfl ?_
  refine Tp rfl rfl (pur_lenT (T := tFact) sl46 rfl rfl) rfl ?_
  refine pv tb 1 rfl ?_
  refine TO_nil ?_
  obtain ⟨O4_, L4_, N4_⟩ := bind_inv H
  clear H
  obtain ⟨B4_, hb4, L4_⟩ := gen_forS L4_
  refine T_block ?_
  refine T_loopX (fun k => fun (⟨t_3, box5_facts⟩ : Nat × (List Fact)) => k = db0.facts.length - t_3 ∧ forS B4_ (db0.facts.drop t_3) (t_3 : Int) box5_facts = some O4_) (fun (⟨t_3, box5_facts⟩ : Nat × (List Fact)) => [(2, (.b 1 0)), (3, (.b 5 0)), (13, (sl tFact db0.facts)), (14, (intA (db0.facts.length : Int))), (15, (intA (t_3 : Int)))]) (fun (⟨t_3, box5_facts⟩ : Nat × (List Fact)) => [.box [(sl tRelation db0.relations), (sl tFact db0.facts)], .box [.n, .n], .row (flat tRelation.enc us_1), .dead, .row (flat tFact.own box5_facts), .box [(.m [2] 0 us_1.length tRelation.k), (.m [4] 0 box5_facts.length tFact.k)]]) _ (0, ([] : (List Fact))) (w0 6) ⟨rfl, L4_⟩ ?_
  rintro _ ⟨t_3, box5_facts⟩ ⟨rfl, L4_⟩
  refine T_fact (len_sl (T := tFact) (.tmp 13) rfl) (fun hl4 => ?_)
  refine sr ?_
  refine pv tb 1 rfl ?_
  refine TO_nil ?_
  refine T_seq ?_
  refine T_cond (t := decide ((t_3 : Int) < (db0.facts.length : Int))) rfl (fun d4 => ?_) (fun d4 => ?_)
  ·replace d4 := of_decide_eq_true d4
   obtain ⟨x_t_3, hx_t_3⟩ : ∃ v, (db0.facts)[t_3]? = some v := ⟨_, List.getElem?_eq_getElem (by omega)⟩
   obtain ⟨C4_, H, K4_⟩ := forS_step L4_ hx_t_3
   rw [hb4] at H
   refine T_skip ?_
   refine T_seq ?_
   refine T_block ?_
   refine sr ?_
   refine Tp rfl rfl (pur_ixT (T := tFact) sl46 rfl rfl rfl hx_t_3 rfl) rfl ?_
   refine Tp rfl rfl (pur_ldTK (T := tFact) (i := t_3) (off := 0) rfl agg65 rfl rfl hx_t_3 (by decide) rfl) rfl ?_
   refine TO_cons rfl (TOp_alloc zero65 rfl rfl ?_)
   refine TO_cons rfl (TOp_storeB sz65 rfl rfl rfl rfl rfl rfl rfl (by decide) (lb rfl) rfl ?_)
   refine TO_st (σ' := [.box [(sl tRelation db0.relations), (sl tFact db0.facts)], .box [.n, .n], .row (flat tRelation.enc us_1), .dead, .row (flat tFact.own box5_facts), .box [(.m [2] 0 us_1.length tRelation.k), (.m [4] 0 box5_facts.length tFact.k)], .box [(intA x_t_3.relation), (sl tInt x_t_3.values)]]) rfl ?_
   refine TO_nil ?_
   obtain ⟨us_5, h_6, H⟩ := bind_inv H
   obtain ⟨us_7, h_8, H⟩ := bind_inv H
   refine T_pad ?_
   refine T_pad ?_
   refine T_pad ?_
   refine T_pad ?_
   refine T_regionPh 7 12 mixed rfl (by kernel_rfl) ?_
   refine pa tb [0, 1, 2, 3, 5, 6] 6 rfl (by kernel_rfl) rfl ?_
   refine t1 4 (by kernel_rfl) rfl rfl (TOp_lit (nn := 0) (k := 1) sl23 zero3 rfl rfl rfl rfl (by decide) ?_)
   refine tmw 7 11 (by decide) (lb rfl) rfl rfl (lb rfl) rfl ?_
   refine t1 7 (by kernel_rfl) rfl rfl (TOp_appY (T := tInt) (f := tInt.enc) (xs := ([] : (List Int))) (ys := x_t_3.values) tInt.len sl23 zero3 rfl bytes3 (by decide) rfl rfl rfl rfl (src_T (T := tInt) rfl) (flat_cell tInt _) h_6 ?_)
   refine tmw 7 12 (by decide) (lb rfl) rfl rfl (lb rfl) rfl ?_
   refine tae [(2, (.b 1 0)), (3, (.b 5 0)), (13, (sl tFact db0.facts)), (14, (intA (db0.facts.length : Int))), (15, (intA (t_3 : Int))), (20, (.m [4] 0 box5_facts.length tFact.k)), (22, (intA x_t_3.relation)), (26, (.m [7] 0 us_5.length tInt.k))] rfl ?_
   refine TA_st (σ' := [.dead, .dead, .row (flat tRelation.enc us_1), .dead, .row (flat tFact.own box5_facts), .dead, .dead, .row (flat tInt.enc us_5), .dead, .dead, .dead, .dead, .dead]) rfl ?_
   refine tf 8 rfl (pur_build bld65 rfl rfl) rfl rfl (by kernel_rfl) ?_
   refine t1 9 (by kernel_rfl) rfl rfl (TOp_ghost (E' := [(2, (.b 1 0)), (3, (.b 5 0)), (13, (sl tFact db0.facts)), (14, (intA (db0.facts.length : Int))), (15, (intA (t_3 : Int))), (20, (.m [4] 0 box5_facts.length tFact.k)), (22, (intA x_t_3.relation)), (26, (.m [7] 0 us_5.length tInt.k)), (27, (.g [(intA x_t_3.relation), (.m [7] 0 us_5.length tInt.k)]))]) (σ' := [.dead, .dead, .row (flat tRelation.enc us_1), .dead, .row (flat tFact.own box5_facts), .dead, .dead, .row (flat tInt.enc us_5), .dead, .dead, .dead]) (by exact Ghost.weak (w0 11)) (TOp_litB (nn := 1) (k := 2) sl46 zero65 rfl rfl rfl rfl (by decide) ?_))
   refine TA_st (σ' := [.dead, .dead, .row (flat tRelation.enc us_1), .dead, .row (flat tFact.own box5_facts), .dead, .dead, .row (flat tInt.enc us_5), .dead, .dead, .dead, .box [(intA x_t_3.relation), (.m [7] 0 us_5.length tInt.k)]]) rfl ?_
   refine tmw 10 4 (by decide) (lb rfl) rfl rfl (lb rfl) rfl ?_
   refine t1 10 (by kernel_rfl) rfl rfl (TOp_boxify 10 rfl (lb rfl) (TOp_appB (T := tFact) (xs := box5_facts) (v := ({ relation := x_t_3.relation, values := us_5 } : Fact)) sl46 zero65 rfl bytes65 (by decide) rfl rfl rfl rfl rfl rfl rfl rfl h_8 (lb rfl) ?_))
   refine tae [(2, (.b 1 0)), (3, (.b 5 0)), (13, (sl tFact db0.facts)), (14, (intA (db0.facts.length : Int))), (15, (intA (t_3 : Int))), (22, (intA x_t_3.relation)), (29, .m [12] 0 (box5_facts.length + 1) tFact.k)] rfl ?_
   refine TA_st (σ' := [.dead, .dead, .row (flat tRelation.enc us_1), .dead, .dead, .dead, .dead, .row (flat tInt.enc us_5), .dead, .dead, .dead, .box [(intA x_t_3.relation), (.m [7] 0 us_5.length tInt.k)], .box (flat tFact.own box5_facts ++ [(intA x_t_3.relation), (.m [7] 0 us_5.length tInt.k)])]) rfl ?_
   refine TA_absorbA (pr := flat tFact.own box5_facts) 12 1 7 rfl rfl rfl (by decide) tInt.pos (flat_len tInt.len _) (lb rfl) (lb rfl) rfl (nms_dead (nms_dead (nms_row (nms_dead (nms_dead (nms_dead (nms_dead (nms_row (nms_dead (nms_dead (nms_dead (nms_box rfl (nms_box (namesA namesL_own rfl) nms_nil))))))))))))) ?_
   refine TA_st (σ' := [.dead, .dead, .row (flat tRelation.enc us_1), .dead, .dead, .dead, .dead, .dead, .dead, .dead, .dead, .box [(intA x_t_3.relation), (.m [7] 0 us_5.length tInt.k)], .box (flat tFact.own box5_facts ++ [(intA x_t_3.relation), .o tInt.k (flat tInt.enc us_5)])]) rfl ?_
   refine TA_rowifyT (T := tFact) (xs := box5_facts) (v := ({ relation := x_t_3.relation, values := us_5 } : Fact)) 12 rfl rfl h_8 (lb rfl) ?_
   refine TA_st (σ' := [.dead, .dead, .row (flat tRelation.enc us_1), .dead, .dead, .dead, .dead, .dead, .dead, .dead, .dead, .box [(intA x_t_3.relation), (.m [7] 0 us_5.length tInt.k)], .row (flat tFact.own us_7)]) rfl ?_
   refine TA_move 10 12 (by decide) (lb rfl) rfl rfl (lb rfl) ?_
   refine TA_env (E' := [(2, (.b 1 0)), (3, (.b 5 0)), (13, (sl tFact db0.facts)), (14, (intA (db0.facts.length : Int))), (15, (intA (t_3 : Int))), (22, (intA x_t_3.relation)), (29, (.m [10] 0 us_7.length tFact.k))]) ⟨rfl, rfl, rfl, rfl, rfl, rfl, (congrArg (fun q => A.m [10] 0 q tFact.k) (app_len h_8)), trivial⟩ ?_
   refine TA_kill 11 (lb rfl) ?_
   refine TA_st (σ' := [.dead, .dead, .row (flat tRelation.enc us_1), .dead, .dead, .dead, .dead, .dead, .dead, .dead, .row (flat tFact.own us_7), .dead, .dead]) rfl ?_
   refine pa tb [11] 0 rfl (by kernel_rfl) rfl ?_
   refine TA_nil (by kernel_rfl) ?_
   refine TA_st (σ' := [.box [(sl tRelation db0.relations), (sl tFact db0.facts)], .box [.n, .n], .row (flat tRelation.enc us_1), .dead, .dead, .box [(.m [2] 0 us_1.length tRelation.k), (.m [4] 0 box5_facts.length tFact.k)], .box [(intA x_t_3.relation), (sl tInt x_t_3.values)], .dead, .dead, .dead, .row (flat tFact.own us_7), .dead, .dead]) rfl ?_
   refine tmv 4 10 (by decide) (lb rfl) rfl rfl (lb rfl) ?_
   refine TA_st (σ' := [.box [(sl tRelation db0.relations), (sl tFact db0.facts)], .box [.n, .n], .row (flat tRelation.enc us_1), .dead, .row (flat tFact.own us_7), .box [(.m [2] 0 us_1.length tRelation.k), .j], .box [(intA x_t_3.relation), (sl tInt x_t_3.values)], .dead, .dead, .dead, .dead, .dead, .dead]) rfl ?_
   refine t1 12 (by kernel_rfl) rfl rfl (TOp_storeB sz46 rfl rfl rfl rfl rfl rfl rfl (by decide) (lb rfl) rfl ?_)
   refine TA_st (σ' := [.box [(sl tRelation db0.relations), (sl tFact db0.facts)], .box [.n, .n], .row (flat tRelation.enc us_1), .dead, .row (flat tFact.own us_7), .box [(.m [2] 0 us_1.length tRelation.k), (.m [4] 0 us_7.length tFact.k)], .box [(intA x_t_3.relation), (sl tInt x_t_3.values)], .dead, .dead, .dead, .dead, .dead, .dead]) rfl ?_
   refine TA_nil (by kernel_rfl) ?_
   refine T_region ?_
   refine Tp rfl rfl (pur_add rfl rfl rfl (fits64 (by omega) (by omega))) rfl ?_
   refine pv tb 1 rfl ?_
   refine TO_nil ?_
   obtain rfl := some_inj H
   exact again (db0.facts.length - (t_3 + 1)) (t_3 + 1, us_7) (by omega) (w0 6) ⟨rfl, K4_⟩
  ·replace d4 := of_decide_eq_false d4
   obtain rfl := forS_end L4_ (by omega)
   refine T_exit ?_
   refine then_exit ?_
   refine then_exit ?_
   refine block_exit ?_
   replace H := N4_
   refine sr ?_
   refine pv tb 1 rfl ?_
   refine TO_cons rfl (TOp_storeB sz48 rfl rfl rfl rfl rfl rfl rfl (by decide) (lb rfl) rfl ?_)
   refine TO_st (σ' := [.box [(sl tRelation db0.relations), (sl tFact db0.facts)], .box [(.m [2] 0 us_1.length tRelation.k), (.m [4] 0 box5_facts.length tFact.k)], .row (flat tRelation.enc us_1), .dead, .row (flat tFact.own box5_facts), .box [(.m [2] 0 us_1.length tRelation.k), (.m [4] 0 box5_facts.length tFact.k)]]) rfl ?_
   refine TO_nil ?_
   refine T_ret ?_
   obtain rfl := some_inj H
   exact end_pick (.cellK rfl agg48 rfl (lb rfl) .nil) rfl [2, 4] (by decide) rfl rfl rfl rfl rfl rfl
theorem m_impl_copyDatabase_ok (db0 : Database) (r : Database) (H : m_impl_copyDatabase db0 = some r) : FnV prg 107 [(.g (tDatabase.enc db0))] (.g (tDatabase.enc r)) := (m_impl_copyDatabase_own db0 r H).frz (frzOK_g (frz_cons (frzT (T := tRelation) rfl) (frz_cons (frzT (T := tFact) rfl) frz_nil)).1 (frz_cons (frzT (T := tRelation) rfl) (frz_cons (frzT (T := tFact) rfl) frz_nil)).2)
end Go.Proofs.Ytjdpolnakhmkmaa

/- Walks. -/
import Derived.Test.YtjdpolnakhmkmaaM1
import Derived.Test.YtjdpolnakhmkmaaM2
import Derived.Test.YtjdpolnakhmkmaaM4
set_option linter.unusedVariables false
set_option linter.unusedSimpArgs false
set_option maxRecDepth 4000
namespace Go.Proofs.Ytjdpolnakhmkmaa
open Go Go.Proofs Go.Sep
set_option maxHeartbeats 1000000 in
/-- spec.InsertFact -/
theorem m_spec_InsertFact_own (u : Nat) (d0 : Database) (f1 : Fact) (r : (Database × Bool)) (H : m_spec_InsertFact u d0 f1 = some r) : FnO prg 133 [(.g (tDatabase.enc d0)), (.g (tFact.enc f1))] (.t [(.g [(.m [0] 0 r.1.relations.length tRelation.k), (.m [1] 0 r.1.facts.length tFact.k)]), (boolA r.2)]) [.row (flat tRelation.enc r.1.relations), .row (flat tFact.enc r.1.facts)] := by
  unfold m_spec_InsertFact at H
  refine fnO_of_T Try.func133 rfl rfl (Nat.le_of_ble_eq_true rfl) ?_
  refine te [(0, (.g (tDatabase.enc d0))), (1, (.g (tFact.enc f1)))] rfl ?_
  refine sr ?_
  refine TO_cons rfl (TOp_box rfl (boxAll rfl) rfl rfl ?_)
  refine TO_cons rfl (TOp_box rfl (boxAll rfl) rfl rfl ?_)
  refine TO_cons rfl (TOp_alloc zero48 rfl rfl ?_)
  refine Tp rfl rfl (pur_assign rfl) rfl ?_
  refine TO_nil ?_
  refine te [(2, (.b 0 0)), (3, (.b 1 0)), (4, (.b 2 0))] rfl ?_
  refine sr ?_
  refine Tp rfl rfl (pur_ldK_b agg48 rfl rfl (lb rfl) rfl) rfl ?_
  obtain ⟨r_1, h_2, H⟩ := bind_inv H
  refine TO_cons rfl (TOp_callO (call_static ent112 rfl) rfl (m_spec_l4Copy_own u _ _ h_2) rfl rfl rfl ?_)
  refine toe [(2, (.b 0 0)), (3, (.b 1 0)), (4, (.b 2 0)), (9, (.g (tDatabase.enc d0))), (10, (.g [(.m [3] 0 r_1.relations.length tRelation.k), (.m [4] 0 r_1.facts.length tFact.k)]))] rfl ?_
  refine TO_st (σ' := [.box [(sl tRelation d0.relations), (sl tFact d0.facts)], .box [(intA f1.relation), (sl tInt f1.values)], .box [.n, .n], .row (flat tRelation.enc r_1.relations), .row (flat tFact.enc r_1.facts)]) rfl ?_
  refine TO_cons rfl (TOp_alloc zero48 rfl rfl ?_)
  refine TO_cons rfl (TOp_storeB sz48 rfl rfl rfl rfl rfl rfl rfl (by decide) (lb rfl) rfl ?_)
  refine TO_st (σ' := [.box [(sl tRelation d0.relations), (sl tFact d0.facts)], .box [(intA f1.relation), (sl tInt f1.values)], .box [.n, .n], .row (flat tRelation.enc r_1.relations), .row (flat tFact.enc r_1.facts), .box [(.m [3] 0 r_1.relations.length tRelation.k), (.m [4] 0 r_1.facts.length tFact.k)]]) rfl ?_
  refine TO_nil ?_
  refine te [(2, (.b 0 0)), (3, (.b 1 0)), (4, (.b 2 0)), (6, (.b 5 0))] rfl ?_
  refine T_seq ?_
  obtain ⟨t31_3, J_3, H_4⟩ := bind_inv H
  refine T_cutX (fun x => t31_3 = x) (fun (t31_3 : Bool) => [(3, (.b 1 0)), (4, (.b 2 0)), (6, (.b 5 0)), (31, (boolA t31_3))]) (fun (t31_3 : Bool) => [.box [(sl tRelation d0.relations), (sl tFact d0.facts)], .box [(intA f1.relation), (sl tInt f1.values)], .box [.n, .n], .row (flat tRelation.enc r_1.relations), .row (flat tFact.enc r_1.facts), .box [(.m [3] 0 r_1.relations.length tRelation.k), (.m [4] 0 r_1.facts.length tFact.k)]]) ?_ ?_
  ·replace H := J_3
   refine T_region ?_
   refine Tp rfl rfl (pur_ldK_b agg48 rfl rfl (lb rfl) rfl) rfl ?_
   obtain ⟨r_5, h_6, H⟩ := bind_inv H
   refine TO_cons rfl (TOp_callV (call_static ent53 rfl) (m_spec_IsValidDatabase_ok u _ _ h_6) rfl rfl rfl ?_)
   refine Tp rfl rfl (pur_not rfl rfl) rfl ?_
   refine Tp rfl rfl (pur_move rfl) rfl ?_
   refine TO_split (t := (!r_5)) 14 rfl (fun g_7 => ?_) (fun g_7 => ?_)
   ·replace H := cond_t g_7 H
    refine TO_off rfl rfl (by decide) rfl rfl rfl ?_
    refine TO_off rfl rfl (by decide) rfl rfl rfl ?_
    refine TO_off rfl rfl (by decide) rfl rfl rfl ?_
    refine TO_off rfl rfl (by decide) rfl rfl rfl ?_
    refine TO_off rfl rfl (by decide) rfl rfl rfl ?_
    refine Tp rfl rfl (pur_pick (t := true) rfl rfl rfl) rfl ?_
    refine Tp rfl rfl (pur_move rfl) rfl ?_
    refine TO_off rfl rfl (by decide) rfl rfl rfl ?_
    refine toe [(2, (.b 0 0)), (3, (.b 1 0)), (4, (.b 2 0)), (6, (.b 5 0)), (21, (boolA true)), (22, (.v undef))] rfl ?_
    refine TO_off rfl rfl (by decide) rfl rfl rfl ?_
    refine TO_off rfl rfl (by decide) rfl rfl rfl ?_
    refine Tp rfl rfl (pur_pick (t := true) rfl rfl rfl) rfl ?_
    refine Tp rfl rfl (pur_move rfl) rfl ?_
    refine TO_off rfl rfl (by decide) rfl rfl rfl ?_
    refine TO_off rfl rfl (by decide) rfl rfl rfl ?_
    refine TO_off rfl rfl (by decide) rfl rfl rfl ?_
    refine TO_off rfl rfl (by decide) rfl rfl rfl ?_
    refine Tp rfl rfl (pur_pick (t := true) rfl rfl rfl) rfl ?_
    refine TO_nil ?_
    exact joined true (wp 6 (lb rfl) rfl rfl rfl rfl rfl) (some_inj H).symm
   ·replace H := cond_f g_7 H
    refine TO_on rfl rfl (by decide) rfl rfl (TOp_pure (pur_fa_b fld48_0 rfl rfl) rfl ?_)
    refine TO_on rfl rfl (by decide) rfl rfl (TOp_pure (pur_ld_b one45 rfl rfl rfl rfl) rfl ?_)
    refine TO_on rfl rfl (by decide) rfl rfl (TOp_pure (pur_ldK_b agg65 rfl rfl (lb rfl) rfl) rfl ?_)
    obtain ⟨r_8, h_9, H⟩ := bind_inv H
    refine TO_on rfl rfl (by decide) rfl rfl (TOp_callV (call_static ent123 rfl) (m_spec_IsValidFact_ok u _ _ _ h_9) rfl rfl rfl ?_)
    refine TO_on rfl rfl (by decide) rfl rfl (TOp_pure (pur_not rfl rfl) rfl ?_)
    refine Tp rfl rfl (pur_pick (t := false) rfl rfl rfl) rfl ?_
    refine Tp rfl rfl (pur_move rfl) rfl ?_
    refine TO_split (t := (!r_8)) 21 rfl (fun g_10 => ?_) (fun g_10 => ?_)
    ·replace H := cond_t g_10 H
     refine TO_off rfl rfl (by decide) rfl rfl rfl ?_
     refine TO_off rfl rfl (by decide) rfl rfl rfl ?_
     refine TO_off rfl rfl (by decide) rfl rfl rfl ?_
     refine Tp rfl rfl (pur_pick (t := true) rfl rfl rfl) rfl ?_
     refine Tp rfl rfl (pur_move rfl) rfl ?_
     refine TO_off rfl rfl (by decide) rfl rfl rfl ?_
     refine TO_off rfl rfl (by decide) rfl rfl rfl ?_
     refine TO_off rfl rfl (by decide) rfl rfl rfl ?_
     refine TO_off rfl rfl (by decide) rfl rfl rfl ?_
     refine Tp rfl rfl (pur_pick (t := true) rfl rfl rfl) rfl ?_
     refine TO_nil ?_
     exact joined true (wp 6 (lb rfl) rfl rfl rfl rfl rfl) (some_inj H).symm
    ·replace H := cond_f g_10 H
     refine TO_on rfl rfl (by decide) rfl rfl (TOp_pure (pur_ldK_b agg48 rfl rfl (lb rfl) rfl) rfl ?_)
     refine TO_on rfl rfl (by decide) rfl rfl (TOp_pure (pur_ldK_b agg65 rfl rfl (lb rfl) rfl) rfl ?_)
     obtain ⟨r_11, h_12, H⟩ := bind_inv H
     refine TO_on rfl rfl (by decide) rfl rfl (TOp_callV (call_static ent109 rfl) (m_spec_ContainsFact_ok u _ _ _ h_12) rfl rfl rfl ?_)
     refine Tp rfl rfl (pur_pick (t := false) rfl rfl rfl) rfl ?_
     refine Tp rfl rfl (pur_move rfl) rfl ?_
     refine TO_split (t := r_11) 26 rfl (fun g_13 => ?_) (fun g_13 => ?_)
     ·replace H := cond_t g_13 H
      refine TO_off rfl rfl (by decide) rfl rfl rfl ?_
      refine TO_off rfl rfl (by decide) rfl rfl rfl ?_
      refine TO_off rfl rfl (by decide) rfl rfl rfl ?_
      refine TO_off rfl rfl (by decide) rfl rfl rfl ?_
      refine Tp rfl rfl (pur_pick (t := true) rfl rfl rfl) rfl ?_
      refine TO_nil ?_
      exact joined true (wp 6 (lb rfl) rfl rfl rfl rfl rfl) (some_inj H).symm
     ·replace H := cond_f g_13 H
      refine TO_on rfl rfl (by decide) rfl rfl (TOp_pure (pur_fa_b fld48_1 rfl rfl) rfl ?_)
      refine TO_on rfl rfl (by decide) rfl rfl (TOp_pure (pur_ld_b one46 rfl rfl rfl rfl) rfl ?_)
      refine TO_on rfl rfl (by decide) rfl rfl (TOp_pure (pur_lenT (T := tFact) sl46 rfl rfl) rfl ?_)
      refine TO_on rfl rfl (by decide) rfl rfl (TOp_pure (pur_eql rfl rfl rfl) rfl ?_)
      refine Tp rfl rfl (pur_pick (t := false) rfl rfl rfl) rfl ?_
      refine TO_nil ?_
      exact joined (decide ((d0.facts.length : Int) = 14)) (wp 6 (lb rfl) rfl rfl rfl rfl rfl) (some_inj H).symm
  ·rintro _ rfl
   replace H := H_4
   refine te [(3, (.b 1 0)), (4, (.b 2 0)), (6, (.b 5 0)), (31, (boolA t31_3))] rfl ?_
   refine T_cond (t := t31_3) rfl (fun c_14 => ?_) (fun c_14 => ?_)
   ·replace H := cond_t c_14 H
    refine sr ?_
    refine Tp rfl rfl (pur_ldK_b agg48 rfl rfl (lb rfl) rfl) rfl ?_
    refine TO_cons rfl (TOp_storeB sz48 rfl rfl rfl rfl rfl rfl rfl (by decide) (lb rfl) rfl ?_)
    refine TO_st (σ' := [.box [(sl tRelation d0.relations), (sl tFact d0.facts)], .box [(intA f1.relation), (sl tInt f1.values)], .box [(.m [3] 0 r_1.relations.length tRelation.k), (.m [4] 0 r_1.facts.length tFact.k)], .row (flat tRelation.enc r_1.relations), .row (flat tFact.enc r_1.facts), .box [(.m [3] 0 r_1.relations.length tRelation.k), (.m [4] 0 r_1.facts.length tFact.k)]]) rfl ?_
    refine Tp rfl rfl (pur_assign rfl) rfl ?_
    refine TO_nil ?_
    refine te [(4, (.b 2 0)), (5, (boolA false))] rfl ?_
    refine T_ret ?_
    refine then_ret ?_
    obtain rfl := some_inj H
    exact end_pick (.cellK rfl agg48 rfl (lb rfl) (.tmp .nil)) rfl [3, 4] (by decide) rfl rfl rfl rfl rfl rfl
   ·replace H := cond_f c_14 H
    refine T_skip ?_
    refine te [(3, (.b 1 0)), (4, (.b 2 0)), (6, (.b 5 0))] rfl ?_
    refine sr ?_
    refine Tp rfl rfl (pur_assign rfl) rfl ?_
    refine TO_nil ?_
    refine te [(3, (.b 1 0)), (4, (.b 2 0)), (6, (.b 5 0)), (7, (intA 0))] rfl ?_
    obtain ⟨O15_, L15_, N15_⟩ := bind_inv H
    clear H
    obtain ⟨B15_, hb15, L15_⟩ := gen_whileF L15_
    refine T_cutX (fun (x : Int) => O15_ = .inl x) (fun (k7 : Int) => [(3, (.b 1 0)), (4, (.b 2 0)), (6, (.b 5 0)), (7, (intA k7))]) (fun (k7 : Int) => [.box [(sl tRelation d0.relations), (sl tFact d0.facts)], .box [(intA f1.relation), (sl tInt f1.values)], .box [.n, .n], .row (flat tRelation.enc r_1.relations), .row (flat tFact.enc r_1.facts), .box [(.m [3] 0 r_1.relations.length tRelation.k), (.m [4] 0 r_1.facts.length tFact.k)]]) ?_ ?_
    ·skip
     refine T_block ?_
     refine T_loopX (fun k => fun (k7 : Int) => whileF B15_ k k7 = some O15_) (fun (k7 : Int) => [(3, (.b 1 0)), (4, (.b 2 0)), (6, (.b 5 0)), (7, (intA k7))]) (fun (k7 : Int) => [.box [(sl tRelation d0.relations), (sl tFact d0.facts)], .box [(intA f1.relation), (sl tInt f1.values)], .box [.n, .n], .row (flat tRelation.enc r_1.relations), .row (flat tFact.enc r_1.facts), .box [(.m [3] 0 r_1.relations.length tRelation.k), (.m [4] 0 r_1.facts.length tFact.k)]]) u 0 (wp 6 (lb rfl) rfl rfl rfl rfl rfl) L15_ ?_
     rintro _ k7 L15_
     obtain ⟨k15, rfl, C15_, H, K15_⟩ := while_step L15_
     rw [hb15] at H
     refine te [(3, (.b 1 0)), (4, (.b 2 0)), (6, (.b 5 0)), (7, (intA k7))] rfl ?_
     refine T_st (σ' := [.box [(sl tRelation d0.relations), (sl tFact d0.facts)], .box [(intA f1.relation), (sl tInt f1.values)], .box [.n, .n], .row (flat tRelation.enc r_1.relations), .row (flat tFact.enc r_1.facts), .box [(.m [3] 0 r_1.relations.length tRelation.k), (.m [4] 0 r_1.facts.length tFact.k)]]) rfl ?_
     refine T_seq ?_
     obtain ⟨t47_16, J_16, H_17⟩ := bind_inv H
     refine T_cutX (fun x => t47_16 = x) (fun (t47_16 : Bool) => [(3, (.b 1 0)), (4, (.b 2 0)), (6, (.b 5 0)), (7, (intA k7)), (47, (boolA t47_16))]) (fun (t47_16 : Bool) => [.box [(sl tRelation d0.relations), (sl tFact d0.facts)], .box [(intA f1.relation), (sl tInt f1.values)], .box [.n, .n], .row (flat tRelation.enc r_1.relations), .row (flat tFact.enc r_1.facts), .box [(.m [3] 0 r_1.relations.length tRelation.k), (.m [4] 0 r_1.facts.length tFact.k)]]) ?_ ?_
     ·replace H := J_16
      refine T_regionD mixed (by kernel_rfl) ?_
      refine TQ_pure rfl (pur_move rfl) rfl ?_
      refine TQ_pure rfl (pur_fa_b fld48_1 rfl rfl) rfl ?_
      refine TQ_pure rfl (pur_ld_b one46 rfl rfl rfl rfl) rfl ?_
      refine TQ_pure rfl (pur_len_m sl46 rfl rfl) rfl ?_
      refine TQ_pure rfl (pur_lss rfl rfl rfl) rfl ?_
      refine TQ_pure rfl (pur_move rfl) rfl ?_
      refine TQ_split (t := decide (k7 < (r_1.facts.length : Int))) 38 rfl (fun g_18 => ?_) (fun g_18 => ?_)
      ·replace H := cond_t g_18 H
       refine TQ_on rfl rfl (by decide) rfl (pur_fa_b fld48_1 rfl rfl) rfl ?_
       refine TQ_on rfl rfl (by decide) rfl (pur_ld_b one46 rfl rfl rfl rfl) rfl ?_
       refine TQ_on rfl rfl (by decide) rfl (pur_move rfl) rfl ?_
       obtain ⟨v_19, h_20, H⟩ := bind_inv H
       obtain ⟨n_21, hz_22, hv_23⟩ := getI_inv h_20
       refine TQ_on rfl rfl (by decide) rfl (pur_ixM (T := tFact) sl46 rfl rfl hz_22 hv_23 rfl) rfl ?_
       refine TQ_on rfl rfl (by decide) rfl (pur_ldEK (f := tFact.enc) (k := tFact.k) (i := n_21) (off := 0) tFact.len rfl agg65 rfl rfl rfl hv_23 (by decide) rfl) rfl ?_
       refine TQ_on rfl rfl (by decide) rfl (pur_ldK_b agg65 rfl rfl (lb rfl) rfl) rfl ?_
       obtain ⟨r_24, h_25, H⟩ := bind_inv H
       refine TQ_onV rfl rfl (by decide) rfl (call_static ent114 rfl) (m_spec_CompareFacts_ok u _ _ _ h_25) rfl rfl ?_
       refine TQ_on rfl rfl (by decide) rfl (pur_lss rfl rfl rfl) rfl ?_
       refine TQ_pure rfl (pur_pick (t := true) rfl rfl rfl) rfl ?_
       refine TQ_nil ?_
       exact joined (decide (r_24 < 0)) (wp 6 (lb rfl) rfl rfl rfl rfl rfl) (some_inj H).symm
      ·replace H := cond_f g_18 H
       refine TQ_off rfl rfl (by decide) rfl rfl rfl ?_
       refine TQ_off rfl rfl (by decide) rfl rfl rfl ?_
       refine TQ_off rfl rfl (by decide) rfl rfl rfl ?_
       refine TQ_off rfl rfl (by decide) rfl rfl rfl ?_
       refine TQ_off rfl rfl (by decide) rfl rfl rfl ?_
       refine TQ_off rfl rfl (by decide) rfl rfl rfl ?_
       refine TQ_off rfl rfl (by decide) rfl rfl rfl ?_
       refine TQ_off rfl rfl (by decide) rfl rfl rfl ?_
       refine TQ_pure rfl (pur_pick (t := false) rfl rfl rfl) rfl ?_
       refine TQ_nil ?_
       exact joined false (wp 6 (lb rfl) rfl rfl rfl rfl rfl) (some_inj H).symm
     ·rintro _ rfl
      replace H := H_17
      refine te [(3, (.b 1 0)), (4, (.b 2 0)), (6, (.b 5 0)), (7, (intA k7)), (47, (boolA t47_16))] rfl ?_
      refine T_cond (t := t47_16) rfl (fun c_26 => ?_) (fun c_26 => ?_)
      ·replace H := cond_t c_26 H
       refine T_skip ?_
       refine te [(3, (.b 1 0)), (4, (.b 2 0)), (6, (.b 5 0)), (7, (intA k7))] rfl ?_
       refine T_block ?_
       refine T_region ?_
       refine Tp rfl rfl (pur_move rfl) rfl ?_
       refine Tp rfl rfl (pur_wadd rfl rfl rfl) rfl ?_
       refine Tp rfl rfl (pur_assign rfl) rfl ?_
       refine TO_nil ?_
       obtain rfl := some_inj H
       exact again k15 (w64 (k7 + 1)) (Nat.lt_succ_self _) (wp 6 (lb rfl) rfl rfl rfl rfl rfl) K15_
      ·replace H := cond_f c_26 H
       refine T_exit ?_
       refine then_exit ?_
       refine then_exit ?_
       refine block_exit ?_
       obtain rfl := some_inj H
       obtain rfl := some_inj K15_
       exact joined k7 (wp 6 (lb rfl) rfl rfl rfl rfl rfl) rfl
    ·rintro k7 rfl
     replace H := onS_l N15_
     refine te [(3, (.b 1 0)), (4, (.b 2 0)), (6, (.b 5 0)), (7, (intA k7))] rfl ?_
     obtain ⟨us_27, h_28, H⟩ := bind_inv H
     obtain ⟨ys_29, h_30, H⟩ := bind_inv H
     obtain ⟨i_31, j_32, hi_33, hj_34, hij_35, hjl_36, hys_37, _⟩ := cutI_inv h_30
     obtain ⟨us_38, h_39, H⟩ := bind_inv H
     refine T_pad ?_
     refine T_pad ?_
     refine T_pad ?_
     refine T_cutX (fun (_ : Unit) => True) (fun _ => [(4, (.b 2 0)), (6, (.b 5 0)), (7, (intA k7)), (8, (.m [6] 0 us_38.length tFact.k))]) (fun _ => [.box [(sl tRelation d0.relations), (sl tFact d0.facts)], .box [(intA f1.relation), (sl tInt f1.values)], .box [.n, .n], .row (flat tRelation.enc r_1.relations), .row (flat tFact.enc r_1.facts), .box [(.m [3] 0 r_1.relations.length tRelation.k), (.m [4] 0 r_1.facts.length tFact.k)], .row (flat tFact.enc us_38)]) ?_ ?_
     ·skip
      refine T_regionP mixed ?_
      refine TA_have 2 #[true, true, true, true, true, true, true, true, true, true, true, true, false, false] [(4, (.b 2 0)), (6, (.b 5 0)), (7, (intA k7)), (57, (.m [8] 0 ([({ relation := f1.relation, values := us_27 } : Fact)] : (List Fact)).length tFact.k)), (61, (.m [4] (i_31 * tFact.k) (j_32 - i_31) tFact.k))] [.box [(sl tRelation d0.relations), (sl tFact d0.facts)], .box [(intA f1.relation), (sl tInt f1.values)], .box [.n, .n], .row (flat tRelation.enc r_1.relations), .row (flat tFact.enc r_1.facts), .box [(.m [3] 0 r_1.relations.length tRelation.k), (.m [4] 0 r_1.facts.length tFact.k)], .dead, .dead, .row (flat tFact.enc ([({ relation := f1.relation, values := us_27 } : Fact)] : (List Fact)))] ?_ (fun hj0_7 => ?_)
      ·skip
       refine t1 12 (by kernel_rfl) rfl rfl (TOp_appY (T := tFact) (f := tFact.enc) (xs := ([({ relation := f1.relation, values := us_27 } : Fact)] : (List Fact))) (ys := ys_29) tFact.len sl46 zero65 rfl bytes65 (by decide) rfl rfl rfl rfl (src_cut (T := tFact) (xs := r_1.facts) (i := i_31) (j := j_32) rfl rfl hij_35 hjl_36 hys_37) (flat_cell tFact _) h_39 ?_)
       refine tmv 8 9 (by decide) (lb rfl) rfl rfl (lb rfl) ?_
       refine tf 13 rfl (purI_assign rfl) rfl rfl (by kernel_rfl) ?_
       refine TA_ghost (E' := [(4, (.b 2 0)), (6, (.b 5 0)), (7, (intA k7)), (8, (.m [6] 0 us_38.length tFact.k))]) (σ' := [.box [(sl tRelation d0.relations), (sl tFact d0.facts)], .box [(intA f1.relation), (sl tInt f1.values)], .box [.n, .n], .row (flat tRelation.enc r_1.relations), .row (flat tFact.enc r_1.facts), .box [(.m [3] 0 r_1.relations.length tRelation.k), (.m [4] 0 r_1.facts.length tFact.k)], .row (flat tFact.enc us_38), .dead, .dead, .dead]) (Ghost.move 6 8 (by decide) (lb rfl) rfl rfl (lb rfl) (Ghost.weak (WeakL.to 10 (lb rfl) rfl rfl rfl rfl ⟨leR rfl, leR rfl, leR rfl, leR rfl, trivial⟩))) ?_
       exact TA_nil (by kernel_rfl) (joined () (wp 7 (lb rfl) rfl rfl rfl rfl rfl) trivial)
      refine TA_have 3 #[true, true, true, true, true, true, true, false, true, true, true, true, false, false] [(4, (.b 2 0)), (6, (.b 5 0)), (7, (intA k7)), (56, (.g [(intA f1.relation), (sl tInt us_27)])), (61, (.m [4] (i_31 * tFact.k) (j_32 - i_31) tFact.k))] [.box [(sl tRelation d0.relations), (sl tFact d0.facts)], .box [(intA f1.relation), (sl tInt f1.values)], .box [.n, .n], .row (flat tRelation.enc r_1.relations), .row (flat tFact.enc r_1.facts), .box [(.m [3] 0 r_1.relations.length tRelation.k), (.m [4] 0 r_1.facts.length tFact.k)], .dead, .dead, .dead] ?_ (fun hj1_7 => ?_)
      ·skip
       refine t1 7 (by kernel_rfl) rfl rfl (TOp_lit (nn := 1) (k := 2) sl46 zero65 rfl rfl rfl rfl (by decide) ?_)
       refine tmv 8 9 (by decide) (lb rfl) rfl rfl (lb rfl) ?_
       exact tj hj0_7 rfl (wp 9 (lb rfl) rfl rfl rfl rfl rfl)
      refine TA_have 4 #[true, true, true, true, true, true, false, false, true, true, true, true, false, false] [(4, (.b 2 0)), (6, (.b 5 0)), (7, (intA k7)), (51, (intA f1.relation)), (55, (.m [7] 0 us_27.length tInt.k)), (61, (.m [4] (i_31 * tFact.k) (j_32 - i_31) tFact.k))] [.box [(sl tRelation d0.relations), (sl tFact d0.facts)], .box [(intA f1.relation), (sl tInt f1.values)], .box [.n, .n], .row (flat tRelation.enc r_1.relations), .row (flat tFact.enc r_1.facts), .box [(.m [3] 0 r_1.relations.length tRelation.k), (.m [4] 0 r_1.facts.length tFact.k)], .dead, .row (flat tInt.enc us_27), .dead] ?_ (fun hj2_7 => ?_)
      ·skip
       refine tf 6 rfl (purI_build bld65 rfl rfl) rfl rfl (by kernel_rfl) ?_
       refine TA_ghost (E' := [(4, (.b 2 0)), (6, (.b 5 0)), (7, (intA k7)), (51, (intA f1.relation)), (55, (.m [7] 0 us_27.length tInt.k)), (56, (.g [(intA f1.relation), (.m [7] 0 us_27.length tInt.k)])), (61, (.m [4] (i_31 * tFact.k) (j_32 - i_31) tFact.k))]) (σ' := [.box [(sl tRelation d0.relations), (sl tFact d0.facts)], .box [(intA f1.relation), (sl tInt f1.values)], .box [.n, .n], .row (flat tRelation.enc r_1.relations), .row (flat tFact.enc r_1.facts), .box [(.m [3] 0 r_1.relations.length tRelation.k), (.m [4] 0 r_1.facts.length tFact.k)], .dead, .row (flat tInt.enc us_27), .dead]) (Ghost.weak (WeakL.to 9 (lb rfl) rfl rfl rfl rfl ⟨leR rfl, leR rfl, leR rfl, leR rfl, leR rfl, leR rfl, leR rfl, trivial⟩)) ?_
       refine TA_frz1 7 (E' := [(4, (.b 2 0)), (6, (.b 5 0)), (7, (intA k7)), (51, (intA f1.relation)), (55, (sl tInt us_27)), (56, (.g [(intA f1.relation), (sl tInt us_27)])), (61, (.m [4] (i_31 * tFact.k) (j_32 - i_31) tFact.k))]) rfl rfl (lb rfl) ?_ ?_
       ·exact ⟨(.keep rfl), (.keep rfl), (.keep rfl), (.keep rfl), fz1E, (fz1G (fzC (.keep rfl) (fzC fz1E fzN))), (.keep rfl), trivial⟩
       refine TA_st (σ' := [.box [(sl tRelation d0.relations), (sl tFact d0.facts)], .box [(intA f1.relation), (sl tInt f1.values)], .box [.n, .n], .row (flat tRelation.enc r_1.relations), .row (flat tFact.enc r_1.facts), .box [(.m [3] 0 r_1.relations.length tRelation.k), (.m [4] 0 r_1.facts.length tFact.k)], .dead, .dead, .dead]) rfl ?_
       exact tj hj1_7 rfl (wp 9 (lb rfl) rfl rfl rfl rfl rfl)
      refine TA_have 5 #[true, false, true, true, true, true, false, false, true, true, true, true, false, false] [(4, (.b 2 0)), (6, (.b 5 0)), (7, (intA k7)), (50, (.b 1 0)), (55, (.m [7] 0 us_27.length tInt.k)), (61, (.m [4] (i_31 * tFact.k) (j_32 - i_31) tFact.k))] [.box [(sl tRelation d0.relations), (sl tFact d0.facts)], .box [(intA f1.relation), (sl tInt f1.values)], .box [.n, .n], .row (flat tRelation.enc r_1.relations), .row (flat tFact.enc r_1.facts), .box [(.m [3] 0 r_1.relations.length tRelation.k), (.m [4] 0 r_1.facts.length tFact.k)], .dead, .row (flat tInt.enc us_27), .dead] ?_ (fun hj3_7 => ?_)
      ·skip
       refine t1 1 (by kernel_rfl) rfl rfl (TOp_pure (pur_ld_b one3 rfl rfl rfl rfl) rfl ?_)
       exact tj hj2_7 rfl (wp 9 (lb rfl) rfl rfl rfl rfl rfl)
      refine TA_have 5 #[true, true, true, true, true, false, false, false, true, true, true, true, false, false] [(4, (.b 2 0)), (6, (.b 5 0)), (7, (intA k7)), (51, (intA f1.relation)), (52, (.m [7] 0 ([] : (List Int)).length tInt.k)), (54, (sl tInt f1.values)), (61, (.m [4] (i_31 * tFact.k) (j_32 - i_31) tFact.k))] [.box [(sl tRelation d0.relations), (sl tFact d0.facts)], .box [(intA f1.relation), (sl tInt f1.values)], .box [.n, .n], .row (flat tRelation.enc r_1.relations), .row (flat tFact.enc r_1.facts), .box [(.m [3] 0 r_1.relations.length tRelation.k), (.m [4] 0 r_1.facts.length tFact.k)], .dead, .row (flat tInt.enc ([] : (List Int))), .dead] ?_ (fun hj4_7 => ?_)
      ·skip
       refine t1 5 (by kernel_rfl) rfl rfl (TOp_appY (T := tInt) (f := tInt.enc) (xs := ([] : (List Int))) (ys := f1.values) tInt.len sl23 zero3 rfl bytes3 (by decide) rfl rfl rfl rfl (src_T (T := tInt) rfl) (flat_cell tInt _) h_28 ?_)
       refine tmv 7 9 (by decide) (lb rfl) rfl rfl (lb rfl) ?_
       exact tj hj2_7 rfl (wp 9 (lb rfl) rfl rfl rfl rfl rfl)
      refine TA_have 6 #[true, false, true, true, true, false, false, false, true, true, true, true, false, false] [(4, (.b 2 0)), (6, (.b 5 0)), (7, (intA k7)), (50, (.b 1 0)), (52, (.m [7] 0 ([] : (List Int)).length tInt.k)), (54, (sl tInt f1.values)), (61, (.m [4] (i_31 * tFact.k) (j_32 - i_31) tFact.k))] [.box [(sl tRelation d0.relations), (sl tFact d0.facts)], .box [(intA f1.relation), (sl tInt f1.values)], .box [.n, .n], .row (flat tRelation.enc r_1.relations), .row (flat tFact.enc r_1.facts), .box [(.m [3] 0 r_1.relations.length tRelation.k), (.m [4] 0 r_1.facts.length tFact.k)], .dead, .row (flat tInt.enc ([] : (List Int))), .dead] ?_ (fun hj5_7 => ?_)
      ·skip
       refine TA_all [1, 5] (by kernel_rfl) (by decide) ⟨?_, ?_, trivial⟩
       ·skip
        refine ⟨_, rfl, rfl, (TOp_pure (pur_ld_b one3 rfl rfl rfl rfl) rfl ?_)⟩
        exact tj hj4_7 rfl (wp 9 (lb rfl) rfl rfl rfl rfl rfl)
       ·skip
        refine ⟨_, rfl, rfl, (TOp_appY (T := tInt) (f := tInt.enc) (xs := ([] : (List Int))) (ys := f1.values) tInt.len sl23 zero3 rfl bytes3 (by decide) rfl rfl rfl rfl (src_T (T := tInt) rfl) (flat_cell tInt _) h_28 ?_)⟩
        refine tmv 7 9 (by decide) (lb rfl) rfl rfl (lb rfl) ?_
        exact tj hj3_7 rfl (wp 9 (lb rfl) rfl rfl rfl rfl rfl)
      refine TA_have 6 #[true, true, false, true, true, false, false, false, true, true, true, true, false, false] [(4, (.b 2 0)), (6, (.b 5 0)), (7, (intA k7)), (51, (intA f1.relation)), (54, (sl tInt f1.values)), (61, (.m [4] (i_31 * tFact.k) (j_32 - i_31) tFact.k))] [.box [(sl tRelation d0.relations), (sl tFact d0.facts)], .box [(intA f1.relation), (sl tInt f1.values)], .box [.n, .n], .row (flat tRelation.enc r_1.relations), .row (flat tFact.enc r_1.facts), .box [(.m [3] 0 r_1.relations.length tRelation.k), (.m [4] 0 r_1.facts.length tFact.k)], .dead, .dead, .dead] ?_ (fun hj6_7 => ?_)
      ·skip
       refine t1 2 (by kernel_rfl) rfl rfl (TOp_lit (nn := 0) (k := 1) sl23 zero3 rfl rfl rfl rfl (by decide) ?_)
       refine tmv 7 9 (by decide) (lb rfl) rfl rfl (lb rfl) ?_
       exact tj hj4_7 rfl (wp 9 (lb rfl) rfl rfl rfl rfl rfl)
      refine TA_have 6 #[true, true, true, true, false, false, false, false, true, true, true, true, false, false] [(4, (.b 2 0)), (6, (.b 5 0)), (7, (intA k7)), (51, (intA f1.relation)), (52, (.m [7] 0 ([] : (List Int)).length tInt.k)), (53, (.b 1 1)), (61, (.m [4] (i_31 * tFact.k) (j_32 - i_31) tFact.k))] [.box [(sl tRelation d0.relations), (sl tFact d0.facts)], .box [(intA f1.relation), (sl tInt f1.values)], .box [.n, .n], .row (flat tRelation.enc r_1.relations), .row (flat tFact.enc r_1.facts), .box [(.m [3] 0 r_1.relations.length tRelation.k), (.m [4] 0 r_1.facts.length tFact.k)], .dead, .row (flat tInt.enc ([] : (List Int))), .dead] ?_ (fun hj7_7 => ?_)
      ·skip
       refine t1 4 (by kernel_rfl) rfl rfl (TOp_pure (pur_ld_b one23 rfl rfl rfl rfl) rfl ?_)
       exact tj hj4_7 rfl (wp 9 (lb rfl) rfl rfl rfl rfl rfl)
      refine TA_have 6 #[true, true, true, true, true, true, false, false, true, false, true, false, false, false] [(4, (.b 2 0)), (6, (.b 5 0)), (7, (intA k7)), (51, (intA f1.relation)), (55, (.m [7] 0 us_27.length tInt.k)), (58, (.b 5 1)), (60, (intA k7))] [.box [(sl tRelation d0.relations), (sl tFact d0.facts)], .box [(intA f1.relation), (sl tInt f1.values)], .box [.n, .n], .row (flat tRelation.enc r_1.relations), .row (flat tFact.enc r_1.facts), .box [(.m [3] 0 r_1.relations.length tRelation.k), (.m [4] 0 r_1.facts.length tFact.k)], .dead, .row (flat tInt.enc us_27), .dead] ?_ (fun hj8_7 => ?_)
      ·skip
       refine tf 6 rfl (purI_build bld65 rfl rfl) rfl rfl (by kernel_rfl) ?_
       refine TA_ghost (E' := [(4, (.b 2 0)), (6, (.b 5 0)), (7, (intA k7)), (51, (intA f1.relation)), (55, (.m [7] 0 us_27.length tInt.k)), (56, (.g [(intA f1.relation), (.m [7] 0 us_27.length tInt.k)])), (58, (.b 5 1)), (60, (intA k7))]) (σ' := [.box [(sl tRelation d0.relations), (sl tFact d0.facts)], .box [(intA f1.relation), (sl tInt f1.values)], .box [.n, .n], .row (flat tRelation.enc r_1.relations), .row (flat tFact.enc r_1.facts), .box [(.m [3] 0 r_1.relations.length tRelation.k), (.m [4] 0 r_1.facts.length tFact.k)], .dead, .row (flat tInt.enc us_27), .dead]) (Ghost.weak (WeakL.to 9 (lb rfl) rfl rfl rfl rfl ⟨leR rfl, leR rfl, leR rfl, leR rfl, leR rfl, leR rfl, leR rfl, leR rfl, trivial⟩)) ?_
       refine TA_frz1 7 (E' := [(4, (.b 2 0)), (6, (.b 5 0)), (7, (intA k7)), (51, (intA f1.relation)), (55, (sl tInt us_27)), (56, (.g [(intA f1.relation), (sl tInt us_27)])), (58, (.b 5 1)), (60, (intA k7))]) rfl rfl (lb rfl) ?_ ?_
       ·exact ⟨(.keep rfl), (.keep rfl), (.keep rfl), (.keep rfl), fz1E, (fz1G (fzC (.keep rfl) (fzC fz1E fzN))), (.keep rfl), (.keep rfl), trivial⟩
       refine TA_st (σ' := [.box [(sl tRelation d0.relations), (sl tFact d0.facts)], .box [(intA f1.relation), (sl tInt f1.values)], .box [.n, .n], .row (flat tRelation.enc r_1.relations), .row (flat tFact.enc r_1.facts), .box [(.m [3] 0 r_1.relations.length tRelation.k), (.m [4] 0 r_1.facts.length tFact.k)], .dead, .dead, .dead]) rfl ?_
       refine TA_all [7, 9] (by kernel_rfl) (by decide) ⟨?_, ?_, trivial⟩
       ·skip
        refine ⟨_, rfl, rfl, (TOp_lit (nn := 1) (k := 2) sl46 zero65 rfl rfl rfl rfl (by decide) ?_)⟩
        refine tmv 8 9 (by decide) (lb rfl) rfl rfl (lb rfl) ?_
        refine t1 9 (by kernel_rfl) rfl rfl (TOp_pure (pur_ld_b one46 rfl rfl rfl rfl) rfl ?_)
        refine tf 11 rfl (purI_cutM (lo := (some (.tmp 60))) (hi := none) sl46 rfl ⟨_, congrArg (fun z => A.v (.int .i64 z)) hi_33⟩ hj_34.symm hij_35 hjl_36 rfl) rfl rfl (by kernel_rfl) ?_
        exact tj hj0_7 rfl (wp 9 (lb rfl) rfl rfl rfl rfl rfl)
       ·skip
        refine ⟨_, rfl, rfl, (TOp_pure (pur_ld_b one46 rfl rfl rfl rfl) rfl ?_)⟩
        refine tf 11 rfl (purI_cutM (lo := (some (.tmp 60))) (hi := none) sl46 rfl ⟨_, congrArg (fun z => A.v (.int .i64 z)) hi_33⟩ hj_34.symm hij_35 hjl_36 rfl) rfl rfl (by kernel_rfl) ?_
        exact tj hj1_7 rfl (wp 9 (lb rfl) rfl rfl rfl rfl rfl)
      refine TA_have 7 #[true, false, false, true, true, false, false, false, true, true, true, true, false, false] [(4, (.b 2 0)), (6, (.b 5 0)), (7, (intA k7)), (50, (.b 1 0)), (54, (sl tInt f1.values)), (61, (.m [4] (i_31 * tFact.k) (j_32 - i_31) tFact.k))] [.box [(sl tRelation d0.relations), (sl tFact d0.facts)], .box [(intA f1.relation), (sl tInt f1.values)], .box [.n, .n], .row (flat tRelation.enc r_1.relations), .row (flat tFact.enc r_1.facts), .box [(.m [3] 0 r_1.relations.length tRelation.k), (.m [4] 0 r_1.facts.length tFact.k)], .dead, .dead, .dead] ?_ (fun hj9_7 => ?_)
      ·skip
       refine TA_all [1, 2] (by kernel_rfl) (by decide) ⟨?_, ?_, trivial⟩
       ·skip
        refine ⟨_, rfl, rfl, (TOp_pure (pur_ld_b one3 rfl rfl rfl rfl) rfl ?_)⟩
        exact tj hj6_7 rfl (wp 9 (lb rfl) rfl rfl rfl rfl rfl)
       ·skip
        refine ⟨_, rfl, rfl, (TOp_lit (nn := 0) (k := 1) sl23 zero3 rfl rfl rfl rfl (by decide) ?_)⟩
        refine tmv 7 9 (by decide) (lb rfl) rfl rfl (lb rfl) ?_
        exact tj hj5_7 rfl (wp 9 (lb rfl) rfl rfl rfl rfl rfl)
      refine TA_have 7 #[true, false, true, true, false, false, false, false, true, true, true, true, false, false] [(4, (.b 2 0)), (6, (.b 5 0)), (7, (intA k7)), (50, (.b 1 0)), (52, (.m [7] 0 ([] : (List Int)).length tInt.k)), (53, (.b 1 1)), (61, (.m [4] (i_31 * tFact.k) (j_32 - i_31) tFact.k))] [.box [(sl tRelation d0.relations), (sl tFact d0.facts)], .box [(intA f1.relation), (sl tInt f1.values)], .box [.n, .n], .row (flat tRelation.enc r_1.relations), .row (flat tFact.enc r_1.facts), .box [(.m [3] 0 r_1.relations.length tRelation.k), (.m [4] 0 r_1.facts.length tFact.k)], .dead, .row (flat tInt.enc ([] : (List Int))), .dead] ?_ (fun hj10_7 => ?_)
      ·skip
       refine TA_all [1, 4] (by kernel_rfl) (by decide) ⟨?_, ?_, trivial⟩
       ·skip
        refine ⟨_, rfl, rfl, (TOp_pure (pur_ld_b one3 rfl rfl rfl rfl) rfl ?_)⟩
        exact tj hj7_7 rfl (wp 9 (lb rfl) rfl rfl rfl rfl rfl)
       ·skip
        refine ⟨_, rfl, rfl, (TOp_pure (pur_ld_b one23 rfl rfl rfl rfl) rfl ?_)⟩
        exact tj hj5_7 rfl (wp 9 (lb rfl) rfl rfl rfl rfl rfl)
      refine TA_have 7 #[true, true, false, true, false, false, false, false, true, true, true, true, false, false] [(4, (.b 2 0)), (6, (.b 5 0)), (7, (intA k7)), (51, (intA f1.relation)), (53, (.b 1 1)), (61, (.m [4] (i_31 * tFact.k) (j_32 - i_31) tFact.k))] [.box [(sl tRelation d0.relations), (sl tFact d0.facts)], .box [(intA f1.relation), (sl tInt f1.values)], .box [.n, .n], .row (flat tRelation.enc r_1.relations), .row (flat tFact.enc r_1.facts), .box [(.m [3] 0 r_1.relations.length tRelation.k), (.m [4] 0 r_1.facts.length tFact.k)], .dead, .dead, .dead] ?_ (fun hj11_7 => ?_)
      ·skip
       refine TA_all [2, 4] (by kernel_rfl) (by decide) ⟨?_, ?_, trivial⟩
       ·skip
        refine ⟨_, rfl, rfl, (TOp_lit (nn := 0) (k := 1) sl23 zero3 rfl rfl rfl rfl (by decide) ?_)⟩
        refine tmv 7 9 (by decide) (lb rfl) rfl rfl (lb rfl) ?_
        exact tj hj7_7 rfl (wp 9 (lb rfl) rfl rfl rfl rfl rfl)
       ·skip
        refine ⟨_, rfl, rfl, (TOp_pure (pur_ld_b one23 rfl rfl rfl rfl) rfl ?_)⟩
        exact tj hj6_7 rfl (wp 9 (lb rfl) rfl rfl rfl rfl rfl)
      refine TA_have 7 #[true, true, true, true, true, false, false, false, true, false, true, false, false, false] [(4, (.b 2 0)), (6, (.b 5 0)), (7, (intA k7)), (51, (intA f1.relation)), (52, (.m [7] 0 ([] : (List Int)).length tInt.k)), (54, (sl tInt f1.values)), (58, (.b 5 1)), (60, (intA k7))] [.box [(sl tRelation d0.relations), (sl tFact d0.facts)], .box [(intA f1.relation), (sl tInt f1.values)], .box [.n, .n], .row (flat tRelation.enc r_1.relations), .row (flat tFact.enc r_1.facts), .box [(.m [3] 0 r_1.relations.length tRelation.k), (.m [4] 0 r_1.facts.length tFact.k)], .dead, .row (flat tInt.enc ([] : (List Int))), .dead] ?_ (fun hj12_7 => ?_)
      ·skip
       refine TA_all [5, 9] (by kernel_rfl) (by decide) ⟨?_, ?_, trivial⟩
       ·skip
        refine ⟨_, rfl, rfl, (TOp_appY (T := tInt) (f := tInt.enc) (xs := ([] : (List Int))) (ys := f1.values) tInt.len sl23 zero3 rfl bytes3 (by decide) rfl rfl rfl rfl (src_T (T := tInt) rfl) (flat_cell tInt _) h_28 ?_)⟩
        refine tmv 7 9 (by decide) (lb rfl) rfl rfl (lb rfl) ?_
        exact tj hj8_7 rfl (wp 9 (lb rfl) rfl rfl rfl rfl rfl)
       ·skip
        refine ⟨_, rfl, rfl, (TOp_pure (pur_ld_b one46 rfl rfl rfl rfl) rfl ?_)⟩
        refine tf 11 rfl (purI_cutM (lo := (some (.tmp 60))) (hi := none) sl46 rfl ⟨_, congrArg (fun z => A.v (.int .i64 z)) hi_33⟩ hj_34.symm hij_35 hjl_36 rfl) rfl rfl (by kernel_rfl) ?_
        exact tj hj4_7 rfl (wp 9 (lb rfl) rfl rfl rfl rfl rfl)
      refine TA_have 8 #[true, false, true, true, true, false, false, false, true, false, true, false, false, false] [(4, (.b 2 0)), (6, (.b 5 0)), (7, (intA k7)), (50, (.b 1 0)), (52, (.m [7] 0 ([] : (List Int)).length tInt.k)), (54, (sl tInt f1.values)), (58, (.b 5 1)), (60, (intA k7))] [.box [(sl tRelation d0.relations), (sl tFact d0.facts)], .box [(intA f1.relation), (sl tInt f1.values)], .box [.n, .n], .row (flat tRelation.enc r_1.relations), .row (flat tFact.enc r_1.facts), .box [(.m [3] 0 r_1.relations.length tRelation.k), (.m [4] 0 r_1.facts.length tFact.k)], .dead, .row (flat tInt.enc ([] : (List Int))), .dead] ?_ (fun hj13_7 => ?_)
      ·skip
       refine TA_all [1, 5, 9] (by kernel_rfl) (by decide) ⟨?_, ?_, ?_, trivial⟩
       ·skip
        refine ⟨_, rfl, rfl, (TOp_pure (pur_ld_b one3 rfl rfl rfl rfl) rfl ?_)⟩
        exact tj hj12_7 rfl (wp 9 (lb rfl) rfl rfl rfl rfl rfl)
       ·skip
        refine ⟨_, rfl, rfl, (TOp_appY (T := tInt) (f := tInt.enc) (xs := ([] : (List Int))) (ys := f1.values) tInt.len sl23 zero3 rfl bytes3 (by decide) rfl rfl rfl rfl (src_T (T := tInt) rfl) (flat_cell tInt _) h_28 ?_)⟩
        refine tmv 7 9 (by decide) (lb rfl) rfl rfl (lb rfl) ?_
        refine TA_all [1, 9] (by kernel_rfl) (by decide) ⟨?_, ?_, trivial⟩
        ·skip
         refine ⟨_, rfl, rfl, (TOp_pure (pur_ld_b one3 rfl rfl rfl rfl) rfl ?_)⟩
         exact tj hj8_7 rfl (wp 9 (lb rfl) rfl rfl rfl rfl rfl)
        ·skip
         refine ⟨_, rfl, rfl, (TOp_pure (pur_ld_b one46 rfl rfl rfl rfl) rfl ?_)⟩
         refine tf 11 rfl (purI_cutM (lo := (some (.tmp 60))) (hi := none) sl46 rfl ⟨_, congrArg (fun z => A.v (.int .i64 z)) hi_33⟩ hj_34.symm hij_35 hjl_36 rfl) rfl rfl (by kernel_rfl) ?_
         exact tj hj3_7 rfl (wp 9 (lb rfl) rfl rfl rfl rfl rfl)
       ·skip
        refine ⟨_, rfl, rfl, (TOp_pure (pur_ld_b one46 rfl rfl rfl rfl) rfl ?_)⟩
        refine tf 11 rfl (purI_cutM (lo := (some (.tmp 60))) (hi := none) sl46 rfl ⟨_, congrArg (fun z => A.v (.int .i64 z)) hi_33⟩ hj_34.symm hij_35 hjl_36 rfl) rfl rfl (by kernel_rfl) ?_
        exact tj hj5_7 rfl (wp 9 (lb rfl) rfl rfl rfl rfl rfl)
      refine TA_have 8 #[true, true, false, true, true, false, false, false, true, false, true, false, false, false] [(4, (.b 2 0)), (6, (.b 5 0)), (7, (intA k7)), (51, (intA f1.relation)), (54, (sl tInt f1.values)), (58, (.b 5 1)), (60, (intA k7))] [.box [(sl tRelation d0.relations), (sl tFact d0.facts)], .box [(intA f1.relation), (sl tInt f1.values)], .box [.n, .n], .row (flat tRelation.enc r_1.relations), .row (flat tFact.enc r_1.facts), .box [(.m [3] 0 r_1.relations.length tRelation.k), (.m [4] 0 r_1.facts.length tFact.k)], .dead, .dead, .dead] ?_ (fun hj14_7 => ?_)
      ·skip
       refine TA_all [2, 9] (by kernel_rfl) (by decide) ⟨?_, ?_, trivial⟩
       ·skip
        refine ⟨_, rfl, rfl, (TOp_lit (nn := 0) (k := 1) sl23 zero3 rfl rfl rfl rfl (by decide) ?_)⟩
        refine tmv 7 9 (by decide) (lb rfl) rfl rfl (lb rfl) ?_
        exact tj hj12_7 rfl (wp 9 (lb rfl) rfl rfl rfl rfl rfl)
       ·skip
        refine ⟨_, rfl, rfl, (TOp_pure (pur_ld_b one46 rfl rfl rfl rfl) rfl ?_)⟩
        refine tf 11 rfl (purI_cutM (lo := (some (.tmp 60))) (hi := none) sl46 rfl ⟨_, congrArg (fun z => A.v (.int .i64 z)) hi_33⟩ hj_34.symm hij_35 hjl_36 rfl) rfl rfl (by kernel_rfl) ?_
        exact tj hj6_7 rfl (wp 9 (lb rfl) rfl rfl rfl rfl rfl)
      refine TA_have 8 #[true, true, true, true, false, false, false, false, true, false, true, false, false, false] [(4, (.b 2 0)), (6, (.b 5 0)), (7, (intA k7)), (51, (intA f1.relation)), (52, (.m [7] 0 ([] : (List Int)).length tInt.k)), (53, (.b 1 1)), (58, (.b 5 1)), (60, (intA k7))] [.box [(sl tRelation d0.relations), (sl tFact d0.facts)], .box [(intA f1.relation), (sl tInt f1.values)], .box [.n, .n], .row (flat tRelation.enc r_1.relations), .row (flat tFact.enc r_1.facts), .box [(.m [3] 0 r_1.relations.length tRelation.k), (.m [4] 0 r_1.facts.length tFact.k)], .dead, .row (flat tInt.enc ([] : (List Int))), .dead] ?_ (fun hj15_7 => ?_)
      ·skip
       refine TA_all [4, 9] (by kernel_rfl) (by decide) ⟨?_, ?_, trivial⟩
       ·skip
        refine ⟨_, rfl, rfl, (TOp_pure (pur_ld_b one23 rfl rfl rfl rfl) rfl ?_)⟩
        exact tj hj12_7 rfl (wp 9 (lb rfl) rfl rfl rfl rfl rfl)
       ·skip
        refine ⟨_, rfl, rfl, (TOp_pure (pur_ld_b one46 rfl rfl rfl rfl) rfl ?_)⟩
        refine tf 11 rfl (purI_cutM (lo := (some (.tmp 60))) (hi := none) sl46 rfl ⟨_, congrArg (fun z => A.v (.int .i64 z)) hi_33⟩ hj_34.symm hij_35 hjl_36 rfl) rfl rfl (by kernel_rfl) ?_
        exact tj hj7_7 rfl (wp 9 (lb rfl) rfl rfl rfl rfl rfl)
      refine tf 0 rfl (purI_fa_b fld65_0 rfl rfl) rfl rfl (by kernel_rfl) ?_
      refine tf 3 rfl (purI_fa_b fld65_1 rfl rfl) rfl rfl (by kernel_rfl) ?_
      refine tf 8 rfl (purI_fa_b fld48_1 rfl rfl) rfl rfl (by kernel_rfl) ?_
      refine tf 10 rfl (purI_move rfl) rfl rfl (by kernel_rfl) ?_
      refine TA_all [1, 2, 4, 9] (by kernel_rfl) (by decide) ⟨?_, ?_, ?_, ?_, trivial⟩
      ·skip
       refine ⟨_, rfl, rfl, (TOp_pure (pur_ld_b one3 rfl rfl rfl rfl) rfl ?_)⟩
       refine TA_all [2, 4, 9] (by kernel_rfl) (by decide) ⟨?_, ?_, ?_, trivial⟩
       ·skip
        refine ⟨_, rfl, rfl, (TOp_lit (nn := 0) (k := 1) sl23 zero3 rfl rfl rfl rfl (by decide) ?_)⟩
        refine tmv 7 9 (by decide) (lb rfl) rfl rfl (lb rfl) ?_
        exact tj hj15_7 rfl (wp 9 (lb rfl) rfl rfl rfl rfl rfl)
       ·skip
        refine ⟨_, rfl, rfl, (TOp_pure (pur_ld_b one23 rfl rfl rfl rfl) rfl ?_)⟩
        exact tj hj14_7 rfl (wp 9 (lb rfl) rfl rfl rfl rfl rfl)
       ·skip
        refine ⟨_, rfl, rfl, (TOp_pure (pur_ld_b one46 rfl rfl rfl rfl) rfl ?_)⟩
        refine tf 11 rfl (purI_cutM (lo := (some (.tmp 60))) (hi := none) sl46 rfl ⟨_, congrArg (fun z => A.v (.int .i64 z)) hi_33⟩ hj_34.symm hij_35 hjl_36 rfl) rfl rfl (by kernel_rfl) ?_
        refine tae [(4, (.b 2 0)), (6, (.b 5 0)), (7, (intA k7)), (51, (intA f1.relation)), (53, (.b 1 1)), (61, (.m [4] (i_31 * tFact.k) (j_32 - i_31) tFact.k))] rfl ?_
        exact tj hj11_7 rfl (wp 9 (lb rfl) rfl rfl rfl rfl rfl)
      ·skip
       refine ⟨_, rfl, rfl, (TOp_lit (nn := 0) (k := 1) sl23 zero3 rfl rfl rfl rfl (by decide) ?_)⟩
       refine tmv 7 9 (by decide) (lb rfl) rfl rfl (lb rfl) ?_
       refine TA_all [1, 4, 9] (by kernel_rfl) (by decide) ⟨?_, ?_, ?_, trivial⟩
       ·skip
        refine ⟨_, rfl, rfl, (TOp_pure (pur_ld_b one3 rfl rfl rfl rfl) rfl ?_)⟩
        exact tj hj15_7 rfl (wp 9 (lb rfl) rfl rfl rfl rfl rfl)
       ·skip
        refine ⟨_, rfl, rfl, (TOp_pure (pur_ld_b one23 rfl rfl rfl rfl) rfl ?_)⟩
        exact tj hj13_7 rfl (wp 9 (lb rfl) rfl rfl rfl rfl rfl)
       ·skip
        refine ⟨_, rfl, rfl, (TOp_pure (pur_ld_b one46 rfl rfl rfl rfl) rfl ?_)⟩
        refine tf 11 rfl (purI_cutM (lo := (some (.tmp 60))) (hi := none) sl46 rfl ⟨_, congrArg (fun z => A.v (.int .i64 z)) hi_33⟩ hj_34.symm hij_35 hjl_36 rfl) rfl rfl (by kernel_rfl) ?_
        refine tae [(4, (.b 2 0)), (6, (.b 5 0)), (7, (intA k7)), (50, (.b 1 0)), (52, (.m [7] 0 ([] : (List Int)).length tInt.k)), (53, (.b 1 1)), (61, (.m [4] (i_31 * tFact.k) (j_32 - i_31) tFact.k))] rfl ?_
        exact tj hj10_7 rfl (wp 9 (lb rfl) rfl rfl rfl rfl rfl)
      ·skip
       refine ⟨_, rfl, rfl, (TOp_pure (pur_ld_b one23 rfl rfl rfl rfl) rfl ?_)⟩
       refine TA_all [1, 2, 9] (by kernel_rfl) (by decide) ⟨?_, ?_, ?_, trivial⟩
       ·skip
        refine ⟨_, rfl, rfl, (TOp_pure (pur_ld_b one3 rfl rfl rfl rfl) rfl ?_)⟩
        exact tj hj14_7 rfl (wp 9 (lb rfl) rfl rfl rfl rfl rfl)
       ·skip
        refine ⟨_, rfl, rfl, (TOp_lit (nn := 0) (k := 1) sl23 zero3 rfl rfl rfl rfl (by decide) ?_)⟩
        refine tmv 7 9 (by decide) (lb rfl) rfl rfl (lb rfl) ?_
        exact tj hj13_7 rfl (wp 9 (lb rfl) rfl rfl rfl rfl rfl)
       ·skip
        refine ⟨_, rfl, rfl, (TOp_pure (pur_ld_b one46 rfl rfl rfl rfl) rfl ?_)⟩
        refine tf 11 rfl (purI_cutM (lo := (some (.tmp 60))) (hi := none) sl46 rfl ⟨_, congrArg (fun z => A.v (.int .i64 z)) hi_33⟩ hj_34.symm hij_35 hjl_36 rfl) rfl rfl (by kernel_rfl) ?_
        refine tae [(4, (.b 2 0)), (6, (.b 5 0)), (7, (intA k7)), (50, (.b 1 0)), (54, (sl tInt f1.values)), (61, (.m [4] (i_31 * tFact.k) (j_32 - i_31) tFact.k))] rfl ?_
        exact tj hj9_7 rfl (wp 9 (lb rfl) rfl rfl rfl rfl rfl)
      ·skip
       refine ⟨_, rfl, rfl, (TOp_pure (pur_ld_b one46 rfl rfl rfl rfl) rfl ?_)⟩
       refine tf 11 rfl (purI_cutM (lo := (some (.tmp 60))) (hi := none) sl46 rfl ⟨_, congrArg (fun z => A.v (.int .i64 z)) hi_33⟩ hj_34.symm hij_35 hjl_36 rfl) rfl rfl (by kernel_rfl) ?_
       refine tae [(4, (.b 2 0)), (6, (.b 5 0)), (7, (intA k7)), (50, (.b 1 0)), (53, (.b 1 1)), (61, (.m [4] (i_31 * tFact.k) (j_32 - i_31) tFact.k))] rfl ?_
       refine TA_all [1, 2, 4] (by kernel_rfl) (by decide) ⟨?_, ?_, ?_, trivial⟩
       ·skip
        refine ⟨_, rfl, rfl, (TOp_pure (pur_ld_b one3 rfl rfl rfl rfl) rfl ?_)⟩
        exact tj hj11_7 rfl (wp 9 (lb rfl) rfl rfl rfl rfl rfl)
       ·skip
        refine ⟨_, rfl, rfl, (TOp_lit (nn := 0) (k := 1) sl23 zero3 rfl rfl rfl rfl (by decide) ?_)⟩
        refine tmv 7 9 (by decide) (lb rfl) rfl rfl (lb rfl) ?_
        exact tj hj10_7 rfl (wp 9 (lb rfl) rfl rfl rfl rfl rfl)
       ·skip
        refine ⟨_, rfl, rfl, (TOp_pure (pur_ld_b one23 rfl rfl rfl rfl) rfl ?_)⟩
        exact tj hj9_7 rfl (wp 9 (lb rfl) rfl rfl rfl rfl rfl)
     ·rintro _ _
      refine te [(4, (.b 2 0)), (6, (.b 5 0)), (7, (intA k7)), (8, (.m [6] 0 us_38.length tFact.k))] rfl ?_
      refine sr ?_
      refine TO_cons rfl (TOp_lit (nn := 0) (k := 2) sl46 zero65 rfl rfl rfl rfl (by decide) ?_)
      refine TO_st (σ' := [.box [(sl tRelation d0.relations), (sl tFact d0.facts)], .box [(intA f1.relation), (sl tInt f1.values)], .box [.n, .n], .row (flat tRelation.enc r_1.relations), .row (flat tFact.enc r_1.facts), .box [(.m [3] 0 r_1.relations.length tRelation.k), (.m [4] 0 r_1.facts.length tFact.k)], .row (flat tFact.enc us_38), .row (flat tFact.enc ([] : (List Fact)))]) rfl ?_
      refine Tp rfl rfl (pur_fa_b fld48_1 rfl rfl) rfl ?_
      refine Tp rfl rfl (pur_ld_b one46 rfl rfl rfl rfl) rfl ?_
      refine Tp rfl rfl (pur_move rfl) rfl ?_
      obtain ⟨ys_40, h_41, H⟩ := bind_inv H
      obtain ⟨i_42, j_43, hi_44, hj_45, hij_46, hjl_47, hys_48, _⟩ := cutI_inv h_41
      refine Tp rfl rfl (pur_cutM (lo := none) (hi := (some (.tmp 66))) sl46 rfl hi_44.symm ⟨_, congrArg (fun z => A.v (.int .i64 z)) hj_45⟩ hij_46 hjl_47 rfl) rfl ?_
      obtain ⟨us_49, h_50, H⟩ := bind_inv H
      refine TO_cons rfl (TOp_appZ (T := tFact) (f := tFact.enc) (xs := ([] : (List Fact))) (ys := ys_40) tFact.len sl46 zero65 rfl bytes65 (by decide) rfl rfl rfl rfl (src_cut (T := tFact) (xs := r_1.facts) (i := i_42) (j := j_43) rfl rfl hij_46 hjl_47 hys_48) (flat_cell tFact _) h_50 (lb rfl) ?_)
      refine toe [(4, (.b 2 0)), (6, (.b 5 0)), (7, (intA k7)), (8, (.m [6] 0 us_38.length tFact.k)), (64, (.b 5 1)), (65, (.m [4] 0 r_1.facts.length tFact.k)), (66, (intA k7)), (67, (.m [4] (i_42 * tFact.k) (j_43 - i_42) tFact.k)), (68, (.m [7] 0 us_49.length tFact.k))] rfl ?_
      refine TO_st (σ' := [.box [(sl tRelation d0.relations), (sl tFact d0.facts)], .box [(intA f1.relation), (sl tInt f1.values)], .box [.n, .n], .row (flat tRelation.enc r_1.relations), .row (flat tFact.enc r_1.facts), .box [(.m [3] 0 r_1.relations.length tRelation.k), (.m [4] 0 r_1.facts.length tFact.k)], .row (flat tFact.enc us_38), .row (flat tFact.enc us_49), .dead]) rfl ?_
      refine Tp rfl rfl (pur_move rfl) rfl ?_
      obtain ⟨us_51, h_52, H⟩ := bind_inv H
      refine TO_cons rfl (TOp_appZ (T := tFact) (f := tFact.enc) (xs := us_49) (ys := us_38) tFact.len sl46 zero65 rfl bytes65 (by decide) rfl rfl rfl rfl (src_mT (f := tFact.enc) tFact.len rfl rfl (flat_cell tFact _)) (flat_cell tFact _) h_52 (lb rfl) ?_)
      refine toe [(4, (.b 2 0)), (6, (.b 5 0)), (7, (intA k7)), (8, (.m [6] 0 us_38.length tFact.k)), (64, (.b 5 1)), (65, (.m [4] 0 r_1.facts.length tFact.k)), (66, (intA k7)), (67, (.m [4] (i_42 * tFact.k) (j_43 - i_42) tFact.k)), (69, (.m [6] 0 us_38.length tFact.k)), (70, (.m [7] 0 us_51.length tFact.k))] rfl ?_
      refine TO_st (σ' := [.box [(sl tRelation d0.relations), (sl tFact d0.facts)], .box [(intA f1.relation), (sl tInt f1.values)], .box [.n, .n], .row (flat tRelation.enc r_1.relations), .row (flat tFact.enc r_1.facts), .box [(.m [3] 0 r_1.relations.length tRelation.k), (.m [4] 0 r_1.facts.length tFact.k)], .row (flat tFact.enc us_38), .row (flat tFact.enc us_51), .dead, .dead]) rfl ?_
      refine Tp rfl rfl (pur_fa_b fld48_1 rfl rfl) rfl ?_
      refine TO_cons rfl (TOp_storeB sz46 rfl rfl rfl rfl rfl rfl rfl (by decide) (lb rfl) rfl ?_)
      refine TO_st (σ' := [.box [(sl tRelation d0.relations), (sl tFact d0.facts)], .box [(intA f1.relation), (sl tInt f1.values)], .box [.n, .n], .row (flat tRelation.enc r_1.relations), .row (flat tFact.enc r_1.facts), .box [(.m [3] 0 r_1.relations.length tRelation.k), (.m [7] 0 us_51.length tFact.k)], .row (flat tFact.enc us_38), .row (flat tFact.enc us_51), .dead, .dead]) rfl ?_
      refine TO_nil ?_
      refine te [(4, (.b 2 0)), (6, (.b 5 0))] rfl ?_
      refine sr ?_
      refine Tp rfl rfl (pur_ldK_b agg48 rfl rfl (lb rfl) rfl) rfl ?_
      refine TO_cons rfl (TOp_storeB sz48 rfl rfl rfl rfl rfl rfl rfl (by decide) (lb rfl) rfl ?_)
      refine TO_st (σ' := [.box [(sl tRelation d0.relations), (sl tFact d0.facts)], .box [(intA f1.relation), (sl tInt f1.values)], .box [(.m [3] 0 r_1.relations.length tRelation.k), (.m [7] 0 us_51.length tFact.k)], .row (flat tRelation.enc r_1.relations), .row (flat tFact.enc r_1.facts), .box [(.m [3] 0 r_1.relations.length tRelation.k), (.m [7] 0 us_51.length tFact.k)], .row (flat tFact.enc us_38), .row (flat tFact.enc us_51), .dead, .dead]) rfl ?_
      refine Tp rfl rfl (pur_assign rfl) rfl ?_
      refine TO_nil ?_
      refine te [(4, (.b 2 0)), (5, (boolA true))] rfl ?_
      refine T_ret ?_
      obtain rfl := some_inj H
      exact end_pick (.cellK rfl agg48 rfl (lb rfl) (.tmp .nil)) rfl [3, 7] (by decide) rfl rfl rfl rfl rfl rfl
theorem m_spec_InsertFact_ok (u : Nat) (d0 : Database) (f1 : Fact) (r : (Database × Bool)) (H : m_spec_InsertFact u d0 f1 = some r) : FnV prg 133 [(.g (tDatabase.enc d0)), (.g (tFact.enc f1))] (.t [(.g (tDatabase.enc r.1)), (boolA r.2)]) := (m_spec_InsertFact_own u d0 f1 r H).frz (frzOK_t (frz_cons (frzOK_g (frz_cons (frzTE (T := tRelation) rfl) (frz_cons (frzTE (T := tFact) rfl) frz_nil)).1 (frz_cons (frzTE (T := tRelation) rfl) (frz_cons (frzTE (T := tFact) rfl) frz_nil)).2) (frz_cons (frz_loose rfl) frz_nil)).1 (frz_cons (frzOK_g (frz_cons (frzTE (T := tRelation) rfl) (frz_cons (frzTE (T := tFact) rfl) frz_nil)).1 (frz_cons (frzTE (T := tRelation) rfl) (frz_cons (frzTE (T := tFact) rfl) frz_nil)).2) (frz_cons (frz_loose rfl) frz_nil)).2)

set_option maxHeartbeats 1000000 in
/-- spec.l1PickInt -/
theorem m_spec_l1PickInt_x (c0 : l1Cur) (list1 : (List Int)) (r : (Int × l1Cur)) (H : m_spec_l1PickInt c0 list1 = some r) : FnS prg 173 [(.b 0 0), (sl tInt list1)] [.box [(sl (tI .u8) c0.b), (intA c0.i), (intA c0.h)]] (intA r.1) [.box [(sl (tI .u8) r.2.b), (intA r.2.i), (intA r.2.h)]] := by
  unfold m_spec_l1PickInt at H
  refine fnS_of_T Try.func173 rfl rfl (Nat.le_of_ble_eq_true rfl) ?_
  refine te [(0, (.b 0 0)), (1, (sl tInt list1))] rfl ?_
  refine T_st (σ' := [.box [(sl (tI .u8) c0.b), (intA c0.i), (intA c0.h)]]) rfl ?_
  refine sr ?_
  refine Tp rfl rfl (pur_assign rfl) rfl ?_
  refine TO_nil ?_
  refine te [(0, (.b 0 0)), (1, (sl tInt list1))] rfl ?_
  refine sr ?_
  refine Tp rfl rfl (pur_move rfl) rfl ?_
  refine Tp rfl rfl (pur_move rfl) rfl ?_
  refine Tp rfl rfl (pur_move rfl) rfl ?_
  refine Tp rfl rfl (pur_lenT (T := tInt) sl23 rfl rfl) rfl ?_
  obtain ⟨r_1, h_2, H⟩ := bind_inv H
  refine TO_cons rfl (TOp_callS [0] (call_static ent121 rfl) (by decide) rfl rfl rfl rfl rfl rfl (m_spec_l1Below_x _ _ _ h_2) rfl rfl ?_)
  refine toe [(0, (.b 0 0)), (1, (sl tInt list1)), (5, (sl tInt list1)), (6, (.b 0 0)), (7, (sl tInt list1)), (8, (intA (list1.length : Int))), (9, (intA r_1.1))] rfl ?_
  refine TO_st (σ' := [.box [(sl (tI .u8) r_1.2.b), (intA r_1.2.i), (intA r_1.2.h)]]) rfl ?_
  obtain ⟨v_3, h_4, H⟩ := bind_inv H
  obtain ⟨n_5, hz_6, hv_7⟩ := getI_inv h_4
  refine Tp rfl rfl (pur_ixT (T := tInt) sl23 rfl rfl hz_6 hv_7 rfl) rfl ?_
  refine Tp rfl rfl (pur_ldT (T := tInt) (i := n_5) (off := 0) rfl one3 rfl rfl hv_7 rfl) rfl ?_
  refine Tp rfl rfl (pur_assign rfl) rfl ?_
  refine TO_nil ?_
  refine te [(4, (intA v_3))] rfl ?_
  refine T_ret ?_
  obtain rfl := some_inj H
  exact end_pickX (.tmp .nil) rfl [0] (by decide) (lb rfl) rfl (lb rfl) rfl rfl rfl rfl rfl rfl

set_option maxHeartbeats 1000000 in
/-- spec.l2Sigs -/
theorem m_spec_l2Sigs_x (c0 : l1Cur) (r : ((List Relation) × l1Cur)) (H : m_spec_l2Sigs c0 = some r) : FnS prg 179 [(.b 0 0)] [.box [(sl (tI .u8) c0.b), (intA c0.i), (intA c0.h)]] (.m [1] 0 r.1.length tRelation.k) [.box [(sl (tI .u8) r.2.b), (intA r.2.i), (intA r.2.h)], .row (flat tRelation.enc r.1)] := by
  unfold m_spec_l2Sigs at H
  refine fnS_of_T Try.func179 rfl rfl (Nat.le_of_ble_eq_true rfl) ?_
  refine te [(0, (.b 0 0))] rfl ?_
  refine T_st (σ' := [.box [(sl (tI .u8) c0.b), (intA c0.i), (intA c0.h)]]) rfl ?_
  refine sr ?_
  refine Tp rfl rfl (pur_assign rfl) rfl ?_
  refine TO_nil ?_
  refine te [(0, (.b 0 0))] rfl ?_
  refine sr ?_
  refine Tp rfl rfl (pur_build bld130 rfl rfl) rfl ?_
  refine Tp rfl rfl (pur_build bld130 rfl rfl) rfl ?_
  refine Tp rfl rfl (pur_move rfl) rfl ?_
  refine TO_cons rfl (TOp_lit (nn := 4) (k := 1) sl23 zero3 rfl rfl rfl rfl (by decide) ?_)
  refine TO_st (σ' := [.box [(sl (tI .u8) c0.b), (intA c0.i), (intA c0.h)], .row (flat tInt.enc ([1, 1, 2, 0] : (List Int)))]) rfl ?_
  refine TO_frz1 1 (E' := [(0, (.b 0 0)), (3, (.g [(strA (⟨#[114]⟩ : ByteArray)), (intA 2), (intA 1)])), (4, (.g [(strA (⟨#[115]⟩ : ByteArray)), (intA 2), (intA 1)])), (5, (.b 0 0)), (6, (sl tInt ([1, 1, 2, 0] : (List Int))))]) rfl rfl (lb rfl) ⟨(.keep rfl), (.keep rfl), (.keep rfl), (.keep rfl), fz1E, trivial⟩ ?_
  refine TO_st (σ' := [.box [(sl (tI .u8) c0.b), (intA c0.i), (intA c0.h)], .dead]) rfl ?_
  obtain ⟨r_1, h_2, H⟩ := bind_inv H
  refine TO_cons rfl (TOp_callS [0] (call_static ent173 rfl) (by decide) rfl rfl rfl rfl rfl rfl (m_spec_l1PickInt_x _ _ _ h_2) rfl rfl ?_)
  refine toe [(0, (.b 0 0)), (3, (.g [(strA (⟨#[114]⟩ : ByteArray)), (intA 2), (intA 1)])), (4, (.g [(strA (⟨#[115]⟩ : ByteArray)), (intA 2), (intA 1)])), (5, (.b 0 0)), (6, (sl tInt ([1, 1, 2, 0] : (List Int)))), (7, (intA r_1.1))] rfl ?_
  refine TO_st (σ' := [.box [(sl (tI .u8) r_1.2.b), (intA r_1.2.i), (intA r_1.2.h)], .dead]) rfl ?_
  refine Tp rfl rfl (pur_build bld130 rfl rfl) rfl ?_
  refine Tp rfl rfl (pur_move rfl) rfl ?_
  obtain ⟨r_3, h_4, H⟩ := bind_inv H
  refine TO_cons rfl (TOp_callS [0] (call_static ent121 rfl) (by decide) rfl rfl rfl rfl rfl rfl (m_spec_l1Below_x _ _ _ h_4) rfl rfl ?_)
  refine toe [(0, (.b 0 0)), (3, (.g [(strA (⟨#[114]⟩ : ByteArray)), (intA 2), (intA 1)])), (4, (.g [(strA (⟨#[115]⟩ : ByteArray)), (intA 2), (intA 1)])), (5, (.b 0 0)), (6, (sl tInt ([1, 1, 2, 0] : (List Int)))), (7, (intA r_1.1)), (8, (.g [(strA (⟨#[116]⟩ : ByteArray)), (intA 2), (intA r_1.1)])), (9, (.b 0 0)), (10, (intA r_3.1))] rfl ?_
  refine TO_st (σ' := [.box [(sl (tI .u8) r_3.2.b), (intA r_3.2.i), (intA r_3.2.h)], .dead]) rfl ?_
  refine toe [(3, (.g [(strA (⟨#[114]⟩ : ByteArray)), (intA 2), (intA 1)])), (4, (.g [(strA (⟨#[115]⟩ : ByteArray)), (intA 2), (intA 1)])), (8, (.g [(strA (⟨#[116]⟩ : ByteArray)), (intA 2), (intA r_1.1)])), (10, (intA r_3.1))] rfl ?_
  refine Tp rfl rfl (pur_wadd rfl rfl rfl) rfl ?_
  refine Tp rfl rfl (pur_build bld130 rfl rfl) rfl ?_
  refine TO_cons rfl (TOp_lit (nn := 4) (k := 3) sl45 zero130 rfl rfl rfl rfl (by decide) ?_)
  refine TO_st (σ' := [.box [(sl (tI .u8) r_3.2.b), (intA r_3.2.i), (intA r_3.2.h)], .dead, .row (flat tRelation.enc ([({ name := (⟨#[114]⟩ : ByteArray), arity := 2, keyLength := 1 } : Relation), ({ name := (⟨#[115]⟩ : ByteArray), arity := 2, keyLength := 1 } : Relation), ({ name := (⟨#[116]⟩ : ByteArray), arity := 2, keyLength := r_1.1 } : Relation), ({ name := (⟨#[117]⟩ : ByteArray), arity := 3, keyLength := (w64 (1 + r_3.1)) } : Relation)] : (List Relation)))]) rfl ?_
  refine Tp rfl rfl (pur_assign rfl) rfl ?_
  refine TO_nil ?_
  refine te [(2, (.m [2] 0 ([({ name := (⟨#[114]⟩ : ByteArray), arity := 2, keyLength := 1 } : Relation), ({ name := (⟨#[115]⟩ : ByteArray), arity := 2, keyLength := 1 } : Relation), ({ name := (⟨#[116]⟩ : ByteArray), arity := 2, keyLength := r_1.1 } : Relation), ({ name := (⟨#[117]⟩ : ByteArray), arity := 3, keyLength := (w64 (1 + r_3.1)) } : Relation)] : (List Relation)).length tRelation.k))] rfl ?_
  refine T_ret ?_
  obtain rfl := some_inj H
  exact end_pickX (.tmp .nil) rfl [0, 2] (by decide) (lb rfl) rfl (lb rfl) rfl rfl rfl rfl rfl rfl

set_option maxHeartbeats 1000000 in
/-- spec.l3Fact -/
theorem m_spec_l3Fact_x (u : Nat) (c0 : l1Cur) (l1 : (List Relation)) (val2 : Int) (r : (Fact × l1Cur)) (H : m_spec_l3Fact u c0 l1 val2 = some r) : FnS prg 180 [(.b 0 0), (sl tRelation l1), (intA val2)] [.box [(sl (tI .u8) c0.b), (intA c0.i), (intA c0.h)]] (.g [(intA r.1.relation), (.m [1] 0 r.1.values.length tInt.k)]) [.box [(sl (tI .u8) r.2.b), (intA r.2.i), (intA r.2.h)], .row (flat tInt.enc r.1.values)] := by
  unfold m_spec_l3Fact at H
  refine fnS_of_T Try.func180 rfl rfl (Nat.le_of_ble_eq_true rfl) ?_
  refine te [(0, (.b 0 0)), (1, (sl tRelation l1)), (2, (intA val2))] rfl ?_
  refine T_st (σ' := [.box [(sl (tI .u8) c0.b), (intA c0.i), (intA c0.h)]]) rfl ?_
  refine sr ?_
  refine TO_cons rfl (TOp_alloc zero65 rfl rfl ?_)
  refine TO_nil ?_
  refine te [(0, (.b 0 0)), (1, (sl tRelation l1)), (2, (intA val2)), (6, (.b 1 0))] rfl ?_
  refine sr ?_
  refine Tp rfl rfl (pur_move rfl) rfl ?_
  refine Tp rfl rfl (pur_move rfl) rfl ?_
  refine Tp rfl rfl (pur_lenT (T := tRelation) sl45 rfl rfl) rfl ?_
  obtain ⟨r_1, h_2, H⟩ := bind_inv H
  refine TO_cons rfl (TOp_callS [0] (call_static ent121 rfl) (by decide) rfl rfl rfl rfl rfl rfl (m_spec_l1Below_x _ _ _ h_2) rfl rfl ?_)
  refine toe [(0, (.b 0 0)), (1, (sl tRelation l1)), (2, (intA val2)), (6, (.b 1 0)), (8, (.b 0 0)), (9, (sl tRelation l1)), (10, (intA (l1.length : Int))), (11, (intA r_1.1))] rfl ?_
  refine TO_st (σ' := [.box [(sl (tI .u8) r_1.2.b), (intA r_1.2.i), (intA r_1.2.h)], .box [(intA 0), .n]]) rfl ?_
  refine Tp rfl rfl (pur_build bld65 rfl rfl) rfl ?_
  refine TO_cons rfl (TOp_alloc zero65 rfl rfl ?_)
  refine TO_cons rfl (TOp_storeB sz65 rfl rfl rfl rfl rfl rfl rfl (by decide) (lb rfl) rfl ?_)
  refine TO_st (σ' := [.box [(sl (tI .u8) r_1.2.b), (intA r_1.2.i), (intA r_1.2.h)], .box [(intA 0), .n], .box [(intA r_1.1), .n]]) rfl ?_
  refine TO_nil ?_
  refine te [(0, (.b 0 0)), (1, (sl tRelation l1)), (2, (intA val2)), (6, (.b 1 0)), (7, (.b 2 0))] rfl ?_
  refine T_row0 ?_
  refine T_boxle (xs := [(intA r_1.1), .n]) (ys := [(intA r_1.1), (.m [3] 0 ([] : (List Int)).length tInt.k)]) 2 rfl (leCons (leR rfl) (leCons leM leNil)) ?_
  refine T_st (σ' := [.box [(sl (tI .u8) r_1.2.b), (intA r_1.2.i), (intA r_1.2.h)], .box [(intA 0), .n], .box [(intA r_1.1), (.m [3] 0 ([] : (List Int)).length tInt.k)], .row (flat tInt.enc ([] : (List Int)))]) rfl ?_
  obtain ⟨O3_, L3_, N3_⟩ := bind_inv H
  clear H
  obtain ⟨B3_, hb3, L3_⟩ := gen_whileF L3_
  refine T_cutX (fun (x : l1Cur × (List Int)) => O3_ = .inl x) (fun (x_ : l1Cur × (List Int)) => [(6, (.b 1 0)), (7, (.b 2 0))]) (fun (x_ : l1Cur × (List Int)) => [.box [(sl (tI .u8) x_.1.b), (intA x_.1.i), (intA x_.1.h)], .box [(intA 0), .n], .box [(intA r_1.1), (.m [3] 0 x_.2.length tInt.k)], .row (flat tInt.enc x_.2)]) ?_ ?_
  ·skip
   refine T_block ?_
   refine T_loopX (fun k => fun (x_ : l1Cur × (List Int)) => whileF B3_ k (x_.1, x_.2) = some O3_) (fun (x_ : l1Cur × (List Int)) => [(0, (.b 0 0)), (1, (sl tRelation l1)), (2, (intA val2)), (6, (.b 1 0)), (7, (.b 2 0))]) (fun (x_ : l1Cur × (List Int)) => [.box [(sl (tI .u8) x_.1.b), (intA x_.1.i), (intA x_.1.h)], .box [(intA 0), .n], .box [(intA r_1.1), (.m [3] 0 x_.2.length tInt.k)], .row (flat tInt.enc x_.2)]) u (r_1.2, ([] : (List Int))) (wp 4 (lb rfl) rfl rfl rfl rfl rfl) L3_ ?_
   rintro _ ⟨box0, box2_values⟩ L3_
   obtain ⟨k3, rfl, C3_, H, K3_⟩ := while_step L3_
   rw [hb3] at H
   refine te [(0, (.b 0 0)), (1, (sl tRelation l1)), (2, (intA val2)), (6, (.b 1 0)), (7, (.b 2 0))] rfl ?_
   refine T_st (σ' := [.box [(sl (tI .u8) box0.b), (intA box0.i), (intA box0.h)], .box [(intA 0), .n], .box [(intA r_1.1), (.m [3] 0 box2_values.length tInt.k)], .row (flat tInt.enc box2_values)]) rfl ?_
   refine T_seq ?_
   refine T_seq ?_
   refine T_regionD mixed (by kernel_rfl) ?_
   refine TQ_pure rfl (pur_fa_b fld65_1 rfl rfl) rfl ?_
   refine TQ_pure rfl (pur_ld_b one23 rfl rfl rfl rfl) rfl ?_
   refine TQ_pure rfl (pur_len_m sl23 rfl rfl) rfl ?_
   refine TQ_pure rfl (pur_move rfl) rfl ?_
   refine TQ_pure rfl (pur_fa_b fld65_0 rfl rfl) rfl ?_
   refine TQ_pure rfl (pur_ld_b one3 rfl rfl rfl rfl) rfl ?_
   obtain ⟨v_4, h_5, H⟩ := bind_inv H
   obtain ⟨n_6, hz_7, hv_8⟩ := getI_inv h_5
   refine TQ_pure rfl (pur_ixT (T := tRelation) sl45 rfl rfl hz_7 hv_8 rfl) rfl ?_
   refine TQ_pure rfl (pur_fa_q fld130_1 rfl rfl) rfl ?_
   refine TQ_pure rfl (pur_ldT (T := tRelation) (i := n_6) (off := 1) rfl one3 rfl rfl hv_8 rfl) rfl ?_
   refine TQ_pure rfl (pur_lss rfl rfl rfl) rfl ?_
   refine TQ_nil ?_
   refine te [(0, (.b 0 0)), (1, (sl tRelation l1)), (2, (intA val2)), (6, (.b 1 0)), (7, (.b 2 0)), (22, (boolA (decide ((box2_values.length : Int) < v_4.arity))))] rfl ?_
   refine T_cond (t := decide ((box2_values.length : Int) < v_4.arity)) rfl (fun c_9 => ?_) (fun c_9 => ?_)
   ·replace H := cond_t c_9 H
    refine T_skip ?_
    refine te [(0, (.b 0 0)), (1, (sl tRelation l1)), (2, (intA val2)), (6, (.b 1 0)), (7, (.b 2 0))] rfl ?_
    refine T_block ?_
    obtain ⟨r_10, h_11, H⟩ := bind_inv H
    obtain ⟨us_12, h_13, H⟩ := bind_inv H
    refine T_pad ?_
    refine T_regionP mixed ?_
    refine TA_have 3 #[true, true, true, true, true, true, false, false, false] [(0, (.b 0 0)), (1, (sl tRelation l1)), (2, (intA val2)), (6, (.b 1 0)), (7, (.b 2 0)), (24, (.m [3] 0 box2_values.length tInt.k)), (28, (.m [4] 0 ([r_10.1] : (List Int)).length tInt.k))] [.box [(sl (tI .u8) r_10.2.b), (intA r_10.2.i), (intA r_10.2.h)], .box [(intA 0), .n], .box [(intA r_1.1), (.m [3] 0 box2_values.length tInt.k)], .row (flat tInt.enc box2_values), .row (flat tInt.enc ([r_10.1] : (List Int)))] ?_ (fun hj0_3 => ?_)
    ·skip
     refine t1 6 (by kernel_rfl) rfl rfl (TOp_appY (T := tInt) (f := tInt.enc) (xs := box2_values) (ys := ([r_10.1] : (List Int))) tInt.len sl23 zero3 rfl bytes3 (by decide) rfl rfl rfl rfl (src_mT (f := tInt.enc) tInt.len rfl rfl (flat_cell tInt _)) (flat_cell tInt _) h_13 ?_)
     refine tmv 3 5 (by decide) (lb rfl) rfl rfl (lb rfl) ?_
     refine tf 7 rfl (purI_fa_b fld65_1 rfl rfl) rfl rfl (by kernel_rfl) ?_
     refine t1 8 (by kernel_rfl) rfl rfl (TOp_storeB sz23 rfl rfl rfl rfl rfl rfl rfl (by decide) (lb rfl) rfl ?_)
     refine TA_st (σ' := [.box [(sl (tI .u8) r_10.2.b), (intA r_10.2.i), (intA r_10.2.h)], .box [(intA 0), .n], .box [(intA r_1.1), (.m [3] 0 us_12.length tInt.k)], .row (flat tInt.enc us_12), .row (flat tInt.enc ([r_10.1] : (List Int))), .dead]) rfl ?_
     refine TA_nil (by kernel_rfl) ?_
     obtain rfl := some_inj H
     exact again k3 (r_10.2, us_12) (Nat.lt_succ_self _) (wp 4 (lb rfl) rfl rfl rfl rfl rfl) K3_
    refine TA_have 4 #[true, true, true, true, true, false, false, false, false] [(0, (.b 0 0)), (1, (sl tRelation l1)), (2, (intA val2)), (6, (.b 1 0)), (7, (.b 2 0)), (24, (.m [3] 0 box2_values.length tInt.k)), (27, (intA r_10.1))] [.box [(sl (tI .u8) r_10.2.b), (intA r_10.2.i), (intA r_10.2.h)], .box [(intA 0), .n], .box [(intA r_1.1), (.m [3] 0 box2_values.length tInt.k)], .row (flat tInt.enc box2_values), .dead] ?_ (fun hj1_3 => ?_)
    ·skip
     refine t1 5 (by kernel_rfl) rfl rfl (TOp_lit (nn := 1) (k := 1) sl23 zero3 rfl rfl rfl rfl (by decide) ?_)
     refine tmv 4 5 (by decide) (lb rfl) rfl rfl (lb rfl) ?_
     exact tj hj0_3 rfl (wp 5 (lb rfl) rfl rfl rfl rfl rfl)
    refine tf 0 rfl (purI_fa_b fld65_1 rfl rfl) rfl rfl (by kernel_rfl) ?_
    refine tf 2 rfl (purI_move rfl) rfl rfl (by kernel_rfl) ?_
    refine tf 3 rfl (purI_move rfl) rfl rfl (by kernel_rfl) ?_
    refine TA_all [1, 4] (by kernel_rfl) (by decide) ⟨?_, ?_, trivial⟩
    ·skip
     refine ⟨_, rfl, rfl, (TOp_pure (pur_ld_b one23 rfl rfl rfl rfl) rfl ?_)⟩
     refine t1 4 (by kernel_rfl) rfl rfl (TOp_callS [0] (call_static ent121 rfl) (by decide) rfl rfl rfl rfl rfl rfl (m_spec_l1Below_x _ _ _ h_11) rfl rfl ?_)
     refine tae [(0, (.b 0 0)), (1, (sl tRelation l1)), (2, (intA val2)), (6, (.b 1 0)), (7, (.b 2 0)), (23, (.b 2 1)), (24, (.m [3] 0 box2_values.length tInt.k)), (25, (.b 0 0)), (26, (intA val2)), (27, (intA r_10.1))] rfl ?_
     refine TA_st (σ' := [.box [(sl (tI .u8) r_10.2.b), (intA r_10.2.i), (intA r_10.2.h)], .box [(intA 0), .n], .box [(intA r_1.1), (.m [3] 0 box2_values.length tInt.k)], .row (flat tInt.enc box2_values), .dead]) rfl ?_
     exact tj hj1_3 rfl (wp 5 (lb rfl) rfl rfl rfl rfl rfl)
    ·skip
     refine ⟨_, rfl, rfl, (TOp_callS [0] (call_static ent121 rfl) (by decide) rfl rfl rfl rfl rfl rfl (m_spec_l1Below_x _ _ _ h_11) rfl rfl ?_)⟩
     refine tae [(0, (.b 0 0)), (1, (sl tRelation l1)), (2, (intA val2)), (6, (.b 1 0)), (7, (.b 2 0)), (23, (.b 2 1)), (25, (.b 0 0)), (26, (intA val2)), (27, (intA r_10.1))] rfl ?_
     refine TA_st (σ' := [.box [(sl (tI .u8) r_10.2.b), (intA r_10.2.i), (intA r_10.2.h)], .box [(intA 0), .n], .box [(intA r_1.1), (.m [3] 0 box2_values.length tInt.k)], .row (flat tInt.enc box2_values), .dead]) rfl ?_
     refine TA_all [1, 5] (by kernel_rfl) (by decide) ⟨?_, ?_, trivial⟩
     ·skip
      refine ⟨_, rfl, rfl, (TOp_pure (pur_ld_b one23 rfl rfl rfl rfl) rfl ?_)⟩
      exact tj hj1_3 rfl (wp 5 (lb rfl) rfl rfl rfl rfl rfl)
     ·skip
      refine ⟨_, rfl, rfl, (TOp_lit (nn := 1) (k := 1) sl23 zero3 rfl rfl rfl rfl (by decide) ?_)⟩
      refine tmv 4 5 (by decide) (lb rfl) rfl rfl (lb rfl) ?_
      refine t1 1 (by kernel_rfl) rfl rfl (TOp_pure (pur_ld_b one23 rfl rfl rfl rfl) rfl ?_)
      exact tj hj0_3 rfl (wp 5 (lb rfl) rfl rfl rfl rfl rfl)
   ·replace H := cond_f c_9 H
    refine T_exit ?_
    refine then_exit ?_
    refine then_exit ?_
    refine block_exit ?_
    obtain rfl := some_inj H
    obtain rfl := some_inj K3_
    exact joined (box0, box2_values) (wp 4 (lb rfl) rfl rfl rfl rfl rfl) rfl
  ·rintro ⟨box0, box2_values⟩ rfl
   replace H := onS_l N3_
   refine te [(6, (.b 1 0)), (7, (.b 2 0))] rfl ?_
   refine sr ?_
   refine Tp rfl rfl (pur_ldK_b agg65 rfl rfl (lb rfl) rfl) rfl ?_
   refine TO_cons rfl (TOp_storeB sz65 rfl rfl rfl rfl rfl rfl rfl (by decide) (lb rfl) rfl ?_)
   refine TO_st (σ' := [.box [(sl (tI .u8) box0.b), (intA box0.i), (intA box0.h)], .box [(intA r_1.1), (.m [3] 0 box2_values.length tInt.k)], .box [(intA r_1.1), (.m [3] 0 box2_values.length tInt.k)], .row (flat tInt.enc box2_values)]) rfl ?_
   refine TO_nil ?_
   refine te [(6, (.b 1 0))] rfl ?_
   refine T_ret ?_
   obtain rfl := some_inj H
   exact end_pickX (.cellK rfl agg65 rfl (lb rfl) .nil) rfl [0, 3] (by decide) (lb rfl) rfl (lb rfl) rfl rfl rfl rfl rfl rfl

set_option maxHeartbeats 1000000 in
/-- spec.l4Db -/
theorem m_spec_l4Db_x (u : Nat) (c0 : l1Cur) (r : (Database × l1Cur)) (H : m_spec_l4Db u c0 = some r) : FnS prg 162 [(.b 0 0)] [.box [(sl (tI .u8) c0.b), (intA c0.i), (intA c0.h)]] (.g [(.m [1] 0 r.1.relations.length tRelation.k), (.m [2] 0 r.1.facts.length tFact.k)]) [.box [(sl (tI .u8) r.2.b), (intA r.2.i), (intA r.2.h)], .row (flat tRelation.enc r.1.relations), .row (flat tFact.enc r.1.facts)] := by
  unfold m_spec_l4Db at H
  refine fnS_of_T Try.func162 rfl rfl (Nat.le_of_ble_eq_true rfl) ?_
  refine te [(0, (.b 0 0))] rfl ?_
  refine T_st (σ' := [.box [(sl (tI .u8) c0.b), (intA c0.i), (intA c0.h)]]) rfl ?_
  refine sr ?_
  refine TO_cons rfl (TOp_alloc zero48 rfl rfl ?_)
  refine TO_nil ?_
  refine te [(0, (.b 0 0)), (2, (.b 1 0))] rfl ?_
  refine sr ?_
  refine Tp rfl rfl (pur_move rfl) rfl ?_
  obtain ⟨r_1, h_2, H⟩ := bind_inv H
  refine TO_cons rfl (TOp_callS [0] (call_static ent179 rfl) (by decide) rfl rfl rfl rfl rfl rfl (m_spec_l2Sigs_x _ _ h_2) rfl rfl ?_)
  refine toe [(0, (.b 0 0)), (2, (.b 1 0)), (6, (.b 0 0)), (7, (.m [2] 0 r_1.1.length tRelation.k))] rfl ?_
  refine TO_st (σ' := [.box [(sl (tI .u8) r_1.2.b), (intA r_1.2.i), (intA r_1.2.h)], .box [.n, .n], .row (flat tRelation.enc r_1.1)]) rfl ?_
  refine Tp rfl rfl (pur_build bld48 rfl rfl) rfl ?_
  refine TO_cons rfl (TOp_alloc zero48 rfl rfl ?_)
  refine TO_cons rfl (TOp_storeB sz48 rfl rfl rfl rfl rfl rfl rfl (by decide) (lb rfl) rfl ?_)
  refine TO_st (σ' := [.box [(sl (tI .u8) r_1.2.b), (intA r_1.2.i), (intA r_1.2.h)], .box [.n, .n], .row (flat tRelation.enc r_1.1), .box [(.m [2] 0 r_1.1.length tRelation.k), .n]]) rfl ?_
  refine TO_nil ?_
  refine te [(0, (.b 0 0)), (2, (.b 1 0)), (3, (.b 3 0))] rfl ?_
  refine sr ?_
  refine Tp rfl rfl (pur_move rfl) rfl ?_
  refine TO_cons rfl (TOp_lit (nn := 4) (k := 1) sl23 zero3 rfl rfl rfl rfl (by decide) ?_)
  refine TO_st (σ' := [.box [(sl (tI .u8) r_1.2.b), (intA r_1.2.i), (intA r_1.2.h)], .box [.n, .n], .row (flat tRelation.enc r_1.1), .box [(.m [2] 0 r_1.1.length tRelation.k), .n], .row (flat tInt.enc ([2, 2, 3, 3] : (List Int)))]) rfl ?_
  refine TO_frz1 4 (E' := [(0, (.b 0 0)), (2, (.b 1 0)), (3, (.b 3 0)), (9, (.b 0 0)), (10, (sl tInt ([2, 2, 3, 3] : (List Int))))]) rfl rfl (lb rfl) ⟨(.keep rfl), (.keep rfl), (.keep rfl), (.keep rfl), fz1E, trivial⟩ ?_
  refine TO_st (σ' := [.box [(sl (tI .u8) r_1.2.b), (intA r_1.2.i), (intA r_1.2.h)], .box [.n, .n], .row (flat tRelation.enc r_1.1), .box [(.m [2] 0 r_1.1.length tRelation.k), .n], .dead]) rfl ?_
  obtain ⟨r_3, h_4, H⟩ := bind_inv H
  refine TO_cons rfl (TOp_callS [0] (call_static ent173 rfl) (by decide) rfl rfl rfl rfl rfl rfl (m_spec_l1PickInt_x _ _ _ h_4) rfl rfl ?_)
  refine toe [(0, (.b 0 0)), (2, (.b 1 0)), (3, (.b 3 0)), (9, (.b 0 0)), (10, (sl tInt ([2, 2, 3, 3] : (List Int)))), (11, (intA r_3.1))] rfl ?_
  refine TO_st (σ' := [.box [(sl (tI .u8) r_3.2.b), (intA r_3.2.i), (intA r_3.2.h)], .box [.n, .n], .row (flat tRelation.enc r_1.1), .box [(.m [2] 0 r_1.1.length tRelation.k), .n], .dead]) rfl ?_
  refine Tp rfl rfl (pur_assign rfl) rfl ?_
  refine TO_nil ?_
  refine te [(0, (.b 0 0)), (2, (.b 1 0)), (3, (.b 3 0)), (4, (intA r_3.1))] rfl ?_
  refine T_seq ?_
  refine sr ?_
  refine Tp rfl rfl (pur_move rfl) rfl ?_
  obtain ⟨r_5, h_6, H⟩ := bind_inv H
  refine TO_cons rfl (TOp_callS [0] (call_static ent121 rfl) (by decide) rfl rfl rfl rfl rfl rfl (m_spec_l1Below_x _ _ _ h_6) rfl rfl ?_)
  refine toe [(0, (.b 0 0)), (2, (.b 1 0)), (3, (.b 3 0)), (4, (intA r_3.1)), (12, (.b 0 0)), (13, (intA r_5.1))] rfl ?_
  refine TO_st (σ' := [.box [(sl (tI .u8) r_5.2.b), (intA r_5.2.i), (intA r_5.2.h)], .box [.n, .n], .row (flat tRelation.enc r_1.1), .box [(.m [2] 0 r_1.1.length tRelation.k), .n], .dead]) rfl ?_
  refine Tp rfl rfl (pur_wadd rfl rfl rfl) rfl ?_
  refine Tp rfl rfl (pur_assign rfl) rfl ?_
  refine TO_nil ?_
  refine te [(0, (.b 0 0)), (2, (.b 1 0)), (3, (.b 3 0)), (4, (intA r_3.1)), (5, (intA (w64 (2 + r_5.1))))] rfl ?_
  refine T_row0 ?_
  refine T_boxle (xs := [(.m [2] 0 r_1.1.length tRelation.k), .n]) (ys := [(.m [2] 0 r_1.1.length tRelation.k), (.m [5] 0 ([] : (List Fact)).length tFact.k)]) 3 rfl (leCons (leR rfl) (leCons leM leNil)) ?_
  refine T_st (σ' := [.box [(sl (tI .u8) r_5.2.b), (intA r_5.2.i), (intA r_5.2.h)], .box [.n, .n], .row (flat tRelation.enc r_1.1), .box [(.m [2] 0 r_1.1.length tRelation.k), (.m [5] 0 ([] : (List Fact)).length tFact.k)], .dead, .row (flat tFact.enc ([] : (List Fact)))]) rfl ?_
  obtain ⟨O7_, L7_, N7_⟩ := bind_inv H
  clear H
  obtain ⟨B7_, hb7, L7_⟩ := gen_whileF L7_
  refine T_block ?_
  refine T_loopX (fun k => fun (x_ : Int × l1Cur × (List Relation) × (List Fact)) => whileF B7_ k (x_.1, x_.2.1, x_.2.2.1, x_.2.2.2) = some O7_) (fun (x_ : Int × l1Cur × (List Relation) × (List Fact)) => [(0, (.b 0 0)), (2, (.b 1 0)), (3, (.b 3 0)), (4, (intA r_3.1)), (5, (intA x_.1))]) (fun (x_ : Int × l1Cur × (List Relation) × (List Fact)) => [.box [(sl (tI .u8) x_.2.1.b), (intA x_.2.1.i), (intA x_.2.1.h)], .box [.n, .n], .row (flat tRelation.enc x_.2.2.1), .box [(.m [2] 0 x_.2.2.1.length tRelation.k), (.m [5] 0 x_.2.2.2.length tFact.k)], .dead, .row (flat tFact.enc x_.2.2.2)]) u ((w64 (2 + r_5.1)), r_5.2, r_1.1, ([] : (List Fact))) (wp 6 (lb rfl) rfl rfl rfl rfl rfl) L7_ ?_
  rintro _ ⟨n5, box0, box3_relations, box3_facts⟩ L7_
  obtain ⟨k7, rfl, C7_, H, K7_⟩ := while_step L7_
  rw [hb7] at H
  refine te [(0, (.b 0 0)), (2, (.b 1 0)), (3, (.b 3 0)), (4, (intA r_3.1)), (5, (intA n5))] rfl ?_
  refine T_st (σ' := [.box [(sl (tI .u8) box0.b), (intA box0.i), (intA box0.h)], .box [.n, .n], .row (flat tRelation.enc box3_relations), .box [(.m [2] 0 box3_relations.length tRelation.k), (.m [5] 0 box3_facts.length tFact.k)], .dead, .row (flat tFact.enc box3_facts)]) rfl ?_
  refine T_seq ?_
  refine sr ?_
  refine Tp rfl rfl (pur_move rfl) rfl ?_
  refine Tp rfl rfl (pur_gtr rfl rfl rfl) rfl ?_
  refine TO_nil ?_
  refine te [(0, (.b 0 0)), (2, (.b 1 0)), (3, (.b 3 0)), (4, (intA r_3.1)), (5, (intA n5)), (16, (boolA (decide (0 < n5))))] rfl ?_
  refine T_cond (t := decide (0 < n5)) rfl (fun c_8 => ?_) (fun c_8 => ?_)
  ·replace H := cond_t c_8 H
   refine T_skip ?_
   refine te [(0, (.b 0 0)), (2, (.b 1 0)), (3, (.b 3 0)), (4, (intA r_3.1)), (5, (intA n5))] rfl ?_
   refine T_seq ?_
   refine T_block ?_
   obtain ⟨r_9, h_10, H⟩ := bind_inv H
   obtain ⟨r_11, h_12, H⟩ := bind_inv H
   refine T_pad ?_
   refine T_pad ?_
   refine T_pad ?_
   refine T_pad ?_
   refine T_pad ?_
   refine T_regionP mixed ?_
   refine TA_have 5 #[true, true, true, true, true, true, false, false, false, false, false] [(0, (.b 0 0)), (2, (.b 1 0)), (3, (.b 3 0)), (4, (intA r_3.1)), (5, (intA n5)), (20, (.g [(sl tRelation box3_relations), (sl tFact box3_facts)])), (25, (.g [(intA r_9.1.relation), (sl tInt r_9.1.values)]))] [.box [(sl (tI .u8) r_9.2.b), (intA r_9.2.i), (intA r_9.2.h)], .box [.n, .n], .dead, .box [(sl tRelation box3_relations), (sl tFact box3_facts)], .dead, .dead, .dead, .dead, .dead, .dead, .dead] ?_ (fun hj0_6 => ?_)
   ·skip
    refine t1 6 (by kernel_rfl) rfl rfl (TOp_callO (call_static ent133 rfl) rfl (m_spec_InsertFact_own u _ _ _ h_12) rfl rfl rfl ?_)
    refine tae [(0, (.b 0 0)), (2, (.b 1 0)), (3, (.b 3 0)), (4, (intA r_3.1)), (5, (intA n5)), (20, (.g [(sl tRelation box3_relations), (sl tFact box3_facts)])), (25, (.g [(intA r_9.1.relation), (sl tInt r_9.1.values)])), (26, (.t [(.g [(.m [11] 0 r_11.1.relations.length tRelation.k), (.m [12] 0 r_11.1.facts.length tFact.k)]), (boolA r_11.2)]))] rfl ?_
    refine TA_st (σ' := [.box [(sl (tI .u8) r_9.2.b), (intA r_9.2.i), (intA r_9.2.h)], .box [.n, .n], .dead, .box [(sl tRelation box3_relations), (sl tFact box3_facts)], .dead, .dead, .dead, .dead, .dead, .dead, .dead, .row (flat tRelation.enc r_11.1.relations), .row (flat tFact.enc r_11.1.facts)]) rfl ?_
    refine tmv 9 11 (by decide) (lb rfl) rfl rfl (lb rfl) ?_
    refine tmv 10 12 (by decide) (lb rfl) rfl rfl (lb rfl) ?_
    refine tf 7 rfl (purI_move rfl) rfl rfl (by kernel_rfl) ?_
    refine tf 8 rfl (purI_extract rfl rfl rfl) rfl rfl (by kernel_rfl) ?_
    refine tf 9 rfl (purI_extract rfl rfl rfl) rfl rfl (by kernel_rfl) ?_
    refine t1 10 (by kernel_rfl) rfl rfl (TOp_storeB sz48 rfl rfl rfl rfl rfl rfl rfl (by decide) (lb rfl) rfl ?_)
    refine TA_st (σ' := [.box [(sl (tI .u8) r_9.2.b), (intA r_9.2.i), (intA r_9.2.h)], .box [.n, .n], .dead, .box [(.m [9] 0 r_11.1.relations.length tRelation.k), (.m [10] 0 r_11.1.facts.length tFact.k)], .dead, .dead, .dead, .dead, .dead, .row (flat tRelation.enc r_11.1.relations), .row (flat tFact.enc r_11.1.facts), .dead, .dead]) rfl ?_
    refine TA_ghost (E' := [(0, (.b 0 0)), (2, (.b 1 0)), (3, (.b 3 0)), (4, (intA r_3.1)), (5, (intA n5))]) (σ' := [.box [(sl (tI .u8) r_9.2.b), (intA r_9.2.i), (intA r_9.2.h)], .box [.n, .n], .dead, .box [(.m [6] 0 r_11.1.relations.length tRelation.k), (.m [10] 0 r_11.1.facts.length tFact.k)], .dead, .dead, .row (flat tRelation.enc r_11.1.relations), .dead, .dead, .dead, .row (flat tFact.enc r_11.1.facts), .dead, .dead]) (Ghost.move 6 9 (by decide) (lb rfl) rfl rfl (lb rfl) (Ghost.weak (WeakL.to 13 (lb rfl) rfl rfl rfl rfl ⟨leR rfl, leR rfl, leR rfl, leR rfl, leR rfl, trivial⟩))) ?_
    refine TA_ghost (E' := [(0, (.b 0 0)), (2, (.b 1 0)), (3, (.b 3 0)), (4, (intA r_3.1)), (5, (intA n5))]) (σ' := [.box [(sl (tI .u8) r_9.2.b), (intA r_9.2.i), (intA r_9.2.h)], .box [.n, .n], .dead, .box [(.m [6] 0 r_11.1.relations.length tRelation.k), (.m [7] 0 r_11.1.facts.length tFact.k)], .dead, .dead, .row (flat tRelation.enc r_11.1.relations), .row (flat tFact.enc r_11.1.facts), .dead, .dead, .dead, .dead, .dead]) (Ghost.move 7 10 (by decide) (lb rfl) rfl rfl (lb rfl) (Ghost.weak (WeakL.to 13 (lb rfl) rfl rfl rfl rfl ⟨leR rfl, leR rfl, leR rfl, leR rfl, leR rfl, trivial⟩))) ?_
    refine TA_nil (by kernel_rfl) ?_
    refine te [(0, (.b 0 0)), (2, (.b 1 0)), (3, (.b 3 0)), (4, (intA r_3.1)), (5, (intA n5))] rfl ?_
    refine T_move' 2 6 (by decide) (lb rfl) rfl rfl (lb rfl) ?_
    refine te [(0, (.b 0 0)), (2, (.b 1 0)), (3, (.b 3 0)), (4, (intA r_3.1)), (5, (intA n5))] rfl ?_
    refine T_st (σ' := [.box [(sl (tI .u8) r_9.2.b), (intA r_9.2.i), (intA r_9.2.h)], .box [.n, .n], .row (flat tRelation.enc r_11.1.relations), .box [(.m [2] 0 r_11.1.relations.length tRelation.k), (.m [7] 0 r_11.1.facts.length tFact.k)], .dead, .dead, .dead, .row (flat tFact.enc r_11.1.facts), .dead, .dead, .dead, .dead, .dead]) rfl ?_
    refine T_move' 5 7 (by decide) (lb rfl) rfl rfl (lb rfl) ?_
    refine te [(0, (.b 0 0)), (2, (.b 1 0)), (3, (.b 3 0)), (4, (intA r_3.1)), (5, (intA n5))] rfl ?_
    refine T_st (σ' := [.box [(sl (tI .u8) r_9.2.b), (intA r_9.2.i), (intA r_9.2.h)], .box [.n, .n], .row (flat tRelation.enc r_11.1.relations), .box [(.m [2] 0 r_11.1.relations.length tRelation.k), (.m [5] 0 r_11.1.facts.length tFact.k)], .dead, .row (flat tFact.enc r_11.1.facts), .dead, .dead, .dead, .dead, .dead, .dead, .dead]) rfl ?_
    refine T_region ?_
    refine Tp rfl rfl (pur_move rfl) rfl ?_
    refine Tp rfl rfl (pur_wsub rfl rfl rfl) rfl ?_
    refine Tp rfl rfl (pur_assign rfl) rfl ?_
    refine TO_nil ?_
    obtain rfl := some_inj H
    exact again k7 ((w64 (n5 - 1)), r_9.2, r_11.1.relations, r_11.1.facts) (Nat.lt_succ_self _) (wp 6 (lb rfl) rfl rfl rfl rfl rfl) K7_
   refine TA_have 6 #[true, true, true, true, true, false, false, false, false, false, false] [(0, (.b 0 0)), (2, (.b 1 0)), (3, (.b 3 0)), (4, (intA r_3.1)), (5, (intA n5)), (20, (.g [(sl tRelation box3_relations), (.m [5] 0 box3_facts.length tFact.k)])), (21, (.b 0 0)), (23, (sl tRelation box3_relations)), (24, (intA r_3.1))] [.box [(sl (tI .u8) box0.b), (intA box0.i), (intA box0.h)], .box [.n, .n], .dead, .box [(sl tRelation box3_relations), (.m [5] 0 box3_facts.length tFact.k)], .dead, .row (flat tFact.enc box3_facts), .dead, .dead, .dead, .dead, .dead] ?_ (fun hj1_6 => ?_)
   ·skip
    refine t1 5 (by kernel_rfl) rfl rfl (TOp_callS [0] (call_static ent180 rfl) (by decide) rfl rfl rfl rfl rfl rfl (m_spec_l3Fact_x u _ _ _ _ h_10) rfl rfl ?_)
    refine tae [(0, (.b 0 0)), (2, (.b 1 0)), (3, (.b 3 0)), (4, (intA r_3.1)), (5, (intA n5)), (20, (.g [(sl tRelation box3_relations), (.m [5] 0 box3_facts.length tFact.k)])), (21, (.b 0 0)), (23, (sl tRelation box3_relations)), (24, (intA r_3.1)), (25, (.g [(intA r_9.1.relation), (.m [11] 0 r_9.1.values.length tInt.k)]))] rfl ?_
    refine TA_st (σ' := [.box [(sl (tI .u8) r_9.2.b), (intA r_9.2.i), (intA r_9.2.h)], .box [.n, .n], .dead, .box [(sl tRelation box3_relations), (.m [5] 0 box3_facts.length tFact.k)], .dead, .row (flat tFact.enc box3_facts), .dead, .dead, .dead, .dead, .dead, .row (flat tInt.enc r_9.1.values)]) rfl ?_
    refine tmv 8 11 (by decide) (lb rfl) rfl rfl (lb rfl) ?_
    refine TA_ghost (E' := [(0, (.b 0 0)), (2, (.b 1 0)), (3, (.b 3 0)), (4, (intA r_3.1)), (5, (intA n5)), (20, (.g [(sl tRelation box3_relations), (.m [5] 0 box3_facts.length tFact.k)])), (21, (.b 0 0)), (23, (sl tRelation box3_relations)), (24, (intA r_3.1)), (25, (.g [(intA r_9.1.relation), (.m [8] 0 r_9.1.values.length tInt.k)]))]) (σ' := [.box [(sl (tI .u8) r_9.2.b), (intA r_9.2.i), (intA r_9.2.h)], .box [.n, .n], .dead, .box [(sl tRelation box3_relations), (.m [5] 0 box3_facts.length tFact.k)], .dead, .row (flat tFact.enc box3_facts), .dead, .dead, .row (flat tInt.enc r_9.1.values), .dead, .dead, .dead]) (Ghost.weak (WeakL.to 12 (lb rfl) rfl rfl rfl rfl ⟨leR rfl, leR rfl, leR rfl, leR rfl, leR rfl, leR rfl, leR rfl, leR rfl, leR rfl, leR rfl, trivial⟩)) ?_
    refine TA_frzB 5 (E' := [(0, (.b 0 0)), (2, (.b 1 0)), (3, (.b 3 0)), (4, (intA r_3.1)), (5, (intA n5)), (20, (.g [(sl tRelation box3_relations), (sl tFact box3_facts)])), (21, (.b 0 0)), (23, (sl tRelation box3_relations)), (24, (intA r_3.1)), (25, (.g [(intA r_9.1.relation), (.m [8] 0 r_9.1.values.length tInt.k)]))]) (σ' := [.box [(sl (tI .u8) r_9.2.b), (intA r_9.2.i), (intA r_9.2.h)], .box [.n, .n], .dead, .box [(sl tRelation box3_relations), (sl tFact box3_facts)], .dead, .dead, .dead, .dead, .row (flat tInt.enc r_9.1.values), .dead, .dead, .dead]) rfl (lb rfl) ?_ ?_ ?_
    ·exact ⟨(.keep rfl), (.keep rfl), (.keep rfl), (.keep rfl), (.keep rfl), (fz1G (fzC (.keep rfl) (fzC fz1E fzN))), (.keep rfl), (.keep rfl), (.keep rfl), (.keep rfl), trivial⟩
    ·exact ⟨(fzK rfl), (fzK rfl), trivial, (fzC (.keep rfl) (fzC fz1E fzN)), trivial, trivial, trivial, trivial, rfl, trivial, trivial, trivial, trivial⟩
    refine TA_ghost (E' := [(0, (.b 0 0)), (2, (.b 1 0)), (3, (.b 3 0)), (4, (intA r_3.1)), (5, (intA n5)), (20, (.g [(sl tRelation box3_relations), (sl tFact box3_facts)])), (21, (.b 0 0)), (23, (sl tRelation box3_relations)), (24, (intA r_3.1)), (25, (.g [(intA r_9.1.relation), (.m [8] 0 r_9.1.values.length tInt.k)]))]) (σ' := [.box [(sl (tI .u8) r_9.2.b), (intA r_9.2.i), (intA r_9.2.h)], .box [.n, .n], .dead, .box [(sl tRelation box3_relations), (sl tFact box3_facts)], .dead, .dead, .dead, .dead, .row (flat tInt.enc r_9.1.values), .dead, .dead, .dead]) (Ghost.weak (WeakL.to 12 (lb rfl) rfl rfl rfl rfl ⟨leR rfl, leR rfl, leR rfl, leR rfl, leR rfl, leR rfl, leR rfl, leR rfl, leR rfl, leR rfl, trivial⟩)) ?_
    refine TA_frz1 8 (E' := [(0, (.b 0 0)), (2, (.b 1 0)), (3, (.b 3 0)), (4, (intA r_3.1)), (5, (intA n5)), (20, (.g [(sl tRelation box3_relations), (sl tFact box3_facts)])), (21, (.b 0 0)), (23, (sl tRelation box3_relations)), (24, (intA r_3.1)), (25, (.g [(intA r_9.1.relation), (sl tInt r_9.1.values)]))]) rfl rfl (lb rfl) ?_ ?_
    ·exact ⟨(.keep rfl), (.keep rfl), (.keep rfl), (.keep rfl), (.keep rfl), (.keep rfl), (.keep rfl), (.keep rfl), (.keep rfl), (fz1G (fzC (.keep rfl) (fzC fz1E fzN))), trivial⟩
    refine TA_st (σ' := [.box [(sl (tI .u8) r_9.2.b), (intA r_9.2.i), (intA r_9.2.h)], .box [.n, .n], .dead, .box [(sl tRelation box3_relations), (sl tFact box3_facts)], .dead, .dead, .dead, .dead, .dead, .dead, .dead, .dead]) rfl ?_
    exact tj hj0_6 rfl (wp 11 (lb rfl) rfl rfl rfl rfl rfl)
   refine tf 1 rfl (purI_move rfl) rfl rfl (by kernel_rfl) ?_
   refine tf 2 rfl (purI_fa_b fld48_0 rfl rfl) rfl rfl (by kernel_rfl) ?_
   refine tf 4 rfl (purI_move rfl) rfl rfl (by kernel_rfl) ?_
   refine TA_all [0, 3] (by kernel_rfl) (by decide) ⟨?_, ?_, trivial⟩
   ·skip
    refine ⟨_, rfl, rfl, (TOp_pure (pur_ldK_b agg48 rfl rfl (lb rfl) rfl) rfl ?_)⟩
    refine t1 3 (by kernel_rfl) rfl rfl (TOp_pure (pur_ld_b one45 rfl rfl rfl rfl) rfl ?_)
    refine TA_ghost (E' := [(0, (.b 0 0)), (2, (.b 1 0)), (3, (.b 3 0)), (4, (intA r_3.1)), (5, (intA n5)), (20, (.g [(.m [2] 0 box3_relations.length tRelation.k), (.m [5] 0 box3_facts.length tFact.k)])), (21, (.b 0 0)), (22, (.b 3 0)), (23, (.m [2] 0 box3_relations.length tRelation.k)), (24, (intA r_3.1))]) (σ' := [.box [(sl (tI .u8) box0.b), (intA box0.i), (intA box0.h)], .box [.n, .n], .row (flat tRelation.enc box3_relations), .box [(.m [2] 0 box3_relations.length tRelation.k), (.m [5] 0 box3_facts.length tFact.k)], .dead, .row (flat tFact.enc box3_facts), .dead, .dead, .dead, .dead, .dead]) (Ghost.weak (WeakL.to 11 (lb rfl) rfl rfl rfl rfl ⟨leR rfl, leR rfl, leR rfl, leR rfl, leR rfl, leR rfl, leR rfl, leR rfl, leR rfl, leR rfl, trivial⟩)) ?_
    refine TA_frzB 2 (E' := [(0, (.b 0 0)), (2, (.b 1 0)), (3, (.b 3 0)), (4, (intA r_3.1)), (5, (intA n5)), (20, (.g [(sl tRelation box3_relations), (.m [5] 0 box3_facts.length tFact.k)])), (21, (.b 0 0)), (22, (.b 3 0)), (23, (sl tRelation box3_relations)), (24, (intA r_3.1))]) (σ' := [.box [(sl (tI .u8) box0.b), (intA box0.i), (intA box0.h)], .box [.n, .n], .dead, .box [(sl tRelation box3_relations), (.m [5] 0 box3_facts.length tFact.k)], .dead, .row (flat tFact.enc box3_facts), .dead, .dead, .dead, .dead, .dead]) rfl (lb rfl) ?_ ?_ ?_
    ·exact ⟨(.keep rfl), (.keep rfl), (.keep rfl), (.keep rfl), (.keep rfl), (fz1G (fzC fz1E (fzC (.keep rfl) fzN))), (.keep rfl), (.keep rfl), fz1E, (.keep rfl), trivial⟩
    ·exact ⟨(fzK rfl), (fzK rfl), trivial, (fzC fz1E (fzC (.keep rfl) fzN)), trivial, rfl, trivial, trivial, trivial, trivial, trivial, trivial⟩
    exact tj hj1_6 rfl (wp 11 (lb rfl) rfl rfl rfl rfl rfl)
   ·skip
    refine ⟨_, rfl, rfl, (TOp_pure (pur_ld_b one45 rfl rfl rfl rfl) rfl ?_)⟩
    refine TA_ghost (E' := [(0, (.b 0 0)), (2, (.b 1 0)), (3, (.b 3 0)), (4, (intA r_3.1)), (5, (intA n5)), (21, (.b 0 0)), (22, (.b 3 0)), (23, (.m [2] 0 box3_relations.length tRelation.k)), (24, (intA r_3.1))]) (σ' := [.box [(sl (tI .u8) box0.b), (intA box0.i), (intA box0.h)], .box [.n, .n], .row (flat tRelation.enc box3_relations), .box [(.m [2] 0 box3_relations.length tRelation.k), (.m [5] 0 box3_facts.length tFact.k)], .dead, .row (flat tFact.enc box3_facts), .dead, .dead, .dead, .dead, .dead]) (Ghost.weak (WeakL.to 11 (lb rfl) rfl rfl rfl rfl ⟨leR rfl, leR rfl, leR rfl, leR rfl, leR rfl, leR rfl, leR rfl, leR rfl, leR rfl, trivial⟩)) ?_
    refine TA_frzB 2 (E' := [(0, (.b 0 0)), (2, (.b 1 0)), (3, (.b 3 0)), (4, (intA r_3.1)), (5, (intA n5)), (21, (.b 0 0)), (22, (.b 3 0)), (23, (sl tRelation box3_relations)), (24, (intA r_3.1))]) (σ' := [.box [(sl (tI .u8) box0.b), (intA box0.i), (intA box0.h)], .box [.n, .n], .dead, .box [(sl tRelation box3_relations), (.m [5] 0 box3_facts.length tFact.k)], .dead, .row (flat tFact.enc box3_facts), .dead, .dead, .dead, .dead, .dead]) rfl (lb rfl) ?_ ?_ ?_
    ·exact ⟨(.keep rfl), (.keep rfl), (.keep rfl), (.keep rfl), (.keep rfl), (.keep rfl), (.keep rfl), fz1E, (.keep rfl), trivial⟩
    ·exact ⟨(fzK rfl), (fzK rfl), trivial, (fzC fz1E (fzC (.keep rfl) fzN)), trivial, rfl, trivial, trivial, trivial, trivial, trivial, trivial⟩
    refine TA_all [0, 5] (by kernel_rfl) (by decide) ⟨?_, ?_, trivial⟩
    ·skip
     refine ⟨_, rfl, rfl, (TOp_pure (pur_ldK_b agg48 rfl rfl (lb rfl) rfl) rfl ?_)⟩
     exact tj hj1_6 rfl (wp 11 (lb rfl) rfl rfl rfl rfl rfl)
    ·skip
     refine ⟨_, rfl, rfl, (TOp_callS [0] (call_static ent180 rfl) (by decide) rfl rfl rfl rfl rfl rfl (m_spec_l3Fact_x u _ _ _ _ h_10) rfl rfl ?_)⟩
     refine tae [(0, (.b 0 0)), (2, (.b 1 0)), (3, (.b 3 0)), (4, (intA r_3.1)), (5, (intA n5)), (21, (.b 0 0)), (22, (.b 3 0)), (23, (sl tRelation box3_relations)), (24, (intA r_3.1)), (25, (.g [(intA r_9.1.relation), (.m [11] 0 r_9.1.values.length tInt.k)]))] rfl ?_
     refine TA_st (σ' := [.box [(sl (tI .u8) r_9.2.b), (intA r_9.2.i), (intA r_9.2.h)], .box [.n, .n], .dead, .box [(sl tRelation box3_relations), (.m [5] 0 box3_facts.length tFact.k)], .dead, .row (flat tFact.enc box3_facts), .dead, .dead, .dead, .dead, .dead, .row (flat tInt.enc r_9.1.values)]) rfl ?_
     refine tmv 8 11 (by decide) (lb rfl) rfl rfl (lb rfl) ?_
     refine t1 0 (by kernel_rfl) rfl rfl (TOp_pure (pur_ldK_b agg48 rfl rfl (lb rfl) rfl) rfl ?_)
     refine TA_ghost (E' := [(0, (.b 0 0)), (2, (.b 1 0)), (3, (.b 3 0)), (4, (intA r_3.1)), (5, (intA n5)), (20, (.g [(sl tRelation box3_relations), (.m [5] 0 box3_facts.length tFact.k)])), (21, (.b 0 0)), (22, (.b 3 0)), (23, (sl tRelation box3_relations)), (24, (intA r_3.1)), (25, (.g [(intA r_9.1.relation), (.m [8] 0 r_9.1.values.length tInt.k)]))]) (σ' := [.box [(sl (tI .u8) r_9.2.b), (intA r_9.2.i), (intA r_9.2.h)], .box [.n, .n], .dead, .box [(sl tRelation box3_relations), (.m [5] 0 box3_facts.length tFact.k)], .dead, .row (flat tFact.enc box3_facts), .dead, .dead, .row (flat tInt.enc r_9.1.values), .dead, .dead, .dead]) (Ghost.weak (WeakL.to 12 (lb rfl) rfl rfl rfl rfl ⟨leR rfl, leR rfl, leR rfl, leR rfl, leR rfl, leR rfl, leR rfl, leR rfl, leR rfl, leR rfl, leR rfl, trivial⟩)) ?_
     refine TA_frzB 5 (E' := [(0, (.b 0 0)), (2, (.b 1 0)), (3, (.b 3 0)), (4, (intA r_3.1)), (5, (intA n5)), (20, (.g [(sl tRelation box3_relations), (sl tFact box3_facts)])), (21, (.b 0 0)), (22, (.b 3 0)), (23, (sl tRelation box3_relations)), (24, (intA r_3.1)), (25, (.g [(intA r_9.1.relation), (.m [8] 0 r_9.1.values.length tInt.k)]))]) (σ' := [.box [(sl (tI .u8) r_9.2.b), (intA r_9.2.i), (intA r_9.2.h)], .box [.n, .n], .dead, .box [(sl tRelation box3_relations), (sl tFact box3_facts)], .dead, .dead, .dead, .dead, .row (flat tInt.enc r_9.1.values), .dead, .dead, .dead]) rfl (lb rfl) ?_ ?_ ?_
     ·exact ⟨(.keep rfl), (.keep rfl), (.keep rfl), (.keep rfl), (.keep rfl), (fz1G (fzC (.keep rfl) (fzC fz1E fzN))), (.keep rfl), (.keep rfl), (.keep rfl), (.keep rfl), (.keep rfl), trivial⟩
     ·exact ⟨(fzK rfl), (fzK rfl), trivial, (fzC (.keep rfl) (fzC fz1E fzN)), trivial, trivial, trivial, trivial, rfl, trivial, trivial, trivial, trivial⟩
     refine TA_ghost (E' := [(0, (.b 0 0)), (2, (.b 1 0)), (3, (.b 3 0)), (4, (intA r_3.1)), (5, (intA n5)), (20, (.g [(sl tRelation box3_relations), (sl tFact box3_facts)])), (21, (.b 0 0)), (22, (.b 3 0)), (23, (sl tRelation box3_relations)), (24, (intA r_3.1)), (25, (.g [(intA r_9.1.relation), (.m [8] 0 r_9.1.values.length tInt.k)]))]) (σ' := [.box [(sl (tI .u8) r_9.2.b), (intA r_9.2.i), (intA r_9.2.h)], .box [.n, .n], .dead, .box [(sl tRelation box3_relations), (sl tFact box3_facts)], .dead, .dead, .dead, .dead, .row (flat tInt.enc r_9.1.values), .dead, .dead, .dead]) (Ghost.weak (WeakL.to 12 (lb rfl) rfl rfl rfl rfl ⟨leR rfl, leR rfl, leR rfl, leR rfl, leR rfl, leR rfl, leR rfl, leR rfl, leR rfl, leR rfl, leR rfl, trivial⟩)) ?_
     refine TA_frz1 8 (E' := [(0, (.b 0 0)), (2, (.b 1 0)), (3, (.b 3 0)), (4, (intA r_3.1)), (5, (intA n5)), (20, (.g [(sl tRelation box3_relations), (sl tFact box3_facts)])), (21, (.b 0 0)), (22, (.b 3 0)), (23, (sl tRelation box3_relations)), (24, (intA r_3.1)), (25, (.g [(intA r_9.1.relation), (sl tInt r_9.1.values)]))]) rfl rfl (lb rfl) ?_ ?_
     ·exact ⟨(.keep rfl), (.keep rfl), (.keep rfl), (.keep rfl), (.keep rfl), (.keep rfl), (.keep rfl), (.keep rfl), (.keep rfl), (.keep rfl), (fz1G (fzC (.keep rfl) (fzC fz1E fzN))), trivial⟩
     refine TA_st (σ' := [.box [(sl (tI .u8) r_9.2.b), (intA r_9.2.i), (intA r_9.2.h)], .box [.n, .n], .dead, .box [(sl tRelation box3_relations), (sl tFact box3_facts)], .dead, .dead, .dead, .dead, .dead, .dead, .dead, .dead]) rfl ?_
     exact tj hj0_6 rfl (wp 11 (lb rfl) rfl rfl rfl rfl rfl)
  ·replace H := cond_f c_8 H
   refine T_exit ?_
   refine then_exit ?_
   refine then_exit ?_
   refine block_exit ?_
   obtain rfl := some_inj H
   obtain rfl := some_inj K7_
   replace H := onS_l N7_
   refine te [(2, (.b 1 0)), (3, (.b 3 0))] rfl ?_
   refine sr ?_
   refine Tp rfl rfl (pur_ldK_b agg48 rfl rfl (lb rfl) rfl) rfl ?_
   refine TO_cons rfl (TOp_storeB sz48 rfl rfl rfl rfl rfl rfl rfl (by decide) (lb rfl) rfl ?_)
   refine TO_st (σ' := [.box [(sl (tI .u8) box0.b), (intA box0.i), (intA box0.h)], .box [(.m [2] 0 box3_relations.length tRelation.k), (.m [5] 0 box3_facts.length tFact.k)], .row (flat tRelation.enc box3_relations), .box [(.m [2] 0 box3_relations.length tRelation.k), (.m [5] 0 box3_facts.length tFact.k)], .dead, .row (flat tFact.enc box3_facts)]) rfl ?_
   refine TO_nil ?_
   refine te [(2, (.b 1 0))] rfl ?_
   refine T_ret ?_
   obtain rfl := some_inj H
   exact end_pickX (.cellK rfl agg48 rfl (lb rfl) .nil) rfl [0, 2, 5] (by decide) (lb rfl) rfl (lb rfl) rfl rfl rfl rfl rfl rfl

set_option maxHeartbeats 1000000 in
/-- spec.l3Any -/
theorem m_spec_l3Any_x (u : Nat) (c0 : l1Cur) (l1 : (List Relation)) (r : (Fact × l1Cur)) (H : m_spec_l3Any u c0 l1 = some r) : FnS prg 163 [(.b 0 0), (sl tRelation l1)] [.box [(sl (tI .u8) c0.b), (intA c0.i), (intA c0.h)]] (.g [(intA r.1.relation), (.m [1] 0 r.1.values.length tInt.k)]) [.box [(sl (tI .u8) r.2.b), (intA r.2.i), (intA r.2.h)], .row (flat tInt.enc r.1.values)] := by
  unfold m_spec_l3Any at H
  refine fnS_of_T Try.func163 rfl rfl (Nat.le_of_ble_eq_true rfl) ?_
  refine te [(0, (.b 0 0)), (1, (sl tRelation l1))] rfl ?_
  refine T_st (σ' := [.box [(sl (tI .u8) c0.b), (intA c0.i), (intA c0.h)]]) rfl ?_
  refine sr ?_
  refine TO_cons rfl (TOp_alloc zero65 rfl rfl ?_)
  refine TO_nil ?_
  refine te [(0, (.b 0 0)), (1, (sl tRelation l1)), (4, (.b 1 0))] rfl ?_
  refine sr ?_
  refine Tp rfl rfl (pur_move rfl) rfl ?_
  refine Tp rfl rfl (pur_move rfl) rfl ?_
  obtain ⟨r_1, h_2, H⟩ := bind_inv H
  refine TO_cons rfl (TOp_callS [0] (call_static ent180 rfl) (by decide) rfl rfl rfl rfl rfl rfl (m_spec_l3Fact_x u _ _ _ _ h_2) rfl rfl ?_)
  refine toe [(0, (.b 0 0)), (1, (sl tRelation l1)), (4, (.b 1 0)), (6, (.b 0 0)), (7, (sl tRelation l1)), (8, (.g [(intA r_1.1.relation), (.m [2] 0 r_1.1.values.length tInt.k)]))] rfl ?_
  refine TO_st (σ' := [.box [(sl (tI .u8) r_1.2.b), (intA r_1.2.i), (intA r_1.2.h)], .box [(intA 0), .n], .row (flat tInt.enc r_1.1.values)]) rfl ?_
  refine TO_cons rfl (TOp_alloc zero65 rfl rfl ?_)
  refine TO_cons rfl (TOp_storeB sz65 rfl rfl rfl rfl rfl rfl rfl (by decide) (lb rfl) rfl ?_)
  refine TO_st (σ' := [.box [(sl (tI .u8) r_1.2.b), (intA r_1.2.i), (intA r_1.2.h)], .box [(intA 0), .n], .row (flat tInt.enc r_1.1.values), .box [(intA r_1.1.relation), (.m [2] 0 r_1.1.values.length tInt.k)]]) rfl ?_
  refine TO_nil ?_
  refine te [(0, (.b 0 0)), (4, (.b 1 0)), (5, (.b 3 0))] rfl ?_
  refine T_seq ?_
  refine sr ?_
  refine Tp rfl rfl (pur_move rfl) rfl ?_
  obtain ⟨r_3, h_4, H⟩ := bind_inv H
  refine TO_cons rfl (TOp_callS [0] (call_static ent121 rfl) (by decide) rfl rfl rfl rfl rfl rfl (m_spec_l1Below_x _ _ _ h_4) rfl rfl ?_)
  refine toe [(0, (.b 0 0)), (4, (.b 1 0)), (5, (.b 3 0)), (9, (.b 0 0)), (10, (intA r_3.1))] rfl ?_
  refine TO_st (σ' := [.box [(sl (tI .u8) r_3.2.b), (intA r_3.2.i), (intA r_3.2.h)], .box [(intA 0), .n], .row (flat tInt.enc r_1.1.values), .box [(intA r_1.1.relation), (.m [2] 0 r_1.1.values.length tInt.k)]]) rfl ?_
  refine TO_nil ?_
  refine te [(0, (.b 0 0)), (4, (.b 1 0)), (5, (.b 3 0)), (10, (intA r_3.1))] rfl ?_
  refine T_block ?_
  refine sr ?_
  refine Tp rfl rfl (pur_eql rfl rfl rfl) rfl ?_
  refine Tp rfl rfl (pur_assign rfl) rfl ?_
  refine TO_nil ?_
  refine te [(0, (.b 0 0)), (4, (.b 1 0)), (5, (.b 3 0)), (10, (intA r_3.1)), (11, (boolA (decide (r_3.1 = 0))))] rfl ?_
  refine T_cond (t := decide (r_3.1 = 0)) rfl (fun c_5 => ?_) (fun c_5 => ?_)
  ·replace H := cond_t c_5 H
   refine T_region ?_
   refine Tp rfl rfl (pur_move rfl) rfl ?_
   obtain ⟨r_6, h_7, H⟩ := bind_inv H
   refine TO_cons rfl (TOp_callS [0] (call_static ent121 rfl) (by decide) rfl rfl rfl rfl rfl rfl (m_spec_l1Below_x _ _ _ h_7) rfl rfl ?_)
   refine toe [(0, (.b 0 0)), (4, (.b 1 0)), (5, (.b 3 0)), (10, (intA r_3.1)), (11, (boolA (decide (r_3.1 = 0)))), (13, (.b 0 0)), (14, (intA r_6.1))] rfl ?_
   refine TO_st (σ' := [.box [(sl (tI .u8) r_6.2.b), (intA r_6.2.i), (intA r_6.2.h)], .box [(intA 0), .n], .row (flat tInt.enc r_1.1.values), .box [(intA r_1.1.relation), (.m [2] 0 r_1.1.values.length tInt.k)]]) rfl ?_
   refine Tp rfl rfl (pur_wsub rfl rfl rfl) rfl ?_
   refine Tp rfl rfl (pur_fa_b fld65_0 rfl rfl) rfl ?_
   refine TO_cons rfl (TOp_storeB sz3 rfl rfl rfl rfl rfl rfl rfl (by decide) (lb rfl) rfl ?_)
   refine TO_st (σ' := [.box [(sl (tI .u8) r_6.2.b), (intA r_6.2.i), (intA r_6.2.h)], .box [(intA 0), .n], .row (flat tInt.enc r_1.1.values), .box [(intA (w64 (r_6.1 - 1))), (.m [2] 0 r_1.1.values.length tInt.k)]]) rfl ?_
   refine TO_nil ?_
   refine te [(4, (.b 1 0)), (5, (.b 3 0))] rfl ?_
   refine sr ?_
   refine Tp rfl rfl (pur_ldK_b agg65 rfl rfl (lb rfl) rfl) rfl ?_
   refine TO_cons rfl (TOp_storeB sz65 rfl rfl rfl rfl rfl rfl rfl (by decide) (lb rfl) rfl ?_)
   refine TO_st (σ' := [.box [(sl (tI .u8) r_6.2.b), (intA r_6.2.i), (intA r_6.2.h)], .box [(intA (w64 (r_6.1 - 1))), (.m [2] 0 r_1.1.values.length tInt.k)], .row (flat tInt.enc r_1.1.values), .box [(intA (w64 (r_6.1 - 1))), (.m [2] 0 r_1.1.values.length tInt.k)]]) rfl ?_
   refine TO_nil ?_
   refine te [(4, (.b 1 0))] rfl ?_
   refine T_ret ?_
   obtain rfl := some_inj H
   exact end_pickX (.cellK rfl agg65 rfl (lb rfl) .nil) rfl [0, 2] (by decide) (lb rfl) rfl (lb rfl) rfl rfl rfl rfl rfl rfl
  ·replace H := cond_f c_5 H
   refine sr ?_
   refine Tp rfl rfl (pur_eql rfl rfl rfl) rfl ?_
   refine Tp rfl rfl (pur_assign rfl) rfl ?_
   refine TO_nil ?_
   refine te [(0, (.b 0 0)), (4, (.b 1 0)), (5, (.b 3 0)), (10, (intA r_3.1)), (17, (boolA (decide (r_3.1 = 1))))] rfl ?_
   refine T_cond (t := decide (r_3.1 = 1)) rfl (fun c_8 => ?_) (fun c_8 => ?_)
   ·replace H := cond_t c_8 H
    refine T_region ?_
    refine Tp rfl rfl (pur_fa_b fld65_1 rfl rfl) rfl ?_
    refine Tp rfl rfl (pur_ld_b one23 rfl rfl rfl rfl) rfl ?_
    refine TO_cons rfl (TOp_lit (nn := 1) (k := 1) sl23 zero3 rfl rfl rfl rfl (by decide) ?_)
    refine TO_st (σ' := [.box [(sl (tI .u8) r_3.2.b), (intA r_3.2.i), (intA r_3.2.h)], .box [(intA 0), .n], .row (flat tInt.enc r_1.1.values), .box [(intA r_1.1.relation), (.m [2] 0 r_1.1.values.length tInt.k)], .row (flat tInt.enc ([1] : (List Int)))]) rfl ?_
    obtain ⟨us_9, h_10, H⟩ := bind_inv H
    refine TO_cons rfl (TOp_appZ (T := tInt) (f := tInt.enc) (xs := r_1.1.values) (ys := ([1] : (List Int))) tInt.len sl23 zero3 rfl bytes3 (by decide) rfl rfl rfl rfl (src_mT (f := tInt.enc) tInt.len rfl rfl (flat_cell tInt _)) (flat_cell tInt _) h_10 (lb rfl) ?_)
    refine toe [(0, (.b 0 0)), (4, (.b 1 0)), (5, (.b 3 0)), (10, (intA r_3.1)), (17, (boolA (decide (r_3.1 = 1)))), (19, (.b 3 1)), (21, (.m [4] 0 ([1] : (List Int)).length tInt.k)), (22, (.m [2] 0 us_9.length tInt.k))] rfl ?_
    refine TO_st (σ' := [.box [(sl (tI .u8) r_3.2.b), (intA r_3.2.i), (intA r_3.2.h)], .box [(intA 0), .n], .row (flat tInt.enc us_9), .box [(intA r_1.1.relation), .j], .row (flat tInt.enc ([1] : (List Int))), .dead]) rfl ?_
    refine Tp rfl rfl (pur_fa_b fld65_1 rfl rfl) rfl ?_
    refine TO_cons rfl (TOp_storeB sz23 rfl rfl rfl rfl rfl rfl rfl (by decide) (lb rfl) rfl ?_)
    refine TO_st (σ' := [.box [(sl (tI .u8) r_3.2.b), (intA r_3.2.i), (intA r_3.2.h)], .box [(intA 0), .n], .row (flat tInt.enc us_9), .box [(intA r_1.1.relation), (.m [2] 0 us_9.length tInt.k)], .row (flat tInt.enc ([1] : (List Int))), .dead]) rfl ?_
    refine TO_nil ?_
    refine te [(4, (.b 1 0)), (5, (.b 3 0))] rfl ?_
    refine sr ?_
    refine Tp rfl rfl (pur_ldK_b agg65 rfl rfl (lb rfl) rfl) rfl ?_
    refine TO_cons rfl (TOp_storeB sz65 rfl rfl rfl rfl rfl rfl rfl (by decide) (lb rfl) rfl ?_)
    refine TO_st (σ' := [.box [(sl (tI .u8) r_3.2.b), (intA r_3.2.i), (intA r_3.2.h)], .box [(intA r_1.1.relation), (.m [2] 0 us_9.length tInt.k)], .row (flat tInt.enc us_9), .box [(intA r_1.1.relation), (.m [2] 0 us_9.length tInt.k)], .row (flat tInt.enc ([1] : (List Int))), .dead]) rfl ?_
    refine TO_nil ?_
    refine te [(4, (.b 1 0))] rfl ?_
    refine T_ret ?_
    obtain rfl := some_inj H
    exact end_pickX (.cellK rfl agg65 rfl (lb rfl) .nil) rfl [0, 2] (by decide) (lb rfl) rfl (lb rfl) rfl rfl rfl rfl rfl rfl
   ·replace H := cond_f c_8 H
    refine sr ?_
    refine Tp rfl rfl (pur_eql rfl rfl rfl) rfl ?_
    refine Tp rfl rfl (pur_assign rfl) rfl ?_
    refine TO_nil ?_
    refine te [(0, (.b 0 0)), (4, (.b 1 0)), (5, (.b 3 0)), (24, (boolA (decide (r_3.1 = 2))))] rfl ?_
    refine T_cond (t := decide (r_3.1 = 2)) rfl (fun c_11 => ?_) (fun c_11 => ?_)
    ·replace H := cond_t c_11 H
     obtain ⟨r_12, h_13, H⟩ := bind_inv H
     obtain ⟨v_14, h_15, H⟩ := bind_inv H
     obtain ⟨n_16, hz_17, hv_18⟩ := getI_inv h_15
     refine T_pad ?_
     refine T_regionP mixed ?_
     refine TA_have 2 #[true, true, true, true, true, false, false] [(4, (.b 1 0)), (5, (.b 3 0)), (27, (.m [2] 0 r_1.1.values.length tInt.k)), (30, (intA r_12.1))] [.box [(sl (tI .u8) r_12.2.b), (intA r_12.2.i), (intA r_12.2.h)], .box [(intA 0), .n], .row (flat tInt.enc r_1.1.values), .box [(intA r_1.1.relation), (.m [2] 0 r_1.1.values.length tInt.k)], .dead] ?_ (fun hj0_8 => ?_)
     ·skip
      refine tf 5 rfl (purI_ixM (T := tInt) sl23 rfl rfl hz_17 hv_18 rfl) rfl rfl (by kernel_rfl) ?_
      refine t1 6 (by kernel_rfl) rfl rfl (TOp_setT (f := tInt.enc) (z := 0) (y := r_12.1) tInt.len tInt.pos hz_17 sz3 rfl rfl rfl rfl rfl hv_18 rfl rfl ?_)
      refine TA_env (E' := [(4, (.b 1 0)), (5, (.b 3 0)), (27, (.m [2] 0 (r_1.1.values.set (0 : Int).toNat r_12.1).length tInt.k)), (30, (intA r_12.1))]) ⟨rfl, rfl, (congrArg (fun q => A.m [2] 0 q tInt.k) (List.length_set ..).symm), rfl, trivial⟩ ?_
      refine TA_st (σ' := [.box [(sl (tI .u8) r_12.2.b), (intA r_12.2.i), (intA r_12.2.h)], .box [(intA 0), .n], .row (flat tInt.enc (r_1.1.values.set (0 : Int).toNat r_12.1)), .box [(intA r_1.1.relation), (.m [2] 0 r_1.1.values.length tInt.k)], .dead]) rfl ?_
      refine TA_st (σ' := [.box [(sl (tI .u8) r_12.2.b), (intA r_12.2.i), (intA r_12.2.h)], .box [(intA 0), .n], .row (flat tInt.enc (r_1.1.values.set (0 : Int).toNat r_12.1)), .box [(intA r_1.1.relation), (.m [2] 0 (r_1.1.values.set (0 : Int).toNat r_12.1).length tInt.k)], .dead]) (by simp only [List.length_set]) ?_
      refine TA_nil (by kernel_rfl) ?_
      refine te [(4, (.b 1 0)), (5, (.b 3 0))] rfl ?_
      refine sr ?_
      refine Tp rfl rfl (pur_ldK_b agg65 rfl rfl (lb rfl) rfl) rfl ?_
      refine TO_cons rfl (TOp_storeB sz65 rfl rfl rfl rfl rfl rfl rfl (by decide) (lb rfl) rfl ?_)
      refine TO_st (σ' := [.box [(sl (tI .u8) r_12.2.b), (intA r_12.2.i), (intA r_12.2.h)], .box [(intA r_1.1.relation), (.m [2] 0 (r_1.1.values.set (0 : Int).toNat r_12.1).length tInt.k)], .row (flat tInt.enc (r_1.1.values.set (0 : Int).toNat r_12.1)), .box [(intA r_1.1.relation), (.m [2] 0 (r_1.1.values.set (0 : Int).toNat r_12.1).length tInt.k)], .dead]) rfl ?_
      refine TO_nil ?_
      refine te [(4, (.b 1 0))] rfl ?_
      refine T_ret ?_
      obtain rfl := some_inj H
      exact end_pickX (.cellK rfl agg65 rfl (lb rfl) .nil) rfl [0, 2] (by decide) (lb rfl) rfl (lb rfl) rfl rfl rfl rfl rfl rfl
     refine TA_have 3 #[true, true, true, true, false, false, false] [(4, (.b 1 0)), (5, (.b 3 0)), (27, (.m [2] 0 r_1.1.values.length tInt.k)), (28, (.b 0 0)), (29, (sl tInt ([-1, 10, 9] : (List Int))))] [.box [(sl (tI .u8) r_3.2.b), (intA r_3.2.i), (intA r_3.2.h)], .box [(intA 0), .n], .row (flat tInt.enc r_1.1.values), .box [(intA r_1.1.relation), (.m [2] 0 r_1.1.values.length tInt.k)], .dead] ?_ (fun hj1_8 => ?_)
     ·skip
      refine t1 4 (by kernel_rfl) rfl rfl (TOp_callS [0] (call_static ent173 rfl) (by decide) rfl rfl rfl rfl rfl rfl (m_spec_l1PickInt_x _ _ _ h_13) rfl rfl ?_)
      refine tae [(4, (.b 1 0)), (5, (.b 3 0)), (27, (.m [2] 0 r_1.1.values.length tInt.k)), (28, (.b 0 0)), (29, (sl tInt ([-1, 10, 9] : (List Int)))), (30, (intA r_12.1))] rfl ?_
      refine TA_st (σ' := [.box [(sl (tI .u8) r_12.2.b), (intA r_12.2.i), (intA r_12.2.h)], .box [(intA 0), .n], .row (flat tInt.enc r_1.1.values), .box [(intA r_1.1.relation), (.m [2] 0 r_1.1.values.length tInt.k)], .dead]) rfl ?_
      exact tj hj0_8 rfl (wp 5 (lb rfl) rfl rfl rfl rfl rfl)
     refine tf 0 rfl (purI_fa_b fld65_1 rfl rfl) rfl rfl (by kernel_rfl) ?_
     refine tf 2 rfl (purI_move rfl) rfl rfl (by kernel_rfl) ?_
     refine TA_all [1, 3] (by kernel_rfl) (by decide) ⟨?_, ?_, trivial⟩
     ·skip
      refine ⟨_, rfl, rfl, (TOp_pure (pur_ld_b one23 rfl rfl rfl rfl) rfl ?_)⟩
      refine t1 3 (by kernel_rfl) rfl rfl (TOp_lit (nn := 3) (k := 1) sl23 zero3 rfl rfl rfl rfl (by decide) ?_)
      refine tmv 4 5 (by decide) (lb rfl) rfl rfl (lb rfl) ?_
      refine TA_ghost (E' := [(0, (.b 0 0)), (4, (.b 1 0)), (5, (.b 3 0)), (24, (boolA (decide (r_3.1 = 2)))), (26, (.b 3 1)), (27, (.m [2] 0 r_1.1.values.length tInt.k)), (28, (.b 0 0)), (29, (.m [4] 0 ([-1, 10, 9] : (List Int)).length tInt.k))]) (σ' := [.box [(sl (tI .u8) r_3.2.b), (intA r_3.2.i), (intA r_3.2.h)], .box [(intA 0), .n], .row (flat tInt.enc r_1.1.values), .box [(intA r_1.1.relation), (.m [2] 0 r_1.1.values.length tInt.k)], .row (flat tInt.enc ([-1, 10, 9] : (List Int))), .dead]) (Ghost.weak (WeakL.to 6 (lb rfl) rfl rfl rfl rfl ⟨leR rfl, leR rfl, leR rfl, leR rfl, leR rfl, leR rfl, leR rfl, leR rfl, trivial⟩)) ?_
      refine TA_frz1 4 (E' := [(0, (.b 0 0)), (4, (.b 1 0)), (5, (.b 3 0)), (24, (boolA (decide (r_3.1 = 2)))), (26, (.b 3 1)), (27, (.m [2] 0 r_1.1.values.length tInt.k)), (28, (.b 0 0)), (29, (sl tInt ([-1, 10, 9] : (List Int))))]) rfl rfl (lb rfl) ⟨(.keep rfl), (.keep rfl), (.keep rfl), (.keep rfl), (.keep rfl), (.keep rfl), (.keep rfl), fz1E, trivial⟩ ?_
      refine TA_st (σ' := [.box [(sl (tI .u8) r_3.2.b), (intA r_3.2.i), (intA r_3.2.h)], .box [(intA 0), .n], .row (flat tInt.enc r_1.1.values), .box [(intA r_1.1.relation), (.m [2] 0 r_1.1.values.length tInt.k)], .dead, .dead]) rfl ?_
      exact tj hj1_8 rfl (wp 5 (lb rfl) rfl rfl rfl rfl rfl)
     ·skip
      refine ⟨_, rfl, rfl, (TOp_lit (nn := 3) (k := 1) sl23 zero3 rfl rfl rfl rfl (by decide) ?_)⟩
      refine tmv 4 5 (by decide) (lb rfl) rfl rfl (lb rfl) ?_
      refine TA_ghost (E' := [(0, (.b 0 0)), (4, (.b 1 0)), (5, (.b 3 0)), (24, (boolA (decide (r_3.1 = 2)))), (26, (.b 3 1)), (28, (.b 0 0)), (29, (.m [4] 0 ([-1, 10, 9] : (List Int)).length tInt.k))]) (σ' := [.box [(sl (tI .u8) r_3.2.b), (intA r_3.2.i), (intA r_3.2.h)], .box [(intA 0), .n], .row (flat tInt.enc r_1.1.values), .box [(intA r_1.1.relation), (.m [2] 0 r_1.1.values.length tInt.k)], .row (flat tInt.enc ([-1, 10, 9] : (List Int))), .dead]) (Ghost.weak (WeakL.to 6 (lb rfl) rfl rfl rfl rfl ⟨leR rfl, leR rfl, leR rfl, leR rfl, leR rfl, leR rfl, leR rfl, trivial⟩)) ?_
      refine TA_frz1 4 (E' := [(0, (.b 0 0)), (4, (.b 1 0)), (5, (.b 3 0)), (24, (boolA (decide (r_3.1 = 2)))), (26, (.b 3 1)), (28, (.b 0 0)), (29, (sl tInt ([-1, 10, 9] : (List Int))))]) rfl rfl (lb rfl) ⟨(.keep rfl), (.keep rfl), (.keep rfl), (.keep rfl), (.keep rfl), (.keep rfl), fz1E, trivial⟩ ?_
      refine TA_st (σ' := [.box [(sl (tI .u8) r_3.2.b), (intA r_3.2.i), (intA r_3.2.h)], .box [(intA 0), .n], .row (flat tInt.enc r_1.1.values), .box [(intA r_1.1.relation), (.m [2] 0 r_1.1.values.length tInt.k)], .dead, .dead]) rfl ?_
      refine TA_all [1, 4] (by kernel_rfl) (by decide) ⟨?_, ?_, trivial⟩
      ·skip
       refine ⟨_, rfl, rfl, (TOp_pure (pur_ld_b one23 rfl rfl rfl rfl) rfl ?_)⟩
       exact tj hj1_8 rfl (wp 5 (lb rfl) rfl rfl rfl rfl rfl)
      ·skip
       refine ⟨_, rfl, rfl, (TOp_callS [0] (call_static ent173 rfl) (by decide) rfl rfl rfl rfl rfl rfl (m_spec_l1PickInt_x _ _ _ h_13) rfl rfl ?_)⟩
       refine tae [(0, (.b 0 0)), (4, (.b 1 0)), (5, (.b 3 0)), (24, (boolA (decide (r_3.1 = 2)))), (26, (.b 3 1)), (28, (.b 0 0)), (29, (sl tInt ([-1, 10, 9] : (List Int)))), (30, (intA r_12.1))] rfl ?_
       refine TA_st (σ' := [.box [(sl (tI .u8) r_12.2.b), (intA r_12.2.i), (intA r_12.2.h)], .box [(intA 0), .n], .row (flat tInt.enc r_1.1.values), .box [(intA r_1.1.relation), (.m [2] 0 r_1.1.values.length tInt.k)], .dead, .dead]) rfl ?_
       refine t1 1 (by kernel_rfl) rfl rfl (TOp_pure (pur_ld_b one23 rfl rfl rfl rfl) rfl ?_)
       exact tj hj0_8 rfl (wp 5 (lb rfl) rfl rfl rfl rfl rfl)
    ·replace H := cond_f c_11 H
     refine T_skip ?_
     refine te [(4, (.b 1 0)), (5, (.b 3 0))] rfl ?_
     refine sr ?_
     refine Tp rfl rfl (pur_ldK_b agg65 rfl rfl (lb rfl) rfl) rfl ?_
     refine TO_cons rfl (TOp_storeB sz65 rfl rfl rfl rfl rfl rfl rfl (by decide) (lb rfl) rfl ?_)
     refine TO_st (σ' := [.box [(sl (tI .u8) r_3.2.b), (intA r_3.2.i), (intA r_3.2.h)], .box [(intA r_1.1.relation), (.m [2] 0 r_1.1.values.length tInt.k)], .row (flat tInt.enc r_1.1.values), .box [(intA r_1.1.relation), (.m [2] 0 r_1.1.values.length tInt.k)]]) rfl ?_
     refine TO_nil ?_
     refine te [(4, (.b 1 0))] rfl ?_
     refine T_ret ?_
     obtain rfl := some_inj H
     exact end_pickX (.cellK rfl agg65 rfl (lb rfl) .nil) rfl [0, 2] (by decide) (lb rfl) rfl (lb rfl) rfl rfl rfl rfl rfl rfl

set_option maxHeartbeats 1000000 in
/-- spec.l1Pick -/
theorem m_spec_l1Pick_x (c0 : l1Cur) (list1 : (List ByteArray)) (r : (ByteArray × l1Cur)) (H : m_spec_l1Pick c0 list1 = some r) : FnS prg 181 [(.b 0 0), (sl tStr list1)] [.box [(sl (tI .u8) c0.b), (intA c0.i), (intA c0.h)]] (strA r.1) [.box [(sl (tI .u8) r.2.b), (intA r.2.i), (intA r.2.h)]] := by
  unfold m_spec_l1Pick at H
  refine fnS_of_T Try.func181 rfl rfl (Nat.le_of_ble_eq_true rfl) ?_
  refine te [(0, (.b 0 0)), (1, (sl tStr list1))] rfl ?_
  refine T_st (σ' := [.box [(sl (tI .u8) c0.b), (intA c0.i), (intA c0.h)]]) rfl ?_
  refine sr ?_
  refine Tp rfl rfl (pur_assign rfl) rfl ?_
  refine TO_nil ?_
  refine te [(0, (.b 0 0)), (1, (sl tStr list1))] rfl ?_
  refine sr ?_
  refine Tp rfl rfl (pur_move rfl) rfl ?_
  refine Tp rfl rfl (pur_move rfl) rfl ?_
  refine Tp rfl rfl (pur_move rfl) rfl ?_
  refine Tp rfl rfl (pur_lenT (T := tStr) sl184 rfl rfl) rfl ?_
  obtain ⟨r_1, h_2, H⟩ := bind_inv H
  refine TO_cons rfl (TOp_callS [0] (call_static ent121 rfl) (by decide) rfl rfl rfl rfl rfl rfl (m_spec_l1Below_x _ _ _ h_2) rfl rfl ?_)
  refine toe [(0, (.b 0 0)), (1, (sl tStr list1)), (5, (sl tStr list1)), (6, (.b 0 0)), (7, (sl tStr list1)), (8, (intA (list1.length : Int))), (9, (intA r_1.1))] rfl ?_
  refine TO_st (σ' := [.box [(sl (tI .u8) r_1.2.b), (intA r_1.2.i), (intA r_1.2.h)]]) rfl ?_
  obtain ⟨v_3, h_4, H⟩ := bind_inv H
  obtain ⟨n_5, hz_6, hv_7⟩ := getI_inv h_4
  refine Tp rfl rfl (pur_ixT (T := tStr) sl184 rfl rfl hz_6 hv_7 rfl) rfl ?_
  refine Tp rfl rfl (pur_ldT (T := tStr) (i := n_5) (off := 0) rfl one9 rfl rfl hv_7 rfl) rfl ?_
  refine Tp rfl rfl (pur_assign rfl) rfl ?_
  refine TO_nil ?_
  refine te [(4, (strA v_3))] rfl ?_
  refine T_ret ?_
  obtain rfl := some_inj H
  exact end_pickX (.tmp .nil) rfl [0] (by decide) (lb rfl) rfl (lb rfl) rfl rfl rfl rfl rfl rfl

set_option maxHeartbeats 1000000 in
/-- spec.l2Any -/
theorem m_spec_l2Any_x (c0 : l1Cur) (r : (Relation × l1Cur)) (H : m_spec_l2Any c0 = some r) : FnS prg 164 [(.b 0 0)] [.box [(sl (tI .u8) c0.b), (intA c0.i), (intA c0.h)]] (.g (tRelation.enc r.1)) [.box [(sl (tI .u8) r.2.b), (intA r.2.i), (intA r.2.h)]] := by
  unfold m_spec_l2Any at H
  refine fnS_of_T Try.func164 rfl rfl (Nat.le_of_ble_eq_true rfl) ?_
  refine te [(0, (.b 0 0))] rfl ?_
  refine T_st (σ' := [.box [(sl (tI .u8) c0.b), (intA c0.i), (intA c0.h)]]) rfl ?_
  refine sr ?_
  refine TO_cons rfl (TOp_alloc zero130 rfl rfl ?_)
  refine TO_nil ?_
  refine te [(0, (.b 0 0)), (2, (.b 1 0))] rfl ?_
  refine sr ?_
  refine Tp rfl rfl (pur_move rfl) rfl ?_
  refine TO_cons rfl (TOp_lit (nn := 6) (k := 1) sl184 zero9 rfl rfl rfl rfl (by decide) ?_)
  refine TO_st (σ' := [.box [(sl (tI .u8) c0.b), (intA c0.i), (intA c0.h)], .box [(strA ByteArray.empty), (intA 0), (intA 0)], .row (flat tStr.enc ([(⟨#[114]⟩ : ByteArray), (⟨#[122]⟩ : ByteArray), (⟨#[97]⟩ : ByteArray), (⟨#[]⟩ : ByteArray), (⟨#[82]⟩ : ByteArray), (⟨#[97, 98]⟩ : ByteArray)] : (List ByteArray)))]) rfl ?_
  refine TO_frz1 2 (E' := [(0, (.b 0 0)), (2, (.b 1 0)), (3, (.b 0 0)), (4, (sl tStr ([(⟨#[114]⟩ : ByteArray), (⟨#[122]⟩ : ByteArray), (⟨#[97]⟩ : ByteArray), (⟨#[]⟩ : ByteArray), (⟨#[82]⟩ : ByteArray), (⟨#[97, 98]⟩ : ByteArray)] : (List ByteArray))))]) rfl rfl (lb rfl) ⟨(.keep rfl), (.keep rfl), (.keep rfl), fz1E, trivial⟩ ?_
  refine TO_st (σ' := [.box [(sl (tI .u8) c0.b), (intA c0.i), (intA c0.h)], .box [(strA ByteArray.empty), (intA 0), (intA 0)], .dead]) rfl ?_
  obtain ⟨r_1, h_2, H⟩ := bind_inv H
  refine TO_cons rfl (TOp_callS [0] (call_static ent181 rfl) (by decide) rfl rfl rfl rfl rfl rfl (m_spec_l1Pick_x _ _ _ h_2) rfl rfl ?_)
  refine toe [(0, (.b 0 0)), (2, (.b 1 0)), (3, (.b 0 0)), (4, (sl tStr ([(⟨#[114]⟩ : ByteArray), (⟨#[122]⟩ : ByteArray), (⟨#[97]⟩ : ByteArray), (⟨#[]⟩ : ByteArray), (⟨#[82]⟩ : ByteArray), (⟨#[97, 98]⟩ : ByteArray)] : (List ByteArray)))), (5, (strA r_1.1))] rfl ?_
  refine TO_st (σ' := [.box [(sl (tI .u8) r_1.2.b), (intA r_1.2.i), (intA r_1.2.h)], .box [(strA ByteArray.empty), (intA 0), (intA 0)], .dead]) rfl ?_
  refine Tp rfl rfl (pur_move rfl) rfl ?_
  obtain ⟨r_3, h_4, H⟩ := bind_inv H
  refine TO_cons rfl (TOp_callS [0] (call_static ent121 rfl) (by decide) rfl rfl rfl rfl rfl rfl (m_spec_l1Below_x _ _ _ h_4) rfl rfl ?_)
  refine toe [(0, (.b 0 0)), (2, (.b 1 0)), (3, (.b 0 0)), (4, (sl tStr ([(⟨#[114]⟩ : ByteArray), (⟨#[122]⟩ : ByteArray), (⟨#[97]⟩ : ByteArray), (⟨#[]⟩ : ByteArray), (⟨#[82]⟩ : ByteArray), (⟨#[97, 98]⟩ : ByteArray)] : (List ByteArray)))), (5, (strA r_1.1)), (6, (.b 0 0)), (7, (intA r_3.1))] rfl ?_
  refine TO_st (σ' := [.box [(sl (tI .u8) r_3.2.b), (intA r_3.2.i), (intA r_3.2.h)], .box [(strA ByteArray.empty), (intA 0), (intA 0)], .dead]) rfl ?_
  refine Tp rfl rfl (pur_wsub rfl rfl rfl) rfl ?_
  refine Tp rfl rfl (pur_move rfl) rfl ?_
  obtain ⟨r_5, h_6, H⟩ := bind_inv H
  refine TO_cons rfl (TOp_callS [0] (call_static ent121 rfl) (by decide) rfl rfl rfl rfl rfl rfl (m_spec_l1Below_x _ _ _ h_6) rfl rfl ?_)
  refine toe [(0, (.b 0 0)), (2, (.b 1 0)), (3, (.b 0 0)), (4, (sl tStr ([(⟨#[114]⟩ : ByteArray), (⟨#[122]⟩ : ByteArray), (⟨#[97]⟩ : ByteArray), (⟨#[]⟩ : ByteArray), (⟨#[82]⟩ : ByteArray), (⟨#[97, 98]⟩ : ByteArray)] : (List ByteArray)))), (5, (strA r_1.1)), (6, (.b 0 0)), (7, (intA r_3.1)), (8, (intA (w64 (r_3.1 - 1)))), (9, (.b 0 0)), (10, (intA r_5.1))] rfl ?_
  refine TO_st (σ' := [.box [(sl (tI .u8) r_5.2.b), (intA r_5.2.i), (intA r_5.2.h)], .box [(strA ByteArray.empty), (intA 0), (intA 0)], .dead]) rfl ?_
  refine toe [(2, (.b 1 0)), (5, (strA r_1.1)), (8, (intA (w64 (r_3.1 - 1)))), (10, (intA r_5.1))] rfl ?_
  refine Tp rfl rfl (pur_wsub rfl rfl rfl) rfl ?_
  refine Tp rfl rfl (pur_build bld130 rfl rfl) rfl ?_
  refine TO_cons rfl (TOp_storeB sz130 rfl rfl rfl rfl rfl rfl rfl (by decide) (lb rfl) rfl ?_)
  refine TO_st (σ' := [.box [(sl (tI .u8) r_5.2.b), (intA r_5.2.i), (intA r_5.2.h)], .box [(strA r_1.1), (intA (w64 (r_3.1 - 1))), (intA (w64 (r_5.1 - 1)))], .dead]) rfl ?_
  refine TO_nil ?_
  refine te [(2, (.b 1 0))] rfl ?_
  refine T_ret ?_
  obtain rfl := some_inj H
  exact end_pickX (.cellK rfl agg130 rfl (lb rfl) .nil) rfl [0] (by decide) (lb rfl) rfl (lb rfl) rfl rfl rfl rfl rfl rfl
end Go.Proofs.Ytjdpolnakhmkmaa

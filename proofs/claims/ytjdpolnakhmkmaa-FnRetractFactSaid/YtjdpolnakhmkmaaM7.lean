/- Walks. -/
import Derived.Test.YtjdpolnakhmkmaaM1
import Derived.Test.YtjdpolnakhmkmaaM2
import Derived.Test.YtjdpolnakhmkmaaM3
import Derived.Test.YtjdpolnakhmkmaaM4
import Derived.Test.YtjdpolnakhmkmaaM6
set_option linter.unusedVariables false
set_option linter.unusedSimpArgs false
set_option maxRecDepth 4000
namespace Go.Proofs.Ytjdpolnakhmkmaa
open Go Go.Proofs Go.Sep
set_option maxHeartbeats 1000000 in
/-- impl.DeleteFact -/
theorem m_impl_DeleteFact_own (db0 : Database) (fact1 : Fact) (r : (Database × Bool)) (H : m_impl_DeleteFact db0 fact1 = some r) : FnO prg 108 [(.g (tDatabase.enc db0)), (.g (tFact.enc fact1))] (.t [(.g [(.m [0] 0 r.1.relations.length tRelation.k), (.m [1] 0 r.1.facts.length tFact.k)]), (boolA r.2)]) [.row (flat tRelation.enc r.1.relations), .row (flat tFact.enc r.1.facts)] := by
  unfold m_impl_DeleteFact at H
  refine fnO_of_T Try.func108 rfl rfl (Nat.le_of_ble_eq_true rfl) ?_
  refine te [(0, (.g (tDatabase.enc db0))), (1, (.g (tFact.enc fact1)))] rfl ?_
  refine sr ?_
  refine TO_cons rfl (TOp_box rfl (boxAll rfl) rfl rfl ?_)
  refine TO_cons rfl (TOp_box rfl (boxAll rfl) rfl rfl ?_)
  refine TO_cons rfl (TOp_alloc zero48 rfl rfl ?_)
  refine Tp rfl rfl (pur_assign rfl) rfl ?_
  refine TO_nil ?_
  refine te [(2, (.b 0 0)), (3, (.b 1 0)), (4, (.b 2 0))] rfl ?_
  refine sr ?_
  refine Tp rfl rfl (pur_ldK_b agg48 rfl rfl (lb rfl) rfl) rfl ?_
  obtain ⟨r_1, h_2, H⟩ := bind_inv H
  refine TO_cons rfl (TOp_callO (call_static ent107 rfl) rfl (m_impl_copyDatabase_own _ _ h_2) rfl rfl rfl ?_)
  refine toe [(2, (.b 0 0)), (3, (.b 1 0)), (4, (.b 2 0)), (8, (.g (tDatabase.enc db0))), (9, (.g [(.m [3] 0 r_1.relations.length tRelation.k), (.m [4] 0 r_1.facts.length tFact.k)]))] rfl ?_
  refine TO_st (σ' := [.box [(sl tRelation db0.relations), (sl tFact db0.facts)], .box [(intA fact1.relation), (sl tInt fact1.values)], .box [.n, .n], .row (flat tRelation.enc r_1.relations), .row (flat tFact.enc r_1.facts)]) rfl ?_
  refine TO_cons rfl (TOp_alloc zero48 rfl rfl ?_)
  refine TO_cons rfl (TOp_storeB sz48 rfl rfl rfl rfl rfl rfl rfl (by decide) (lb rfl) rfl ?_)
  refine TO_st (σ' := [.box [(sl tRelation db0.relations), (sl tFact db0.facts)], .box [(intA fact1.relation), (sl tInt fact1.values)], .box [.n, .n], .row (flat tRelation.enc r_1.relations), .row (flat tFact.enc r_1.facts), .box [(.m [3] 0 r_1.relations.length tRelation.k), (.m [4] 0 r_1.facts.length tFact.k)]]) rfl ?_
  refine TO_nil ?_
  refine te [(2, (.b 0 0)), (3, (.b 1 0)), (4, (.b 2 0)), (6, (.b 5 0))] rfl ?_
  refine T_seq ?_
  refine sr ?_
  refine Tp rfl rfl (pur_ldK_b agg48 rfl rfl (lb rfl) rfl) rfl ?_
  refine Tp rfl rfl (pur_ldK_b agg65 rfl rfl (lb rfl) rfl) rfl ?_
  obtain ⟨r_3, h_4, H⟩ := bind_inv H
  refine TO_cons rfl (TOp_callV (call_static ent49 rfl) (m_impl_ContainsFact_ok _ _ _ h_4) rfl rfl rfl ?_)
  refine Tp rfl rfl (pur_not rfl rfl) rfl ?_
  refine TO_nil ?_
  refine te [(2, (.b 0 0)), (3, (.b 1 0)), (4, (.b 2 0)), (6, (.b 5 0)), (13, (boolA (!r_3)))] rfl ?_
  refine T_cond (t := (!r_3)) rfl (fun c_5 => ?_) (fun c_5 => ?_)
  ·replace H := cond_t c_5 H
   refine sr ?_
   refine Tp rfl rfl (pur_ldK_b agg48 rfl rfl (lb rfl) rfl) rfl ?_
   refine TO_cons rfl (TOp_storeB sz48 rfl rfl rfl rfl rfl rfl rfl (by decide) (lb rfl) rfl ?_)
   refine TO_st (σ' := [.box [(sl tRelation db0.relations), (sl tFact db0.facts)], .box [(intA fact1.relation), (sl tInt fact1.values)], .box [(.m [3] 0 r_1.relations.length tRelation.k), (.m [4] 0 r_1.facts.length tFact.k)], .row (flat tRelation.enc r_1.relations), .row (flat tFact.enc r_1.facts), .box [(.m [3] 0 r_1.relations.length tRelation.k), (.m [4] 0 r_1.facts.length tFact.k)]]) rfl ?_
   refine Tp rfl rfl (pur_assign rfl) rfl ?_
   refine TO_nil ?_
   refine te [(4, (.b 2 0)), (5, (boolA false))] rfl ?_
   refine T_ret ?_
   refine then_ret ?_
   obtain rfl := some_inj H
   exact end_pick (.cellK rfl agg48 rfl (lb rfl) (.tmp .nil)) rfl [3, 4] (by decide) rfl rfl rfl rfl rfl rfl
  ·replace H := cond_f c_5 H
   refine T_skip ?_
   refine te [(2, (.b 0 0)), (3, (.b 1 0)), (4, (.b 2 0)), (6, (.b 5 0))] rfl ?_
   refine sr ?_
   refine Tp rfl rfl (pur_ldK_b agg48 rfl rfl (lb rfl) rfl) rfl ?_
   refine Tp rfl rfl (pur_ldK_b agg65 rfl rfl (lb rfl) rfl) rfl ?_
   obtain ⟨r_6, h_7, H⟩ := bind_inv H
   refine TO_cons rfl (TOp_callV (call_static ent106 rfl) (m_impl_FactIndex_ok _ _ _ h_7) rfl rfl rfl ?_)
   refine Tp rfl rfl (pur_assign rfl) rfl ?_
   refine TO_nil ?_
   refine te [(4, (.b 2 0)), (6, (.b 5 0)), (7, (intA r_6))] rfl ?_
   refine sr ?_
   refine Tp rfl rfl (pur_fa_b fld48_1 rfl rfl) rfl ?_
   refine Tp rfl rfl (pur_ld_b one46 rfl rfl rfl rfl) rfl ?_
   refine Tp rfl rfl (pur_move rfl) rfl ?_
   refine Tp rfl rfl (pur_move rfl) rfl ?_
   refine Tp rfl rfl (pur_wadd rfl rfl rfl) rfl ?_
   obtain ⟨r_8, h_9, H⟩ := bind_inv H
   refine TO_cons rfl (TOp_callS [4] (call_static ent160 rfl) (by decide) rfl rfl rfl rfl rfl rfl (m_slices_Delete_Simpl_Fact_impl_Fact_x _ _ _ _ h_9) rfl rfl ?_)
   refine toe [(4, (.b 2 0)), (6, (.b 5 0)), (7, (intA r_6)), (18, (.b 5 1)), (20, (intA r_6)), (21, (intA r_6)), (22, (intA (w64 (r_6 + 1)))), (23, (.m [4] 0 r_8.length tFact.k))] rfl ?_
   refine TO_st (σ' := [.box [(sl tRelation db0.relations), (sl tFact db0.facts)], .box [(intA fact1.relation), (sl tInt fact1.values)], .box [.n, .n], .row (flat tRelation.enc r_1.relations), .row (flat tFact.enc r_8), .box [(.m [3] 0 r_1.relations.length tRelation.k), (.m [4] 0 r_1.facts.length tFact.k)]]) rfl ?_
   refine Tp rfl rfl (pur_fa_b fld48_1 rfl rfl) rfl ?_
   refine TO_cons rfl (TOp_storeB sz46 rfl rfl rfl rfl rfl rfl rfl (by decide) (lb rfl) rfl ?_)
   refine TO_st (σ' := [.box [(sl tRelation db0.relations), (sl tFact db0.facts)], .box [(intA fact1.relation), (sl tInt fact1.values)], .box [.n, .n], .row (flat tRelation.enc r_1.relations), .row (flat tFact.enc r_8), .box [(.m [3] 0 r_1.relations.length tRelation.k), (.m [4] 0 r_8.length tFact.k)]]) rfl ?_
   refine TO_nil ?_
   refine te [(4, (.b 2 0)), (6, (.b 5 0))] rfl ?_
   refine sr ?_
   refine Tp rfl rfl (pur_ldK_b agg48 rfl rfl (lb rfl) rfl) rfl ?_
   refine TO_cons rfl (TOp_storeB sz48 rfl rfl rfl rfl rfl rfl rfl (by decide) (lb rfl) rfl ?_)
   refine TO_st (σ' := [.box [(sl tRelation db0.relations), (sl tFact db0.facts)], .box [(intA fact1.relation), (sl tInt fact1.values)], .box [(.m [3] 0 r_1.relations.length tRelation.k), (.m [4] 0 r_8.length tFact.k)], .row (flat tRelation.enc r_1.relations), .row (flat tFact.enc r_8), .box [(.m [3] 0 r_1.relations.length tRelation.k), (.m [4] 0 r_8.length tFact.k)]]) rfl ?_
   refine Tp rfl rfl (pur_assign rfl) rfl ?_
   refine TO_nil ?_
   refine te [(4, (.b 2 0)), (5, (boolA true))] rfl ?_
   refine T_ret ?_
   obtain rfl := some_inj H
   exact end_pick (.cellK rfl agg48 rfl (lb rfl) (.tmp .nil)) rfl [3, 4] (by decide) rfl rfl rfl rfl rfl rfl
theorem m_impl_DeleteFact_ok (db0 : Database) (fact1 : Fact) (r : (Database × Bool)) (H : m_impl_DeleteFact db0 fact1 = some r) : FnV prg 108 [(.g (tDatabase.enc db0)), (.g (tFact.enc fact1))] (.t [(.g (tDatabase.enc r.1)), (boolA r.2)]) := (m_impl_DeleteFact_own db0 fact1 r H).frz (frzOK_t (frz_cons (frzOK_g (frz_cons (frzTE (T := tRelation) rfl) (frz_cons (frzTE (T := tFact) rfl) frz_nil)).1 (frz_cons (frzTE (T := tRelation) rfl) (frz_cons (frzTE (T := tFact) rfl) frz_nil)).2) (frz_cons (frz_loose rfl) frz_nil)).1 (frz_cons (frzOK_g (frz_cons (frzTE (T := tRelation) rfl) (frz_cons (frzTE (T := tFact) rfl) frz_nil)).1 (frz_cons (frzTE (T := tRelation) rfl) (frz_cons (frzTE (T := tFact) rfl) frz_nil)).2) (frz_cons (frz_loose rfl) frz_nil)).2)

set_option maxHeartbeats 1000000 in
/-- impl.RetractFact -/
theorem m_impl_RetractFact_own (db0 : Database) (fact1 : Fact) (r : (Database × Bool)) (H : m_impl_RetractFact db0 fact1 = some r) : FnO prg 39 [(.g (tDatabase.enc db0)), (.g (tFact.enc fact1))] (.t [(.g [(.m [0] 0 r.1.relations.length tRelation.k), (.m [1] 0 r.1.facts.length tFact.k)]), (boolA r.2)]) [.row (flat tRelation.enc r.1.relations), .row (flat tFact.enc r.1.facts)] := by
  unfold m_impl_RetractFact at H
  refine fnO_of_T Try.func39 rfl rfl (Nat.le_of_ble_eq_true rfl) ?_
  refine te [(0, (.g (tDatabase.enc db0))), (1, (.g (tFact.enc fact1)))] rfl ?_
  refine sr ?_
  refine TO_cons rfl (TOp_box rfl (boxAll rfl) rfl rfl ?_)
  refine TO_cons rfl (TOp_box rfl (boxAll rfl) rfl rfl ?_)
  refine TO_cons rfl (TOp_alloc zero48 rfl rfl ?_)
  refine Tp rfl rfl (pur_assign rfl) rfl ?_
  refine TO_nil ?_
  refine te [(2, (.b 0 0)), (3, (.b 1 0)), (4, (.b 2 0))] rfl ?_
  refine T_seq ?_
  obtain ⟨t18_1, J_1, H_2⟩ := bind_inv H
  refine T_cutX (fun x => t18_1 = x) (fun (t18_1 : Bool) => [(2, (.b 0 0)), (3, (.b 1 0)), (4, (.b 2 0)), (18, (boolA t18_1))]) (fun (t18_1 : Bool) => [.box [(sl tRelation db0.relations), (sl tFact db0.facts)], .box [(intA fact1.relation), (sl tInt fact1.values)], .box [.n, .n]]) ?_ ?_
  ·replace H := J_1
   obtain ⟨r_3, h_4, H⟩ := bind_inv H
   refine T_caseB (!r_3) (fun g_5 => ?_) (fun g_5 => ?_)
   ·replace H := cond_t g_5 H
    refine T_regionP mixed ?_
    refine TA_have 11 #[true, true, false, false, false, false, false, false, false, false, false, false, false] [(2, (.b 0 0)), (3, (.b 1 0)), (4, (.b 2 0)), (6, (.g (tDatabase.enc db0))), (7, (.g (tFact.enc fact1)))] [.box [(sl tRelation db0.relations), (sl tFact db0.facts)], .box [(intA fact1.relation), (sl tInt fact1.values)], .box [.n, .n]] ?_ (fun hj0_1 => ?_)
    ·skip
     refine TA_allG [2] (by kernel_rfl) (by decide) ⟨⟨_, rfl, goN rfl, (TOp_callV (call_static ent49 rfl) (m_impl_ContainsFact_ok _ _ _ h_4) rfl rfl rfl ?_)⟩, trivial⟩
     refine TA_listed #[true, true, true, false, false, false, false, false, false, false, false, false, false] rfl ?_
     refine tf 3 rfl (purI_not rfl rfl) rfl rfl (by kernel_rfl) ?_
     refine tf 4 rfl (purI_move rfl) rfl rfl (by kernel_rfl) ?_
     refine TA_bool 10 g_5 rfl ?_
     refine TA_off 5 #[true, true, true, true, true, true, false, false, false, false, false, false, false] rfl rfl rfl (by decide) rfl rfl rfl rfl (by kernel_rfl) (by kernel_rfl) (by kernel_rfl) ?_
     refine TA_off 6 #[true, true, true, true, true, true, true, false, false, false, false, false, false] rfl rfl rfl (by decide) rfl rfl rfl rfl (by kernel_rfl) (by kernel_rfl) (by kernel_rfl) ?_
     refine TA_off 7 #[true, true, true, true, true, true, true, true, false, false, false, false, false] rfl rfl rfl (by decide) rfl rfl rfl rfl (by kernel_rfl) (by kernel_rfl) (by kernel_rfl) ?_
     refine TA_off 8 #[true, true, true, true, true, true, true, true, true, false, false, false, false] rfl rfl rfl (by decide) rfl rfl rfl rfl (by kernel_rfl) (by kernel_rfl) (by kernel_rfl) ?_
     refine TA_off 9 #[true, true, true, true, true, true, true, true, true, true, false, false, false] rfl rfl rfl (by decide) rfl rfl rfl rfl (by kernel_rfl) (by kernel_rfl) (by kernel_rfl) ?_
     refine TA_off 10 #[true, true, true, true, true, true, true, true, true, true, true, false, false] rfl rfl rfl (by decide) rfl rfl rfl rfl (by kernel_rfl) (by kernel_rfl) (by kernel_rfl) ?_
     refine TA_off 11 #[true, true, true, true, true, true, true, true, true, true, true, true, false] rfl rfl rfl (by decide) rfl rfl rfl rfl (by kernel_rfl) (by kernel_rfl) (by kernel_rfl) ?_
     refine TA_allG [12] (by kernel_rfl) (by decide) ⟨⟨_, rfl, goN rfl, (TOp_pure (pur_pick (t := true) rfl rfl rfl) rfl ?_)⟩, trivial⟩
     refine TA_listed #[true, true, true, true, true, true, true, true, true, true, true, true, true] rfl ?_
     refine TA_nil (by kernel_rfl) ?_
     exact joined true (wp 3 (lb rfl) rfl rfl rfl rfl rfl) (some_inj H).symm
    refine TA_allG [0, 1] (by kernel_rfl) (by decide) ⟨?_, ?_, trivial⟩
    ·skip
     refine ⟨_, rfl, goN rfl, (TOp_pure (pur_ldK_b agg48 rfl rfl (lb rfl) rfl) rfl ?_)⟩
     refine TA_listed #[true, false, false, false, false, false, false, false, false, false, false, false, false] rfl ?_
     refine TA_allG [1] (by kernel_rfl) (by decide) ⟨⟨_, rfl, goN rfl, (TOp_pure (pur_ldK_b agg65 rfl rfl (lb rfl) rfl) rfl ?_)⟩, trivial⟩
     refine TA_listed #[true, true, false, false, false, false, false, false, false, false, false, false, false] rfl ?_
     exact tj hj0_1 rfl (wp 3 (lb rfl) rfl rfl rfl rfl rfl)
    ·skip
     refine ⟨_, rfl, goN rfl, (TOp_pure (pur_ldK_b agg65 rfl rfl (lb rfl) rfl) rfl ?_)⟩
     refine TA_listed #[false, true, false, false, false, false, false, false, false, false, false, false, false] rfl ?_
     refine TA_allG [0] (by kernel_rfl) (by decide) ⟨⟨_, rfl, goN rfl, (TOp_pure (pur_ldK_b agg48 rfl rfl (lb rfl) rfl) rfl ?_)⟩, trivial⟩
     refine TA_listed #[true, true, false, false, false, false, false, false, false, false, false, false, false] rfl ?_
     exact tj hj0_1 rfl (wp 3 (lb rfl) rfl rfl rfl rfl rfl)
   ·replace H := cond_f g_5 H
    obtain ⟨r_6, h_7, H⟩ := bind_inv H
    obtain ⟨r_8, h_9, H⟩ := bind_inv H
    refine T_regionP mixed ?_
    refine TA_have 4 #[true, true, true, true, true, true, true, true, true, false, false, false, false] [(2, (.b 0 0)), (3, (.b 1 0)), (4, (.b 2 0)), (10, (boolA false)), (11, (.g (tDatabase.enc db0))), (14, (intA r_6))] [.box [(sl tRelation db0.relations), (sl tFact db0.facts)], .box [(intA fact1.relation), (sl tInt fact1.values)], .box [.n, .n]] ?_ (fun hj0_1 => ?_)
    ·skip
     refine TA_allG [9] (by kernel_rfl) (by decide) ⟨⟨_, rfl, goG rfl rfl (by decide) rfl, (TOp_callV (call_static ent105 rfl) (m_impl_BlockOf_ok _ _ _ h_9) rfl rfl rfl ?_)⟩, trivial⟩
     refine TA_listed #[true, true, true, true, true, true, true, true, true, true, false, false, false] rfl ?_
     refine TA_firstG 10 #[true, true, true, true, true, true, true, true, true, true, true, false, false] rfl (purI_lenT (T := tInt) sl23 rfl rfl) rfl rfl (by decide) rfl rfl rfl (by kernel_rfl) (by kernel_rfl) (by kernel_rfl) ?_
     refine TA_allG [11] (by kernel_rfl) (by decide) ⟨⟨_, rfl, goG rfl rfl (by decide) rfl, (TOp_pure (pur_eql rfl rfl rfl) rfl ?_)⟩, trivial⟩
     refine TA_listed #[true, true, true, true, true, true, true, true, true, true, true, true, false] rfl ?_
     refine TA_allG [12] (by kernel_rfl) (by decide) ⟨⟨_, rfl, goN rfl, (TOp_pure (pur_pick (t := false) rfl rfl rfl) rfl ?_)⟩, trivial⟩
     refine TA_listed #[true, true, true, true, true, true, true, true, true, true, true, true, true] rfl ?_
     refine TA_nil (by kernel_rfl) ?_
     exact joined (decide ((r_8.length : Int) = 1)) (wp 3 (lb rfl) rfl rfl rfl rfl rfl) (some_inj H).symm
    refine TA_have 5 #[true, true, true, true, true, true, true, true, false, false, false, false, false] [(2, (.b 0 0)), (3, (.b 1 0)), (4, (.b 2 0)), (10, (boolA false)), (11, (.g (tDatabase.enc db0))), (12, (.g (tDatabase.enc db0))), (13, (.g (tFact.enc fact1)))] [.box [(sl tRelation db0.relations), (sl tFact db0.facts)], .box [(intA fact1.relation), (sl tInt fact1.values)], .box [.n, .n]] ?_ (fun hj1_1 => ?_)
    ·skip
     refine TA_allG [8] (by kernel_rfl) (by decide) ⟨⟨_, rfl, goG rfl rfl (by decide) rfl, (TOp_callV (call_static ent106 rfl) (m_impl_FactIndex_ok _ _ _ h_7) rfl rfl rfl ?_)⟩, trivial⟩
     refine TA_listed #[true, true, true, true, true, true, true, true, true, false, false, false, false] rfl ?_
     exact tj hj0_1 rfl (wp 3 (lb rfl) rfl rfl rfl rfl rfl)
    refine TA_have 6 #[true, true, true, true, true, false, true, true, false, false, false, false, false] [(2, (.b 0 0)), (3, (.b 1 0)), (4, (.b 2 0)), (10, (boolA false)), (12, (.g (tDatabase.enc db0))), (13, (.g (tFact.enc fact1)))] [.box [(sl tRelation db0.relations), (sl tFact db0.facts)], .box [(intA fact1.relation), (sl tInt fact1.values)], .box [.n, .n]] ?_ (fun hj2_1 => ?_)
    ·skip
     refine TA_allG [5, 8] (by kernel_rfl) (by decide) ⟨?_, ?_, trivial⟩
     ·skip
      refine ⟨_, rfl, goG rfl rfl (by decide) rfl, (TOp_pure (pur_ldK_b agg48 rfl rfl (lb rfl) rfl) rfl ?_)⟩
      refine TA_listed #[true, true, true, true, true, true, true, true, false, false, false, false, false] rfl ?_
      exact tj hj1_1 rfl (wp 3 (lb rfl) rfl rfl rfl rfl rfl)
     ·skip
      refine ⟨_, rfl, goG rfl rfl (by decide) rfl, (TOp_callV (call_static ent106 rfl) (m_impl_FactIndex_ok _ _ _ h_7) rfl rfl rfl ?_)⟩
      refine TA_listed #[true, true, true, true, true, false, true, true, true, false, false, false, false] rfl ?_
      refine TA_allG [5] (by kernel_rfl) (by decide) ⟨⟨_, rfl, goG rfl rfl (by decide) rfl, (TOp_pure (pur_ldK_b agg48 rfl rfl (lb rfl) rfl) rfl ?_)⟩, trivial⟩
      refine TA_listed #[true, true, true, true, true, true, true, true, true, false, false, false, false] rfl ?_
      exact tj hj0_1 rfl (wp 3 (lb rfl) rfl rfl rfl rfl rfl)
    refine TA_have 6 #[true, true, true, true, true, true, false, true, false, false, false, false, false] [(2, (.b 0 0)), (3, (.b 1 0)), (4, (.b 2 0)), (10, (boolA false)), (11, (.g (tDatabase.enc db0))), (13, (.g (tFact.enc fact1)))] [.box [(sl tRelation db0.relations), (sl tFact db0.facts)], .box [(intA fact1.relation), (sl tInt fact1.values)], .box [.n, .n]] ?_ (fun hj3_1 => ?_)
    ·skip
     refine TA_allG [6] (by kernel_rfl) (by decide) ⟨⟨_, rfl, goG rfl rfl (by decide) rfl, (TOp_pure (pur_ldK_b agg48 rfl rfl (lb rfl) rfl) rfl ?_)⟩, trivial⟩
     refine TA_listed #[true, true, true, true, true, true, true, true, false, false, false, false, false] rfl ?_
     exact tj hj1_1 rfl (wp 3 (lb rfl) rfl rfl rfl rfl rfl)
    refine TA_have 6 #[true, true, true, true, true, true, true, false, false, false, false, false, false] [(2, (.b 0 0)), (3, (.b 1 0)), (4, (.b 2 0)), (10, (boolA false)), (11, (.g (tDatabase.enc db0))), (12, (.g (tDatabase.enc db0)))] [.box [(sl tRelation db0.relations), (sl tFact db0.facts)], .box [(intA fact1.relation), (sl tInt fact1.values)], .box [.n, .n]] ?_ (fun hj4_1 => ?_)
    ·skip
     refine TA_allG [7] (by kernel_rfl) (by decide) ⟨⟨_, rfl, goG rfl rfl (by decide) rfl, (TOp_pure (pur_ldK_b agg65 rfl rfl (lb rfl) rfl) rfl ?_)⟩, trivial⟩
     refine TA_listed #[true, true, true, true, true, true, true, true, false, false, false, false, false] rfl ?_
     exact tj hj1_1 rfl (wp 3 (lb rfl) rfl rfl rfl rfl rfl)
    refine TA_have 11 #[true, true, false, false, false, false, false, false, false, false, false, false, false] [(2, (.b 0 0)), (3, (.b 1 0)), (4, (.b 2 0)), (6, (.g (tDatabase.enc db0))), (7, (.g (tFact.enc fact1)))] [.box [(sl tRelation db0.relations), (sl tFact db0.facts)], .box [(intA fact1.relation), (sl tInt fact1.values)], .box [.n, .n]] ?_ (fun hj5_1 => ?_)
    ·skip
     refine TA_allG [2] (by kernel_rfl) (by decide) ⟨⟨_, rfl, goN rfl, (TOp_callV (call_static ent49 rfl) (m_impl_ContainsFact_ok _ _ _ h_4) rfl rfl rfl ?_)⟩, trivial⟩
     refine TA_listed #[true, true, true, false, false, false, false, false, false, false, false, false, false] rfl ?_
     refine tf 3 rfl (purI_not rfl rfl) rfl rfl (by kernel_rfl) ?_
     refine tf 4 rfl (purI_move rfl) rfl rfl (by kernel_rfl) ?_
     refine TA_bool 10 g_5 rfl ?_
     refine TA_allG [5, 6, 7] (by kernel_rfl) (by decide) ⟨?_, ?_, ?_, trivial⟩
     ·skip
      refine ⟨_, rfl, goG rfl rfl (by decide) rfl, (TOp_pure (pur_ldK_b agg48 rfl rfl (lb rfl) rfl) rfl ?_)⟩
      refine TA_listed #[true, true, true, true, true, true, false, false, false, false, false, false, false] rfl ?_
      refine TA_allG [6, 7] (by kernel_rfl) (by decide) ⟨?_, ?_, trivial⟩
      ·skip
       refine ⟨_, rfl, goG rfl rfl (by decide) rfl, (TOp_pure (pur_ldK_b agg48 rfl rfl (lb rfl) rfl) rfl ?_)⟩
       refine TA_listed #[true, true, true, true, true, true, true, false, false, false, false, false, false] rfl ?_
       exact tj hj4_1 rfl (wp 3 (lb rfl) rfl rfl rfl rfl rfl)
      ·skip
       refine ⟨_, rfl, goG rfl rfl (by decide) rfl, (TOp_pure (pur_ldK_b agg65 rfl rfl (lb rfl) rfl) rfl ?_)⟩
       refine TA_listed #[true, true, true, true, true, true, false, true, false, false, false, false, false] rfl ?_
       exact tj hj3_1 rfl (wp 3 (lb rfl) rfl rfl rfl rfl rfl)
     ·skip
      refine ⟨_, rfl, goG rfl rfl (by decide) rfl, (TOp_pure (pur_ldK_b agg48 rfl rfl (lb rfl) rfl) rfl ?_)⟩
      refine TA_listed #[true, true, true, true, true, false, true, false, false, false, false, false, false] rfl ?_
      refine TA_allG [5, 7] (by kernel_rfl) (by decide) ⟨?_, ?_, trivial⟩
      ·skip
       refine ⟨_, rfl, goG rfl rfl (by decide) rfl, (TOp_pure (pur_ldK_b agg48 rfl rfl (lb rfl) rfl) rfl ?_)⟩
       refine TA_listed #[true, true, true, true, true, true, true, false, false, false, false, false, false] rfl ?_
       exact tj hj4_1 rfl (wp 3 (lb rfl) rfl rfl rfl rfl rfl)
      ·skip
       refine ⟨_, rfl, goG rfl rfl (by decide) rfl, (TOp_pure (pur_ldK_b agg65 rfl rfl (lb rfl) rfl) rfl ?_)⟩
       refine TA_listed #[true, true, true, true, true, false, true, true, false, false, false, false, false] rfl ?_
       exact tj hj2_1 rfl (wp 3 (lb rfl) rfl rfl rfl rfl rfl)
     ·skip
      refine ⟨_, rfl, goG rfl rfl (by decide) rfl, (TOp_pure (pur_ldK_b agg65 rfl rfl (lb rfl) rfl) rfl ?_)⟩
      refine TA_listed #[true, true, true, true, true, false, false, true, false, false, false, false, false] rfl ?_
      refine TA_allG [5, 6] (by kernel_rfl) (by decide) ⟨?_, ?_, trivial⟩
      ·skip
       refine ⟨_, rfl, goG rfl rfl (by decide) rfl, (TOp_pure (pur_ldK_b agg48 rfl rfl (lb rfl) rfl) rfl ?_)⟩
       refine TA_listed #[true, true, true, true, true, true, false, true, false, false, false, false, false] rfl ?_
       exact tj hj3_1 rfl (wp 3 (lb rfl) rfl rfl rfl rfl rfl)
      ·skip
       refine ⟨_, rfl, goG rfl rfl (by decide) rfl, (TOp_pure (pur_ldK_b agg48 rfl rfl (lb rfl) rfl) rfl ?_)⟩
       refine TA_listed #[true, true, true, true, true, false, true, true, false, false, false, false, false] rfl ?_
       exact tj hj2_1 rfl (wp 3 (lb rfl) rfl rfl rfl rfl rfl)
    refine TA_allG [0, 1] (by kernel_rfl) (by decide) ⟨?_, ?_, trivial⟩
    ·skip
     refine ⟨_, rfl, goN rfl, (TOp_pure (pur_ldK_b agg48 rfl rfl (lb rfl) rfl) rfl ?_)⟩
     refine TA_listed #[true, false, false, false, false, false, false, false, false, false, false, false, false] rfl ?_
     refine TA_allG [1] (by kernel_rfl) (by decide) ⟨⟨_, rfl, goN rfl, (TOp_pure (pur_ldK_b agg65 rfl rfl (lb rfl) rfl) rfl ?_)⟩, trivial⟩
     refine TA_listed #[true, true, false, false, false, false, false, false, false, false, false, false, false] rfl ?_
     exact tj hj5_1 rfl (wp 3 (lb rfl) rfl rfl rfl rfl rfl)
    ·skip
     refine ⟨_, rfl, goN rfl, (TOp_pure (pur_ldK_b agg65 rfl rfl (lb rfl) rfl) rfl ?_)⟩
     refine TA_listed #[false, true, false, false, false, false, false, false, false, false, false, false, false] rfl ?_
     refine TA_allG [0] (by kernel_rfl) (by decide) ⟨⟨_, rfl, goN rfl, (TOp_pure (pur_ldK_b agg48 rfl rfl (lb rfl) rfl) rfl ?_)⟩, trivial⟩
     refine TA_listed #[true, true, false, false, false, false, false, false, false, false, false, false, false] rfl ?_
     exact tj hj5_1 rfl (wp 3 (lb rfl) rfl rfl rfl rfl rfl)
  ·rintro _ rfl
   replace H := H_2
   refine te [(2, (.b 0 0)), (3, (.b 1 0)), (4, (.b 2 0)), (18, (boolA t18_1))] rfl ?_
   refine T_cond (t := t18_1) rfl (fun c_10 => ?_) (fun c_10 => ?_)
   ·replace H := cond_t c_10 H
    refine sr ?_
    refine Tp rfl rfl (pur_ldK_b agg48 rfl rfl (lb rfl) rfl) rfl ?_
    obtain ⟨r_11, h_12, H⟩ := bind_inv H
    refine TO_cons rfl (TOp_callO (call_static ent107 rfl) rfl (m_impl_copyDatabase_own _ _ h_12) rfl rfl rfl ?_)
    refine toe [(2, (.b 0 0)), (3, (.b 1 0)), (4, (.b 2 0)), (18, (boolA t18_1)), (19, (.g (tDatabase.enc db0))), (20, (.g [(.m [3] 0 r_11.relations.length tRelation.k), (.m [4] 0 r_11.facts.length tFact.k)]))] rfl ?_
    refine TO_st (σ' := [.box [(sl tRelation db0.relations), (sl tFact db0.facts)], .box [(intA fact1.relation), (sl tInt fact1.values)], .box [.n, .n], .row (flat tRelation.enc r_11.relations), .row (flat tFact.enc r_11.facts)]) rfl ?_
    refine TO_cons rfl (TOp_storeB sz48 rfl rfl rfl rfl rfl rfl rfl (by decide) (lb rfl) rfl ?_)
    refine TO_st (σ' := [.box [(sl tRelation db0.relations), (sl tFact db0.facts)], .box [(intA fact1.relation), (sl tInt fact1.values)], .box [(.m [3] 0 r_11.relations.length tRelation.k), (.m [4] 0 r_11.facts.length tFact.k)], .row (flat tRelation.enc r_11.relations), .row (flat tFact.enc r_11.facts)]) rfl ?_
    refine Tp rfl rfl (pur_assign rfl) rfl ?_
    refine TO_nil ?_
    refine te [(4, (.b 2 0)), (5, (boolA false))] rfl ?_
    refine T_ret ?_
    refine then_ret ?_
    obtain rfl := some_inj H
    exact end_pick (.cellK rfl agg48 rfl (lb rfl) (.tmp .nil)) rfl [3, 4] (by decide) rfl rfl rfl rfl rfl rfl
   ·replace H := cond_f c_10 H
    refine T_skip ?_
    refine te [(2, (.b 0 0)), (3, (.b 1 0)), (4, (.b 2 0))] rfl ?_
    refine sr ?_
    refine Tp rfl rfl (pur_ldK_b agg48 rfl rfl (lb rfl) rfl) rfl ?_
    refine Tp rfl rfl (pur_ldK_b agg65 rfl rfl (lb rfl) rfl) rfl ?_
    obtain ⟨r_13, h_14, H⟩ := bind_inv H
    refine TO_cons rfl (TOp_callO (call_static ent108 rfl) rfl (m_impl_DeleteFact_own _ _ _ h_14) rfl rfl rfl ?_)
    refine toe [(2, (.b 0 0)), (3, (.b 1 0)), (4, (.b 2 0)), (21, (.g (tDatabase.enc db0))), (22, (.g (tFact.enc fact1))), (23, (.t [(.g [(.m [3] 0 r_13.1.relations.length tRelation.k), (.m [4] 0 r_13.1.facts.length tFact.k)]), (boolA r_13.2)]))] rfl ?_
    refine TO_st (σ' := [.box [(sl tRelation db0.relations), (sl tFact db0.facts)], .box [(intA fact1.relation), (sl tInt fact1.values)], .box [.n, .n], .row (flat tRelation.enc r_13.1.relations), .row (flat tFact.enc r_13.1.facts)]) rfl ?_
    refine Tp rfl rfl (pur_extract rfl rfl rfl) rfl ?_
    refine Tp rfl rfl (pur_extract rfl rfl rfl) rfl ?_
    refine TO_cons rfl (TOp_storeB sz48 rfl rfl rfl rfl rfl rfl rfl (by decide) (lb rfl) rfl ?_)
    refine TO_st (σ' := [.box [(sl tRelation db0.relations), (sl tFact db0.facts)], .box [(intA fact1.relation), (sl tInt fact1.values)], .box [(.m [3] 0 r_13.1.relations.length tRelation.k), (.m [4] 0 r_13.1.facts.length tFact.k)], .row (flat tRelation.enc r_13.1.relations), .row (flat tFact.enc r_13.1.facts)]) rfl ?_
    refine Tp rfl rfl (pur_assign rfl) rfl ?_
    refine TO_nil ?_
    refine te [(4, (.b 2 0)), (5, (boolA r_13.2))] rfl ?_
    refine T_ret ?_
    obtain rfl := some_inj H
    exact end_pick (.cellK rfl agg48 rfl (lb rfl) (.tmp .nil)) rfl [3, 4] (by decide) rfl rfl rfl rfl rfl rfl
theorem m_impl_RetractFact_ok (db0 : Database) (fact1 : Fact) (r : (Database × Bool)) (H : m_impl_RetractFact db0 fact1 = some r) : FnV prg 39 [(.g (tDatabase.enc db0)), (.g (tFact.enc fact1))] (.t [(.g (tDatabase.enc r.1)), (boolA r.2)]) := (m_impl_RetractFact_own db0 fact1 r H).frz (frzOK_t (frz_cons (frzOK_g (frz_cons (frzTE (T := tRelation) rfl) (frz_cons (frzTE (T := tFact) rfl) frz_nil)).1 (frz_cons (frzTE (T := tRelation) rfl) (frz_cons (frzTE (T := tFact) rfl) frz_nil)).2) (frz_cons (frz_loose rfl) frz_nil)).1 (frz_cons (frzOK_g (frz_cons (frzTE (T := tRelation) rfl) (frz_cons (frzTE (T := tFact) rfl) frz_nil)).1 (frz_cons (frzTE (T := tRelation) rfl) (frz_cons (frzTE (T := tFact) rfl) frz_nil)).2) (frz_cons (frz_loose rfl) frz_nil)).2)

set_option maxHeartbeats 1000000 in
/-- spec.DeleteFact -/
theorem m_spec_DeleteFact_own (u : Nat) (d0 : Database) (f1 : Fact) (r : (Database × Bool)) (H : m_spec_DeleteFact u d0 f1 = some r) : FnO prg 113 [(.g (tDatabase.enc d0)), (.g (tFact.enc f1))] (.t [(.g [(.m [0] 0 r.1.relations.length tRelation.k), (.m [1] 0 r.1.facts.length tFact.k)]), (boolA r.2)]) [.row (flat tRelation.enc r.1.relations), .row (flat tFact.enc r.1.facts)] := by
  unfold m_spec_DeleteFact at H
  refine fnO_of_T Try.func113 rfl rfl (Nat.le_of_ble_eq_true rfl) ?_
  refine te [(0, (.g (tDatabase.enc d0))), (1, (.g (tFact.enc f1)))] rfl ?_
  refine sr ?_
  refine TO_cons rfl (TOp_box rfl (boxAll rfl) rfl rfl ?_)
  refine TO_cons rfl (TOp_box rfl (boxAll rfl) rfl rfl ?_)
  refine TO_cons rfl (TOp_alloc zero48 rfl rfl ?_)
  refine Tp rfl rfl (pur_assign rfl) rfl ?_
  refine TO_nil ?_
  refine te [(2, (.b 0 0)), (3, (.b 1 0)), (4, (.b 2 0))] rfl ?_
  refine sr ?_
  refine Tp rfl rfl (pur_ldK_b agg48 rfl rfl (lb rfl) rfl) rfl ?_
  obtain ⟨r_1, h_2, H⟩ := bind_inv H
  refine TO_cons rfl (TOp_callO (call_static ent112 rfl) rfl (m_spec_l4Copy_own u _ _ h_2) rfl rfl rfl ?_)
  refine toe [(2, (.b 0 0)), (3, (.b 1 0)), (4, (.b 2 0)), (8, (.g (tDatabase.enc d0))), (9, (.g [(.m [3] 0 r_1.relations.length tRelation.k), (.m [4] 0 r_1.facts.length tFact.k)]))] rfl ?_
  refine TO_st (σ' := [.box [(sl tRelation d0.relations), (sl tFact d0.facts)], .box [(intA f1.relation), (sl tInt f1.values)], .box [.n, .n], .row (flat tRelation.enc r_1.relations), .row (flat tFact.enc r_1.facts)]) rfl ?_
  refine TO_cons rfl (TOp_alloc zero48 rfl rfl ?_)
  refine TO_cons rfl (TOp_storeB sz48 rfl rfl rfl rfl rfl rfl rfl (by decide) (lb rfl) rfl ?_)
  refine TO_st (σ' := [.box [(sl tRelation d0.relations), (sl tFact d0.facts)], .box [(intA f1.relation), (sl tInt f1.values)], .box [.n, .n], .row (flat tRelation.enc r_1.relations), .row (flat tFact.enc r_1.facts), .box [(.m [3] 0 r_1.relations.length tRelation.k), (.m [4] 0 r_1.facts.length tFact.k)]]) rfl ?_
  refine TO_nil ?_
  refine te [(2, (.b 0 0)), (3, (.b 1 0)), (4, (.b 2 0)), (6, (.b 5 0))] rfl ?_
  refine T_seq ?_
  refine sr ?_
  refine Tp rfl rfl (pur_ldK_b agg48 rfl rfl (lb rfl) rfl) rfl ?_
  refine Tp rfl rfl (pur_ldK_b agg65 rfl rfl (lb rfl) rfl) rfl ?_
  obtain ⟨r_3, h_4, H⟩ := bind_inv H
  refine TO_cons rfl (TOp_callV (call_static ent109 rfl) (m_spec_ContainsFact_ok u _ _ _ h_4) rfl rfl rfl ?_)
  refine Tp rfl rfl (pur_not rfl rfl) rfl ?_
  refine TO_nil ?_
  refine te [(2, (.b 0 0)), (3, (.b 1 0)), (4, (.b 2 0)), (6, (.b 5 0)), (13, (boolA (!r_3)))] rfl ?_
  refine T_cond (t := (!r_3)) rfl (fun c_5 => ?_) (fun c_5 => ?_)
  ·replace H := cond_t c_5 H
   refine sr ?_
   refine Tp rfl rfl (pur_ldK_b agg48 rfl rfl (lb rfl) rfl) rfl ?_
   refine TO_cons rfl (TOp_storeB sz48 rfl rfl rfl rfl rfl rfl rfl (by decide) (lb rfl) rfl ?_)
   refine TO_st (σ' := [.box [(sl tRelation d0.relations), (sl tFact d0.facts)], .box [(intA f1.relation), (sl tInt f1.values)], .box [(.m [3] 0 r_1.relations.length tRelation.k), (.m [4] 0 r_1.facts.length tFact.k)], .row (flat tRelation.enc r_1.relations), .row (flat tFact.enc r_1.facts), .box [(.m [3] 0 r_1.relations.length tRelation.k), (.m [4] 0 r_1.facts.length tFact.k)]]) rfl ?_
   refine Tp rfl rfl (pur_assign rfl) rfl ?_
   refine TO_nil ?_
   refine te [(4, (.b 2 0)), (5, (boolA false))] rfl ?_
   refine T_ret ?_
   refine then_ret ?_
   obtain rfl := some_inj H
   exact end_pick (.cellK rfl agg48 rfl (lb rfl) (.tmp .nil)) rfl [3, 4] (by decide) rfl rfl rfl rfl rfl rfl
  ·replace H := cond_f c_5 H
   refine T_skip ?_
   refine te [(2, (.b 0 0)), (3, (.b 1 0)), (4, (.b 2 0)), (6, (.b 5 0))] rfl ?_
   refine sr ?_
   refine Tp rfl rfl (pur_ldK_b agg48 rfl rfl (lb rfl) rfl) rfl ?_
   refine Tp rfl rfl (pur_ldK_b agg65 rfl rfl (lb rfl) rfl) rfl ?_
   obtain ⟨r_6, h_7, H⟩ := bind_inv H
   refine TO_cons rfl (TOp_callV (call_static ent111 rfl) (m_spec_FactIndex_ok u _ _ _ h_7) rfl rfl rfl ?_)
   refine Tp rfl rfl (pur_assign rfl) rfl ?_
   refine TO_nil ?_
   refine te [(4, (.b 2 0)), (6, (.b 5 0)), (7, (intA r_6))] rfl ?_
   obtain ⟨ys_8, h_9, H⟩ := bind_inv H
   obtain ⟨i_10, j_11, hi_12, hj_13, hij_14, hjl_15, hys_16, _⟩ := cutI_inv h_9
   obtain ⟨us_17, h_18, H⟩ := bind_inv H
   obtain ⟨ys_19, h_20, H⟩ := bind_inv H
   obtain ⟨i_21, j_22, hi_23, hj_24, hij_25, hjl_26, hys_27, _⟩ := cutI_inv h_20
   obtain ⟨us_28, h_29, H⟩ := bind_inv H
   refine T_pad ?_
   refine T_pad ?_
   refine T_cutX (fun (_ : Unit) => True) (fun _ => [(4, (.b 2 0)), (6, (.b 5 0))]) (fun _ => [.box [(sl tRelation d0.relations), (sl tFact d0.facts)], .box [(intA f1.relation), (sl tInt f1.values)], .box [.n, .n], .row (flat tRelation.enc r_1.relations), .row (flat tFact.enc r_1.facts), .box [(.m [3] 0 r_1.relations.length tRelation.k), (.m [6] 0 us_28.length tFact.k)], .row (flat tFact.enc us_28)]) ?_ ?_
   ·skip
    refine T_regionP mixed ?_
    refine TA_have 3 #[true, true, true, true, true, true, true, true, true, true, true, false, false, false] [(4, (.b 2 0)), (6, (.b 5 0)), (23, (.m [7] 0 us_17.length tFact.k)), (28, (.m [4] (i_21 * tFact.k) (j_22 - i_21) tFact.k))] [.box [(sl tRelation d0.relations), (sl tFact d0.facts)], .box [(intA f1.relation), (sl tInt f1.values)], .box [.n, .n], .row (flat tRelation.enc r_1.relations), .row (flat tFact.enc r_1.facts), .box [(.m [3] 0 r_1.relations.length tRelation.k), (.m [4] 0 r_1.facts.length tFact.k)], .dead, .row (flat tFact.enc us_17)] ?_ (fun hj0_5 => ?_)
    ·skip
     refine t1 11 (by kernel_rfl) rfl rfl (TOp_appY (T := tFact) (f := tFact.enc) (xs := us_17) (ys := ys_19) tFact.len sl46 zero65 rfl bytes65 (by decide) rfl rfl rfl rfl (src_cut (T := tFact) (xs := r_1.facts) (i := i_21) (j := j_22) rfl rfl hij_25 hjl_26 hys_27) (flat_cell tFact _) h_29 ?_)
     refine tmv 7 8 (by decide) (lb rfl) rfl rfl (lb rfl) ?_
     refine tf 12 rfl (purI_fa_b fld48_1 rfl rfl) rfl rfl (by kernel_rfl) ?_
     refine t1 13 (by kernel_rfl) rfl rfl (TOp_storeB sz46 rfl rfl rfl rfl rfl rfl rfl (by decide) (lb rfl) rfl ?_)
     refine TA_st (σ' := [.box [(sl tRelation d0.relations), (sl tFact d0.facts)], .box [(intA f1.relation), (sl tInt f1.values)], .box [.n, .n], .row (flat tRelation.enc r_1.relations), .row (flat tFact.enc r_1.facts), .box [(.m [3] 0 r_1.relations.length tRelation.k), (.m [7] 0 us_28.length tFact.k)], .dead, .row (flat tFact.enc us_28), .dead]) rfl ?_
     refine TA_ghost (E' := [(4, (.b 2 0)), (6, (.b 5 0))]) (σ' := [.box [(sl tRelation d0.relations), (sl tFact d0.facts)], .box [(intA f1.relation), (sl tInt f1.values)], .box [.n, .n], .row (flat tRelation.enc r_1.relations), .row (flat tFact.enc r_1.facts), .box [(.m [3] 0 r_1.relations.length tRelation.k), (.m [6] 0 us_28.length tFact.k)], .row (flat tFact.enc us_28), .dead, .dead]) (Ghost.move 6 7 (by decide) (lb rfl) rfl rfl (lb rfl) (Ghost.weak (WeakL.to 9 (lb rfl) rfl rfl rfl rfl ⟨leR rfl, leR rfl, trivial⟩))) ?_
     exact TA_nil (by kernel_rfl) (joined () (wp 7 (lb rfl) rfl rfl rfl rfl rfl) trivial)
    refine TA_have 4 #[true, true, true, true, true, false, true, true, true, true, true, false, false, false] [(4, (.b 2 0)), (6, (.b 5 0)), (18, (.m [7] 0 ([] : (List Fact)).length tFact.k)), (22, (.m [4] (i_10 * tFact.k) (j_11 - i_10) tFact.k)), (28, (.m [4] (i_21 * tFact.k) (j_22 - i_21) tFact.k))] [.box [(sl tRelation d0.relations), (sl tFact d0.facts)], .box [(intA f1.relation), (sl tInt f1.values)], .box [.n, .n], .row (flat tRelation.enc r_1.relations), .row (flat tFact.enc r_1.facts), .box [(.m [3] 0 r_1.relations.length tRelation.k), (.m [4] 0 r_1.facts.length tFact.k)], .dead, .row (flat tFact.enc ([] : (List Fact)))] ?_ (fun hj1_5 => ?_)
    ·skip
     refine t1 5 (by kernel_rfl) rfl rfl (TOp_appY (T := tFact) (f := tFact.enc) (xs := ([] : (List Fact))) (ys := ys_8) tFact.len sl46 zero65 rfl bytes65 (by decide) rfl rfl rfl rfl (src_cut (T := tFact) (xs := r_1.facts) (i := i_10) (j := j_11) rfl rfl hij_14 hjl_15 hys_16) (flat_cell tFact _) h_18 ?_)
     refine tmv 7 8 (by decide) (lb rfl) rfl rfl (lb rfl) ?_
     exact tj hj0_5 rfl (wp 8 (lb rfl) rfl rfl rfl rfl rfl)
    refine TA_have 5 #[false, true, true, true, true, false, true, true, true, true, true, false, false, false] [(4, (.b 2 0)), (6, (.b 5 0)), (22, (.m [4] (i_10 * tFact.k) (j_11 - i_10) tFact.k)), (28, (.m [4] (i_21 * tFact.k) (j_22 - i_21) tFact.k))] [.box [(sl tRelation d0.relations), (sl tFact d0.facts)], .box [(intA f1.relation), (sl tInt f1.values)], .box [.n, .n], .row (flat tRelation.enc r_1.relations), .row (flat tFact.enc r_1.facts), .box [(.m [3] 0 r_1.relations.length tRelation.k), (.m [4] 0 r_1.facts.length tFact.k)], .dead, .dead] ?_ (fun hj2_5 => ?_)
    ·skip
     refine t1 0 (by kernel_rfl) rfl rfl (TOp_lit (nn := 0) (k := 2) sl46 zero65 rfl rfl rfl rfl (by decide) ?_)
     refine tmv 7 8 (by decide) (lb rfl) rfl rfl (lb rfl) ?_
     exact tj hj1_5 rfl (wp 8 (lb rfl) rfl rfl rfl rfl rfl)
    refine TA_have 6 #[true, true, false, true, false, false, true, true, true, true, true, false, false, false] [(4, (.b 2 0)), (6, (.b 5 0)), (18, (.m [7] 0 ([] : (List Fact)).length tFact.k)), (19, (.b 5 1)), (21, (intA r_6)), (28, (.m [4] (i_21 * tFact.k) (j_22 - i_21) tFact.k))] [.box [(sl tRelation d0.relations), (sl tFact d0.facts)], .box [(intA f1.relation), (sl tInt f1.values)], .box [.n, .n], .row (flat tRelation.enc r_1.relations), .row (flat tFact.enc r_1.facts), .box [(.m [3] 0 r_1.relations.length tRelation.k), (.m [4] 0 r_1.facts.length tFact.k)], .dead, .row (flat tFact.enc ([] : (List Fact)))] ?_ (fun hj3_5 => ?_)
    ·skip
     refine t1 2 (by kernel_rfl) rfl rfl (TOp_pure (pur_ld_b one46 rfl rfl rfl rfl) rfl ?_)
     refine tf 4 rfl (purI_cutM (lo := none) (hi := (some (.tmp 21))) sl46 rfl hi_12.symm ⟨_, congrArg (fun z => A.v (.int .i64 z)) hj_13⟩ hij_14 hjl_15 rfl) rfl rfl (by kernel_rfl) ?_
     exact tj hj1_5 rfl (wp 8 (lb rfl) rfl rfl rfl rfl rfl)
    refine TA_have 6 #[true, true, true, true, true, false, true, false, true, true, false, false, false, false] [(4, (.b 2 0)), (6, (.b 5 0)), (18, (.m [7] 0 ([] : (List Fact)).length tFact.k)), (22, (.m [4] (i_10 * tFact.k) (j_11 - i_10) tFact.k)), (24, (.b 5 1)), (27, (intA (w64 (r_6 + 1))))] [.box [(sl tRelation d0.relations), (sl tFact d0.facts)], .box [(intA f1.relation), (sl tInt f1.values)], .box [.n, .n], .row (flat tRelation.enc r_1.relations), .row (flat tFact.enc r_1.facts), .box [(.m [3] 0 r_1.relations.length tRelation.k), (.m [4] 0 r_1.facts.length tFact.k)], .dead, .row (flat tFact.enc ([] : (List Fact)))] ?_ (fun hj4_5 => ?_)
    ·skip
     refine TA_all [5, 7] (by kernel_rfl) (by decide) ⟨?_, ?_, trivial⟩
     ·skip
      refine ⟨_, rfl, rfl, (TOp_appY (T := tFact) (f := tFact.enc) (xs := ([] : (List Fact))) (ys := ys_8) tFact.len sl46 zero65 rfl bytes65 (by decide) rfl rfl rfl rfl (src_cut (T := tFact) (xs := r_1.facts) (i := i_10) (j := j_11) rfl rfl hij_14 hjl_15 hys_16) (flat_cell tFact _) h_18 ?_)⟩
      refine tmv 7 8 (by decide) (lb rfl) rfl rfl (lb rfl) ?_
      refine t1 7 (by kernel_rfl) rfl rfl (TOp_pure (pur_ld_b one46 rfl rfl rfl rfl) rfl ?_)
      refine tf 10 rfl (purI_cutM (lo := (some (.tmp 27))) (hi := none) sl46 rfl ⟨_, congrArg (fun z => A.v (.int .i64 z)) hi_23⟩ hj_24.symm hij_25 hjl_26 rfl) rfl rfl (by kernel_rfl) ?_
      exact tj hj0_5 rfl (wp 8 (lb rfl) rfl rfl rfl rfl rfl)
     ·skip
      refine ⟨_, rfl, rfl, (TOp_pure (pur_ld_b one46 rfl rfl rfl rfl) rfl ?_)⟩
      refine tf 10 rfl (purI_cutM (lo := (some (.tmp 27))) (hi := none) sl46 rfl ⟨_, congrArg (fun z => A.v (.int .i64 z)) hi_23⟩ hj_24.symm hij_25 hjl_26 rfl) rfl rfl (by kernel_rfl) ?_
      exact tj hj1_5 rfl (wp 8 (lb rfl) rfl rfl rfl rfl rfl)
    refine tf 1 rfl (purI_fa_b fld48_1 rfl rfl) rfl rfl (by kernel_rfl) ?_
    refine tf 3 rfl (purI_move rfl) rfl rfl (by kernel_rfl) ?_
    refine tf 6 rfl (purI_fa_b fld48_1 rfl rfl) rfl rfl (by kernel_rfl) ?_
    refine tf 8 rfl (purI_move rfl) rfl rfl (by kernel_rfl) ?_
    refine tf 9 rfl (purI_wadd rfl rfl rfl) rfl rfl (by kernel_rfl) ?_
    refine TA_all [0, 2, 7] (by kernel_rfl) (by decide) ⟨?_, ?_, ?_, trivial⟩
    ·skip
     refine ⟨_, rfl, rfl, (TOp_lit (nn := 0) (k := 2) sl46 zero65 rfl rfl rfl rfl (by decide) ?_)⟩
     refine tmv 7 8 (by decide) (lb rfl) rfl rfl (lb rfl) ?_
     refine TA_all [2, 7] (by kernel_rfl) (by decide) ⟨?_, ?_, trivial⟩
     ·skip
      refine ⟨_, rfl, rfl, (TOp_pure (pur_ld_b one46 rfl rfl rfl rfl) rfl ?_)⟩
      refine tf 4 rfl (purI_cutM (lo := none) (hi := (some (.tmp 21))) sl46 rfl hi_12.symm ⟨_, congrArg (fun z => A.v (.int .i64 z)) hj_13⟩ hij_14 hjl_15 rfl) rfl rfl (by kernel_rfl) ?_
      refine tae [(4, (.b 2 0)), (6, (.b 5 0)), (18, (.m [7] 0 ([] : (List Fact)).length tFact.k)), (22, (.m [4] (i_10 * tFact.k) (j_11 - i_10) tFact.k)), (24, (.b 5 1)), (27, (intA (w64 (r_6 + 1))))] rfl ?_
      exact tj hj4_5 rfl (wp 8 (lb rfl) rfl rfl rfl rfl rfl)
     ·skip
      refine ⟨_, rfl, rfl, (TOp_pure (pur_ld_b one46 rfl rfl rfl rfl) rfl ?_)⟩
      refine tf 10 rfl (purI_cutM (lo := (some (.tmp 27))) (hi := none) sl46 rfl ⟨_, congrArg (fun z => A.v (.int .i64 z)) hi_23⟩ hj_24.symm hij_25 hjl_26 rfl) rfl rfl (by kernel_rfl) ?_
      refine tae [(4, (.b 2 0)), (6, (.b 5 0)), (18, (.m [7] 0 ([] : (List Fact)).length tFact.k)), (19, (.b 5 1)), (21, (intA r_6)), (28, (.m [4] (i_21 * tFact.k) (j_22 - i_21) tFact.k))] rfl ?_
      exact tj hj3_5 rfl (wp 8 (lb rfl) rfl rfl rfl rfl rfl)
    ·skip
     refine ⟨_, rfl, rfl, (TOp_pure (pur_ld_b one46 rfl rfl rfl rfl) rfl ?_)⟩
     refine tf 4 rfl (purI_cutM (lo := none) (hi := (some (.tmp 21))) sl46 rfl hi_12.symm ⟨_, congrArg (fun z => A.v (.int .i64 z)) hj_13⟩ hij_14 hjl_15 rfl) rfl rfl (by kernel_rfl) ?_
     refine tae [(4, (.b 2 0)), (6, (.b 5 0)), (22, (.m [4] (i_10 * tFact.k) (j_11 - i_10) tFact.k)), (24, (.b 5 1)), (27, (intA (w64 (r_6 + 1))))] rfl ?_
     refine TA_all [0, 7] (by kernel_rfl) (by decide) ⟨?_, ?_, trivial⟩
     ·skip
      refine ⟨_, rfl, rfl, (TOp_lit (nn := 0) (k := 2) sl46 zero65 rfl rfl rfl rfl (by decide) ?_)⟩
      refine tmv 7 8 (by decide) (lb rfl) rfl rfl (lb rfl) ?_
      exact tj hj4_5 rfl (wp 8 (lb rfl) rfl rfl rfl rfl rfl)
     ·skip
      refine ⟨_, rfl, rfl, (TOp_pure (pur_ld_b one46 rfl rfl rfl rfl) rfl ?_)⟩
      refine tf 10 rfl (purI_cutM (lo := (some (.tmp 27))) (hi := none) sl46 rfl ⟨_, congrArg (fun z => A.v (.int .i64 z)) hi_23⟩ hj_24.symm hij_25 hjl_26 rfl) rfl rfl (by kernel_rfl) ?_
      exact tj hj2_5 rfl (wp 8 (lb rfl) rfl rfl rfl rfl rfl)
    ·skip
     refine ⟨_, rfl, rfl, (TOp_pure (pur_ld_b one46 rfl rfl rfl rfl) rfl ?_)⟩
     refine tf 10 rfl (purI_cutM (lo := (some (.tmp 27))) (hi := none) sl46 rfl ⟨_, congrArg (fun z => A.v (.int .i64 z)) hi_23⟩ hj_24.symm hij_25 hjl_26 rfl) rfl rfl (by kernel_rfl) ?_
     refine tae [(4, (.b 2 0)), (6, (.b 5 0)), (19, (.b 5 1)), (21, (intA r_6)), (28, (.m [4] (i_21 * tFact.k) (j_22 - i_21) tFact.k))] rfl ?_
     refine TA_all [0, 2] (by kernel_rfl) (by decide) ⟨?_, ?_, trivial⟩
     ·skip
      refine ⟨_, rfl, rfl, (TOp_lit (nn := 0) (k := 2) sl46 zero65 rfl rfl rfl rfl (by decide) ?_)⟩
      refine tmv 7 8 (by decide) (lb rfl) rfl rfl (lb rfl) ?_
      exact tj hj3_5 rfl (wp 8 (lb rfl) rfl rfl rfl rfl rfl)
     ·skip
      refine ⟨_, rfl, rfl, (TOp_pure (pur_ld_b one46 rfl rfl rfl rfl) rfl ?_)⟩
      refine tf 4 rfl (purI_cutM (lo := none) (hi := (some (.tmp 21))) sl46 rfl hi_12.symm ⟨_, congrArg (fun z => A.v (.int .i64 z)) hj_13⟩ hij_14 hjl_15 rfl) rfl rfl (by kernel_rfl) ?_
      exact tj hj2_5 rfl (wp 8 (lb rfl) rfl rfl rfl rfl rfl)
   ·rintro _ _
    refine te [(4, (.b 2 0)), (6, (.b 5 0))] rfl ?_
    refine sr ?_
    refine Tp rfl rfl (pur_ldK_b agg48 rfl rfl (lb rfl) rfl) rfl ?_
    refine TO_cons rfl (TOp_storeB sz48 rfl rfl rfl rfl rfl rfl rfl (by decide) (lb rfl) rfl ?_)
    refine TO_st (σ' := [.box [(sl tRelation d0.relations), (sl tFact d0.facts)], .box [(intA f1.relation), (sl tInt f1.values)], .box [(.m [3] 0 r_1.relations.length tRelation.k), (.m [6] 0 us_28.length tFact.k)], .row (flat tRelation.enc r_1.relations), .row (flat tFact.enc r_1.facts), .box [(.m [3] 0 r_1.relations.length tRelation.k), (.m [6] 0 us_28.length tFact.k)], .row (flat tFact.enc us_28)]) rfl ?_
    refine Tp rfl rfl (pur_assign rfl) rfl ?_
    refine TO_nil ?_
    refine te [(4, (.b 2 0)), (5, (boolA true))] rfl ?_
    refine T_ret ?_
    obtain rfl := some_inj H
    exact end_pick (.cellK rfl agg48 rfl (lb rfl) (.tmp .nil)) rfl [3, 6] (by decide) rfl rfl rfl rfl rfl rfl
theorem m_spec_DeleteFact_ok (u : Nat) (d0 : Database) (f1 : Fact) (r : (Database × Bool)) (H : m_spec_DeleteFact u d0 f1 = some r) : FnV prg 113 [(.g (tDatabase.enc d0)), (.g (tFact.enc f1))] (.t [(.g (tDatabase.enc r.1)), (boolA r.2)]) := (m_spec_DeleteFact_own u d0 f1 r H).frz (frzOK_t (frz_cons (frzOK_g (frz_cons (frzTE (T := tRelation) rfl) (frz_cons (frzTE (T := tFact) rfl) frz_nil)).1 (frz_cons (frzTE (T := tRelation) rfl) (frz_cons (frzTE (T := tFact) rfl) frz_nil)).2) (frz_cons (frz_loose rfl) frz_nil)).1 (frz_cons (frzOK_g (frz_cons (frzTE (T := tRelation) rfl) (frz_cons (frzTE (T := tFact) rfl) frz_nil)).1 (frz_cons (frzTE (T := tRelation) rfl) (frz_cons (frzTE (T := tFact) rfl) frz_nil)).2) (frz_cons (frz_loose rfl) frz_nil)).2)

set_option maxHeartbeats 1000000 in
/-- spec.RetractFact -/
theorem m_spec_RetractFact_own (u : Nat) (d0 : Database) (f1 : Fact) (r : (Database × Bool)) (H : m_spec_RetractFact u d0 f1 = some r) : FnO prg 40 [(.g (tDatabase.enc d0)), (.g (tFact.enc f1))] (.t [(.g [(.m [0] 0 r.1.relations.length tRelation.k), (.m [1] 0 r.1.facts.length tFact.k)]), (boolA r.2)]) [.row (flat tRelation.enc r.1.relations), .row (flat tFact.enc r.1.facts)] := by
  unfold m_spec_RetractFact at H
  refine fnO_of_T Try.func40 rfl rfl (Nat.le_of_ble_eq_true rfl) ?_
  refine te [(0, (.g (tDatabase.enc d0))), (1, (.g (tFact.enc f1)))] rfl ?_
  refine sr ?_
  refine TO_cons rfl (TOp_box rfl (boxAll rfl) rfl rfl ?_)
  refine TO_cons rfl (TOp_box rfl (boxAll rfl) rfl rfl ?_)
  refine TO_cons rfl (TOp_alloc zero48 rfl rfl ?_)
  refine Tp rfl rfl (pur_assign rfl) rfl ?_
  refine TO_nil ?_
  refine te [(2, (.b 0 0)), (3, (.b 1 0)), (4, (.b 2 0))] rfl ?_
  refine T_seq ?_
  obtain ⟨t20_1, J_1, H_2⟩ := bind_inv H
  refine T_cutX (fun x => t20_1 = x) (fun (t20_1 : Bool) => [(2, (.b 0 0)), (3, (.b 1 0)), (4, (.b 2 0)), (20, (boolA t20_1))]) (fun (t20_1 : Bool) => [.box [(sl tRelation d0.relations), (sl tFact d0.facts)], .box [(intA f1.relation), (sl tInt f1.values)], .box [.n, .n]]) ?_ ?_
  ·replace H := J_1
   obtain ⟨r_3, h_4, H⟩ := bind_inv H
   refine T_caseB (!r_3) (fun g_5 => ?_) (fun g_5 => ?_)
   ·replace H := cond_t g_5 H
    refine T_regionP mixed ?_
    refine TA_have 11 #[true, true, false, false, false, false, false, false, false, false, false, false, false] [(2, (.b 0 0)), (3, (.b 1 0)), (4, (.b 2 0)), (8, (.g (tDatabase.enc d0))), (9, (.g (tFact.enc f1)))] [.box [(sl tRelation d0.relations), (sl tFact d0.facts)], .box [(intA f1.relation), (sl tInt f1.values)], .box [.n, .n]] ?_ (fun hj0_1 => ?_)
    ·skip
     refine TA_allG [2] (by kernel_rfl) (by decide) ⟨⟨_, rfl, goN rfl, (TOp_callV (call_static ent109 rfl) (m_spec_ContainsFact_ok u _ _ _ h_4) rfl rfl rfl ?_)⟩, trivial⟩
     refine TA_listed #[true, true, true, false, false, false, false, false, false, false, false, false, false] rfl ?_
     refine tf 3 rfl (purI_not rfl rfl) rfl rfl (by kernel_rfl) ?_
     refine tf 4 rfl (purI_move rfl) rfl rfl (by kernel_rfl) ?_
     refine TA_bool 12 g_5 rfl ?_
     refine TA_off 5 #[true, true, true, true, true, true, false, false, false, false, false, false, false] rfl rfl rfl (by decide) rfl rfl rfl rfl (by kernel_rfl) (by kernel_rfl) (by kernel_rfl) ?_
     refine TA_off 6 #[true, true, true, true, true, true, true, false, false, false, false, false, false] rfl rfl rfl (by decide) rfl rfl rfl rfl (by kernel_rfl) (by kernel_rfl) (by kernel_rfl) ?_
     refine TA_off 7 #[true, true, true, true, true, true, true, true, false, false, false, false, false] rfl rfl rfl (by decide) rfl rfl rfl rfl (by kernel_rfl) (by kernel_rfl) (by kernel_rfl) ?_
     refine TA_off 8 #[true, true, true, true, true, true, true, true, true, false, false, false, false] rfl rfl rfl (by decide) rfl rfl rfl rfl (by kernel_rfl) (by kernel_rfl) (by kernel_rfl) ?_
     refine TA_off 9 #[true, true, true, true, true, true, true, true, true, true, false, false, false] rfl rfl rfl (by decide) rfl rfl rfl rfl (by kernel_rfl) (by kernel_rfl) (by kernel_rfl) ?_
     refine TA_off 10 #[true, true, true, true, true, true, true, true, true, true, true, false, false] rfl rfl rfl (by decide) rfl rfl rfl rfl (by kernel_rfl) (by kernel_rfl) (by kernel_rfl) ?_
     refine TA_off 11 #[true, true, true, true, true, true, true, true, true, true, true, true, false] rfl rfl rfl (by decide) rfl rfl rfl rfl (by kernel_rfl) (by kernel_rfl) (by kernel_rfl) ?_
     refine TA_allG [12] (by kernel_rfl) (by decide) ⟨⟨_, rfl, goN rfl, (TOp_pure (pur_pick (t := true) rfl rfl rfl) rfl ?_)⟩, trivial⟩
     refine TA_listed #[true, true, true, true, true, true, true, true, true, true, true, true, true] rfl ?_
     refine TA_nil (by kernel_rfl) ?_
     exact joined true (wp 3 (lb rfl) rfl rfl rfl rfl rfl) (some_inj H).symm
    refine TA_allG [0, 1] (by kernel_rfl) (by decide) ⟨?_, ?_, trivial⟩
    ·skip
     refine ⟨_, rfl, goN rfl, (TOp_pure (pur_ldK_b agg48 rfl rfl (lb rfl) rfl) rfl ?_)⟩
     refine TA_listed #[true, false, false, false, false, false, false, false, false, false, false, false, false] rfl ?_
     refine TA_allG [1] (by kernel_rfl) (by decide) ⟨⟨_, rfl, goN rfl, (TOp_pure (pur_ldK_b agg65 rfl rfl (lb rfl) rfl) rfl ?_)⟩, trivial⟩
     refine TA_listed #[true, true, false, false, false, false, false, false, false, false, false, false, false] rfl ?_
     exact tj hj0_1 rfl (wp 3 (lb rfl) rfl rfl rfl rfl rfl)
    ·skip
     refine ⟨_, rfl, goN rfl, (TOp_pure (pur_ldK_b agg65 rfl rfl (lb rfl) rfl) rfl ?_)⟩
     refine TA_listed #[false, true, false, false, false, false, false, false, false, false, false, false, false] rfl ?_
     refine TA_allG [0] (by kernel_rfl) (by decide) ⟨⟨_, rfl, goN rfl, (TOp_pure (pur_ldK_b agg48 rfl rfl (lb rfl) rfl) rfl ?_)⟩, trivial⟩
     refine TA_listed #[true, true, false, false, false, false, false, false, false, false, false, false, false] rfl ?_
     exact tj hj0_1 rfl (wp 3 (lb rfl) rfl rfl rfl rfl rfl)
   ·replace H := cond_f g_5 H
    obtain ⟨r_6, h_7, H⟩ := bind_inv H
    obtain ⟨r_8, h_9, H⟩ := bind_inv H
    refine T_regionP mixed ?_
    refine TA_have 4 #[true, true, true, true, true, true, true, true, true, false, false, false, false] [(2, (.b 0 0)), (3, (.b 1 0)), (4, (.b 2 0)), (12, (boolA false)), (13, (.g (tDatabase.enc d0))), (16, (intA r_6))] [.box [(sl tRelation d0.relations), (sl tFact d0.facts)], .box [(intA f1.relation), (sl tInt f1.values)], .box [.n, .n]] ?_ (fun hj0_1 => ?_)
    ·skip
     refine TA_allG [9] (by kernel_rfl) (by decide) ⟨⟨_, rfl, goG rfl rfl (by decide) rfl, (TOp_callV (call_static ent110 rfl) (m_spec_BlockOf_ok u _ _ _ h_9) rfl rfl rfl ?_)⟩, trivial⟩
     refine TA_listed #[true, true, true, true, true, true, true, true, true, true, false, false, false] rfl ?_
     refine TA_firstG 10 #[true, true, true, true, true, true, true, true, true, true, true, false, false] rfl (purI_lenT (T := tInt) sl23 rfl rfl) rfl rfl (by decide) rfl rfl rfl (by kernel_rfl) (by kernel_rfl) (by kernel_rfl) ?_
     refine TA_firstG 11 #[true, true, true, true, true, true, true, true, true, true, true, true, false] rfl (purI_lss rfl rfl rfl) rfl rfl (by decide) rfl rfl rfl (by kernel_rfl) (by kernel_rfl) (by kernel_rfl) ?_
     refine TA_allG [12] (by kernel_rfl) (by decide) ⟨⟨_, rfl, goN rfl, (TOp_pure (pur_pick (t := false) rfl rfl rfl) rfl ?_)⟩, trivial⟩
     refine TA_listed #[true, true, true, true, true, true, true, true, true, true, true, true, true] rfl ?_
     refine TA_nil (by kernel_rfl) ?_
     exact joined (decide ((r_8.length : Int) < 2)) (wp 3 (lb rfl) rfl rfl rfl rfl rfl) (some_inj H).symm
    refine TA_have 5 #[true, true, true, true, true, true, true, true, false, false, false, false, false] [(2, (.b 0 0)), (3, (.b 1 0)), (4, (.b 2 0)), (12, (boolA false)), (13, (.g (tDatabase.enc d0))), (14, (.g (tDatabase.enc d0))), (15, (.g (tFact.enc f1)))] [.box [(sl tRelation d0.relations), (sl tFact d0.facts)], .box [(intA f1.relation), (sl tInt f1.values)], .box [.n, .n]] ?_ (fun hj1_1 => ?_)
    ·skip
     refine TA_allG [8] (by kernel_rfl) (by decide) ⟨⟨_, rfl, goG rfl rfl (by decide) rfl, (TOp_callV (call_static ent111 rfl) (m_spec_FactIndex_ok u _ _ _ h_7) rfl rfl rfl ?_)⟩, trivial⟩
     refine TA_listed #[true, true, true, true, true, true, true, true, true, false, false, false, false] rfl ?_
     exact tj hj0_1 rfl (wp 3 (lb rfl) rfl rfl rfl rfl rfl)
    refine TA_have 6 #[true, true, true, true, true, false, true, true, false, false, false, false, false] [(2, (.b 0 0)), (3, (.b 1 0)), (4, (.b 2 0)), (12, (boolA false)), (14, (.g (tDatabase.enc d0))), (15, (.g (tFact.enc f1)))] [.box [(sl tRelation d0.relations), (sl tFact d0.facts)], .box [(intA f1.relation), (sl tInt f1.values)], .box [.n, .n]] ?_ (fun hj2_1 => ?_)
    ·skip
     refine TA_allG [5, 8] (by kernel_rfl) (by decide) ⟨?_, ?_, trivial⟩
     ·skip
      refine ⟨_, rfl, goG rfl rfl (by decide) rfl, (TOp_pure (pur_ldK_b agg48 rfl rfl (lb rfl) rfl) rfl ?_)⟩
      refine TA_listed #[true, true, true, true, true, true, true, true, false, false, false, false, false] rfl ?_
      exact tj hj1_1 rfl (wp 3 (lb rfl) rfl rfl rfl rfl rfl)
     ·skip
      refine ⟨_, rfl, goG rfl rfl (by decide) rfl, (TOp_callV (call_static ent111 rfl) (m_spec_FactIndex_ok u _ _ _ h_7) rfl rfl rfl ?_)⟩
      refine TA_listed #[true, true, true, true, true, false, true, true, true, false, false, false, false] rfl ?_
      refine TA_allG [5] (by kernel_rfl) (by decide) ⟨⟨_, rfl, goG rfl rfl (by decide) rfl, (TOp_pure (pur_ldK_b agg48 rfl rfl (lb rfl) rfl) rfl ?_)⟩, trivial⟩
      refine TA_listed #[true, true, true, true, true, true, true, true, true, false, false, false, false] rfl ?_
      exact tj hj0_1 rfl (wp 3 (lb rfl) rfl rfl rfl rfl rfl)
    refine TA_have 6 #[true, true, true, true, true, true, false, true, false, false, false, false, false] [(2, (.b 0 0)), (3, (.b 1 0)), (4, (.b 2 0)), (12, (boolA false)), (13, (.g (tDatabase.enc d0))), (15, (.g (tFact.enc f1)))] [.box [(sl tRelation d0.relations), (sl tFact d0.facts)], .box [(intA f1.relation), (sl tInt f1.values)], .box [.n, .n]] ?_ (fun hj3_1 => ?_)
    ·skip
     refine TA_allG [6] (by kernel_rfl) (by decide) ⟨⟨_, rfl, goG rfl rfl (by decide) rfl, (TOp_pure (pur_ldK_b agg48 rfl rfl (lb rfl) rfl) rfl ?_)⟩, trivial⟩
     refine TA_listed #[true, true, true, true, true, true, true, true, false, false, false, false, false] rfl ?_
     exact tj hj1_1 rfl (wp 3 (lb rfl) rfl rfl rfl rfl rfl)
    refine TA_have 6 #[true, true, true, true, true, true, true, false, false, false, false, false, false] [(2, (.b 0 0)), (3, (.b 1 0)), (4, (.b 2 0)), (12, (boolA false)), (13, (.g (tDatabase.enc d0))), (14, (.g (tDatabase.enc d0)))] [.box [(sl tRelation d0.relations), (sl tFact d0.facts)], .box [(intA f1.relation), (sl tInt f1.values)], .box [.n, .n]] ?_ (fun hj4_1 => ?_)
    ·skip
     refine TA_allG [7] (by kernel_rfl) (by decide) ⟨⟨_, rfl, goG rfl rfl (by decide) rfl, (TOp_pure (pur_ldK_b agg65 rfl rfl (lb rfl) rfl) rfl ?_)⟩, trivial⟩
     refine TA_listed #[true, true, true, true, true, true, true, true, false, false, false, false, false] rfl ?_
     exact tj hj1_1 rfl (wp 3 (lb rfl) rfl rfl rfl rfl rfl)
    refine TA_have 11 #[true, true, false, false, false, false, false, false, false, false, false, false, false] [(2, (.b 0 0)), (3, (.b 1 0)), (4, (.b 2 0)), (8, (.g (tDatabase.enc d0))), (9, (.g (tFact.enc f1)))] [.box [(sl tRelation d0.relations), (sl tFact d0.facts)], .box [(intA f1.relation), (sl tInt f1.values)], .box [.n, .n]] ?_ (fun hj5_1 => ?_)
    ·skip
     refine TA_allG [2] (by kernel_rfl) (by decide) ⟨⟨_, rfl, goN rfl, (TOp_callV (call_static ent109 rfl) (m_spec_ContainsFact_ok u _ _ _ h_4) rfl rfl rfl ?_)⟩, trivial⟩
     refine TA_listed #[true, true, true, false, false, false, false, false, false, false, false, false, false] rfl ?_
     refine tf 3 rfl (purI_not rfl rfl) rfl rfl (by kernel_rfl) ?_
     refine tf 4 rfl (purI_move rfl) rfl rfl (by kernel_rfl) ?_
     refine TA_bool 12 g_5 rfl ?_
     refine TA_allG [5, 6, 7] (by kernel_rfl) (by decide) ⟨?_, ?_, ?_, trivial⟩
     ·skip
      refine ⟨_, rfl, goG rfl rfl (by decide) rfl, (TOp_pure (pur_ldK_b agg48 rfl rfl (lb rfl) rfl) rfl ?_)⟩
      refine TA_listed #[true, true, true, true, true, true, false, false, false, false, false, false, false] rfl ?_
      refine TA_allG [6, 7] (by kernel_rfl) (by decide) ⟨?_, ?_, trivial⟩
      ·skip
       refine ⟨_, rfl, goG rfl rfl (by decide) rfl, (TOp_pure (pur_ldK_b agg48 rfl rfl (lb rfl) rfl) rfl ?_)⟩
       refine TA_listed #[true, true, true, true, true, true, true, false, false, false, false, false, false] rfl ?_
       exact tj hj4_1 rfl (wp 3 (lb rfl) rfl rfl rfl rfl rfl)
      ·skip
       refine ⟨_, rfl, goG rfl rfl (by decide) rfl, (TOp_pure (pur_ldK_b agg65 rfl rfl (lb rfl) rfl) rfl ?_)⟩
       refine TA_listed #[true, true, true, true, true, true, false, true, false, false, false, false, false] rfl ?_
       exact tj hj3_1 rfl (wp 3 (lb rfl) rfl rfl rfl rfl rfl)
     ·skip
      refine ⟨_, rfl, goG rfl rfl (by decide) rfl, (TOp_pure (pur_ldK_b agg48 rfl rfl (lb rfl) rfl) rfl ?_)⟩
      refine TA_listed #[true, true, true, true, true, false, true, false, false, false, false, false, false] rfl ?_
      refine TA_allG [5, 7] (by kernel_rfl) (by decide) ⟨?_, ?_, trivial⟩
      ·skip
       refine ⟨_, rfl, goG rfl rfl (by decide) rfl, (TOp_pure (pur_ldK_b agg48 rfl rfl (lb rfl) rfl) rfl ?_)⟩
       refine TA_listed #[true, true, true, true, true, true, true, false, false, false, false, false, false] rfl ?_
       exact tj hj4_1 rfl (wp 3 (lb rfl) rfl rfl rfl rfl rfl)
      ·skip
       refine ⟨_, rfl, goG rfl rfl (by decide) rfl, (TOp_pure (pur_ldK_b agg65 rfl rfl (lb rfl) rfl) rfl ?_)⟩
       refine TA_listed #[true, true, true, true, true, false, true, true, false, false, false, false, false] rfl ?_
       exact tj hj2_1 rfl (wp 3 (lb rfl) rfl rfl rfl rfl rfl)
     ·skip
      refine ⟨_, rfl, goG rfl rfl (by decide) rfl, (TOp_pure (pur_ldK_b agg65 rfl rfl (lb rfl) rfl) rfl ?_)⟩
      refine TA_listed #[true, true, true, true, true, false, false, true, false, false, false, false, false] rfl ?_
      refine TA_allG [5, 6] (by kernel_rfl) (by decide) ⟨?_, ?_, trivial⟩
      ·skip
       refine ⟨_, rfl, goG rfl rfl (by decide) rfl, (TOp_pure (pur_ldK_b agg48 rfl rfl (lb rfl) rfl) rfl ?_)⟩
       refine TA_listed #[true, true, true, true, true, true, false, true, false, false, false, false, false] rfl ?_
       exact tj hj3_1 rfl (wp 3 (lb rfl) rfl rfl rfl rfl rfl)
      ·skip
       refine ⟨_, rfl, goG rfl rfl (by decide) rfl, (TOp_pure (pur_ldK_b agg48 rfl rfl (lb rfl) rfl) rfl ?_)⟩
       refine TA_listed #[true, true, true, true, true, false, true, true, false, false, false, false, false] rfl ?_
       exact tj hj2_1 rfl (wp 3 (lb rfl) rfl rfl rfl rfl rfl)
    refine TA_allG [0, 1] (by kernel_rfl) (by decide) ⟨?_, ?_, trivial⟩
    ·skip
     refine ⟨_, rfl, goN rfl, (TOp_pure (pur_ldK_b agg48 rfl rfl (lb rfl) rfl) rfl ?_)⟩
     refine TA_listed #[true, false, false, false, false, false, false, false, false, false, false, false, false] rfl ?_
     refine TA_allG [1] (by kernel_rfl) (by decide) ⟨⟨_, rfl, goN rfl, (TOp_pure (pur_ldK_b agg65 rfl rfl (lb rfl) rfl) rfl ?_)⟩, trivial⟩
     refine TA_listed #[true, true, false, false, false, false, false, false, false, false, false, false, false] rfl ?_
     exact tj hj5_1 rfl (wp 3 (lb rfl) rfl rfl rfl rfl rfl)
    ·skip
     refine ⟨_, rfl, goN rfl, (TOp_pure (pur_ldK_b agg65 rfl rfl (lb rfl) rfl) rfl ?_)⟩
     refine TA_listed #[false, true, false, false, false, false, false, false, false, false, false, false, false] rfl ?_
     refine TA_allG [0] (by kernel_rfl) (by decide) ⟨⟨_, rfl, goN rfl, (TOp_pure (pur_ldK_b agg48 rfl rfl (lb rfl) rfl) rfl ?_)⟩, trivial⟩
     refine TA_listed #[true, true, false, false, false, false, false, false, false, false, false, false, false] rfl ?_
     exact tj hj5_1 rfl (wp 3 (lb rfl) rfl rfl rfl rfl rfl)
  ·rintro _ rfl
   replace H := H_2
   refine te [(2, (.b 0 0)), (3, (.b 1 0)), (4, (.b 2 0)), (20, (boolA t20_1))] rfl ?_
   refine T_cond (t := t20_1) rfl (fun c_10 => ?_) (fun c_10 => ?_)
   ·replace H := cond_t c_10 H
    refine sr ?_
    refine Tp rfl rfl (pur_ldK_b agg48 rfl rfl (lb rfl) rfl) rfl ?_
    obtain ⟨r_11, h_12, H⟩ := bind_inv H
    refine TO_cons rfl (TOp_callO (call_static ent112 rfl) rfl (m_spec_l4Copy_own u _ _ h_12) rfl rfl rfl ?_)
    refine toe [(2, (.b 0 0)), (3, (.b 1 0)), (4, (.b 2 0)), (20, (boolA t20_1)), (21, (.g (tDatabase.enc d0))), (22, (.g [(.m [3] 0 r_11.relations.length tRelation.k), (.m [4] 0 r_11.facts.length tFact.k)]))] rfl ?_
    refine TO_st (σ' := [.box [(sl tRelation d0.relations), (sl tFact d0.facts)], .box [(intA f1.relation), (sl tInt f1.values)], .box [.n, .n], .row (flat tRelation.enc r_11.relations), .row (flat tFact.enc r_11.facts)]) rfl ?_
    refine TO_cons rfl (TOp_storeB sz48 rfl rfl rfl rfl rfl rfl rfl (by decide) (lb rfl) rfl ?_)
    refine TO_st (σ' := [.box [(sl tRelation d0.relations), (sl tFact d0.facts)], .box [(intA f1.relation), (sl tInt f1.values)], .box [(.m [3] 0 r_11.relations.length tRelation.k), (.m [4] 0 r_11.facts.length tFact.k)], .row (flat tRelation.enc r_11.relations), .row (flat tFact.enc r_11.facts)]) rfl ?_
    refine Tp rfl rfl (pur_assign rfl) rfl ?_
    refine TO_nil ?_
    refine te [(4, (.b 2 0)), (5, (boolA false))] rfl ?_
    refine T_ret ?_
    refine then_ret ?_
    obtain rfl := some_inj H
    exact end_pick (.cellK rfl agg48 rfl (lb rfl) (.tmp .nil)) rfl [3, 4] (by decide) rfl rfl rfl rfl rfl rfl
   ·replace H := cond_f c_10 H
    refine T_skip ?_
    refine te [(2, (.b 0 0)), (3, (.b 1 0)), (4, (.b 2 0))] rfl ?_
    refine sr ?_
    refine Tp rfl rfl (pur_ldK_b agg48 rfl rfl (lb rfl) rfl) rfl ?_
    refine Tp rfl rfl (pur_ldK_b agg65 rfl rfl (lb rfl) rfl) rfl ?_
    obtain ⟨r_13, h_14, H⟩ := bind_inv H
    refine TO_cons rfl (TOp_callO (call_static ent113 rfl) rfl (m_spec_DeleteFact_own u _ _ _ h_14) rfl rfl rfl ?_)
    refine toe [(2, (.b 0 0)), (3, (.b 1 0)), (4, (.b 2 0)), (24, (.g (tDatabase.enc d0))), (25, (.g (tFact.enc f1))), (26, (.t [(.g [(.m [3] 0 r_13.1.relations.length tRelation.k), (.m [4] 0 r_13.1.facts.length tFact.k)]), (boolA r_13.2)]))] rfl ?_
    refine TO_st (σ' := [.box [(sl tRelation d0.relations), (sl tFact d0.facts)], .box [(intA f1.relation), (sl tInt f1.values)], .box [.n, .n], .row (flat tRelation.enc r_13.1.relations), .row (flat tFact.enc r_13.1.facts)]) rfl ?_
    refine Tp rfl rfl (pur_move rfl) rfl ?_
    refine Tp rfl rfl (pur_extract rfl rfl rfl) rfl ?_
    refine Tp rfl rfl (pur_extract rfl rfl rfl) rfl ?_
    refine TO_cons rfl (TOp_alloc zero48 rfl rfl ?_)
    refine TO_cons rfl (TOp_storeB sz48 rfl rfl rfl rfl rfl rfl rfl (by decide) (lb rfl) rfl ?_)
    refine TO_st (σ' := [.box [(sl tRelation d0.relations), (sl tFact d0.facts)], .box [(intA f1.relation), (sl tInt f1.values)], .box [.n, .n], .row (flat tRelation.enc r_13.1.relations), .row (flat tFact.enc r_13.1.facts), .box [(.m [3] 0 r_13.1.relations.length tRelation.k), (.m [4] 0 r_13.1.facts.length tFact.k)]]) rfl ?_
    refine Tp rfl rfl (pur_assign rfl) rfl ?_
    refine TO_nil ?_
    refine te [(4, (.b 2 0)), (6, (.b 5 0)), (7, (boolA r_13.2))] rfl ?_
    refine sr ?_
    refine Tp rfl rfl (pur_ldK_b agg48 rfl rfl (lb rfl) rfl) rfl ?_
    refine Tp rfl rfl (pur_move rfl) rfl ?_
    refine TO_cons rfl (TOp_storeB sz48 rfl rfl rfl rfl rfl rfl rfl (by decide) (lb rfl) rfl ?_)
    refine TO_st (σ' := [.box [(sl tRelation d0.relations), (sl tFact d0.facts)], .box [(intA f1.relation), (sl tInt f1.values)], .box [(.m [3] 0 r_13.1.relations.length tRelation.k), (.m [4] 0 r_13.1.facts.length tFact.k)], .row (flat tRelation.enc r_13.1.relations), .row (flat tFact.enc r_13.1.facts), .box [(.m [3] 0 r_13.1.relations.length tRelation.k), (.m [4] 0 r_13.1.facts.length tFact.k)]]) rfl ?_
    refine Tp rfl rfl (pur_assign rfl) rfl ?_
    refine TO_nil ?_
    refine te [(4, (.b 2 0)), (5, (boolA r_13.2))] rfl ?_
    refine T_ret ?_
    obtain rfl := some_inj H
    exact end_pick (.cellK rfl agg48 rfl (lb rfl) (.tmp .nil)) rfl [3, 4] (by decide) rfl rfl rfl rfl rfl rfl
theorem m_spec_RetractFact_ok (u : Nat) (d0 : Database) (f1 : Fact) (r : (Database × Bool)) (H : m_spec_RetractFact u d0 f1 = some r) : FnV prg 40 [(.g (tDatabase.enc d0)), (.g (tFact.enc f1))] (.t [(.g (tDatabase.enc r.1)), (boolA r.2)]) := (m_spec_RetractFact_own u d0 f1 r H).frz (frzOK_t (frz_cons (frzOK_g (frz_cons (frzTE (T := tRelation) rfl) (frz_cons (frzTE (T := tFact) rfl) frz_nil)).1 (frz_cons (frzTE (T := tRelation) rfl) (frz_cons (frzTE (T := tFact) rfl) frz_nil)).2) (frz_cons (frz_loose rfl) frz_nil)).1 (frz_cons (frzOK_g (frz_cons (frzTE (T := tRelation) rfl) (frz_cons (frzTE (T := tFact) rfl) frz_nil)).1 (frz_cons (frzTE (T := tRelation) rfl) (frz_cons (frzTE (T := tFact) rfl) frz_nil)).2) (frz_cons (frz_loose rfl) frz_nil)).2)

set_option maxHeartbeats 1000000 in
/-- spec.EqualDatabases -/
theorem m_spec_EqualDatabases_ok (u : Nat) (a0 : Database) (b1 : Database) (r : Bool) (H : m_spec_EqualDatabases u a0 b1 = some r) : FnV prg 41 [(.g (tDatabase.enc a0)), (.g (tDatabase.enc b1))] (boolA r) := by
  unfold m_spec_EqualDatabases at H
  refine fnV_of_T Try.func41 rfl rfl (Nat.le_of_ble_eq_true rfl) ?_
  refine te [(0, (.g (tDatabase.enc a0))), (1, (.g (tDatabase.enc b1)))] rfl ?_
  refine sr ?_
  refine TO_cons rfl (TOp_box rfl (boxAll rfl) rfl rfl ?_)
  refine TO_cons rfl (TOp_box rfl (boxAll rfl) rfl rfl ?_)
  refine Tp rfl rfl (pur_assign rfl) rfl ?_
  refine TO_nil ?_
  refine te [(2, (.b 0 0)), (3, (.b 1 0))] rfl ?_
  refine T_seq ?_
  refine T_cutX (fun x => ((decide ((a0.relations.length : Int) ≠ (b1.relations.length : Int))) || (decide ((a0.facts.length : Int) ≠ (b1.facts.length : Int)))) = x) (fun (t22_1 : Bool) => [(2, (.b 0 0)), (3, (.b 1 0)), (22, (boolA t22_1))]) (fun (t22_1 : Bool) => [.box [(sl tRelation a0.relations), (sl tFact a0.facts)], .box [(sl tRelation b1.relations), (sl tFact b1.facts)]]) ?_ ?_
  ·skip
   refine T_region ?_
   refine Tp rfl rfl (pur_fa_b fld48_0 rfl rfl) rfl ?_
   refine Tp rfl rfl (pur_ld_b one45 rfl rfl rfl rfl) rfl ?_
   refine Tp rfl rfl (pur_lenT (T := tRelation) sl45 rfl rfl) rfl ?_
   refine Tp rfl rfl (pur_fa_b fld48_0 rfl rfl) rfl ?_
   refine Tp rfl rfl (pur_ld_b one45 rfl rfl rfl rfl) rfl ?_
   refine Tp rfl rfl (pur_lenT (T := tRelation) sl45 rfl rfl) rfl ?_
   refine Tp rfl rfl (pur_neq rfl rfl rfl) rfl ?_
   refine Tp rfl rfl (pur_move rfl) rfl ?_
   refine toe [(2, (.b 0 0)), (3, (.b 1 0)), (14, (boolA (decide ((a0.relations.length : Int) ≠ (b1.relations.length : Int)))))] rfl ?_
   refine TO_split (t := decide ((a0.relations.length : Int) ≠ (b1.relations.length : Int))) 14 rfl (fun g_3 => ?_) (fun g_3 => ?_)
   ·skip
    refine TO_off rfl rfl (by decide) rfl rfl rfl ?_
    refine TO_off rfl rfl (by decide) rfl rfl rfl ?_
    refine TO_off rfl rfl (by decide) rfl rfl rfl ?_
    refine TO_off rfl rfl (by decide) rfl rfl rfl ?_
    refine TO_off rfl rfl (by decide) rfl rfl rfl ?_
    refine TO_off rfl rfl (by decide) rfl rfl rfl ?_
    refine TO_off rfl rfl (by decide) rfl rfl rfl ?_
    refine Tp rfl rfl (pur_pick (t := true) rfl rfl rfl) rfl ?_
    refine TO_nil ?_
    exact joined true (wp 2 (lb rfl) rfl rfl rfl rfl rfl) (by first | exact Eq.symm ((or_T g_3 rfl)))
   ·skip
    refine TO_on rfl rfl (by decide) rfl rfl (TOp_pure (pur_fa_b fld48_1 rfl rfl) rfl ?_)
    refine TO_on rfl rfl (by decide) rfl rfl (TOp_pure (pur_ld_b one46 rfl rfl rfl rfl) rfl ?_)
    refine TO_on rfl rfl (by decide) rfl rfl (TOp_pure (pur_lenT (T := tFact) sl46 rfl rfl) rfl ?_)
    refine TO_on rfl rfl (by decide) rfl rfl (TOp_pure (pur_fa_b fld48_1 rfl rfl) rfl ?_)
    refine TO_on rfl rfl (by decide) rfl rfl (TOp_pure (pur_ld_b one46 rfl rfl rfl rfl) rfl ?_)
    refine TO_on rfl rfl (by decide) rfl rfl (TOp_pure (pur_lenT (T := tFact) sl46 rfl rfl) rfl ?_)
    refine TO_on rfl rfl (by decide) rfl rfl (TOp_pure (pur_neq rfl rfl rfl) rfl ?_)
    refine Tp rfl rfl (pur_pick (t := false) rfl rfl rfl) rfl ?_
    refine TO_nil ?_
    exact joined (decide ((a0.facts.length : Int) ≠ (b1.facts.length : Int))) (wp 2 (lb rfl) rfl rfl rfl rfl rfl) (by first | exact Eq.symm ((or_F g_3 rfl)))
  ·rintro _ rfl
   refine te [(2, (.b 0 0)), (3, (.b 1 0)), (22, (boolA ((decide ((a0.relations.length : Int) ≠ (b1.relations.length : Int))) || (decide ((a0.facts.length : Int) ≠ (b1.facts.length : Int))))))] rfl ?_
   refine T_cond (t := ((decide ((a0.relations.length : Int) ≠ (b1.relations.length : Int))) || (decide ((a0.facts.length : Int) ≠ (b1.facts.length : Int))))) rfl (fun c_4 => ?_) (fun c_4 => ?_)
   ·replace H := cond_t c_4 H
    refine sr ?_
    refine Tp rfl rfl (pur_assign rfl) rfl ?_
    refine TO_nil ?_
    refine te [(4, (boolA false))] rfl ?_
    refine T_ret ?_
    refine then_ret ?_
    obtain rfl := some_inj H
    refine end_ret (.tmp .nil) rfl rfl ⟨?_, rfl⟩
    rfl
   ·replace H := cond_f c_4 H
    refine T_skip ?_
    refine te [(2, (.b 0 0)), (3, (.b 1 0))] rfl ?_
    refine T_seq ?_
    refine sr ?_
    refine Tp rfl rfl (pur_assign rfl) rfl ?_
    refine TO_nil ?_
    refine te [(2, (.b 0 0)), (3, (.b 1 0)), (5, (intA 0))] rfl ?_
    obtain ⟨O5_, L5_, N5_⟩ := bind_inv H
    clear H
    obtain ⟨B5_, hb5, L5_⟩ := gen_whileF L5_
    refine T_block ?_
    refine T_loopX (fun k => fun (i5 : Int) => whileF B5_ k i5 = some O5_) (fun (i5 : Int) => [(2, (.b 0 0)), (3, (.b 1 0)), (5, (intA i5))]) (fun (i5 : Int) => [.box [(sl tRelation a0.relations), (sl tFact a0.facts)], .box [(sl tRelation b1.relations), (sl tFact b1.facts)]]) u 0 (wp 2 (lb rfl) rfl rfl rfl rfl rfl) L5_ ?_
    rintro _ i5 L5_
    obtain ⟨k5, rfl, C5_, H, K5_⟩ := while_step L5_
    rw [hb5] at H
    refine te [(2, (.b 0 0)), (3, (.b 1 0)), (5, (intA i5))] rfl ?_
    refine T_st (σ' := [.box [(sl tRelation a0.relations), (sl tFact a0.facts)], .box [(sl tRelation b1.relations), (sl tFact b1.facts)]]) rfl ?_
    refine T_seq ?_
    refine sr ?_
    refine Tp rfl rfl (pur_move rfl) rfl ?_
    refine Tp rfl rfl (pur_fa_b fld48_0 rfl rfl) rfl ?_
    refine Tp rfl rfl (pur_ld_b one45 rfl rfl rfl rfl) rfl ?_
    refine Tp rfl rfl (pur_lenT (T := tRelation) sl45 rfl rfl) rfl ?_
    refine Tp rfl rfl (pur_lss rfl rfl rfl) rfl ?_
    refine TO_nil ?_
    refine te [(2, (.b 0 0)), (3, (.b 1 0)), (5, (intA i5)), (27, (boolA (decide (i5 < (a0.relations.length : Int)))))] rfl ?_
    refine T_cond (t := decide (i5 < (a0.relations.length : Int))) rfl (fun c_6 => ?_) (fun c_6 => ?_)
    ·replace H := cond_t c_6 H
     refine T_skip ?_
     refine te [(2, (.b 0 0)), (3, (.b 1 0)), (5, (intA i5))] rfl ?_
     refine T_seq ?_
     refine T_block ?_
     refine T_seq ?_
     refine T_regionD mixed (by kernel_rfl) ?_
     refine TQ_pure rfl (pur_fa_b fld48_0 rfl rfl) rfl ?_
     refine TQ_pure rfl (pur_ld_b one45 rfl rfl rfl rfl) rfl ?_
     refine TQ_pure rfl (pur_move rfl) rfl ?_
     obtain ⟨v_7, h_8, H⟩ := bind_inv H
     obtain ⟨n_9, hz_10, hv_11⟩ := getI_inv h_8
     refine TQ_pure rfl (pur_ixT (T := tRelation) sl45 rfl rfl hz_10 hv_11 rfl) rfl ?_
     refine TQ_pure rfl (pur_ldTK (T := tRelation) (i := n_9) (off := 0) rfl agg130 rfl rfl hv_11 (by decide) rfl) rfl ?_
     refine TQ_pure rfl (pur_fa_b fld48_0 rfl rfl) rfl ?_
     refine TQ_pure rfl (pur_ld_b one45 rfl rfl rfl rfl) rfl ?_
     refine TQ_pure rfl (pur_move rfl) rfl ?_
     refine tqe [(2, (.b 0 0)), (3, (.b 1 0)), (5, (intA i5)), (34, (.g (tRelation.enc v_7))), (36, (sl tRelation b1.relations)), (37, (intA i5))] rfl ?_
     obtain ⟨v_12, h_13, H⟩ := bind_inv H
     obtain ⟨n_14, hz_15, hv_16⟩ := getI_inv h_13
     refine TQ_pure rfl (pur_ixT (T := tRelation) sl45 rfl rfl hz_15 hv_16 rfl) rfl ?_
     refine TQ_pure rfl (pur_ldTK (T := tRelation) (i := n_14) (off := 0) rfl agg130 rfl rfl hv_16 (by decide) rfl) rfl ?_
     refine TQ_pure rfl (pur_neqT [.s v_7.name v_12.name, .i v_7.arity v_12.arity, .i v_7.keyLength v_12.keyLength] eqs130 rfl rfl rfl rfl) rfl ?_
     refine TQ_nil ?_
     refine te [(2, (.b 0 0)), (3, (.b 1 0)), (5, (intA i5)), (40, (boolA (!(cmpSc [.s v_7.name v_12.name, .i v_7.arity v_12.arity, .i v_7.keyLength v_12.keyLength]))))] rfl ?_
     refine T_cond (t := (!(cmpSc [.s v_7.name v_12.name, .i v_7.arity v_12.arity, .i v_7.keyLength v_12.keyLength]))) rfl (fun c_17 => ?_) (fun c_17 => ?_)
     ·replace H := cond_t c_17 H
      refine sr ?_
      refine Tp rfl rfl (pur_assign rfl) rfl ?_
      refine TO_nil ?_
      refine te [(4, (boolA false))] rfl ?_
      refine T_ret ?_
      refine block_ret ?_
      refine then_ret ?_
      refine then_ret ?_
      refine block_ret ?_
      refine then_ret ?_
      obtain rfl := some_inj H
      obtain rfl := some_inj K5_
      replace H := onS_r N5_
      obtain rfl := some_inj H
      refine end_ret (.tmp .nil) rfl rfl ⟨?_, rfl⟩
      rfl
     ·replace H := cond_f c_17 H
      refine T_skip ?_
      refine te [(2, (.b 0 0)), (3, (.b 1 0)), (5, (intA i5))] rfl ?_
      refine T_region ?_
      refine Tp rfl rfl (pur_move rfl) rfl ?_
      refine Tp rfl rfl (pur_wadd rfl rfl rfl) rfl ?_
      refine Tp rfl rfl (pur_assign rfl) rfl ?_
      refine TO_nil ?_
      obtain rfl := some_inj H
      exact again k5 (w64 (i5 + 1)) (Nat.lt_succ_self _) (wp 2 (lb rfl) rfl rfl rfl rfl rfl) K5_
    ·replace H := cond_f c_6 H
     refine T_exit ?_
     refine then_exit ?_
     refine then_exit ?_
     refine block_exit ?_
     obtain rfl := some_inj H
     obtain rfl := some_inj K5_
     replace H := onS_l N5_
     refine te [(2, (.b 0 0)), (3, (.b 1 0))] rfl ?_
     refine T_seq ?_
     refine sr ?_
     refine Tp rfl rfl (pur_assign rfl) rfl ?_
     refine TO_nil ?_
     refine te [(2, (.b 0 0)), (3, (.b 1 0)), (6, (intA 0))] rfl ?_
     obtain ⟨O18_, L18_, N18_⟩ := bind_inv H
     clear H
     obtain ⟨B18_, hb18, L18_⟩ := gen_whileF L18_
     refine T_block ?_
     refine T_loopX (fun k => fun (i6 : Int) => whileF B18_ k i6 = some O18_) (fun (i6 : Int) => [(2, (.b 0 0)), (3, (.b 1 0)), (6, (intA i6))]) (fun (i6 : Int) => [.box [(sl tRelation a0.relations), (sl tFact a0.facts)], .box [(sl tRelation b1.relations), (sl tFact b1.facts)]]) u 0 (wp 2 (lb rfl) rfl rfl rfl rfl rfl) L18_ ?_
     rintro _ i6 L18_
     obtain ⟨k18, rfl, C18_, H, K18_⟩ := while_step L18_
     rw [hb18] at H
     refine te [(2, (.b 0 0)), (3, (.b 1 0)), (6, (intA i6))] rfl ?_
     refine T_st (σ' := [.box [(sl tRelation a0.relations), (sl tFact a0.facts)], .box [(sl tRelation b1.relations), (sl tFact b1.facts)]]) rfl ?_
     refine T_seq ?_
     refine sr ?_
     refine Tp rfl rfl (pur_move rfl) rfl ?_
     refine Tp rfl rfl (pur_fa_b fld48_1 rfl rfl) rfl ?_
     refine Tp rfl rfl (pur_ld_b one46 rfl rfl rfl rfl) rfl ?_
     refine Tp rfl rfl (pur_lenT (T := tFact) sl46 rfl rfl) rfl ?_
     refine Tp rfl rfl (pur_lss rfl rfl rfl) rfl ?_
     refine TO_nil ?_
     refine te [(2, (.b 0 0)), (3, (.b 1 0)), (6, (intA i6)), (45, (boolA (decide (i6 < (a0.facts.length : Int)))))] rfl ?_
     refine T_cond (t := decide (i6 < (a0.facts.length : Int))) rfl (fun c_19 => ?_) (fun c_19 => ?_)
     ·replace H := cond_t c_19 H
      refine T_skip ?_
      refine te [(2, (.b 0 0)), (3, (.b 1 0)), (6, (intA i6))] rfl ?_
      refine T_seq ?_
      refine T_block ?_
      refine T_seq ?_
      refine T_regionD mixed (by kernel_rfl) ?_
      refine TQ_pure rfl (pur_fa_b fld48_1 rfl rfl) rfl ?_
      refine TQ_pure rfl (pur_ld_b one46 rfl rfl rfl rfl) rfl ?_
      refine TQ_pure rfl (pur_move rfl) rfl ?_
      obtain ⟨v_20, h_21, H⟩ := bind_inv H
      obtain ⟨n_22, hz_23, hv_24⟩ := getI_inv h_21
      refine TQ_pure rfl (pur_ixT (T := tFact) sl46 rfl rfl hz_23 hv_24 rfl) rfl ?_
      refine TQ_pure rfl (pur_ldTK (T := tFact) (i := n_22) (off := 0) rfl agg65 rfl rfl hv_24 (by decide) rfl) rfl ?_
      refine TQ_pure rfl (pur_fa_b fld48_1 rfl rfl) rfl ?_
      refine TQ_pure rfl (pur_ld_b one46 rfl rfl rfl rfl) rfl ?_
      refine TQ_pure rfl (pur_move rfl) rfl ?_
      refine tqe [(2, (.b 0 0)), (3, (.b 1 0)), (6, (intA i6)), (52, (.g (tFact.enc v_20))), (54, (sl tFact b1.facts)), (55, (intA i6))] rfl ?_
      obtain ⟨v_25, h_26, H⟩ := bind_inv H
      obtain ⟨n_27, hz_28, hv_29⟩ := getI_inv h_26
      refine TQ_pure rfl (pur_ixT (T := tFact) sl46 rfl rfl hz_28 hv_29 rfl) rfl ?_
      refine TQ_pure rfl (pur_ldTK (T := tFact) (i := n_27) (off := 0) rfl agg65 rfl rfl hv_29 (by decide) rfl) rfl ?_
      obtain ⟨r_30, h_31, H⟩ := bind_inv H
      refine TQ_callV rfl (call_static ent114 rfl) (m_spec_CompareFacts_ok u _ _ _ h_31) rfl rfl ?_
      refine TQ_pure rfl (pur_neq rfl rfl rfl) rfl ?_
      refine TQ_nil ?_
      refine te [(2, (.b 0 0)), (3, (.b 1 0)), (6, (intA i6)), (59, (boolA (decide (r_30 ≠ 0))))] rfl ?_
      refine T_cond (t := decide (r_30 ≠ 0)) rfl (fun c_32 => ?_) (fun c_32 => ?_)
      ·replace H := cond_t c_32 H
       refine sr ?_
       refine Tp rfl rfl (pur_assign rfl) rfl ?_
       refine TO_nil ?_
       refine te [(4, (boolA false))] rfl ?_
       refine T_ret ?_
       refine block_ret ?_
       refine then_ret ?_
       refine then_ret ?_
       refine block_ret ?_
       refine then_ret ?_
       obtain rfl := some_inj H
       obtain rfl := some_inj K18_
       replace H := onS_r N18_
       obtain rfl := some_inj H
       refine end_ret (.tmp .nil) rfl rfl ⟨?_, rfl⟩
       rfl
      ·replace H := cond_f c_32 H
       refine T_skip ?_
       refine te [(2, (.b 0 0)), (3, (.b 1 0)), (6, (intA i6))] rfl ?_
       refine T_region ?_
       refine Tp rfl rfl (pur_move rfl) rfl ?_
       refine Tp rfl rfl (pur_wadd rfl rfl rfl) rfl ?_
       refine Tp rfl rfl (pur_assign rfl) rfl ?_
       refine TO_nil ?_
       obtain rfl := some_inj H
       exact again k18 (w64 (i6 + 1)) (Nat.lt_succ_self _) (wp 2 (lb rfl) rfl rfl rfl rfl rfl) K18_
     ·replace H := cond_f c_19 H
      refine T_exit ?_
      refine then_exit ?_
      refine then_exit ?_
      refine block_exit ?_
      obtain rfl := some_inj H
      obtain rfl := some_inj K18_
      replace H := onS_l N18_
      refine te [] rfl ?_
      refine sr ?_
      refine Tp rfl rfl (pur_assign rfl) rfl ?_
      refine TO_nil ?_
      refine te [(4, (boolA true))] rfl ?_
      refine T_ret ?_
      obtain rfl := some_inj H
      refine end_ret (.tmp .nil) rfl rfl ⟨?_, rfl⟩
      rfl

set_option maxHeartbeats 1000000 in
/-- spec.DrawLargestConflicts -/
theorem m_spec_DrawLargestConflicts_ok (u : Nat) (code0 : (List Int)) (r : Database) (H : m_spec_DrawLargestConflicts u code0 = some r) : FnV prg 42 [(sl (tI .u8) code0)] (.g (tDatabase.enc r)) := by
  unfold m_spec_DrawLargestConflicts at H
  refine fnV_of_T Try.func42 rfl rfl (Nat.le_of_ble_eq_true rfl) ?_
  refine te [(0, (sl (tI .u8) code0))] rfl ?_
  refine sr ?_
  refine TO_cons rfl (TOp_alloc zero48 rfl rfl ?_)
  refine TO_nil ?_
  refine te [(0, (sl (tI .u8) code0)), (2, (.b 0 0))] rfl ?_
  refine sr ?_
  refine Tp rfl rfl (pur_move rfl) rfl ?_
  obtain ⟨r_1, h_2, H⟩ := bind_inv H
  refine TO_cons rfl (TOp_callS [] (call_static ent116 rfl) (by decide) rfl rfl rfl rfl rfl rfl (m_spec_l1New_x u _ _ h_2) rfl rfl ?_)
  refine toe [(0, (sl (tI .u8) code0)), (2, (.b 0 0)), (3, (sl (tI .u8) code0)), (4, (.b 1 0))] rfl ?_
  refine TO_st (σ' := [.box [.n, .n], .box [(sl (tI .u8) r_1.b), (intA r_1.i), (intA r_1.h)]]) rfl ?_
  obtain ⟨r_3, h_4, H⟩ := bind_inv H
  refine TO_cons rfl (TOp_callS [1] (call_static ent115 rfl) (by decide) rfl rfl rfl rfl rfl rfl (m_spec_l4Any_x u _ _ h_4) rfl rfl ?_)
  refine toe [(0, (sl (tI .u8) code0)), (2, (.b 0 0)), (3, (sl (tI .u8) code0)), (4, (.b 1 0)), (5, (.g (tDatabase.enc r_3.1)))] rfl ?_
  refine TO_st (σ' := [.box [.n, .n], .box [(sl (tI .u8) r_3.2.b), (intA r_3.2.i), (intA r_3.2.h)]]) rfl ?_
  refine TO_cons rfl (TOp_storeB sz48 rfl rfl rfl rfl rfl rfl rfl (by decide) (lb rfl) rfl ?_)
  refine TO_st (σ' := [.box [(sl tRelation r_3.1.relations), (sl tFact r_3.1.facts)], .box [(sl (tI .u8) r_3.2.b), (intA r_3.2.i), (intA r_3.2.h)]]) rfl ?_
  refine TO_nil ?_
  refine te [(2, (.b 0 0))] rfl ?_
  refine T_ret ?_
  obtain rfl := some_inj H
  refine end_ret (.cellK rfl agg48 rfl (lb rfl) .nil) rfl rfl ⟨?_, rfl⟩
  rfl

set_option maxHeartbeats 1000000 in
/-- impl.BlockSizes -/
theorem m_impl_BlockSizes_own (db0 : Database) (r : (List Int)) (H : m_impl_BlockSizes db0 = some r) : FnO prg 43 [(.g (tDatabase.enc db0))] (.m [0] 0 r.length tInt.k) [.row (flat tInt.enc r)] := by
  unfold m_impl_BlockSizes at H
  refine fnO_of_T Try.func43 rfl rfl (Nat.le_of_ble_eq_true rfl) ?_
  refine te [(0, (.g (tDatabase.enc db0)))] rfl ?_
  refine sr ?_
  refine TO_cons rfl (TOp_box rfl (boxAll rfl) rfl rfl ?_)
  refine Tp rfl rfl (pur_assign rfl) rfl ?_
  refine TO_nil ?_
  refine te [(1, (.b 0 0))] rfl ?_
  refine sr ?_
  refine TO_cons rfl (TOp_lit (nn := 0) (k := 1) sl23 zero3 rfl rfl rfl rfl (by decide) ?_)
  refine TO_st (σ' := [.box [(sl tRelation db0.relations), (sl tFact db0.facts)], .row (flat tInt.enc ([] : (List Int)))]) rfl ?_
  refine Tp rfl rfl (pur_assign rfl) rfl ?_
  refine TO_nil ?_
  refine te [(1, (.b 0 0)), (3, (.m [1] 0 ([] : (List Int)).length tInt.k))] rfl ?_
  refine T_seq ?_
  refine sr ?_
  refine Tp rfl rfl (pur_ldK_b agg48 rfl rfl (lb rfl) rfl) rfl ?_
  obtain ⟨r_1, h_2, H⟩ := bind_inv H
  refine TO_cons rfl (TOp_callV (call_static ent45 rfl) (m_impl_Blocks_ok _ _ h_2) rfl rfl rfl ?_)
  refine Tp rfl rfl (pur_lenT (T := (tSl tInt)) sl53 rfl rfl) rfl ?_
  refine Tp rfl rfl (pur_move rfl) rfl ?_
  refine TO_nil ?_
  refine te [(3, (.m [1] 0 ([] : (List Int)).length tInt.k)), (8, (sl (tSl tInt) r_1)), (9, (intA (r_1.length : Int))), (10, (intA 0))] rfl ?_
  obtain ⟨O4_, L4_, N4_⟩ := bind_inv H
  clear H
  obtain ⟨B4_, hb4, L4_⟩ := gen_forS L4_
  refine T_block ?_
  refine T_loopX (fun k => fun (x_ : Nat × (List Int)) => k = r_1.length - x_.1 ∧ forS B4_ (r_1.drop x_.1) (x_.1 : Int) x_.2 = some O4_) (fun (x_ : Nat × (List Int)) => [(3, (.m [1] 0 x_.2.length tInt.k)), (8, (sl (tSl tInt) r_1)), (9, (intA (r_1.length : Int))), (10, (intA (x_.1 : Int)))]) (fun (x_ : Nat × (List Int)) => [.box [(sl tRelation db0.relations), (sl tFact db0.facts)], .row (flat tInt.enc x_.2)]) _ (0, ([] : (List Int))) (wp 2 (lb rfl) rfl rfl rfl rfl rfl) ⟨rfl, L4_⟩ ?_
  rintro _ ⟨t_3, out3⟩ ⟨rfl, L4_⟩
  refine te [(3, (.m [1] 0 out3.length tInt.k)), (8, (sl (tSl tInt) r_1)), (9, (intA (r_1.length : Int))), (10, (intA (t_3 : Int)))] rfl ?_
  refine T_st (σ' := [.box [(sl tRelation db0.relations), (sl tFact db0.facts)], .row (flat tInt.enc out3)]) rfl ?_
  refine T_fact (len_sl (T := (tSl tInt)) (.tmp 8) rfl) (fun hl4 => ?_)
  refine sr ?_
  refine Tp rfl rfl (pur_lss rfl rfl rfl) rfl ?_
  refine TO_nil ?_
  refine te [(3, (.m [1] 0 out3.length tInt.k)), (8, (sl (tSl tInt) r_1)), (9, (intA (r_1.length : Int))), (10, (intA (t_3 : Int))), (11, (boolA (decide ((t_3 : Int) < (r_1.length : Int)))))] rfl ?_
  refine T_seq ?_
  refine T_cond (t := decide ((t_3 : Int) < (r_1.length : Int))) rfl (fun d4 => ?_) (fun d4 => ?_)
  ·replace d4 := of_decide_eq_true d4
   obtain ⟨x_t_3, hx_t_3⟩ : ∃ v, (r_1)[t_3]? = some v := ⟨_, List.getElem?_eq_getElem (by omega)⟩
   obtain ⟨C4_, H, K4_⟩ := forS_step L4_ hx_t_3
   rw [hb4] at H
   refine T_skip ?_
   refine te [(3, (.m [1] 0 out3.length tInt.k)), (8, (sl (tSl tInt) r_1)), (9, (intA (r_1.length : Int))), (10, (intA (t_3 : Int)))] rfl ?_
   refine T_seq ?_
   refine T_block ?_
   refine sr ?_
   refine Tp rfl rfl (pur_ixT (T := (tSl tInt)) sl53 rfl rfl rfl hx_t_3 rfl) rfl ?_
   refine Tp rfl rfl (pur_ldT (T := (tSl tInt)) (i := t_3) (off := 0) rfl one23 rfl rfl hx_t_3 rfl) rfl ?_
   refine Tp rfl rfl (pur_assign rfl) rfl ?_
   refine TO_nil ?_
   refine te [(3, (.m [1] 0 out3.length tInt.k)), (5, (sl tInt x_t_3)), (8, (sl (tSl tInt) r_1)), (9, (intA (r_1.length : Int))), (10, (intA (t_3 : Int)))] rfl ?_
   refine T_region ?_
   refine Tp rfl rfl (pur_move rfl) rfl ?_
   refine Tp rfl rfl (pur_move rfl) rfl ?_
   refine Tp rfl rfl (pur_lenT (T := tInt) sl23 rfl rfl) rfl ?_
   refine TO_cons rfl (TOp_lit (nn := 1) (k := 1) sl23 zero3 rfl rfl rfl rfl (by decide) ?_)
   refine TO_st (σ' := [.box [(sl tRelation db0.relations), (sl tFact db0.facts)], .row (flat tInt.enc out3), .row (flat tInt.enc ([(x_t_3.length : Int)] : (List Int)))]) rfl ?_
   obtain ⟨us_5, h_6, H⟩ := bind_inv H
   refine TO_cons rfl (TOp_appZ (T := tInt) (f := tInt.enc) (xs := out3) (ys := ([(x_t_3.length : Int)] : (List Int))) tInt.len sl23 zero3 rfl bytes3 (by decide) rfl rfl rfl rfl (src_mT (f := tInt.enc) tInt.len rfl rfl (flat_cell tInt _)) (flat_cell tInt _) h_6 (lb rfl) ?_)
   refine toe [(5, (sl tInt x_t_3)), (8, (sl (tSl tInt) r_1)), (9, (intA (r_1.length : Int))), (10, (intA (t_3 : Int))), (15, (sl tInt x_t_3)), (16, (intA (x_t_3.length : Int))), (17, (.m [2] 0 ([(x_t_3.length : Int)] : (List Int)).length tInt.k)), (18, (.m [1] 0 us_5.length tInt.k))] rfl ?_
   refine TO_st (σ' := [.box [(sl tRelation db0.relations), (sl tFact db0.facts)], .row (flat tInt.enc us_5), .row (flat tInt.enc ([(x_t_3.length : Int)] : (List Int))), .dead]) rfl ?_
   refine Tp rfl rfl (pur_assign rfl) rfl ?_
   refine TO_nil ?_
   refine te [(3, (.m [1] 0 us_5.length tInt.k)), (8, (sl (tSl tInt) r_1)), (9, (intA (r_1.length : Int))), (10, (intA (t_3 : Int)))] rfl ?_
   refine T_region ?_
   refine Tp rfl rfl (pur_add rfl rfl rfl (fits64 (by omega) (by omega))) rfl ?_
   refine Tp rfl rfl (pur_move rfl) rfl ?_
   refine TO_nil ?_
   obtain rfl := some_inj H
   exact again (r_1.length - (t_3 + 1)) (t_3 + 1, us_5) (by omega) (wp 2 (lb rfl) rfl rfl rfl rfl rfl) ⟨rfl, K4_⟩
  ·replace d4 := of_decide_eq_false d4
   obtain rfl := forS_end L4_ (by omega)
   refine T_exit ?_
   refine then_exit ?_
   refine then_exit ?_
   refine block_exit ?_
   replace H := N4_
   refine te [(3, (.m [1] 0 out3.length tInt.k))] rfl ?_
   refine sr ?_
   refine Tp rfl rfl (pur_move rfl) rfl ?_
   refine Tp rfl rfl (pur_assign rfl) rfl ?_
   refine TO_nil ?_
   refine te [(2, (.m [1] 0 out3.length tInt.k))] rfl ?_
   refine T_ret ?_
   obtain rfl := some_inj H
   exact end_pick (.tmp .nil) rfl [1] (by decide) rfl rfl rfl rfl rfl rfl
theorem m_impl_BlockSizes_ok (db0 : Database) (r : (List Int)) (H : m_impl_BlockSizes db0 = some r) : FnV prg 43 [(.g (tDatabase.enc db0))] (sl tInt r) := (m_impl_BlockSizes_own db0 r H).frz (frzTE (T := tInt) rfl)

set_option maxHeartbeats 1000000 in
/-- laws.sameInts -/
theorem m_laws_sameInts_ok (a0 : (List Int)) (b1 : (List Int)) (r : Bool) (H : m_laws_sameInts a0 b1 = some r) : FnV prg 44 [(sl tInt a0), (sl tInt b1)] (boolA r) := by
  unfold m_laws_sameInts at H
  refine fnV_of_T Try.func44 rfl rfl (Nat.le_of_ble_eq_true rfl) ?_
  refine te [(0, (sl tInt a0)), (1, (sl tInt b1))] rfl ?_
  refine sr ?_
  refine Tp rfl rfl (pur_assign rfl) rfl ?_
  refine TO_nil ?_
  refine te [(0, (sl tInt a0)), (1, (sl tInt b1))] rfl ?_
  refine T_seq ?_
  refine sr ?_
  refine Tp rfl rfl (pur_move rfl) rfl ?_
  refine Tp rfl rfl (pur_lenT (T := tInt) sl23 rfl rfl) rfl ?_
  refine Tp rfl rfl (pur_move rfl) rfl ?_
  refine Tp rfl rfl (pur_lenT (T := tInt) sl23 rfl rfl) rfl ?_
  refine Tp rfl rfl (pur_neq rfl rfl rfl) rfl ?_
  refine TO_nil ?_
  refine te [(0, (sl tInt a0)), (1, (sl tInt b1)), (10, (boolA (decide ((a0.length : Int) ≠ (b1.length : Int)))))] rfl ?_
  refine T_cond (t := decide ((a0.length : Int) ≠ (b1.length : Int))) rfl (fun c_1 => ?_) (fun c_1 => ?_)
  ·replace H := cond_t c_1 H
   refine sr ?_
   refine Tp rfl rfl (pur_assign rfl) rfl ?_
   refine TO_nil ?_
   refine te [(4, (boolA false))] rfl ?_
   refine T_ret ?_
   refine then_ret ?_
   obtain rfl := some_inj H
   refine end_ret (.tmp .nil) rfl rfl ⟨?_, rfl⟩
   rfl
  ·replace H := cond_f c_1 H
   refine T_skip ?_
   refine te [(0, (sl tInt a0)), (1, (sl tInt b1))] rfl ?_
   refine T_seq ?_
   refine sr ?_
   refine Tp rfl rfl (pur_assign rfl) rfl ?_
   refine TO_nil ?_
   refine te [(0, (sl tInt a0)), (1, (sl tInt b1)), (5, (intA 0))] rfl ?_
   obtain ⟨O3_, L3_, N3_⟩ := bind_inv H
   clear H
   obtain ⟨B3_, hb3, L3_⟩ := gen_forL L3_
   refine T_block ?_
   refine T_loopX (fun k => fun (i_2 : Nat) => k = a0.length - i_2 ∧ forL B3_ (a0.drop i_2) (i_2 : Int) () = some O3_) (fun (i_2 : Nat) => [(0, (sl tInt a0)), (1, (sl tInt b1)), (5, (intA (i_2 : Int)))]) (fun (i_2 : Nat) => []) _ (0 : Nat) (wp 0 (lb rfl) rfl rfl rfl rfl rfl) ⟨rfl, L3_⟩ ?_
   rintro _ i_2 ⟨rfl, L3_⟩
   refine te [(0, (sl tInt a0)), (1, (sl tInt b1)), (5, (intA (i_2 : Int)))] rfl ?_
   refine T_st (σ' := []) rfl ?_
   refine T_fact (len_sl (T := tInt) (.tmp 0) rfl) (fun hl3 => ?_)
   refine T_seq ?_
   refine sr ?_
   refine Tp rfl rfl (pur_move rfl) rfl ?_
   refine Tp rfl rfl (pur_move rfl) rfl ?_
   refine Tp rfl rfl (pur_lenT (T := tInt) sl23 rfl rfl) rfl ?_
   refine Tp rfl rfl (pur_lss rfl rfl rfl) rfl ?_
   refine TO_nil ?_
   refine te [(0, (sl tInt a0)), (1, (sl tInt b1)), (5, (intA (i_2 : Int))), (14, (boolA (decide ((i_2 : Int) < (a0.length : Int)))))] rfl ?_
   refine T_cond (t := decide ((i_2 : Int) < (a0.length : Int))) rfl (fun d3 => ?_) (fun d3 => ?_)
   ·replace d3 := of_decide_eq_true d3
    obtain ⟨x_i_2, hx_i_2⟩ : ∃ v, (a0)[i_2]? = some v := ⟨_, List.getElem?_eq_getElem (by omega)⟩
    obtain ⟨C3_, H, K3_⟩ := forL_step L3_ hx_i_2
    rw [hb3] at H
    refine T_skip ?_
    refine te [(0, (sl tInt a0)), (1, (sl tInt b1)), (5, (intA (i_2 : Int)))] rfl ?_
    refine T_seq ?_
    refine T_block ?_
    refine T_seq ?_
    refine T_regionD mixed (by kernel_rfl) ?_
    refine TQ_pure rfl (pur_move rfl) rfl ?_
    refine TQ_pure rfl (pur_move rfl) rfl ?_
    refine TQ_pure rfl (pur_ixT (T := tInt) sl23 rfl rfl rfl hx_i_2 rfl) rfl ?_
    refine TQ_pure rfl (pur_ldT (T := tInt) (i := i_2) (off := 0) rfl one3 rfl rfl hx_i_2 rfl) rfl ?_
    refine TQ_pure rfl (pur_move rfl) rfl ?_
    refine TQ_pure rfl (pur_move rfl) rfl ?_
    obtain ⟨v_4, h_5, H⟩ := bind_inv H
    obtain ⟨n_6, hz_7, hv_8⟩ := getI_inv h_5
    refine TQ_pure rfl (pur_ixT (T := tInt) sl23 rfl rfl hz_7 hv_8 rfl) rfl ?_
    refine TQ_pure rfl (pur_ldT (T := tInt) (i := n_6) (off := 0) rfl one3 rfl rfl hv_8 rfl) rfl ?_
    refine TQ_pure rfl (pur_neq rfl rfl rfl) rfl ?_
    refine TQ_nil ?_
    refine te [(0, (sl tInt a0)), (1, (sl tInt b1)), (5, (intA (i_2 : Int))), (25, (boolA (decide (x_i_2 ≠ v_4))))] rfl ?_
    refine T_cond (t := decide (x_i_2 ≠ v_4)) rfl (fun c_9 => ?_) (fun c_9 => ?_)
    ·replace H := cond_t c_9 H
     refine sr ?_
     refine Tp rfl rfl (pur_assign rfl) rfl ?_
     refine TO_nil ?_
     refine te [(4, (boolA false))] rfl ?_
     refine T_ret ?_
     refine block_ret ?_
     refine then_ret ?_
     refine then_ret ?_
     refine block_ret ?_
     refine then_ret ?_
     obtain rfl := some_inj H
     obtain rfl := some_inj K3_
     replace H := onS_r N3_
     obtain rfl := some_inj H
     refine end_ret (.tmp .nil) rfl rfl ⟨?_, rfl⟩
     rfl
    ·replace H := cond_f c_9 H
     refine T_skip ?_
     refine te [(0, (sl tInt a0)), (1, (sl tInt b1)), (5, (intA (i_2 : Int)))] rfl ?_
     refine T_region ?_
     refine Tp rfl rfl (pur_move rfl) rfl ?_
     refine Tp rfl rfl (pur_add rfl rfl rfl (fits64 (by omega) (by omega))) rfl ?_
     refine Tp rfl rfl (pur_assign rfl) rfl ?_
     refine TO_nil ?_
     obtain rfl := some_inj H
     exact again (a0.length - (i_2 + 1)) (i_2 + 1) (by omega) (wp 0 (lb rfl) rfl rfl rfl rfl rfl) ⟨rfl, K3_⟩
   ·replace d3 := of_decide_eq_false d3
    obtain rfl := forL_end L3_ (by omega)
    refine T_exit ?_
    refine then_exit ?_
    refine then_exit ?_
    refine block_exit ?_
    replace H := onS_l N3_
    refine te [] rfl ?_
    refine sr ?_
    refine Tp rfl rfl (pur_assign rfl) rfl ?_
    refine TO_nil ?_
    refine te [(4, (boolA true))] rfl ?_
    refine T_ret ?_
    obtain rfl := some_inj H
    refine end_ret (.tmp .nil) rfl rfl ⟨?_, rfl⟩
    rfl

set_option maxHeartbeats 1000000 in
/-- impl.countRepairs -/
theorem m_impl_countRepairs_ok (list0 : (List (List Int))) (r : Int) (H : m_impl_countRepairs list0 = some r) : FnV prg 119 [(sl (tSl tInt) list0)] (intA r) := by
  unfold m_impl_countRepairs at H
  refine fnV_of_T Try.func119 rfl rfl (Nat.le_of_ble_eq_true rfl) ?_
  refine te [(0, (sl (tSl tInt) list0))] rfl ?_
  refine sr ?_
  refine Tp rfl rfl (pur_assign rfl) rfl ?_
  refine TO_nil ?_
  refine te [(0, (sl (tSl tInt) list0))] rfl ?_
  refine sr ?_
  refine Tp rfl rfl (pur_assign rfl) rfl ?_
  refine TO_nil ?_
  refine te [(0, (sl (tSl tInt) list0)), (3, (intA 1))] rfl ?_
  refine T_seq ?_
  refine sr ?_
  refine Tp rfl rfl (pur_move rfl) rfl ?_
  refine Tp rfl rfl (pur_lenT (T := (tSl tInt)) sl53 rfl rfl) rfl ?_
  refine Tp rfl rfl (pur_move rfl) rfl ?_
  refine TO_nil ?_
  refine te [(3, (intA 1)), (6, (sl (tSl tInt) list0)), (7, (intA (list0.length : Int))), (8, (intA 0))] rfl ?_
  obtain ⟨O2_, L2_, N2_⟩ := bind_inv H
  clear H
  obtain ⟨B2_, hb2, L2_⟩ := gen_forS L2_
  refine T_block ?_
  refine T_loopX (fun k => fun (x_ : Nat × Int) => k = list0.length - x_.1 ∧ forS B2_ (list0.drop x_.1) (x_.1 : Int) x_.2 = some O2_) (fun (x_ : Nat × Int) => [(3, (intA x_.2)), (6, (sl (tSl tInt) list0)), (7, (intA (list0.length : Int))), (8, (intA (x_.1 : Int)))]) (fun (x_ : Nat × Int) => []) _ (0, 1) (wp 0 (lb rfl) rfl rfl rfl rfl rfl) ⟨rfl, L2_⟩ ?_
  rintro _ ⟨t_1, out3⟩ ⟨rfl, L2_⟩
  refine te [(3, (intA out3)), (6, (sl (tSl tInt) list0)), (7, (intA (list0.length : Int))), (8, (intA (t_1 : Int)))] rfl ?_
  refine T_st (σ' := []) rfl ?_
  refine T_fact (len_sl (T := (tSl tInt)) (.tmp 6) rfl) (fun hl2 => ?_)
  refine sr ?_
  refine Tp rfl rfl (pur_lss rfl rfl rfl) rfl ?_
  refine TO_nil ?_
  refine te [(3, (intA out3)), (6, (sl (tSl tInt) list0)), (7, (intA (list0.length : Int))), (8, (intA (t_1 : Int))), (9, (boolA (decide ((t_1 : Int) < (list0.length : Int)))))] rfl ?_
  refine T_seq ?_
  refine T_cond (t := decide ((t_1 : Int) < (list0.length : Int))) rfl (fun d2 => ?_) (fun d2 => ?_)
  ·replace d2 := of_decide_eq_true d2
   obtain ⟨x_t_1, hx_t_1⟩ : ∃ v, (list0)[t_1]? = some v := ⟨_, List.getElem?_eq_getElem (by omega)⟩
   obtain ⟨C2_, H, K2_⟩ := forS_step L2_ hx_t_1
   rw [hb2] at H
   refine T_skip ?_
   refine te [(3, (intA out3)), (6, (sl (tSl tInt) list0)), (7, (intA (list0.length : Int))), (8, (intA (t_1 : Int)))] rfl ?_
   refine T_seq ?_
   refine T_block ?_
   refine sr ?_
   refine Tp rfl rfl (pur_ixT (T := (tSl tInt)) sl53 rfl rfl rfl hx_t_1 rfl) rfl ?_
   refine Tp rfl rfl (pur_ldT (T := (tSl tInt)) (i := t_1) (off := 0) rfl one23 rfl rfl hx_t_1 rfl) rfl ?_
   refine Tp rfl rfl (pur_assign rfl) rfl ?_
   refine TO_nil ?_
   refine te [(3, (intA out3)), (5, (sl tInt x_t_1)), (6, (sl (tSl tInt) list0)), (7, (intA (list0.length : Int))), (8, (intA (t_1 : Int)))] rfl ?_
   refine T_region ?_
   refine Tp rfl rfl (pur_move rfl) rfl ?_
   refine Tp rfl rfl (pur_move rfl) rfl ?_
   refine Tp rfl rfl (pur_lenT (T := tInt) sl23 rfl rfl) rfl ?_
   refine Tp rfl rfl (pur_wmul rfl rfl rfl) rfl ?_
   refine Tp rfl rfl (pur_assign rfl) rfl ?_
   refine TO_nil ?_
   refine te [(3, (intA (w64 (out3 * (x_t_1.length : Int))))), (6, (sl (tSl tInt) list0)), (7, (intA (list0.length : Int))), (8, (intA (t_1 : Int)))] rfl ?_
   refine T_region ?_
   refine Tp rfl rfl (pur_add rfl rfl rfl (fits64 (by omega) (by omega))) rfl ?_
   refine Tp rfl rfl (pur_move rfl) rfl ?_
   refine TO_nil ?_
   obtain rfl := some_inj H
   exact again (list0.length - (t_1 + 1)) (t_1 + 1, (w64 (out3 * (x_t_1.length : Int)))) (by omega) (wp 0 (lb rfl) rfl rfl rfl rfl rfl) ⟨rfl, K2_⟩
  ·replace d2 := of_decide_eq_false d2
   obtain rfl := forS_end L2_ (by omega)
   refine T_exit ?_
   refine then_exit ?_
   refine then_exit ?_
   refine block_exit ?_
   replace H := N2_
   refine te [(3, (intA out3))] rfl ?_
   refine sr ?_
   refine Tp rfl rfl (pur_move rfl) rfl ?_
   refine Tp rfl rfl (pur_assign rfl) rfl ?_
   refine TO_nil ?_
   refine te [(2, (intA out3))] rfl ?_
   refine T_ret ?_
   obtain rfl := some_inj H
   refine end_ret (.tmp .nil) rfl rfl ⟨?_, rfl⟩
   rfl

set_option maxHeartbeats 1000000 in
/-- impl.CountRepairs -/
theorem m_impl_CountRepairs_ok (db0 : Database) (r : Int) (H : m_impl_CountRepairs db0 = some r) : FnV prg 47 [(.g (tDatabase.enc db0))] (intA r) := by
  unfold m_impl_CountRepairs at H
  refine fnV_of_T Try.func47 rfl rfl (Nat.le_of_ble_eq_true rfl) ?_
  refine te [(0, (.g (tDatabase.enc db0)))] rfl ?_
  refine sr ?_
  refine TO_cons rfl (TOp_box rfl (boxAll rfl) rfl rfl ?_)
  refine Tp rfl rfl (pur_assign rfl) rfl ?_
  refine TO_nil ?_
  refine te [(1, (.b 0 0))] rfl ?_
  refine T_seq ?_
  refine sr ?_
  refine Tp rfl rfl (pur_ldK_b agg48 rfl rfl (lb rfl) rfl) rfl ?_
  obtain ⟨r_1, h_2, H⟩ := bind_inv H
  refine TO_cons rfl (TOp_callV (call_static ent117 rfl) (m_impl_IsValidDatabase_ok _ _ h_2) rfl rfl rfl ?_)
  refine Tp rfl rfl (pur_not rfl rfl) rfl ?_
  refine TO_nil ?_
  refine te [(1, (.b 0 0)), (5, (boolA (!r_1)))] rfl ?_
  refine T_cond (t := (!r_1)) rfl (fun c_3 => ?_) (fun c_3 => ?_)
  ·replace H := cond_t c_3 H
   refine sr ?_
   refine Tp rfl rfl (pur_assign rfl) rfl ?_
   refine TO_nil ?_
   refine te [(2, (intA 0))] rfl ?_
   refine T_ret ?_
   refine then_ret ?_
   obtain rfl := some_inj H
   refine end_ret (.tmp .nil) rfl rfl ⟨?_, rfl⟩
   rfl
  ·replace H := cond_f c_3 H
   refine T_skip ?_
   refine te [(1, (.b 0 0))] rfl ?_
   refine sr ?_
   refine Tp rfl rfl (pur_ldK_b agg48 rfl rfl (lb rfl) rfl) rfl ?_
   obtain ⟨r_4, h_5, H⟩ := bind_inv H
   refine TO_cons rfl (TOp_callV (call_static ent118 rfl) (m_impl_blocks_ok _ _ h_5) rfl rfl rfl ?_)
   obtain ⟨r_6, h_7, H⟩ := bind_inv H
   refine TO_cons rfl (TOp_callV (call_static ent119 rfl) (m_impl_countRepairs_ok _ _ h_7) rfl rfl rfl ?_)
   refine Tp rfl rfl (pur_assign rfl) rfl ?_
   refine TO_nil ?_
   refine te [(2, (intA r_6))] rfl ?_
   refine T_ret ?_
   obtain rfl := some_inj H
   refine end_ret (.tmp .nil) rfl rfl ⟨?_, rfl⟩
   rfl

set_option maxHeartbeats 1000000 in
/-- spec.BlockSizes -/
theorem m_spec_BlockSizes_own (u : Nat) (d0 : Database) (r : (List Int)) (H : m_spec_BlockSizes u d0 = some r) : FnO prg 120 [(.g (tDatabase.enc d0))] (.m [0] 0 r.length tInt.k) [.row (flat tInt.enc r)] := by
  unfold m_spec_BlockSizes at H
  refine fnO_of_T Try.func120 rfl rfl (Nat.le_of_ble_eq_true rfl) ?_
  refine te [(0, (.g (tDatabase.enc d0)))] rfl ?_
  refine sr ?_
  refine TO_cons rfl (TOp_box rfl (boxAll rfl) rfl rfl ?_)
  refine Tp rfl rfl (pur_assign rfl) rfl ?_
  refine TO_nil ?_
  refine te [(1, (.b 0 0))] rfl ?_
  refine sr ?_
  refine TO_cons rfl (TOp_lit (nn := 0) (k := 1) sl23 zero3 rfl rfl rfl rfl (by decide) ?_)
  refine TO_st (σ' := [.box [(sl tRelation d0.relations), (sl tFact d0.facts)], .row (flat tInt.enc ([] : (List Int)))]) rfl ?_
  refine Tp rfl rfl (pur_assign rfl) rfl ?_
  refine TO_nil ?_
  refine te [(1, (.b 0 0)), (3, (.m [1] 0 ([] : (List Int)).length tInt.k))] rfl ?_
  refine sr ?_
  refine Tp rfl rfl (pur_ldK_b agg48 rfl rfl (lb rfl) rfl) rfl ?_
  obtain ⟨r_1, h_2, H⟩ := bind_inv H
  refine TO_cons rfl (TOp_callV (call_static ent46 rfl) (m_spec_Blocks_ok u _ _ h_2) rfl rfl rfl ?_)
  refine Tp rfl rfl (pur_assign rfl) rfl ?_
  refine TO_nil ?_
  refine te [(3, (.m [1] 0 ([] : (List Int)).length tInt.k)), (4, (sl (tSl tInt) r_1))] rfl ?_
  refine T_seq ?_
  refine sr ?_
  refine Tp rfl rfl (pur_assign rfl) rfl ?_
  refine TO_nil ?_
  refine te [(3, (.m [1] 0 ([] : (List Int)).length tInt.k)), (4, (sl (tSl tInt) r_1)), (5, (intA 0))] rfl ?_
  obtain ⟨O4_, L4_, N4_⟩ := bind_inv H
  clear H
  obtain ⟨B4_, hb4, L4_⟩ := gen_forS L4_
  refine T_block ?_
  refine T_loopX (fun k => fun (x_ : Nat × (List Int)) => k = r_1.length - x_.1 ∧ forS B4_ (r_1.drop x_.1) (x_.1 : Int) x_.2 = some O4_) (fun (x_ : Nat × (List Int)) => [(3, (.m [1] 0 x_.2.length tInt.k)), (4, (sl (tSl tInt) r_1)), (5, (intA (x_.1 : Int)))]) (fun (x_ : Nat × (List Int)) => [.box [(sl tRelation d0.relations), (sl tFact d0.facts)], .row (flat tInt.enc x_.2)]) _ (0, ([] : (List Int))) (wp 2 (lb rfl) rfl rfl rfl rfl rfl) ⟨rfl, L4_⟩ ?_
  rintro _ ⟨i_3, out3⟩ ⟨rfl, L4_⟩
  refine te [(3, (.m [1] 0 out3.length tInt.k)), (4, (sl (tSl tInt) r_1)), (5, (intA (i_3 : Int)))] rfl ?_
  refine T_st (σ' := [.box [(sl tRelation d0.relations), (sl tFact d0.facts)], .row (flat tInt.enc out3)]) rfl ?_
  refine T_fact (len_sl (T := (tSl tInt)) (.tmp 4) rfl) (fun hl4 => ?_)
  refine T_seq ?_
  refine sr ?_
  refine Tp rfl rfl (pur_move rfl) rfl ?_
  refine Tp rfl rfl (pur_move rfl) rfl ?_
  refine Tp rfl rfl (pur_lenT (T := (tSl tInt)) sl53 rfl rfl) rfl ?_
  refine Tp rfl rfl (pur_lss rfl rfl rfl) rfl ?_
  refine TO_nil ?_
  refine te [(3, (.m [1] 0 out3.length tInt.k)), (4, (sl (tSl tInt) r_1)), (5, (intA (i_3 : Int))), (12, (boolA (decide ((i_3 : Int) < (r_1.length : Int)))))] rfl ?_
  refine T_cond (t := decide ((i_3 : Int) < (r_1.length : Int))) rfl (fun d4 => ?_) (fun d4 => ?_)
  ·replace d4 := of_decide_eq_true d4
   obtain ⟨x_i_3, hx_i_3⟩ : ∃ v, (r_1)[i_3]? = some v := ⟨_, List.getElem?_eq_getElem (by omega)⟩
   obtain ⟨C4_, H, K4_⟩ := forS_step L4_ hx_i_3
   rw [hb4] at H
   refine T_skip ?_
   refine te [(3, (.m [1] 0 out3.length tInt.k)), (4, (sl (tSl tInt) r_1)), (5, (intA (i_3 : Int)))] rfl ?_
   refine T_seq ?_
   refine T_block ?_
   refine T_region ?_
   refine Tp rfl rfl (pur_move rfl) rfl ?_
   refine Tp rfl rfl (pur_move rfl) rfl ?_
   refine Tp rfl rfl (pur_move rfl) rfl ?_
   refine Tp rfl rfl (pur_ixT (T := (tSl tInt)) sl53 rfl rfl rfl hx_i_3 rfl) rfl ?_
   refine Tp rfl rfl (pur_ldT (T := (tSl tInt)) (i := i_3) (off := 0) rfl one23 rfl rfl hx_i_3 rfl) rfl ?_
   refine Tp rfl rfl (pur_lenT (T := tInt) sl23 rfl rfl) rfl ?_
   refine TO_cons rfl (TOp_lit (nn := 1) (k := 1) sl23 zero3 rfl rfl rfl rfl (by decide) ?_)
   refine TO_st (σ' := [.box [(sl tRelation d0.relations), (sl tFact d0.facts)], .row (flat tInt.enc out3), .row (flat tInt.enc ([(x_i_3.length : Int)] : (List Int)))]) rfl ?_
   obtain ⟨us_5, h_6, H⟩ := bind_inv H
   refine TO_cons rfl (TOp_appZ (T := tInt) (f := tInt.enc) (xs := out3) (ys := ([(x_i_3.length : Int)] : (List Int))) tInt.len sl23 zero3 rfl bytes3 (by decide) rfl rfl rfl rfl (src_mT (f := tInt.enc) tInt.len rfl rfl (flat_cell tInt _)) (flat_cell tInt _) h_6 (lb rfl) ?_)
   refine toe [(4, (sl (tSl tInt) r_1)), (5, (intA (i_3 : Int))), (16, (sl (tSl tInt) r_1)), (17, (intA (i_3 : Int))), (18, (.q (flat (tSl tInt).enc r_1) (i_3 * (tSl tInt).k))), (19, (sl tInt x_i_3)), (20, (intA (x_i_3.length : Int))), (21, (.m [2] 0 ([(x_i_3.length : Int)] : (List Int)).length tInt.k)), (22, (.m [1] 0 us_5.length tInt.k))] rfl ?_
   refine TO_st (σ' := [.box [(sl tRelation d0.relations), (sl tFact d0.facts)], .row (flat tInt.enc us_5), .row (flat tInt.enc ([(x_i_3.length : Int)] : (List Int))), .dead]) rfl ?_
   refine Tp rfl rfl (pur_assign rfl) rfl ?_
   refine TO_nil ?_
   refine te [(3, (.m [1] 0 us_5.length tInt.k)), (4, (sl (tSl tInt) r_1)), (5, (intA (i_3 : Int)))] rfl ?_
   refine T_region ?_
   refine Tp rfl rfl (pur_move rfl) rfl ?_
   refine Tp rfl rfl (pur_add rfl rfl rfl (fits64 (by omega) (by omega))) rfl ?_
   refine Tp rfl rfl (pur_assign rfl) rfl ?_
   refine TO_nil ?_
   obtain rfl := some_inj H
   exact again (r_1.length - (i_3 + 1)) (i_3 + 1, us_5) (by omega) (wp 2 (lb rfl) rfl rfl rfl rfl rfl) ⟨rfl, K4_⟩
  ·replace d4 := of_decide_eq_false d4
   obtain rfl := forS_end L4_ (by omega)
   refine T_exit ?_
   refine then_exit ?_
   refine then_exit ?_
   refine block_exit ?_
   replace H := N4_
   refine te [(3, (.m [1] 0 out3.length tInt.k))] rfl ?_
   refine sr ?_
   refine Tp rfl rfl (pur_move rfl) rfl ?_
   refine Tp rfl rfl (pur_assign rfl) rfl ?_
   refine TO_nil ?_
   refine te [(2, (.m [1] 0 out3.length tInt.k))] rfl ?_
   refine T_ret ?_
   obtain rfl := some_inj H
   exact end_pick (.tmp .nil) rfl [1] (by decide) rfl rfl rfl rfl rfl rfl
theorem m_spec_BlockSizes_ok (u : Nat) (d0 : Database) (r : (List Int)) (H : m_spec_BlockSizes u d0 = some r) : FnV prg 120 [(.g (tDatabase.enc d0))] (sl tInt r) := (m_spec_BlockSizes_own u d0 r H).frz (frzTE (T := tInt) rfl)

set_option maxHeartbeats 1000000 in
/-- spec.CountRepairs -/
theorem m_spec_CountRepairs_ok (u : Nat) (d0 : Database) (r : Int) (H : m_spec_CountRepairs u d0 = some r) : FnV prg 48 [(.g (tDatabase.enc d0))] (intA r) := by
  unfold m_spec_CountRepairs at H
  refine fnV_of_T Try.func48 rfl rfl (Nat.le_of_ble_eq_true rfl) ?_
  refine te [(0, (.g (tDatabase.enc d0)))] rfl ?_
  refine sr ?_
  refine TO_cons rfl (TOp_box rfl (boxAll rfl) rfl rfl ?_)
  refine Tp rfl rfl (pur_assign rfl) rfl ?_
  refine TO_nil ?_
  refine te [(1, (.b 0 0))] rfl ?_
  refine T_seq ?_
  refine sr ?_
  refine Tp rfl rfl (pur_ldK_b agg48 rfl rfl (lb rfl) rfl) rfl ?_
  obtain ⟨r_1, h_2, H⟩ := bind_inv H
  refine TO_cons rfl (TOp_callV (call_static ent53 rfl) (m_spec_IsValidDatabase_ok u _ _ h_2) rfl rfl rfl ?_)
  refine Tp rfl rfl (pur_not rfl rfl) rfl ?_
  refine TO_nil ?_
  refine te [(1, (.b 0 0)), (8, (boolA (!r_1)))] rfl ?_
  refine T_cond (t := (!r_1)) rfl (fun c_3 => ?_) (fun c_3 => ?_)
  ·replace H := cond_t c_3 H
   refine sr ?_
   refine Tp rfl rfl (pur_assign rfl) rfl ?_
   refine TO_nil ?_
   refine te [(2, (intA 0))] rfl ?_
   refine T_ret ?_
   refine then_ret ?_
   obtain rfl := some_inj H
   refine end_ret (.tmp .nil) rfl rfl ⟨?_, rfl⟩
   rfl
  ·replace H := cond_f c_3 H
   refine T_skip ?_
   refine te [(1, (.b 0 0))] rfl ?_
   refine sr ?_
   refine Tp rfl rfl (pur_assign rfl) rfl ?_
   refine TO_nil ?_
   refine te [(1, (.b 0 0)), (3, (intA 1))] rfl ?_
   refine sr ?_
   refine Tp rfl rfl (pur_ldK_b agg48 rfl rfl (lb rfl) rfl) rfl ?_
   obtain ⟨r_4, h_5, H⟩ := bind_inv H
   refine TO_cons rfl (TOp_callV (call_static ent120 rfl) (m_spec_BlockSizes_ok u _ _ h_5) rfl rfl rfl ?_)
   refine Tp rfl rfl (pur_assign rfl) rfl ?_
   refine TO_nil ?_
   refine te [(3, (intA 1)), (4, (sl tInt r_4))] rfl ?_
   refine T_seq ?_
   refine sr ?_
   refine Tp rfl rfl (pur_assign rfl) rfl ?_
   refine TO_nil ?_
   refine te [(3, (intA 1)), (4, (sl tInt r_4)), (5, (intA 0))] rfl ?_
   obtain ⟨O7_, L7_, N7_⟩ := bind_inv H
   clear H
   obtain ⟨B7_, hb7, L7_⟩ := gen_forS L7_
   refine T_block ?_
   refine T_loopX (fun k => fun (x_ : Nat × Int) => k = r_4.length - x_.1 ∧ forS B7_ (r_4.drop x_.1) (x_.1 : Int) x_.2 = some O7_) (fun (x_ : Nat × Int) => [(3, (intA x_.2)), (4, (sl tInt r_4)), (5, (intA (x_.1 : Int)))]) (fun (x_ : Nat × Int) => [.box [(sl tRelation d0.relations), (sl tFact d0.facts)]]) _ (0, 1) (wp 1 (lb rfl) rfl rfl rfl rfl rfl) ⟨rfl, L7_⟩ ?_
   rintro _ ⟨i_6, n3⟩ ⟨rfl, L7_⟩
   refine te [(3, (intA n3)), (4, (sl tInt r_4)), (5, (intA (i_6 : Int)))] rfl ?_
   refine T_st (σ' := [.box [(sl tRelation d0.relations), (sl tFact d0.facts)]]) rfl ?_
   refine T_fact (len_sl (T := tInt) (.tmp 4) rfl) (fun hl7 => ?_)
   refine T_seq ?_
   refine sr ?_
   refine Tp rfl rfl (pur_move rfl) rfl ?_
   refine Tp rfl rfl (pur_move rfl) rfl ?_
   refine Tp rfl rfl (pur_lenT (T := tInt) sl23 rfl rfl) rfl ?_
   refine Tp rfl rfl (pur_lss rfl rfl rfl) rfl ?_
   refine TO_nil ?_
   refine te [(3, (intA n3)), (4, (sl tInt r_4)), (5, (intA (i_6 : Int))), (14, (boolA (decide ((i_6 : Int) < (r_4.length : Int)))))] rfl ?_
   refine T_cond (t := decide ((i_6 : Int) < (r_4.length : Int))) rfl (fun d7 => ?_) (fun d7 => ?_)
   ·replace d7 := of_decide_eq_true d7
    obtain ⟨x_i_6, hx_i_6⟩ : ∃ v, (r_4)[i_6]? = some v := ⟨_, List.getElem?_eq_getElem (by omega)⟩
    obtain ⟨C7_, H, K7_⟩ := forS_step L7_ hx_i_6
    rw [hb7] at H
    refine T_skip ?_
    refine te [(3, (intA n3)), (4, (sl tInt r_4)), (5, (intA (i_6 : Int)))] rfl ?_
    refine T_seq ?_
    refine T_block ?_
    refine T_region ?_
    refine Tp rfl rfl (pur_move rfl) rfl ?_
    refine Tp rfl rfl (pur_move rfl) rfl ?_
    refine Tp rfl rfl (pur_move rfl) rfl ?_
    refine Tp rfl rfl (pur_ixT (T := tInt) sl23 rfl rfl rfl hx_i_6 rfl) rfl ?_
    refine Tp rfl rfl (pur_ldT (T := tInt) (i := i_6) (off := 0) rfl one3 rfl rfl hx_i_6 rfl) rfl ?_
    refine Tp rfl rfl (pur_wmul rfl rfl rfl) rfl ?_
    refine Tp rfl rfl (pur_assign rfl) rfl ?_
    refine TO_nil ?_
    refine te [(3, (intA (w64 (n3 * x_i_6)))), (4, (sl tInt r_4)), (5, (intA (i_6 : Int)))] rfl ?_
    refine T_region ?_
    refine Tp rfl rfl (pur_move rfl) rfl ?_
    refine Tp rfl rfl (pur_add rfl rfl rfl (fits64 (by omega) (by omega))) rfl ?_
    refine Tp rfl rfl (pur_assign rfl) rfl ?_
    refine TO_nil ?_
    obtain rfl := some_inj H
    exact again (r_4.length - (i_6 + 1)) (i_6 + 1, (w64 (n3 * x_i_6))) (by omega) (wp 1 (lb rfl) rfl rfl rfl rfl rfl) ⟨rfl, K7_⟩
   ·replace d7 := of_decide_eq_false d7
    obtain rfl := forS_end L7_ (by omega)
    refine T_exit ?_
    refine then_exit ?_
    refine then_exit ?_
    refine block_exit ?_
    replace H := N7_
    refine te [(3, (intA n3))] rfl ?_
    refine sr ?_
    refine Tp rfl rfl (pur_move rfl) rfl ?_
    refine Tp rfl rfl (pur_assign rfl) rfl ?_
    refine TO_nil ?_
    refine te [(2, (intA n3))] rfl ?_
    refine T_ret ?_
    obtain rfl := some_inj H
    refine end_ret (.tmp .nil) rfl rfl ⟨?_, rfl⟩
    rfl
end Go.Proofs.Ytjdpolnakhmkmaa

/- Walks. -/
import Derived.Test.YtjdpolnakhmkmaaM1
import Derived.Test.YtjdpolnakhmkmaaM2
set_option linter.unusedVariables false
set_option linter.unusedSimpArgs false
set_option maxRecDepth 4000
namespace Go.Proofs.Ytjdpolnakhmkmaa
open Go Go.Proofs Go.Sep
set_option maxHeartbeats 1000000 in
/-- spec.HaveSameKey -/
theorem m_spec_HaveSameKey_ok (u : Nat) (l0 : (List Relation)) (a1 : Fact) (b2 : Fact) (r : Bool) (H : m_spec_HaveSameKey u l0 a1 b2 = some r) : FnV prg 161 [(sl tRelation l0), (.g (tFact.enc a1)), (.g (tFact.enc b2))] (boolA r) := by
  unfold m_spec_HaveSameKey at H
  refine fnV_of_T Try.func161 rfl rfl (Nat.le_of_ble_eq_true rfl) ?_
  refine te [(0, (sl tRelation l0)), (1, (.g (tFact.enc a1))), (2, (.g (tFact.enc b2)))] rfl ?_
  refine sr ?_
  refine TO_cons rfl (TOp_box rfl (boxAll rfl) rfl rfl ?_)
  refine TO_cons rfl (TOp_box rfl (boxAll rfl) rfl rfl ?_)
  refine Tp rfl rfl (pur_assign rfl) rfl ?_
  refine TO_nil ?_
  refine te [(0, (sl tRelation l0)), (4, (.b 0 0)), (5, (.b 1 0))] rfl ?_
  obtain ⟨t6_1, J_1, H_2⟩ := bind_inv H
  refine T_cutX (fun x => t6_1 = x) (fun (t6_1 : Bool) => [(6, (boolA t6_1))]) (fun (t6_1 : Bool) => []) ?_ ?_
  ·replace H := J_1
   obtain ⟨r_3, h_4, H⟩ := bind_inv H
   refine T_caseB r_3 (fun g_5 => ?_) (fun g_5 => ?_)
   ·replace H := cond_t g_5 H
    obtain ⟨r_6, h_7, H⟩ := bind_inv H
    refine T_caseB r_6 (fun g_8 => ?_) (fun g_8 => ?_)
    ·replace H := cond_t g_8 H
     refine T_caseB (decide (a1.relation = b2.relation)) (fun g_9 => ?_) (fun g_9 => ?_)
     ·replace H := cond_t g_9 H
      obtain ⟨r_10, h_11, H⟩ := bind_inv H
      obtain ⟨r_12, h_13, H⟩ := bind_inv H
      obtain ⟨r_14, h_15, H⟩ := bind_inv H
      refine T_regionP mixed ?_
      refine TA_have 5 #[true, true, true, true, true, true, true, true, true, true, true, true, true, true, true, true, true, true, true, true, true, false, false, false, false, false] [(22, (boolA true)), (25, (sl tInt r_10)), (26, (sl tRelation l0)), (27, (.g (tFact.enc b2)))] [.box [(intA a1.relation), (sl tInt a1.values)], .box [(intA b2.relation), (sl tInt b2.values)]] ?_ (fun hj0_1 => ?_)
      ·skip
       refine TA_allG [21] (by kernel_rfl) (by decide) ⟨⟨_, rfl, goG rfl rfl (by decide) rfl, (TOp_callV (call_static ent178 rfl) (m_spec_KeyOf_ok u _ _ _ h_13) rfl rfl rfl ?_)⟩, trivial⟩
       refine TA_listed #[true, true, true, true, true, true, true, true, true, true, true, true, true, true, true, true, true, true, true, true, true, true, false, false, false, false] rfl ?_
       refine TA_allG [22] (by kernel_rfl) (by decide) ⟨⟨_, rfl, goG rfl rfl (by decide) rfl, (TOp_callV (call_static ent148 rfl) (m_spec_l3Ints_ok u _ _ _ h_15) rfl rfl rfl ?_)⟩, trivial⟩
       refine TA_listed #[true, true, true, true, true, true, true, true, true, true, true, true, true, true, true, true, true, true, true, true, true, true, true, false, false, false] rfl ?_
       refine TA_allG [23] (by kernel_rfl) (by decide) ⟨⟨_, rfl, goG rfl rfl (by decide) rfl, (TOp_pure (pur_eql rfl rfl rfl) rfl ?_)⟩, trivial⟩
       refine TA_listed #[true, true, true, true, true, true, true, true, true, true, true, true, true, true, true, true, true, true, true, true, true, true, true, true, false, false] rfl ?_
       refine TA_allG [24] (by kernel_rfl) (by decide) ⟨⟨_, rfl, goN rfl, (TOp_pure (pur_pick (t := true) rfl rfl rfl) rfl ?_)⟩, trivial⟩
       refine TA_listed #[true, true, true, true, true, true, true, true, true, true, true, true, true, true, true, true, true, true, true, true, true, true, true, true, true, false] rfl ?_
       refine tf 25 rfl (purI_assign rfl) rfl rfl (by kernel_rfl) ?_
       refine TA_nil (by kernel_rfl) ?_
       exact joined (decide (r_14 = 0)) (wp 0 (lb rfl) rfl rfl rfl rfl rfl) (some_inj H).symm
      refine TA_have 6 #[true, true, true, true, true, true, true, true, true, true, true, true, true, true, true, true, true, true, false, true, true, false, false, false, false, false] [(22, (boolA true)), (23, (sl tRelation l0)), (24, (.g (tFact.enc a1))), (26, (sl tRelation l0)), (27, (.g (tFact.enc b2)))] [.box [(intA a1.relation), (sl tInt a1.values)], .box [(intA b2.relation), (sl tInt b2.values)]] ?_ (fun hj1_1 => ?_)
      ·skip
       refine TA_allG [18] (by kernel_rfl) (by decide) ⟨⟨_, rfl, goG rfl rfl (by decide) rfl, (TOp_callV (call_static ent178 rfl) (m_spec_KeyOf_ok u _ _ _ h_11) rfl rfl rfl ?_)⟩, trivial⟩
       refine TA_listed #[true, true, true, true, true, true, true, true, true, true, true, true, true, true, true, true, true, true, true, true, true, false, false, false, false, false] rfl ?_
       exact tj hj0_1 rfl (wp 2 (lb rfl) rfl rfl rfl rfl rfl)
      refine TA_have 13 #[true, true, true, true, true, true, true, true, true, true, true, true, true, false, false, false, false, false, false, false, false, false, false, false, false, false] [(0, (sl tRelation l0)), (4, (.b 0 0)), (5, (.b 1 0)), (15, (boolA true)), (17, (intA a1.relation)), (19, (intA b2.relation))] [.box [(intA a1.relation), (sl tInt a1.values)], .box [(intA b2.relation), (sl tInt b2.values)]] ?_ (fun hj2_1 => ?_)
      ·skip
       refine TA_allG [13] (by kernel_rfl) (by decide) ⟨⟨_, rfl, goG rfl rfl (by decide) rfl, (TOp_pure (pur_eql rfl rfl rfl) rfl ?_)⟩, trivial⟩
       refine TA_listed #[true, true, true, true, true, true, true, true, true, true, true, true, true, true, false, false, false, false, false, false, false, false, false, false, false, false] rfl ?_
       refine TA_allG [14] (by kernel_rfl) (by decide) ⟨⟨_, rfl, goN rfl, (TOp_pure (pur_pick (t := true) rfl rfl rfl) rfl ?_)⟩, trivial⟩
       refine TA_listed #[true, true, true, true, true, true, true, true, true, true, true, true, true, true, true, false, false, false, false, false, false, false, false, false, false, false] rfl ?_
       refine tf 15 rfl (purI_move rfl) rfl rfl (by kernel_rfl) ?_
       refine TA_bool 22 g_9 rfl ?_
       refine TA_firstG 16 #[true, true, true, true, true, true, true, true, true, true, true, true, true, true, true, true, true, false, false, false, false, false, false, false, false, false] rfl (purI_move rfl) rfl rfl (by decide) rfl rfl rfl (by kernel_rfl) (by kernel_rfl) (by kernel_rfl) ?_
       refine TA_firstG 19 #[true, true, true, true, true, true, true, true, true, true, true, true, true, true, true, true, true, false, false, true, false, false, false, false, false, false] rfl (purI_move rfl) rfl rfl (by decide) rfl rfl rfl (by kernel_rfl) (by kernel_rfl) (by kernel_rfl) ?_
       refine TA_allG [17, 20] (by kernel_rfl) (by decide) ⟨?_, ?_, trivial⟩
       ·skip
        refine ⟨_, rfl, goG rfl rfl (by decide) rfl, (TOp_pure (pur_ldK_b agg65 rfl rfl (lb rfl) rfl) rfl ?_)⟩
        refine TA_listed #[true, true, true, true, true, true, true, true, true, true, true, true, true, true, true, true, true, true, false, true, false, false, false, false, false, false] rfl ?_
        refine TA_allG [18, 20] (by kernel_rfl) (by decide) ⟨?_, ?_, trivial⟩
        ·skip
         refine ⟨_, rfl, goG rfl rfl (by decide) rfl, (TOp_callV (call_static ent178 rfl) (m_spec_KeyOf_ok u _ _ _ h_11) rfl rfl rfl ?_)⟩
         refine TA_listed #[true, true, true, true, true, true, true, true, true, true, true, true, true, true, true, true, true, true, true, true, false, false, false, false, false, false] rfl ?_
         refine TA_allG [20] (by kernel_rfl) (by decide) ⟨⟨_, rfl, goG rfl rfl (by decide) rfl, (TOp_pure (pur_ldK_b agg65 rfl rfl (lb rfl) rfl) rfl ?_)⟩, trivial⟩
         refine TA_listed #[true, true, true, true, true, true, true, true, true, true, true, true, true, true, true, true, true, true, true, true, true, false, false, false, false, false] rfl ?_
         exact tj hj0_1 rfl (wp 2 (lb rfl) rfl rfl rfl rfl rfl)
        ·skip
         refine ⟨_, rfl, goG rfl rfl (by decide) rfl, (TOp_pure (pur_ldK_b agg65 rfl rfl (lb rfl) rfl) rfl ?_)⟩
         refine TA_listed #[true, true, true, true, true, true, true, true, true, true, true, true, true, true, true, true, true, true, false, true, true, false, false, false, false, false] rfl ?_
         exact tj hj1_1 rfl (wp 2 (lb rfl) rfl rfl rfl rfl rfl)
       ·skip
        refine ⟨_, rfl, goG rfl rfl (by decide) rfl, (TOp_pure (pur_ldK_b agg65 rfl rfl (lb rfl) rfl) rfl ?_)⟩
        refine TA_listed #[true, true, true, true, true, true, true, true, true, true, true, true, true, true, true, true, true, false, false, true, true, false, false, false, false, false] rfl ?_
        refine TA_allG [17] (by kernel_rfl) (by decide) ⟨⟨_, rfl, goG rfl rfl (by decide) rfl, (TOp_pure (pur_ldK_b agg65 rfl rfl (lb rfl) rfl) rfl ?_)⟩, trivial⟩
        refine TA_listed #[true, true, true, true, true, true, true, true, true, true, true, true, true, true, true, true, true, true, false, true, true, false, false, false, false, false] rfl ?_
        exact tj hj1_1 rfl (wp 2 (lb rfl) rfl rfl rfl rfl rfl)
      refine tf 0 rfl (purI_move rfl) rfl rfl (by kernel_rfl) ?_
      refine TA_allG [1] (by kernel_rfl) (by decide) ⟨⟨_, rfl, goN rfl, (TOp_pure (pur_ldK_b agg65 rfl rfl (lb rfl) rfl) rfl ?_)⟩, trivial⟩
      refine TA_listed #[true, true, false, false, false, false, false, false, false, false, false, false, false, false, false, false, false, false, false, false, false, false, false, false, false, false] rfl ?_
      refine TA_allG [2] (by kernel_rfl) (by decide) ⟨⟨_, rfl, goN rfl, (TOp_callV (call_static ent123 rfl) (m_spec_IsValidFact_ok u _ _ _ h_4) rfl rfl rfl ?_)⟩, trivial⟩
      refine TA_listed #[true, true, true, false, false, false, false, false, false, false, false, false, false, false, false, false, false, false, false, false, false, false, false, false, false, false] rfl ?_
      refine tf 3 rfl (purI_move rfl) rfl rfl (by kernel_rfl) ?_
      refine TA_bool 10 g_5 rfl ?_
      refine TA_firstG 4 #[true, true, true, true, true, false, false, false, false, false, false, false, false, false, false, false, false, false, false, false, false, false, false, false, false, false] rfl (purI_move rfl) rfl rfl (by decide) rfl rfl rfl (by kernel_rfl) (by kernel_rfl) (by kernel_rfl) ?_
      refine TA_allG [5] (by kernel_rfl) (by decide) ⟨⟨_, rfl, goG rfl rfl (by decide) rfl, (TOp_pure (pur_ldK_b agg65 rfl rfl (lb rfl) rfl) rfl ?_)⟩, trivial⟩
      refine TA_listed #[true, true, true, true, true, true, false, false, false, false, false, false, false, false, false, false, false, false, false, false, false, false, false, false, false, false] rfl ?_
      refine TA_allG [6] (by kernel_rfl) (by decide) ⟨⟨_, rfl, goG rfl rfl (by decide) rfl, (TOp_callV (call_static ent123 rfl) (m_spec_IsValidFact_ok u _ _ _ h_7) rfl rfl rfl ?_)⟩, trivial⟩
      refine TA_listed #[true, true, true, true, true, true, true, false, false, false, false, false, false, false, false, false, false, false, false, false, false, false, false, false, false, false] rfl ?_
      refine TA_allG [7] (by kernel_rfl) (by decide) ⟨⟨_, rfl, goN rfl, (TOp_pure (pur_pick (t := true) rfl rfl rfl) rfl ?_)⟩, trivial⟩
      refine TA_listed #[true, true, true, true, true, true, true, true, false, false, false, false, false, false, false, false, false, false, false, false, false, false, false, false, false, false] rfl ?_
      refine tf 8 rfl (purI_move rfl) rfl rfl (by kernel_rfl) ?_
      refine TA_bool 15 g_8 rfl ?_
      refine tae [(0, (sl tRelation l0)), (4, (.b 0 0)), (5, (.b 1 0)), (15, (boolA true))] rfl ?_
      refine TA_firstG 9 #[true, true, true, true, true, true, true, true, true, true, false, false, false, false, false, false, false, false, false, false, false, false, false, false, false, false] rfl (purI_fa_b fld65_0 rfl rfl) rfl rfl (by decide) rfl rfl rfl (by kernel_rfl) (by kernel_rfl) (by kernel_rfl) ?_
      refine TA_firstG 11 #[true, true, true, true, true, true, true, true, true, true, false, true, false, false, false, false, false, false, false, false, false, false, false, false, false, false] rfl (purI_fa_b fld65_0 rfl rfl) rfl rfl (by decide) rfl rfl rfl (by kernel_rfl) (by kernel_rfl) (by kernel_rfl) ?_
      refine TA_allG [10, 12] (by kernel_rfl) (by decide) ⟨?_, ?_, trivial⟩
      ·skip
       refine ⟨_, rfl, goG rfl rfl (by decide) rfl, (TOp_pure (pur_ld_b one3 rfl rfl rfl rfl) rfl ?_)⟩
       refine TA_listed #[true, true, true, true, true, true, true, true, true, true, true, true, false, false, false, false, false, false, false, false, false, false, false, false, false, false] rfl ?_
       refine TA_allG [12] (by kernel_rfl) (by decide) ⟨⟨_, rfl, goG rfl rfl (by decide) rfl, (TOp_pure (pur_ld_b one3 rfl rfl rfl rfl) rfl ?_)⟩, trivial⟩
       refine TA_listed #[true, true, true, true, true, true, true, true, true, true, true, true, true, false, false, false, false, false, false, false, false, false, false, false, false, false] rfl ?_
       exact tj hj2_1 rfl (wp 2 (lb rfl) rfl rfl rfl rfl rfl)
      ·skip
       refine ⟨_, rfl, goG rfl rfl (by decide) rfl, (TOp_pure (pur_ld_b one3 rfl rfl rfl rfl) rfl ?_)⟩
       refine TA_listed #[true, true, true, true, true, true, true, true, true, true, false, true, true, false, false, false, false, false, false, false, false, false, false, false, false, false] rfl ?_
       refine TA_allG [10] (by kernel_rfl) (by decide) ⟨⟨_, rfl, goG rfl rfl (by decide) rfl, (TOp_pure (pur_ld_b one3 rfl rfl rfl rfl) rfl ?_)⟩, trivial⟩
       refine TA_listed #[true, true, true, true, true, true, true, true, true, true, true, true, true, false, false, false, false, false, false, false, false, false, false, false, false, false] rfl ?_
       exact tj hj2_1 rfl (wp 2 (lb rfl) rfl rfl rfl rfl rfl)
     ·replace H := cond_f g_9 H
      refine T_regionP mixed ?_
      refine TA_have 13 #[true, true, true, true, true, true, true, true, true, true, true, true, true, false, false, false, false, false, false, false, false, false, false, false, false, false] [(0, (sl tRelation l0)), (4, (.b 0 0)), (5, (.b 1 0)), (15, (boolA true)), (17, (intA a1.relation)), (19, (intA b2.relation))] [.box [(intA a1.relation), (sl tInt a1.values)], .box [(intA b2.relation), (sl tInt b2.values)]] ?_ (fun hj0_1 => ?_)
      ·skip
       refine TA_allG [13] (by kernel_rfl) (by decide) ⟨⟨_, rfl, goG rfl rfl (by decide) rfl, (TOp_pure (pur_eql rfl rfl rfl) rfl ?_)⟩, trivial⟩
       refine TA_listed #[true, true, true, true, true, true, true, true, true, true, true, true, true, true, false, false, false, false, false, false, false, false, false, false, false, false] rfl ?_
       refine TA_allG [14] (by kernel_rfl) (by decide) ⟨⟨_, rfl, goN rfl, (TOp_pure (pur_pick (t := true) rfl rfl rfl) rfl ?_)⟩, trivial⟩
       refine TA_listed #[true, true, true, true, true, true, true, true, true, true, true, true, true, true, true, false, false, false, false, false, false, false, false, false, false, false] rfl ?_
       refine tf 15 rfl (purI_move rfl) rfl rfl (by kernel_rfl) ?_
       refine TA_bool 22 g_9 rfl ?_
       refine TA_off 16 #[true, true, true, true, true, true, true, true, true, true, true, true, true, true, true, true, true, false, false, false, false, false, false, false, false, false] rfl rfl rfl (by decide) rfl rfl rfl rfl (by kernel_rfl) (by kernel_rfl) (by kernel_rfl) ?_
       refine TA_off 17 #[true, true, true, true, true, true, true, true, true, true, true, true, true, true, true, true, true, true, false, false, false, false, false, false, false, false] rfl rfl rfl (by decide) rfl rfl rfl rfl (by kernel_rfl) (by kernel_rfl) (by kernel_rfl) ?_
       refine TA_off 18 #[true, true, true, true, true, true, true, true, true, true, true, true, true, true, true, true, true, true, true, false, false, false, false, false, false, false] rfl rfl rfl (by decide) rfl rfl rfl rfl (by kernel_rfl) (by kernel_rfl) (by kernel_rfl) ?_
       refine TA_off 19 #[true, true, true, true, true, true, true, true, true, true, true, true, true, true, true, true, true, true, true, true, false, false, false, false, false, false] rfl rfl rfl (by decide) rfl rfl rfl rfl (by kernel_rfl) (by kernel_rfl) (by kernel_rfl) ?_
       refine TA_off 20 #[true, true, true, true, true, true, true, true, true, true, true, true, true, true, true, true, true, true, true, true, true, false, false, false, false, false] rfl rfl rfl (by decide) rfl rfl rfl rfl (by kernel_rfl) (by kernel_rfl) (by kernel_rfl) ?_
       refine TA_off 21 #[true, true, true, true, true, true, true, true, true, true, true, true, true, true, true, true, true, true, true, true, true, true, false, false, false, false] rfl rfl rfl (by decide) rfl rfl rfl rfl (by kernel_rfl) (by kernel_rfl) (by kernel_rfl) ?_
       refine TA_off 22 #[true, true, true, true, true, true, true, true, true, true, true, true, true, true, true, true, true, true, true, true, true, true, true, false, false, false] rfl rfl rfl (by decide) rfl rfl rfl rfl (by kernel_rfl) (by kernel_rfl) (by kernel_rfl) ?_
       refine TA_off 23 #[true, true, true, true, true, true, true, true, true, true, true, true, true, true, true, true, true, true, true, true, true, true, true, true, false, false] rfl rfl rfl (by decide) rfl rfl rfl rfl (by kernel_rfl) (by kernel_rfl) (by kernel_rfl) ?_
       refine TA_allG [24] (by kernel_rfl) (by decide) ⟨⟨_, rfl, goN rfl, (TOp_pure (pur_pick (t := false) rfl rfl rfl) rfl ?_)⟩, trivial⟩
       refine TA_listed #[true, true, true, true, true, true, true, true, true, true, true, true, true, true, true, true, true, true, true, true, true, true, true, true, true, false] rfl ?_
       refine tf 25 rfl (purI_assign rfl) rfl rfl (by kernel_rfl) ?_
       refine tae [(6, (boolA false))] rfl ?_
       refine TA_nil (by kernel_rfl) ?_
       exact joined false (wp 0 (lb rfl) rfl rfl rfl rfl rfl) (some_inj H).symm
      refine tf 0 rfl (purI_move rfl) rfl rfl (by kernel_rfl) ?_
      refine TA_allG [1] (by kernel_rfl) (by decide) ⟨⟨_, rfl, goN rfl, (TOp_pure (pur_ldK_b agg65 rfl rfl (lb rfl) rfl) rfl ?_)⟩, trivial⟩
      refine TA_listed #[true, true, false, false, false, false, false, false, false, false, false, false, false, false, false, false, false, false, false, false, false, false, false, false, false, false] rfl ?_
      refine TA_allG [2] (by kernel_rfl) (by decide) ⟨⟨_, rfl, goN rfl, (TOp_callV (call_static ent123 rfl) (m_spec_IsValidFact_ok u _ _ _ h_4) rfl rfl rfl ?_)⟩, trivial⟩
      refine TA_listed #[true, true, true, false, false, false, false, false, false, false, false, false, false, false, false, false, false, false, false, false, false, false, false, false, false, false] rfl ?_
      refine tf 3 rfl (purI_move rfl) rfl rfl (by kernel_rfl) ?_
      refine TA_bool 10 g_5 rfl ?_
      refine TA_firstG 4 #[true, true, true, true, true, false, false, false, false, false, false, false, false, false, false, false, false, false, false, false, false, false, false, false, false, false] rfl (purI_move rfl) rfl rfl (by decide) rfl rfl rfl (by kernel_rfl) (by kernel_rfl) (by kernel_rfl) ?_
      refine TA_allG [5] (by kernel_rfl) (by decide) ⟨⟨_, rfl, goG rfl rfl (by decide) rfl, (TOp_pure (pur_ldK_b agg65 rfl rfl (lb rfl) rfl) rfl ?_)⟩, trivial⟩
      refine TA_listed #[true, true, true, true, true, true, false, false, false, false, false, false, false, false, false, false, false, false, false, false, false, false, false, false, false, false] rfl ?_
      refine TA_allG [6] (by kernel_rfl) (by decide) ⟨⟨_, rfl, goG rfl rfl (by decide) rfl, (TOp_callV (call_static ent123 rfl) (m_spec_IsValidFact_ok u _ _ _ h_7) rfl rfl rfl ?_)⟩, trivial⟩
      refine TA_listed #[true, true, true, true, true, true, true, false, false, false, false, false, false, false, false, false, false, false, false, false, false, false, false, false, false, false] rfl ?_
      refine TA_allG [7] (by kernel_rfl) (by decide) ⟨⟨_, rfl, goN rfl, (TOp_pure (pur_pick (t := true) rfl rfl rfl) rfl ?_)⟩, trivial⟩
      refine TA_listed #[true, true, true, true, true, true, true, true, false, false, false, false, false, false, false, false, false, false, false, false, false, false, false, false, false, false] rfl ?_
      refine tf 8 rfl (purI_move rfl) rfl rfl (by kernel_rfl) ?_
      refine TA_bool 15 g_8 rfl ?_
      refine tae [(0, (sl tRelation l0)), (4, (.b 0 0)), (5, (.b 1 0)), (15, (boolA true))] rfl ?_
      refine TA_firstG 9 #[true, true, true, true, true, true, true, true, true, true, false, false, false, false, false, false, false, false, false, false, false, false, false, false, false, false] rfl (purI_fa_b fld65_0 rfl rfl) rfl rfl (by decide) rfl rfl rfl (by kernel_rfl) (by kernel_rfl) (by kernel_rfl) ?_
      refine TA_firstG 11 #[true, true, true, true, true, true, true, true, true, true, false, true, false, false, false, false, false, false, false, false, false, false, false, false, false, false] rfl (purI_fa_b fld65_0 rfl rfl) rfl rfl (by decide) rfl rfl rfl (by kernel_rfl) (by kernel_rfl) (by kernel_rfl) ?_
      refine TA_allG [10, 12] (by kernel_rfl) (by decide) ⟨?_, ?_, trivial⟩
      ·skip
       refine ⟨_, rfl, goG rfl rfl (by decide) rfl, (TOp_pure (pur_ld_b one3 rfl rfl rfl rfl) rfl ?_)⟩
       refine TA_listed #[true, true, true, true, true, true, true, true, true, true, true, true, false, false, false, false, false, false, false, false, false, false, false, false, false, false] rfl ?_
       refine TA_allG [12] (by kernel_rfl) (by decide) ⟨⟨_, rfl, goG rfl rfl (by decide) rfl, (TOp_pure (pur_ld_b one3 rfl rfl rfl rfl) rfl ?_)⟩, trivial⟩
       refine TA_listed #[true, true, true, true, true, true, true, true, true, true, true, true, true, false, false, false, false, false, false, false, false, false, false, false, false, false] rfl ?_
       exact tj hj0_1 rfl (wp 2 (lb rfl) rfl rfl rfl rfl rfl)
      ·skip
       refine ⟨_, rfl, goG rfl rfl (by decide) rfl, (TOp_pure (pur_ld_b one3 rfl rfl rfl rfl) rfl ?_)⟩
       refine TA_listed #[true, true, true, true, true, true, true, true, true, true, false, true, true, false, false, false, false, false, false, false, false, false, false, false, false, false] rfl ?_
       refine TA_allG [10] (by kernel_rfl) (by decide) ⟨⟨_, rfl, goG rfl rfl (by decide) rfl, (TOp_pure (pur_ld_b one3 rfl rfl rfl rfl) rfl ?_)⟩, trivial⟩
       refine TA_listed #[true, true, true, true, true, true, true, true, true, true, true, true, true, false, false, false, false, false, false, false, false, false, false, false, false, false] rfl ?_
       exact tj hj0_1 rfl (wp 2 (lb rfl) rfl rfl rfl rfl rfl)
    ·replace H := cond_f g_8 H
     refine T_regionP mixed ?_
     refine tf 0 rfl (purI_move rfl) rfl rfl (by kernel_rfl) ?_
     refine TA_allG [1] (by kernel_rfl) (by decide) ⟨⟨_, rfl, goN rfl, (TOp_pure (pur_ldK_b agg65 rfl rfl (lb rfl) rfl) rfl ?_)⟩, trivial⟩
     refine TA_listed #[true, true, false, false, false, false, false, false, false, false, false, false, false, false, false, false, false, false, false, false, false, false, false, false, false, false] rfl ?_
     refine TA_allG [2] (by kernel_rfl) (by decide) ⟨⟨_, rfl, goN rfl, (TOp_callV (call_static ent123 rfl) (m_spec_IsValidFact_ok u _ _ _ h_4) rfl rfl rfl ?_)⟩, trivial⟩
     refine TA_listed #[true, true, true, false, false, false, false, false, false, false, false, false, false, false, false, false, false, false, false, false, false, false, false, false, false, false] rfl ?_
     refine tf 3 rfl (purI_move rfl) rfl rfl (by kernel_rfl) ?_
     refine TA_bool 10 g_5 rfl ?_
     refine TA_firstG 4 #[true, true, true, true, true, false, false, false, false, false, false, false, false, false, false, false, false, false, false, false, false, false, false, false, false, false] rfl (purI_move rfl) rfl rfl (by decide) rfl rfl rfl (by kernel_rfl) (by kernel_rfl) (by kernel_rfl) ?_
     refine TA_allG [5] (by kernel_rfl) (by decide) ⟨⟨_, rfl, goG rfl rfl (by decide) rfl, (TOp_pure (pur_ldK_b agg65 rfl rfl (lb rfl) rfl) rfl ?_)⟩, trivial⟩
     refine TA_listed #[true, true, true, true, true, true, false, false, false, false, false, false, false, false, false, false, false, false, false, false, false, false, false, false, false, false] rfl ?_
     refine TA_allG [6] (by kernel_rfl) (by decide) ⟨⟨_, rfl, goG rfl rfl (by decide) rfl, (TOp_callV (call_static ent123 rfl) (m_spec_IsValidFact_ok u _ _ _ h_7) rfl rfl rfl ?_)⟩, trivial⟩
     refine TA_listed #[true, true, true, true, true, true, true, false, false, false, false, false, false, false, false, false, false, false, false, false, false, false, false, false, false, false] rfl ?_
     refine TA_allG [7] (by kernel_rfl) (by decide) ⟨⟨_, rfl, goN rfl, (TOp_pure (pur_pick (t := true) rfl rfl rfl) rfl ?_)⟩, trivial⟩
     refine TA_listed #[true, true, true, true, true, true, true, true, false, false, false, false, false, false, false, false, false, false, false, false, false, false, false, false, false, false] rfl ?_
     refine tf 8 rfl (purI_move rfl) rfl rfl (by kernel_rfl) ?_
     refine TA_bool 15 g_8 rfl ?_
     refine tae [(0, (sl tRelation l0)), (4, (.b 0 0)), (5, (.b 1 0)), (15, (boolA false))] rfl ?_
     refine TA_off 9 #[true, true, true, true, true, true, true, true, true, true, false, false, false, false, false, false, false, false, false, false, false, false, false, false, false, false] rfl rfl rfl (by decide) rfl rfl rfl rfl (by kernel_rfl) (by kernel_rfl) (by kernel_rfl) ?_
     refine TA_off 10 #[true, true, true, true, true, true, true, true, true, true, true, false, false, false, false, false, false, false, false, false, false, false, false, false, false, false] rfl rfl rfl (by decide) rfl rfl rfl rfl (by kernel_rfl) (by kernel_rfl) (by kernel_rfl) ?_
     refine TA_off 11 #[true, true, true, true, true, true, true, true, true, true, true, true, false, false, false, false, false, false, false, false, false, false, false, false, false, false] rfl rfl rfl (by decide) rfl rfl rfl rfl (by kernel_rfl) (by kernel_rfl) (by kernel_rfl) ?_
     refine TA_off 12 #[true, true, true, true, true, true, true, true, true, true, true, true, true, false, false, false, false, false, false, false, false, false, false, false, false, false] rfl rfl rfl (by decide) rfl rfl rfl rfl (by kernel_rfl) (by kernel_rfl) (by kernel_rfl) ?_
     refine TA_off 13 #[true, true, true, true, true, true, true, true, true, true, true, true, true, true, false, false, false, false, false, false, false, false, false, false, false, false] rfl rfl rfl (by decide) rfl rfl rfl rfl (by kernel_rfl) (by kernel_rfl) (by kernel_rfl) ?_
     refine TA_allG [14] (by kernel_rfl) (by decide) ⟨⟨_, rfl, goN rfl, (TOp_pure (pur_pick (t := false) rfl rfl rfl) rfl ?_)⟩, trivial⟩
     refine TA_listed #[true, true, true, true, true, true, true, true, true, true, true, true, true, true, true, false, false, false, false, false, false, false, false, false, false, false] rfl ?_
     refine tf 15 rfl (purI_move rfl) rfl rfl (by kernel_rfl) ?_
     refine tae [(0, (sl tRelation l0)), (4, (.b 0 0)), (5, (.b 1 0)), (22, (boolA false))] rfl ?_
     refine TA_off 16 #[true, true, true, true, true, true, true, true, true, true, true, true, true, true, true, true, true, false, false, false, false, false, false, false, false, false] rfl rfl rfl (by decide) rfl rfl rfl rfl (by kernel_rfl) (by kernel_rfl) (by kernel_rfl) ?_
     refine TA_off 17 #[true, true, true, true, true, true, true, true, true, true, true, true, true, true, true, true, true, true, false, false, false, false, false, false, false, false] rfl rfl rfl (by decide) rfl rfl rfl rfl (by kernel_rfl) (by kernel_rfl) (by kernel_rfl) ?_
     refine TA_off 18 #[true, true, true, true, true, true, true, true, true, true, true, true, true, true, true, true, true, true, true, false, false, false, false, false, false, false] rfl rfl rfl (by decide) rfl rfl rfl rfl (by kernel_rfl) (by kernel_rfl) (by kernel_rfl) ?_
     refine TA_off 19 #[true, true, true, true, true, true, true, true, true, true, true, true, true, true, true, true, true, true, true, true, false, false, false, false, false, false] rfl rfl rfl (by decide) rfl rfl rfl rfl (by kernel_rfl) (by kernel_rfl) (by kernel_rfl) ?_
     refine TA_off 20 #[true, true, true, true, true, true, true, true, true, true, true, true, true, true, true, true, true, true, true, true, true, false, false, false, false, false] rfl rfl rfl (by decide) rfl rfl rfl rfl (by kernel_rfl) (by kernel_rfl) (by kernel_rfl) ?_
     refine TA_off 21 #[true, true, true, true, true, true, true, true, true, true, true, true, true, true, true, true, true, true, true, true, true, true, false, false, false, false] rfl rfl rfl (by decide) rfl rfl rfl rfl (by kernel_rfl) (by kernel_rfl) (by kernel_rfl) ?_
     refine TA_off 22 #[true, true, true, true, true, true, true, true, true, true, true, true, true, true, true, true, true, true, true, true, true, true, true, false, false, false] rfl rfl rfl (by decide) rfl rfl rfl rfl (by kernel_rfl) (by kernel_rfl) (by kernel_rfl) ?_
     refine TA_off 23 #[true, true, true, true, true, true, true, true, true, true, true, true, true, true, true, true, true, true, true, true, true, true, true, true, false, false] rfl rfl rfl (by decide) rfl rfl rfl rfl (by kernel_rfl) (by kernel_rfl) (by kernel_rfl) ?_
     refine TA_allG [24] (by kernel_rfl) (by decide) ⟨⟨_, rfl, goN rfl, (TOp_pure (pur_pick (t := false) rfl rfl rfl) rfl ?_)⟩, trivial⟩
     refine TA_listed #[true, true, true, true, true, true, true, true, true, true, true, true, true, true, true, true, true, true, true, true, true, true, true, true, true, false] rfl ?_
     refine tf 25 rfl (purI_assign rfl) rfl rfl (by kernel_rfl) ?_
     refine tae [(6, (boolA false))] rfl ?_
     refine TA_nil (by kernel_rfl) ?_
     exact joined false (wp 0 (lb rfl) rfl rfl rfl rfl rfl) (some_inj H).symm
   ·replace H := cond_f g_5 H
    refine T_regionP mixed ?_
    refine tf 0 rfl (purI_move rfl) rfl rfl (by kernel_rfl) ?_
    refine TA_allG [1] (by kernel_rfl) (by decide) ⟨⟨_, rfl, goN rfl, (TOp_pure (pur_ldK_b agg65 rfl rfl (lb rfl) rfl) rfl ?_)⟩, trivial⟩
    refine TA_listed #[true, true, false, false, false, false, false, false, false, false, false, false, false, false, false, false, false, false, false, false, false, false, false, false, false, false] rfl ?_
    refine TA_allG [2] (by kernel_rfl) (by decide) ⟨⟨_, rfl, goN rfl, (TOp_callV (call_static ent123 rfl) (m_spec_IsValidFact_ok u _ _ _ h_4) rfl rfl rfl ?_)⟩, trivial⟩
    refine TA_listed #[true, true, true, false, false, false, false, false, false, false, false, false, false, false, false, false, false, false, false, false, false, false, false, false, false, false] rfl ?_
    refine tf 3 rfl (purI_move rfl) rfl rfl (by kernel_rfl) ?_
    refine TA_bool 10 g_5 rfl ?_
    refine TA_off 4 #[true, true, true, true, true, false, false, false, false, false, false, false, false, false, false, false, false, false, false, false, false, false, false, false, false, false] rfl rfl rfl (by decide) rfl rfl rfl rfl (by kernel_rfl) (by kernel_rfl) (by kernel_rfl) ?_
    refine TA_off 5 #[true, true, true, true, true, true, false, false, false, false, false, false, false, false, false, false, false, false, false, false, false, false, false, false, false, false] rfl rfl rfl (by decide) rfl rfl rfl rfl (by kernel_rfl) (by kernel_rfl) (by kernel_rfl) ?_
    refine TA_off 6 #[true, true, true, true, true, true, true, false, false, false, false, false, false, false, false, false, false, false, false, false, false, false, false, false, false, false] rfl rfl rfl (by decide) rfl rfl rfl rfl (by kernel_rfl) (by kernel_rfl) (by kernel_rfl) ?_
    refine TA_allG [7] (by kernel_rfl) (by decide) ⟨⟨_, rfl, goN rfl, (TOp_pure (pur_pick (t := false) rfl rfl rfl) rfl ?_)⟩, trivial⟩
    refine TA_listed #[true, true, true, true, true, true, true, true, false, false, false, false, false, false, false, false, false, false, false, false, false, false, false, false, false, false] rfl ?_
    refine tf 8 rfl (purI_move rfl) rfl rfl (by kernel_rfl) ?_
    refine tae [(0, (sl tRelation l0)), (4, (.b 0 0)), (5, (.b 1 0)), (15, (boolA false))] rfl ?_
    refine TA_off 9 #[true, true, true, true, true, true, true, true, true, true, false, false, false, false, false, false, false, false, false, false, false, false, false, false, false, false] rfl rfl rfl (by decide) rfl rfl rfl rfl (by kernel_rfl) (by kernel_rfl) (by kernel_rfl) ?_
    refine TA_off 10 #[true, true, true, true, true, true, true, true, true, true, true, false, false, false, false, false, false, false, false, false, false, false, false, false, false, false] rfl rfl rfl (by decide) rfl rfl rfl rfl (by kernel_rfl) (by kernel_rfl) (by kernel_rfl) ?_
    refine TA_off 11 #[true, true, true, true, true, true, true, true, true, true, true, true, false, false, false, false, false, false, false, false, false, false, false, false, false, false] rfl rfl rfl (by decide) rfl rfl rfl rfl (by kernel_rfl) (by kernel_rfl) (by kernel_rfl) ?_
    refine TA_off 12 #[true, true, true, true, true, true, true, true, true, true, true, true, true, false, false, false, false, false, false, false, false, false, false, false, false, false] rfl rfl rfl (by decide) rfl rfl rfl rfl (by kernel_rfl) (by kernel_rfl) (by kernel_rfl) ?_
    refine TA_off 13 #[true, true, true, true, true, true, true, true, true, true, true, true, true, true, false, false, false, false, false, false, false, false, false, false, false, false] rfl rfl rfl (by decide) rfl rfl rfl rfl (by kernel_rfl) (by kernel_rfl) (by kernel_rfl) ?_
    refine TA_allG [14] (by kernel_rfl) (by decide) ⟨⟨_, rfl, goN rfl, (TOp_pure (pur_pick (t := false) rfl rfl rfl) rfl ?_)⟩, trivial⟩
    refine TA_listed #[true, true, true, true, true, true, true, true, true, true, true, true, true, true, true, false, false, false, false, false, false, false, false, false, false, false] rfl ?_
    refine tf 15 rfl (purI_move rfl) rfl rfl (by kernel_rfl) ?_
    refine tae [(0, (sl tRelation l0)), (4, (.b 0 0)), (5, (.b 1 0)), (22, (boolA false))] rfl ?_
    refine TA_off 16 #[true, true, true, true, true, true, true, true, true, true, true, true, true, true, true, true, true, false, false, false, false, false, false, false, false, false] rfl rfl rfl (by decide) rfl rfl rfl rfl (by kernel_rfl) (by kernel_rfl) (by kernel_rfl) ?_
    refine TA_off 17 #[true, true, true, true, true, true, true, true, true, true, true, true, true, true, true, true, true, true, false, false, false, false, false, false, false, false] rfl rfl rfl (by decide) rfl rfl rfl rfl (by kernel_rfl) (by kernel_rfl) (by kernel_rfl) ?_
    refine TA_off 18 #[true, true, true, true, true, true, true, true, true, true, true, true, true, true, true, true, true, true, true, false, false, false, false, false, false, false] rfl rfl rfl (by decide) rfl rfl rfl rfl (by kernel_rfl) (by kernel_rfl) (by kernel_rfl) ?_
    refine TA_off 19 #[true, true, true, true, true, true, true, true, true, true, true, true, true, true, true, true, true, true, true, true, false, false, false, false, false, false] rfl rfl rfl (by decide) rfl rfl rfl rfl (by kernel_rfl) (by kernel_rfl) (by kernel_rfl) ?_
    refine TA_off 20 #[true, true, true, true, true, true, true, true, true, true, true, true, true, true, true, true, true, true, true, true, true, false, false, false, false, false] rfl rfl rfl (by decide) rfl rfl rfl rfl (by kernel_rfl) (by kernel_rfl) (by kernel_rfl) ?_
    refine TA_off 21 #[true, true, true, true, true, true, true, true, true, true, true, true, true, true, true, true, true, true, true, true, true, true, false, false, false, false] rfl rfl rfl (by decide) rfl rfl rfl rfl (by kernel_rfl) (by kernel_rfl) (by kernel_rfl) ?_
    refine TA_off 22 #[true, true, true, true, true, true, true, true, true, true, true, true, true, true, true, true, true, true, true, true, true, true, true, false, false, false] rfl rfl rfl (by decide) rfl rfl rfl rfl (by kernel_rfl) (by kernel_rfl) (by kernel_rfl) ?_
    refine TA_off 23 #[true, true, true, true, true, true, true, true, true, true, true, true, true, true, true, true, true, true, true, true, true, true, true, true, false, false] rfl rfl rfl (by decide) rfl rfl rfl rfl (by kernel_rfl) (by kernel_rfl) (by kernel_rfl) ?_
    refine TA_allG [24] (by kernel_rfl) (by decide) ⟨⟨_, rfl, goN rfl, (TOp_pure (pur_pick (t := false) rfl rfl rfl) rfl ?_)⟩, trivial⟩
    refine TA_listed #[true, true, true, true, true, true, true, true, true, true, true, true, true, true, true, true, true, true, true, true, true, true, true, true, true, false] rfl ?_
    refine tf 25 rfl (purI_assign rfl) rfl rfl (by kernel_rfl) ?_
    refine tae [(6, (boolA false))] rfl ?_
    refine TA_nil (by kernel_rfl) ?_
    exact joined false (wp 0 (lb rfl) rfl rfl rfl rfl rfl) (some_inj H).symm
  ·rintro _ rfl
   replace H := H_2
   refine te [(6, (boolA t6_1))] rfl ?_
   refine T_ret ?_
   obtain rfl := some_inj H
   refine end_ret (.tmp .nil) rfl rfl ⟨?_, rfl⟩
   rfl

set_option maxHeartbeats 1000000 in
/-- spec.BlockOf -/
theorem m_spec_BlockOf_own (u : Nat) (d0 : Database) (i1 : Int) (r : (List Int)) (H : m_spec_BlockOf u d0 i1 = some r) : FnO prg 110 [(.g (tDatabase.enc d0)), (intA i1)] (.m [0] 0 r.length tInt.k) [.row (flat tInt.own r)] := by
  unfold m_spec_BlockOf at H
  refine fnO_of_T Try.func110 rfl rfl (Nat.le_of_ble_eq_true rfl) ?_
  refine te [(0, (.g (tDatabase.enc d0))), (1, (intA i1))] rfl ?_
  refine sr ?_
  refine TO_cons rfl (TOp_box rfl (boxAll rfl) rfl rfl ?_)
  refine Tp rfl rfl (pur_assign rfl) rfl ?_
  refine TO_nil ?_
  refine te [(1, (intA i1)), (2, (.b 0 0))] rfl ?_
  refine sr ?_
  refine TO_cons rfl (TOp_lit (nn := 0) (k := 1) sl23 zero3 rfl rfl rfl rfl (by decide) ?_)
  refine TO_st (σ' := [.box [(sl tRelation d0.relations), (sl tFact d0.facts)], .row (flat tInt.enc ([] : (List Int)))]) rfl ?_
  refine Tp rfl rfl (pur_assign rfl) rfl ?_
  refine TO_nil ?_
  refine te [(1, (intA i1)), (2, (.b 0 0)), (5, (.m [1] 0 ([] : (List Int)).length tInt.k))] rfl ?_
  refine T_seq ?_
  refine sr ?_
  refine Tp rfl rfl (pur_assign rfl) rfl ?_
  refine TO_nil ?_
  refine te [(1, (intA i1)), (2, (.b 0 0)), (5, (.m [1] 0 ([] : (List Int)).length tInt.k)), (6, (intA 0))] rfl ?_
  obtain ⟨O1_, L1_, N1_⟩ := bind_inv H
  clear H
  obtain ⟨B1_, hb1, L1_⟩ := gen_whileF L1_
  refine T_block ?_
  refine T_loopX (fun k => fun (x_ : (List Int) × Int) => whileF B1_ k (x_.1, x_.2) = some O1_) (fun (x_ : (List Int) × Int) => [(1, (intA i1)), (2, (.b 0 0)), (5, (.m [1] 0 x_.1.length tInt.k)), (6, (intA x_.2))]) (fun (x_ : (List Int) × Int) => [.box [(sl tRelation d0.relations), (sl tFact d0.facts)], .row (flat tInt.enc x_.1)]) u (([] : (List Int)), 0) (wp 2 (lb rfl) rfl rfl rfl rfl rfl) L1_ ?_
  rintro _ ⟨out5, k6⟩ L1_
  obtain ⟨k1, rfl, C1_, H, K1_⟩ := while_step L1_
  rw [hb1] at H
  refine te [(1, (intA i1)), (2, (.b 0 0)), (5, (.m [1] 0 out5.length tInt.k)), (6, (intA k6))] rfl ?_
  refine T_st (σ' := [.box [(sl tRelation d0.relations), (sl tFact d0.facts)], .row (flat tInt.enc out5)]) rfl ?_
  refine T_seq ?_
  obtain ⟨t24_2, J_2, H_3⟩ := bind_inv H
  refine T_cutX (fun x => t24_2 = x) (fun (t24_2 : Bool) => [(1, (intA i1)), (2, (.b 0 0)), (5, (.m [1] 0 out5.length tInt.k)), (6, (intA k6)), (24, (boolA t24_2))]) (fun (t24_2 : Bool) => [.box [(sl tRelation d0.relations), (sl tFact d0.facts)], .row (flat tInt.enc out5)]) ?_ ?_
  ·replace H := J_2
   refine T_region ?_
   refine Tp rfl rfl (pur_move rfl) rfl ?_
   refine Tp rfl rfl (pur_fa_b fld48_1 rfl rfl) rfl ?_
   refine Tp rfl rfl (pur_ld_b one46 rfl rfl rfl rfl) rfl ?_
   refine Tp rfl rfl (pur_lenT (T := tFact) sl46 rfl rfl) rfl ?_
   refine Tp rfl rfl (pur_lss rfl rfl rfl) rfl ?_
   refine Tp rfl rfl (pur_move rfl) rfl ?_
   refine TO_split (t := decide (k6 < (d0.facts.length : Int))) 13 rfl (fun g_4 => ?_) (fun g_4 => ?_)
   ·replace H := cond_t g_4 H
    refine TO_on rfl rfl (by decide) rfl rfl (TOp_pure (pur_ldK_b agg48 rfl rfl (lb rfl) rfl) rfl ?_)
    obtain ⟨r_5, h_6, H⟩ := bind_inv H
    refine TO_on rfl rfl (by decide) rfl rfl (TOp_callV (call_static ent53 rfl) (m_spec_IsValidDatabase_ok u _ _ h_6) rfl rfl rfl ?_)
    refine Tp rfl rfl (pur_pick (t := true) rfl rfl rfl) rfl ?_
    refine Tp rfl rfl (pur_move rfl) rfl ?_
    refine TO_split (t := r_5) 17 rfl (fun g_7 => ?_) (fun g_7 => ?_)
    ·replace H := cond_t g_7 H
     refine TO_on rfl rfl (by decide) rfl rfl (TOp_pure (pur_move rfl) rfl ?_)
     refine TO_on rfl rfl (by decide) rfl rfl (TOp_pure (pur_fa_b fld48_1 rfl rfl) rfl ?_)
     refine TO_on rfl rfl (by decide) rfl rfl (TOp_pure (pur_ld_b one46 rfl rfl rfl rfl) rfl ?_)
     refine TO_on rfl rfl (by decide) rfl rfl (TOp_pure (pur_lenT (T := tFact) sl46 rfl rfl) rfl ?_)
     refine TO_fact (len_sl (T := tFact) (.tmp 10) rfl) (fun hl_8 => ?_)
     refine TO_on rfl rfl (by decide) rfl rfl (TOp_pure (pur_sub rfl rfl rfl (fits64 (by omega) (by omega))) rfl ?_)
     obtain ⟨r_9, h_10, H⟩ := bind_inv H
     refine TO_on rfl rfl (by decide) rfl rfl (TOp_callV (call_static ent137 rfl) (m_spec_l1In_ok _ _ _ _ h_10) rfl rfl rfl ?_)
     refine Tp rfl rfl (pur_pick (t := true) rfl rfl rfl) rfl ?_
     refine TO_nil ?_
     exact joined r_9 (wp 2 (lb rfl) rfl rfl rfl rfl rfl) (some_inj H).symm
    ·replace H := cond_f g_7 H
     refine TO_off rfl rfl (by decide) rfl rfl rfl ?_
     refine TO_off rfl rfl (by decide) rfl rfl rfl ?_
     refine TO_off rfl rfl (by decide) rfl rfl rfl ?_
     refine TO_off rfl rfl (by decide) rfl rfl rfl ?_
     refine TO_off rfl rfl (by decide) rfl rfl rfl ?_
     refine TO_off rfl rfl (by decide) rfl rfl rfl ?_
     refine Tp rfl rfl (pur_pick (t := false) rfl rfl rfl) rfl ?_
     refine TO_nil ?_
     exact joined false (wp 2 (lb rfl) rfl rfl rfl rfl rfl) (some_inj H).symm
   ·replace H := cond_f g_4 H
    refine TO_off rfl rfl (by decide) rfl rfl rfl ?_
    refine TO_off rfl rfl (by decide) rfl rfl rfl ?_
    refine Tp rfl rfl (pur_pick (t := false) rfl rfl rfl) rfl ?_
    refine Tp rfl rfl (pur_move rfl) rfl ?_
    refine TO_off rfl rfl (by decide) rfl rfl rfl ?_
    refine TO_off rfl rfl (by decide) rfl rfl rfl ?_
    refine TO_off rfl rfl (by decide) rfl rfl rfl ?_
    refine TO_off rfl rfl (by decide) rfl rfl rfl ?_
    refine toe [(1, (intA i1)), (2, (.b 0 0)), (5, (.m [1] 0 out5.length tInt.k)), (6, (intA k6)), (17, (boolA false)), (18, (.v undef)), (21, (.v undef))] rfl ?_
    refine TO_off rfl rfl (by decide) rfl rfl rfl ?_
    refine TO_off rfl rfl (by decide) rfl rfl rfl ?_
    refine Tp rfl rfl (pur_pick (t := false) rfl rfl rfl) rfl ?_
    refine TO_nil ?_
    exact joined false (wp 2 (lb rfl) rfl rfl rfl rfl rfl) (some_inj H).symm
  ·rintro _ rfl
   replace H := H_3
   refine te [(1, (intA i1)), (2, (.b 0 0)), (5, (.m [1] 0 out5.length tInt.k)), (6, (intA k6)), (24, (boolA t24_2))] rfl ?_
   refine T_cond (t := t24_2) rfl (fun c_11 => ?_) (fun c_11 => ?_)
   ·replace H := cond_t c_11 H
    refine T_skip ?_
    refine te [(1, (intA i1)), (2, (.b 0 0)), (5, (.m [1] 0 out5.length tInt.k)), (6, (intA k6))] rfl ?_
    refine T_seq ?_
    refine T_block ?_
    refine T_seq ?_
    refine T_regionD mixed (by kernel_rfl) ?_
    refine TQ_pure rfl (pur_fa_b fld48_0 rfl rfl) rfl ?_
    refine TQ_pure rfl (pur_ld_b one45 rfl rfl rfl rfl) rfl ?_
    refine TQ_pure rfl (pur_fa_b fld48_1 rfl rfl) rfl ?_
    refine TQ_pure rfl (pur_ld_b one46 rfl rfl rfl rfl) rfl ?_
    refine TQ_pure rfl (pur_move rfl) rfl ?_
    obtain ⟨v_12, h_13, H⟩ := bind_inv H
    obtain ⟨n_14, hz_15, hv_16⟩ := getI_inv h_13
    refine TQ_pure rfl (pur_ixT (T := tFact) sl46 rfl rfl hz_15 hv_16 rfl) rfl ?_
    refine TQ_pure rfl (pur_ldTK (T := tFact) (i := n_14) (off := 0) rfl agg65 rfl rfl hv_16 (by decide) rfl) rfl ?_
    refine TQ_pure rfl (pur_fa_b fld48_1 rfl rfl) rfl ?_
    refine tqe [(1, (intA i1)), (2, (.b 0 0)), (5, (.m [1] 0 out5.length tInt.k)), (6, (intA k6)), (28, (sl tRelation d0.relations)), (33, (.g (tFact.enc v_12))), (34, (.b 0 1))] rfl ?_
    refine TQ_pure rfl (pur_ld_b one46 rfl rfl rfl rfl) rfl ?_
    refine TQ_pure rfl (pur_move rfl) rfl ?_
    obtain ⟨v_17, h_18, H⟩ := bind_inv H
    obtain ⟨n_19, hz_20, hv_21⟩ := getI_inv h_18
    refine TQ_pure rfl (pur_ixT (T := tFact) sl46 rfl rfl hz_20 hv_21 rfl) rfl ?_
    refine TQ_pure rfl (pur_ldTK (T := tFact) (i := n_19) (off := 0) rfl agg65 rfl rfl hv_21 (by decide) rfl) rfl ?_
    obtain ⟨r_22, h_23, H⟩ := bind_inv H
    refine TQ_callV rfl (call_static ent161 rfl) (m_spec_HaveSameKey_ok u _ _ _ _ h_23) rfl rfl ?_
    refine TQ_nil ?_
    refine te [(1, (intA i1)), (2, (.b 0 0)), (5, (.m [1] 0 out5.length tInt.k)), (6, (intA k6)), (39, (boolA r_22))] rfl ?_
    refine T_cond (t := r_22) rfl (fun c_24 => ?_) (fun c_24 => ?_)
    ·replace H := cond_t c_24 H
     refine T_region ?_
     refine Tp rfl rfl (pur_move rfl) rfl ?_
     refine Tp rfl rfl (pur_move rfl) rfl ?_
     refine TO_cons rfl (TOp_lit (nn := 1) (k := 1) sl23 zero3 rfl rfl rfl rfl (by decide) ?_)
     refine TO_st (σ' := [.box [(sl tRelation d0.relations), (sl tFact d0.facts)], .row (flat tInt.enc out5), .row (flat tInt.enc ([k6] : (List Int)))]) rfl ?_
     obtain ⟨us_25, h_26, H⟩ := bind_inv H
     refine TO_cons rfl (TOp_appZ (T := tInt) (f := tInt.enc) (xs := out5) (ys := ([k6] : (List Int))) tInt.len sl23 zero3 rfl bytes3 (by decide) rfl rfl rfl rfl (src_mT (f := tInt.enc) tInt.len rfl rfl (flat_cell tInt _)) (flat_cell tInt _) h_26 (lb rfl) ?_)
     refine toe [(1, (intA i1)), (2, (.b 0 0)), (6, (intA k6)), (39, (boolA r_22)), (41, (intA k6)), (42, (.m [2] 0 ([k6] : (List Int)).length tInt.k)), (43, (.m [1] 0 us_25.length tInt.k))] rfl ?_
     refine TO_st (σ' := [.box [(sl tRelation d0.relations), (sl tFact d0.facts)], .row (flat tInt.enc us_25), .row (flat tInt.enc ([k6] : (List Int))), .dead]) rfl ?_
     refine Tp rfl rfl (pur_assign rfl) rfl ?_
     refine TO_nil ?_
     refine te [(1, (intA i1)), (2, (.b 0 0)), (5, (.m [1] 0 us_25.length tInt.k)), (6, (intA k6))] rfl ?_
     refine T_region ?_
     refine Tp rfl rfl (pur_move rfl) rfl ?_
     refine Tp rfl rfl (pur_wadd rfl rfl rfl) rfl ?_
     refine Tp rfl rfl (pur_assign rfl) rfl ?_
     refine TO_nil ?_
     obtain rfl := some_inj H
     exact again k1 (us_25, (w64 (k6 + 1))) (Nat.lt_succ_self _) (wp 2 (lb rfl) rfl rfl rfl rfl rfl) K1_
    ·replace H := cond_f c_24 H
     refine T_skip ?_
     refine te [(1, (intA i1)), (2, (.b 0 0)), (5, (.m [1] 0 out5.length tInt.k)), (6, (intA k6))] rfl ?_
     refine T_region ?_
     refine Tp rfl rfl (pur_move rfl) rfl ?_
     refine Tp rfl rfl (pur_wadd rfl rfl rfl) rfl ?_
     refine Tp rfl rfl (pur_assign rfl) rfl ?_
     refine TO_nil ?_
     obtain rfl := some_inj H
     exact again k1 (out5, (w64 (k6 + 1))) (Nat.lt_succ_self _) (wp 2 (lb rfl) rfl rfl rfl rfl rfl) K1_
   ·replace H := cond_f c_11 H
    refine T_exit ?_
    refine then_exit ?_
    refine then_exit ?_
    refine block_exit ?_
    obtain rfl := some_inj H
    obtain rfl := some_inj K1_
    replace H := onS_l N1_
    refine te [(5, (.m [1] 0 out5.length tInt.k))] rfl ?_
    refine sr ?_
    refine Tp rfl rfl (pur_move rfl) rfl ?_
    refine Tp rfl rfl (pur_assign rfl) rfl ?_
    refine TO_nil ?_
    refine te [(4, (.m [1] 0 out5.length tInt.k))] rfl ?_
    refine T_ret ?_
    obtain rfl := some_inj H
    exact end_pick (.tmp .nil) rfl [1] (by decide) rfl rfl rfl rfl rfl rfl
theorem m_spec_BlockOf_ok (u : Nat) (d0 : Database) (i1 : Int) (r : (List Int)) (H : m_spec_BlockOf u d0 i1 = some r) : FnV prg 110 [(.g (tDatabase.enc d0)), (intA i1)] (sl tInt r) := (m_spec_BlockOf_own u d0 i1 r H).frz (frzT (T := tInt) rfl)

set_option maxHeartbeats 1000000 in
/-- spec.Blocks -/
theorem m_spec_Blocks_own (u : Nat) (d0 : Database) (r : (List (List Int))) (H : m_spec_Blocks u d0 = some r) : FnO prg 46 [(.g (tDatabase.enc d0))] (.m [0] 0 r.length (tSl tInt).k) [.row (flat (tSl tInt).own r)] := by
  unfold m_spec_Blocks at H
  refine fnO_of_T Try.func46 rfl rfl (Nat.le_of_ble_eq_true rfl) ?_
  refine te [(0, (.g (tDatabase.enc d0)))] rfl ?_
  refine sr ?_
  refine TO_cons rfl (TOp_box rfl (boxAll rfl) rfl rfl ?_)
  refine Tp rfl rfl (pur_assign rfl) rfl ?_
  refine TO_nil ?_
  refine te [(1, (.b 0 0))] rfl ?_
  refine sr ?_
  refine TO_cons rfl (TOp_lit (nn := 0) (k := 1) sl53 zero23 rfl rfl rfl rfl (by decide) ?_)
  refine TO_st (σ' := [.box [(sl tRelation d0.relations), (sl tFact d0.facts)], .row (flat (tSl tInt).own ([] : (List (List Int))))]) rfl ?_
  refine Tp rfl rfl (pur_assign rfl) rfl ?_
  refine TO_nil ?_
  refine te [(1, (.b 0 0)), (3, (.m [1] 0 ([] : (List (List Int))).length (tSl tInt).k))] rfl ?_
  refine T_seq ?_
  refine sr ?_
  refine Tp rfl rfl (pur_assign rfl) rfl ?_
  refine TO_nil ?_
  refine te [(1, (.b 0 0)), (3, (.m [1] 0 ([] : (List (List Int))).length (tSl tInt).k)), (4, (intA 0))] rfl ?_
  obtain ⟨O1_, L1_, N1_⟩ := bind_inv H
  clear H
  obtain ⟨B1_, hb1, L1_⟩ := gen_whileF L1_
  refine T_block ?_
  refine T_loopX (fun k => fun (x_ : (List (List Int)) × Int) => whileF B1_ k (x_.1, x_.2) = some O1_) (fun (x_ : (List (List Int)) × Int) => [(1, (.b 0 0)), (3, (.m [1] 0 x_.1.length (tSl tInt).k)), (4, (intA x_.2))]) (fun (x_ : (List (List Int)) × Int) => [.box [(sl tRelation d0.relations), (sl tFact d0.facts)], .row (flat (tSl tInt).own x_.1)]) u (([] : (List (List Int))), 0) (wp 2 (lb rfl) rfl rfl rfl rfl rfl) L1_ ?_
  rintro _ ⟨out3, i4⟩ L1_
  obtain ⟨k1, rfl, C1_, H, K1_⟩ := while_step L1_
  rw [hb1] at H
  refine te [(1, (.b 0 0)), (3, (.m [1] 0 out3.length (tSl tInt).k)), (4, (intA i4))] rfl ?_
  refine T_st (σ' := [.box [(sl tRelation d0.relations), (sl tFact d0.facts)], .row (flat (tSl tInt).own out3)]) rfl ?_
  refine T_seq ?_
  obtain ⟨t15_2, J_2, H_3⟩ := bind_inv H
  refine T_cutX (fun x => t15_2 = x) (fun (t15_2 : Bool) => [(1, (.b 0 0)), (3, (.m [1] 0 out3.length (tSl tInt).k)), (4, (intA i4)), (15, (boolA t15_2))]) (fun (t15_2 : Bool) => [.box [(sl tRelation d0.relations), (sl tFact d0.facts)], .row (flat (tSl tInt).own out3)]) ?_ ?_
  ·replace H := J_2
   refine T_region ?_
   refine Tp rfl rfl (pur_move rfl) rfl ?_
   refine Tp rfl rfl (pur_fa_b fld48_1 rfl rfl) rfl ?_
   refine Tp rfl rfl (pur_ld_b one46 rfl rfl rfl rfl) rfl ?_
   refine Tp rfl rfl (pur_lenT (T := tFact) sl46 rfl rfl) rfl ?_
   refine Tp rfl rfl (pur_lss rfl rfl rfl) rfl ?_
   refine Tp rfl rfl (pur_move rfl) rfl ?_
   refine TO_split (t := decide (i4 < (d0.facts.length : Int))) 12 rfl (fun g_4 => ?_) (fun g_4 => ?_)
   ·replace H := cond_t g_4 H
    refine TO_on rfl rfl (by decide) rfl rfl (TOp_pure (pur_ldK_b agg48 rfl rfl (lb rfl) rfl) rfl ?_)
    obtain ⟨r_5, h_6, H⟩ := bind_inv H
    refine TO_on rfl rfl (by decide) rfl rfl (TOp_callV (call_static ent53 rfl) (m_spec_IsValidDatabase_ok u _ _ h_6) rfl rfl rfl ?_)
    refine Tp rfl rfl (pur_pick (t := true) rfl rfl rfl) rfl ?_
    refine TO_nil ?_
    exact joined r_5 (wp 2 (lb rfl) rfl rfl rfl rfl rfl) (some_inj H).symm
   ·replace H := cond_f g_4 H
    refine TO_off rfl rfl (by decide) rfl rfl rfl ?_
    refine TO_off rfl rfl (by decide) rfl rfl rfl ?_
    refine Tp rfl rfl (pur_pick (t := false) rfl rfl rfl) rfl ?_
    refine TO_nil ?_
    exact joined false (wp 2 (lb rfl) rfl rfl rfl rfl rfl) (some_inj H).symm
  ·rintro _ rfl
   replace H := H_3
   refine te [(1, (.b 0 0)), (3, (.m [1] 0 out3.length (tSl tInt).k)), (4, (intA i4)), (15, (boolA t15_2))] rfl ?_
   refine T_cond (t := t15_2) rfl (fun c_7 => ?_) (fun c_7 => ?_)
   ·replace H := cond_t c_7 H
    refine T_skip ?_
    refine te [(1, (.b 0 0)), (3, (.m [1] 0 out3.length (tSl tInt).k)), (4, (intA i4))] rfl ?_
    refine T_seq ?_
    refine T_block ?_
    refine sr ?_
    refine Tp rfl rfl (pur_ldK_b agg48 rfl rfl (lb rfl) rfl) rfl ?_
    refine Tp rfl rfl (pur_move rfl) rfl ?_
    obtain ⟨r_8, h_9, H⟩ := bind_inv H
    refine TO_cons rfl (TOp_callO (call_static ent110 rfl) rfl (m_spec_BlockOf_own u _ _ _ h_9) rfl rfl rfl ?_)
    refine toe [(1, (.b 0 0)), (3, (.m [1] 0 out3.length (tSl tInt).k)), (4, (intA i4)), (18, (.g (tDatabase.enc d0))), (19, (intA i4)), (20, (.m [2] 0 r_8.length tInt.k))] rfl ?_
    refine TO_st (σ' := [.box [(sl tRelation d0.relations), (sl tFact d0.facts)], .row (flat (tSl tInt).own out3), .row (flat tInt.own r_8)]) rfl ?_
    refine Tp rfl rfl (pur_assign rfl) rfl ?_
    refine TO_nil ?_
    refine te [(1, (.b 0 0)), (3, (.m [1] 0 out3.length (tSl tInt).k)), (4, (intA i4)), (5, (.m [2] 0 r_8.length tInt.k))] rfl ?_
    refine sr ?_
    refine Tp rfl rfl (pur_move rfl) rfl ?_
    obtain ⟨v_10, h_11, H⟩ := bind_inv H
    obtain ⟨n_12, hz_13, hv_14⟩ := getI_inv h_11
    refine Tp rfl rfl (pur_ixM (T := tInt) sl23 rfl rfl hz_13 hv_14 rfl) rfl ?_
    refine Tp rfl rfl (pur_ldE (f := tInt.own) (k := tInt.k) (i := n_12) (off := 0) tInt.lenO rfl one3 rfl rfl rfl hv_14 rfl rfl) rfl ?_
    refine Tp rfl rfl (pur_move rfl) rfl ?_
    refine Tp rfl rfl (pur_eql rfl rfl rfl) rfl ?_
    refine TO_nil ?_
    refine te [(1, (.b 0 0)), (3, (.m [1] 0 out3.length (tSl tInt).k)), (4, (intA i4)), (5, (.m [2] 0 r_8.length tInt.k)), (25, (boolA (decide (v_10 = i4))))] rfl ?_
    refine T_cond (t := decide (v_10 = i4)) rfl (fun c_15 => ?_) (fun c_15 => ?_)
    ·replace H := cond_t c_15 H
     refine T_region ?_
     refine Tp rfl rfl (pur_move rfl) rfl ?_
     refine Tp rfl rfl (pur_move rfl) rfl ?_
     refine TO_cons rfl (TOp_litB (nn := 1) (k := 1) sl53 zero23 rfl rfl rfl rfl (by decide) ?_)
     refine TO_st (σ' := [.box [(sl tRelation d0.relations), (sl tFact d0.facts)], .row (flat (tSl tInt).own out3), .row (flat tInt.own r_8), .box [(.m [2] 0 r_8.length tInt.k)]]) rfl ?_
     refine TO_boxify 1 rfl (lb rfl) ?_
     obtain ⟨us_16, h_17, H⟩ := bind_inv H
     refine TO_cons rfl (TOp_appB (T := (tSl tInt)) (xs := out3) (v := r_8) sl53 zero23 rfl bytes23 (by decide) rfl rfl rfl rfl rfl rfl rfl rfl h_17 (lb rfl) ?_)
     refine toe [(1, (.b 0 0)), (4, (intA i4)), (25, (boolA (decide (v_10 = i4)))), (29, .m [4] 0 (out3.length + 1) (tSl tInt).k)] rfl ?_
     refine TO_st (σ' := [.box [(sl tRelation d0.relations), (sl tFact d0.facts)], .dead, .row (flat tInt.own r_8), .box [(.m [2] 0 r_8.length tInt.k)], .box (flat (tSl tInt).own out3 ++ [(.m [2] 0 r_8.length tInt.k)])]) rfl ?_
     refine TO_absorbA (pr := flat (tSl tInt).own out3) 4 0 2 rfl rfl rfl (by decide) tInt.pos (flat_len tInt.lenO _) (lb rfl) (lb rfl) rfl (nms_box rfl (nms_dead (nms_row (nms_box rfl (nms_box (namesA namesL_own rfl) nms_nil))))) ?_
     refine TO_st (σ' := [.box [(sl tRelation d0.relations), (sl tFact d0.facts)], .dead, .dead, .box [(.m [2] 0 r_8.length tInt.k)], .box (flat (tSl tInt).own out3 ++ [.o tInt.k (flat tInt.own r_8)])]) rfl ?_
     refine TO_rowifyT (T := (tSl tInt)) (xs := out3) (v := r_8) 4 rfl rfl h_17 (lb rfl) ?_
     refine TO_st (σ' := [.box [(sl tRelation d0.relations), (sl tFact d0.facts)], .dead, .dead, .box [(.m [2] 0 r_8.length tInt.k)], .row (flat (tSl tInt).own us_16)]) rfl ?_
     refine TO_move 1 4 (by decide) (lb rfl) rfl rfl (lb rfl) ?_
     refine TO_env (E' := [(1, (.b 0 0)), (4, (intA i4)), (25, (boolA (decide (v_10 = i4)))), (29, (.m [1] 0 us_16.length (tSl tInt).k))]) ⟨rfl, rfl, rfl, (congrArg (fun q => A.m [1] 0 q (tSl tInt).k) (app_len h_17)), trivial⟩ ?_
     refine TO_kill 3 (lb rfl) ?_
     refine TO_st (σ' := [.box [(sl tRelation d0.relations), (sl tFact d0.facts)], .row (flat (tSl tInt).own us_16), .dead, .dead, .dead]) rfl ?_
     refine Tp rfl rfl (pur_assign rfl) rfl ?_
     refine TO_nil ?_
     refine te [(1, (.b 0 0)), (3, (.m [1] 0 us_16.length (tSl tInt).k)), (4, (intA i4))] rfl ?_
     refine T_region ?_
     refine Tp rfl rfl (pur_move rfl) rfl ?_
     refine Tp rfl rfl (pur_wadd rfl rfl rfl) rfl ?_
     refine Tp rfl rfl (pur_assign rfl) rfl ?_
     refine TO_nil ?_
     obtain rfl := some_inj H
     exact again k1 (us_16, (w64 (i4 + 1))) (Nat.lt_succ_self _) (wp 2 (lb rfl) rfl rfl rfl rfl rfl) K1_
    ·replace H := cond_f c_15 H
     refine T_skip ?_
     refine te [(1, (.b 0 0)), (3, (.m [1] 0 out3.length (tSl tInt).k)), (4, (intA i4))] rfl ?_
     refine T_region ?_
     refine Tp rfl rfl (pur_move rfl) rfl ?_
     refine Tp rfl rfl (pur_wadd rfl rfl rfl) rfl ?_
     refine Tp rfl rfl (pur_assign rfl) rfl ?_
     refine TO_nil ?_
     obtain rfl := some_inj H
     exact again k1 (out3, (w64 (i4 + 1))) (Nat.lt_succ_self _) (wp 2 (lb rfl) rfl rfl rfl rfl rfl) K1_
   ·replace H := cond_f c_7 H
    refine T_exit ?_
    refine then_exit ?_
    refine then_exit ?_
    refine block_exit ?_
    obtain rfl := some_inj H
    obtain rfl := some_inj K1_
    replace H := onS_l N1_
    refine te [(3, (.m [1] 0 out3.length (tSl tInt).k))] rfl ?_
    refine sr ?_
    refine Tp rfl rfl (pur_move rfl) rfl ?_
    refine Tp rfl rfl (pur_assign rfl) rfl ?_
    refine TO_nil ?_
    refine te [(2, (.m [1] 0 out3.length (tSl tInt).k))] rfl ?_
    refine T_ret ?_
    obtain rfl := some_inj H
    exact end_pick (.tmp .nil) rfl [1] (by decide) rfl rfl rfl rfl rfl rfl
theorem m_spec_Blocks_ok (u : Nat) (d0 : Database) (r : (List (List Int))) (H : m_spec_Blocks u d0 = some r) : FnV prg 46 [(.g (tDatabase.enc d0))] (sl (tSl tInt) r) := (m_spec_Blocks_own u d0 r H).frz (frzT (T := (tSl tInt)) rfl)

set_option maxHeartbeats 1000000 in
/-- spec.LargestConflicts -/
theorem m_spec_LargestConflicts_ok (u : Nat) (d0 : Database) (r : (List Int)) (H : m_spec_LargestConflicts u d0 = some r) : FnV prg 26 [(.g (tDatabase.enc d0))] (sl tInt r) := by
  unfold m_spec_LargestConflicts at H
  refine fnV_of_T Try.func26 rfl rfl (Nat.le_of_ble_eq_true rfl) ?_
  refine te [(0, (.g (tDatabase.enc d0)))] rfl ?_
  refine sr ?_
  refine TO_cons rfl (TOp_box rfl (boxAll rfl) rfl rfl ?_)
  refine Tp rfl rfl (pur_assign rfl) rfl ?_
  refine TO_nil ?_
  refine te [(1, (.b 0 0))] rfl ?_
  refine sr ?_
  refine TO_cons rfl (TOp_lit (nn := 0) (k := 1) sl23 zero3 rfl rfl rfl rfl (by decide) ?_)
  refine TO_st (σ' := [.box [(sl tRelation d0.relations), (sl tFact d0.facts)], .row (flat tInt.enc ([] : (List Int)))]) rfl ?_
  refine Tp rfl rfl (pur_assign rfl) rfl ?_
  refine TO_nil ?_
  refine te [(1, (.b 0 0)), (3, (.m [1] 0 ([] : (List Int)).length tInt.k))] rfl ?_
  refine sr ?_
  refine Tp rfl rfl (pur_ldK_b agg48 rfl rfl (lb rfl) rfl) rfl ?_
  obtain ⟨r_1, h_2, H⟩ := bind_inv H
  refine TO_cons rfl (TOp_callV (call_static ent46 rfl) (m_spec_Blocks_ok u _ _ h_2) rfl rfl rfl ?_)
  refine Tp rfl rfl (pur_assign rfl) rfl ?_
  refine TO_nil ?_
  refine te [(3, (.m [1] 0 ([] : (List Int)).length tInt.k)), (4, (sl (tSl tInt) r_1))] rfl ?_
  refine T_seq ?_
  refine sr ?_
  refine Tp rfl rfl (pur_assign rfl) rfl ?_
  refine TO_nil ?_
  refine te [(3, (.m [1] 0 ([] : (List Int)).length tInt.k)), (4, (sl (tSl tInt) r_1)), (5, (intA 0))] rfl ?_
  refine T_frz1 1 (E' := [(3, (sl tInt ([] : (List Int)))), (4, (sl (tSl tInt) r_1)), (5, (intA 0))]) rfl rfl (lb rfl) ⟨fz1E, (.keep rfl), (.keep rfl), trivial⟩ ?_
  refine T_st (σ' := [.box [(sl tRelation d0.relations), (sl tFact d0.facts)], .dead]) rfl ?_
  obtain ⟨O4_, L4_, N4_⟩ := bind_inv H
  clear H
  obtain ⟨B4_, hb4, L4_⟩ := gen_forS L4_
  refine T_block ?_
  refine T_loopX (fun k => fun (x_ : Nat × (List Int)) => k = r_1.length - x_.1 ∧ forS B4_ (r_1.drop x_.1) (x_.1 : Int) x_.2 = some O4_) (fun (x_ : Nat × (List Int)) => [(3, (sl tInt x_.2)), (4, (sl (tSl tInt) r_1)), (5, (intA (x_.1 : Int)))]) (fun (x_ : Nat × (List Int)) => []) _ (0, ([] : (List Int))) (wp 0 (lb rfl) rfl rfl rfl rfl rfl) ⟨rfl, L4_⟩ ?_
  rintro _ ⟨i_3, out3⟩ ⟨rfl, L4_⟩
  refine te [(3, (sl tInt out3)), (4, (sl (tSl tInt) r_1)), (5, (intA (i_3 : Int)))] rfl ?_
  refine T_st (σ' := []) rfl ?_
  refine T_fact (len_sl (T := (tSl tInt)) (.tmp 4) rfl) (fun hl4 => ?_)
  refine T_seq ?_
  refine sr ?_
  refine Tp rfl rfl (pur_move rfl) rfl ?_
  refine Tp rfl rfl (pur_move rfl) rfl ?_
  refine Tp rfl rfl (pur_lenT (T := (tSl tInt)) sl53 rfl rfl) rfl ?_
  refine Tp rfl rfl (pur_lss rfl rfl rfl) rfl ?_
  refine TO_nil ?_
  refine te [(3, (sl tInt out3)), (4, (sl (tSl tInt) r_1)), (5, (intA (i_3 : Int))), (12, (boolA (decide ((i_3 : Int) < (r_1.length : Int)))))] rfl ?_
  refine T_cond (t := decide ((i_3 : Int) < (r_1.length : Int))) rfl (fun d4 => ?_) (fun d4 => ?_)
  ·replace d4 := of_decide_eq_true d4
   obtain ⟨x_i_3, hx_i_3⟩ : ∃ v, (r_1)[i_3]? = some v := ⟨_, List.getElem?_eq_getElem (by omega)⟩
   obtain ⟨C4_, H, K4_⟩ := forS_step L4_ hx_i_3
   rw [hb4] at H
   refine T_skip ?_
   refine te [(3, (sl tInt out3)), (4, (sl (tSl tInt) r_1)), (5, (intA (i_3 : Int)))] rfl ?_
   refine T_seq ?_
   refine T_block ?_
   refine T_cutX (fun x => ((decide (1 < (x_i_3.length : Int))) && (decide ((out3.length : Int) < (x_i_3.length : Int)))) = x) (fun (t30_5 : Bool) => [(3, (sl tInt out3)), (4, (sl (tSl tInt) r_1)), (5, (intA (i_3 : Int))), (30, (boolA t30_5))]) (fun (t30_5 : Bool) => []) ?_ ?_
   ·skip
    refine T_region ?_
    refine Tp rfl rfl (pur_move rfl) rfl ?_
    refine Tp rfl rfl (pur_move rfl) rfl ?_
    refine Tp rfl rfl (pur_ixT (T := (tSl tInt)) sl53 rfl rfl rfl hx_i_3 rfl) rfl ?_
    refine Tp rfl rfl (pur_ldT (T := (tSl tInt)) (i := i_3) (off := 0) rfl one23 rfl rfl hx_i_3 rfl) rfl ?_
    refine Tp rfl rfl (pur_lenT (T := tInt) sl23 rfl rfl) rfl ?_
    refine Tp rfl rfl (pur_gtr rfl rfl rfl) rfl ?_
    refine Tp rfl rfl (pur_move rfl) rfl ?_
    refine TO_split (t := decide (1 < (x_i_3.length : Int))) 21 rfl (fun g_7 => ?_) (fun g_7 => ?_)
    ·skip
     refine TO_on rfl rfl (by decide) rfl rfl (TOp_pure (pur_move rfl) rfl ?_)
     refine TO_on rfl rfl (by decide) rfl rfl (TOp_pure (pur_move rfl) rfl ?_)
     refine TO_on rfl rfl (by decide) rfl rfl (TOp_pure (pur_ixT (T := (tSl tInt)) sl53 rfl rfl rfl hx_i_3 rfl) rfl ?_)
     refine TO_on rfl rfl (by decide) rfl rfl (TOp_pure (pur_ldT (T := (tSl tInt)) (i := i_3) (off := 0) rfl one23 rfl rfl hx_i_3 rfl) rfl ?_)
     refine TO_on rfl rfl (by decide) rfl rfl (TOp_pure (pur_lenT (T := tInt) sl23 rfl rfl) rfl ?_)
     refine TO_on rfl rfl (by decide) rfl rfl (TOp_pure (pur_move rfl) rfl ?_)
     refine TO_on rfl rfl (by decide) rfl rfl (TOp_pure (pur_lenT (T := tInt) sl23 rfl rfl) rfl ?_)
     refine TO_on rfl rfl (by decide) rfl rfl (TOp_pure (pur_gtr rfl rfl rfl) rfl ?_)
     refine Tp rfl rfl (pur_pick (t := true) rfl rfl rfl) rfl ?_
     refine TO_nil ?_
     exact joined (decide ((out3.length : Int) < (x_i_3.length : Int))) (wp 0 (lb rfl) rfl rfl rfl rfl rfl) (by first | exact Eq.symm ((and_T g_7 rfl)))
    ·skip
     refine TO_off rfl rfl (by decide) rfl rfl rfl ?_
     refine TO_off rfl rfl (by decide) rfl rfl rfl ?_
     refine TO_off rfl rfl (by decide) rfl rfl rfl ?_
     refine TO_off rfl rfl (by decide) rfl rfl rfl ?_
     refine TO_off rfl rfl (by decide) rfl rfl rfl ?_
     refine TO_off rfl rfl (by decide) rfl rfl rfl ?_
     refine TO_off rfl rfl (by decide) rfl rfl rfl ?_
     refine TO_off rfl rfl (by decide) rfl rfl rfl ?_
     refine Tp rfl rfl (pur_pick (t := false) rfl rfl rfl) rfl ?_
     refine TO_nil ?_
     exact joined false (wp 0 (lb rfl) rfl rfl rfl rfl rfl) (by first | exact Eq.symm ((and_F g_7 rfl)))
   ·rintro _ rfl
    refine te [(3, (sl tInt out3)), (4, (sl (tSl tInt) r_1)), (5, (intA (i_3 : Int))), (30, (boolA ((decide (1 < (x_i_3.length : Int))) && (decide ((out3.length : Int) < (x_i_3.length : Int))))))] rfl ?_
    refine T_cond (t := ((decide (1 < (x_i_3.length : Int))) && (decide ((out3.length : Int) < (x_i_3.length : Int))))) rfl (fun c_8 => ?_) (fun c_8 => ?_)
    ·replace H := cond_t c_8 H
     refine T_region ?_
     refine Tp rfl rfl (pur_move rfl) rfl ?_
     refine Tp rfl rfl (pur_move rfl) rfl ?_
     refine Tp rfl rfl (pur_ixT (T := (tSl tInt)) sl53 rfl rfl rfl hx_i_3 rfl) rfl ?_
     refine Tp rfl rfl (pur_ldT (T := (tSl tInt)) (i := i_3) (off := 0) rfl one23 rfl rfl hx_i_3 rfl) rfl ?_
     refine Tp rfl rfl (pur_assign rfl) rfl ?_
     refine TO_nil ?_
     refine te [(3, (sl tInt x_i_3)), (4, (sl (tSl tInt) r_1)), (5, (intA (i_3 : Int)))] rfl ?_
     refine T_region ?_
     refine Tp rfl rfl (pur_move rfl) rfl ?_
     refine Tp rfl rfl (pur_add rfl rfl rfl (fits64 (by omega) (by omega))) rfl ?_
     refine Tp rfl rfl (pur_assign rfl) rfl ?_
     refine TO_nil ?_
     obtain rfl := some_inj H
     exact again (r_1.length - (i_3 + 1)) (i_3 + 1, x_i_3) (by omega) (wp 0 (lb rfl) rfl rfl rfl rfl rfl) ⟨rfl, K4_⟩
    ·replace H := cond_f c_8 H
     refine T_skip ?_
     refine te [(3, (sl tInt out3)), (4, (sl (tSl tInt) r_1)), (5, (intA (i_3 : Int)))] rfl ?_
     refine T_region ?_
     refine Tp rfl rfl (pur_move rfl) rfl ?_
     refine Tp rfl rfl (pur_add rfl rfl rfl (fits64 (by omega) (by omega))) rfl ?_
     refine Tp rfl rfl (pur_assign rfl) rfl ?_
     refine TO_nil ?_
     obtain rfl := some_inj H
     exact again (r_1.length - (i_3 + 1)) (i_3 + 1, out3) (by omega) (wp 0 (lb rfl) rfl rfl rfl rfl rfl) ⟨rfl, K4_⟩
  ·replace d4 := of_decide_eq_false d4
   obtain rfl := forS_end L4_ (by omega)
   refine T_exit ?_
   refine then_exit ?_
   refine then_exit ?_
   refine block_exit ?_
   replace H := N4_
   refine te [(3, (sl tInt out3))] rfl ?_
   refine sr ?_
   refine Tp rfl rfl (pur_move rfl) rfl ?_
   refine Tp rfl rfl (pur_assign rfl) rfl ?_
   refine TO_nil ?_
   refine te [(2, (sl tInt out3))] rfl ?_
   refine T_ret ?_
   obtain rfl := some_inj H
   refine end_ret (.tmp .nil) rfl rfl ⟨?_, rfl⟩
   rfl

set_option maxHeartbeats 1000000 in
/-- laws.toIntS -/
theorem m_laws_toIntS_own (a0 : (List Int)) (r : (List Int)) (H : m_laws_toIntS a0 = some r) : FnO prg 18 [(sl tInt a0)] (.m [0] 0 r.length tInt.k) [.row (flat tInt.own r)] := by
  unfold m_laws_toIntS at H
  refine fnO_of_T Try.func18 rfl rfl (Nat.le_of_ble_eq_true rfl) ?_
  refine te [(0, (sl tInt a0))] rfl ?_
  refine sr ?_
  refine Tp rfl rfl (pur_assign rfl) rfl ?_
  refine TO_nil ?_
  refine te [(0, (sl tInt a0))] rfl ?_
  refine sr ?_
  refine Tp rfl rfl (pur_move rfl) rfl ?_
  refine Tp rfl rfl (pur_lenT (T := tInt) sl23 rfl rfl) rfl ?_
  obtain ⟨us_1, h_2, H⟩ := bind_inv H
  refine TO_cons rfl (TOp_makeT (T := tInt) (z := (0 : Int)) rfl sl23 zero3 rfl bytes3 rfl rfl rfl rfl h_2 ?_)
  refine Tp rfl rfl (pur_assign rfl) rfl ?_
  refine TO_nil ?_
  refine te [(0, (sl tInt a0)), (3, (.m [0] 0 us_1.length tInt.k))] rfl ?_
  refine T_seq ?_
  refine sr ?_
  refine Tp rfl rfl (pur_assign rfl) rfl ?_
  refine TO_nil ?_
  refine te [(0, (sl tInt a0)), (3, (.m [0] 0 us_1.length tInt.k)), (4, (intA 0))] rfl ?_
  obtain ⟨O4_, L4_, N4_⟩ := bind_inv H
  clear H
  obtain ⟨B4_, hb4, L4_⟩ := gen_forS L4_
  refine T_block ?_
  refine T_loopX (fun k => fun (x_ : Nat × (List Int)) => k = a0.length - x_.1 ∧ forS B4_ (a0.drop x_.1) (x_.1 : Int) x_.2 = some O4_) (fun (x_ : Nat × (List Int)) => [(0, (sl tInt a0)), (3, (.m [0] 0 x_.2.length tInt.k)), (4, (intA (x_.1 : Int)))]) (fun (x_ : Nat × (List Int)) => [.row (flat tInt.enc x_.2)]) _ (0, us_1) (wp 1 (lb rfl) rfl rfl rfl rfl rfl) ⟨rfl, L4_⟩ ?_
  rintro _ ⟨i_3, out3⟩ ⟨rfl, L4_⟩
  refine te [(0, (sl tInt a0)), (3, (.m [0] 0 out3.length tInt.k)), (4, (intA (i_3 : Int)))] rfl ?_
  refine T_st (σ' := [.row (flat tInt.enc out3)]) rfl ?_
  refine T_fact (len_sl (T := tInt) (.tmp 0) rfl) (fun hl4 => ?_)
  refine T_seq ?_
  refine sr ?_
  refine Tp rfl rfl (pur_move rfl) rfl ?_
  refine Tp rfl rfl (pur_move rfl) rfl ?_
  refine Tp rfl rfl (pur_lenT (T := tInt) sl23 rfl rfl) rfl ?_
  refine Tp rfl rfl (pur_lss rfl rfl rfl) rfl ?_
  refine TO_nil ?_
  refine te [(0, (sl tInt a0)), (3, (.m [0] 0 out3.length tInt.k)), (4, (intA (i_3 : Int))), (11, (boolA (decide ((i_3 : Int) < (a0.length : Int)))))] rfl ?_
  refine T_cond (t := decide ((i_3 : Int) < (a0.length : Int))) rfl (fun d4 => ?_) (fun d4 => ?_)
  ·replace d4 := of_decide_eq_true d4
   obtain ⟨x_i_3, hx_i_3⟩ : ∃ v, (a0)[i_3]? = some v := ⟨_, List.getElem?_eq_getElem (by omega)⟩
   obtain ⟨C4_, H, K4_⟩ := forS_step L4_ hx_i_3
   rw [hb4] at H
   refine T_skip ?_
   refine te [(0, (sl tInt a0)), (3, (.m [0] 0 out3.length tInt.k)), (4, (intA (i_3 : Int)))] rfl ?_
   refine T_seq ?_
   refine T_block ?_
   refine T_region ?_
   refine Tp rfl rfl (pur_move rfl) rfl ?_
   refine Tp rfl rfl (pur_move rfl) rfl ?_
   refine Tp rfl rfl (pur_move rfl) rfl ?_
   refine Tp rfl rfl (pur_move rfl) rfl ?_
   refine Tp rfl rfl (pur_ixT (T := tInt) sl23 rfl rfl rfl hx_i_3 rfl) rfl ?_
   refine Tp rfl rfl (pur_ldT (T := tInt) (i := i_3) (off := 0) rfl one3 rfl rfl hx_i_3 rfl) rfl ?_
   obtain ⟨v_5, h_6, H⟩ := bind_inv H
   obtain ⟨n_7, hz_8, hv_9⟩ := getI_inv h_6
   refine Tp rfl rfl (pur_ixM (T := tInt) sl23 rfl rfl hz_8 hv_9 rfl) rfl ?_
   refine TO_cons rfl (TOp_setT (f := tInt.enc) (z := (i_3 : Int)) (y := x_i_3) tInt.len tInt.pos hz_8 sz3 rfl rfl rfl rfl rfl hv_9 rfl rfl ?_)
   refine TO_env (E' := [(0, (sl tInt a0)), (3, (.m [0] 0 (out3.set ((i_3 : Int)).toNat x_i_3).length tInt.k)), (4, (intA (i_3 : Int))), (14, (.m [0] 0 (out3.set ((i_3 : Int)).toNat x_i_3).length tInt.k)), (15, (intA (i_3 : Int))), (16, (sl tInt a0)), (17, (intA (i_3 : Int))), (18, (.q (flat tInt.enc a0) (i_3 * tInt.k))), (19, (intA x_i_3))]) ⟨rfl, (congrArg (fun q => A.m [0] 0 q tInt.k) (List.length_set ..).symm), rfl, (congrArg (fun q => A.m [0] 0 q tInt.k) (List.length_set ..).symm), rfl, rfl, rfl, rfl, rfl, trivial⟩ ?_
   refine TO_st (σ' := [.row (flat tInt.enc (out3.set ((i_3 : Int)).toNat x_i_3))]) rfl ?_
   refine TO_nil ?_
   refine te [(0, (sl tInt a0)), (3, (.m [0] 0 (out3.set ((i_3 : Int)).toNat x_i_3).length tInt.k)), (4, (intA (i_3 : Int)))] rfl ?_
   refine T_region ?_
   refine Tp rfl rfl (pur_move rfl) rfl ?_
   refine Tp rfl rfl (pur_add rfl rfl rfl (fits64 (by omega) (by omega))) rfl ?_
   refine Tp rfl rfl (pur_assign rfl) rfl ?_
   refine TO_nil ?_
   obtain rfl := some_inj H
   exact again (a0.length - (i_3 + 1)) (i_3 + 1, (out3.set ((i_3 : Int)).toNat x_i_3)) (by omega) (wp 1 (lb rfl) rfl rfl rfl rfl rfl) ⟨rfl, K4_⟩
  ·replace d4 := of_decide_eq_false d4
   obtain rfl := forS_end L4_ (by omega)
   refine T_exit ?_
   refine then_exit ?_
   refine then_exit ?_
   refine block_exit ?_
   replace H := N4_
   refine te [(3, (.m [0] 0 out3.length tInt.k))] rfl ?_
   refine sr ?_
   refine Tp rfl rfl (pur_move rfl) rfl ?_
   refine Tp rfl rfl (pur_assign rfl) rfl ?_
   refine TO_nil ?_
   refine te [(2, (.m [0] 0 out3.length tInt.k))] rfl ?_
   refine T_ret ?_
   obtain rfl := some_inj H
   exact end_pick (.tmp .nil) rfl [0] (by decide) rfl rfl rfl rfl rfl rfl
theorem m_laws_toIntS_ok (a0 : (List Int)) (r : (List Int)) (H : m_laws_toIntS a0 = some r) : FnV prg 18 [(sl tInt a0)] (sl tInt r) := (m_laws_toIntS_own a0 r H).frz (frzT (T := tInt) rfl)

set_option maxHeartbeats 1000000 in
/-- laws.toFact -/
theorem m_laws_toFact_own (a0 : Fact) (r : Fact) (H : m_laws_toFact a0 = some r) : FnO prg 55 [(.g (tFact.enc a0))] (.g [(intA r.relation), (.m [0] 0 r.values.length tInt.k)]) [.row (flat tInt.own r.values)] := by
  unfold m_laws_toFact at H
  refine fnO_of_T Try.func55 rfl rfl (Nat.le_of_ble_eq_true rfl) ?_
  refine te [(0, (.g (tFact.enc a0)))] rfl ?_
  refine sr ?_
  refine TO_cons rfl (TOp_box rfl (boxAll rfl) rfl rfl ?_)
  refine TO_cons rfl (TOp_alloc zero65 rfl rfl ?_)
  refine TO_nil ?_
  refine te [(1, (.b 0 0)), (2, (.b 1 0))] rfl ?_
  refine sr ?_
  refine TO_cons rfl (TOp_alloc zero65 rfl rfl ?_)
  refine TO_nil ?_
  refine te [(1, (.b 0 0)), (2, (.b 1 0)), (3, (.b 2 0))] rfl ?_
  refine sr ?_
  refine Tp rfl rfl (pur_fa_b fld79_0 rfl rfl) rfl ?_
  refine Tp rfl rfl (pur_ld_b one3 rfl rfl rfl rfl) rfl ?_
  refine Tp rfl rfl (pur_fa_b fld65_0 rfl rfl) rfl ?_
  refine TO_cons rfl (TOp_storeB sz3 rfl rfl rfl rfl rfl rfl rfl (by decide) (lb rfl) rfl ?_)
  refine TO_st (σ' := [.box [(intA a0.relation), (sl tInt a0.values)], .box [(intA 0), .n], .box [(intA a0.relation), .n]]) rfl ?_
  refine TO_nil ?_
  refine te [(1, (.b 0 0)), (2, (.b 1 0)), (3, (.b 2 0))] rfl ?_
  refine sr ?_
  refine Tp rfl rfl (pur_fa_b fld79_1 rfl rfl) rfl ?_
  refine Tp rfl rfl (pur_ld_b one23 rfl rfl rfl rfl) rfl ?_
  obtain ⟨r_1, h_2, H⟩ := bind_inv H
  refine TO_cons rfl (TOp_callO (call_static ent18 rfl) rfl (m_laws_toIntS_own _ _ h_2) rfl rfl rfl ?_)
  refine toe [(1, (.b 0 0)), (2, (.b 1 0)), (3, (.b 2 0)), (7, (.b 0 1)), (8, (sl tInt a0.values)), (9, (.m [3] 0 r_1.length tInt.k))] rfl ?_
  refine TO_st (σ' := [.box [(intA a0.relation), (sl tInt a0.values)], .box [(intA 0), .n], .box [(intA a0.relation), .n], .row (flat tInt.own r_1)]) rfl ?_
  refine Tp rfl rfl (pur_fa_b fld65_1 rfl rfl) rfl ?_
  refine TO_cons rfl (TOp_storeB sz23 rfl rfl rfl rfl rfl rfl rfl (by decide) (lb rfl) rfl ?_)
  refine TO_st (σ' := [.box [(intA a0.relation), (sl tInt a0.values)], .box [(intA 0), .n], .box [(intA a0.relation), (.m [3] 0 r_1.length tInt.k)], .row (flat tInt.own r_1)]) rfl ?_
  refine TO_nil ?_
  refine te [(2, (.b 1 0)), (3, (.b 2 0))] rfl ?_
  refine sr ?_
  refine Tp rfl rfl (pur_ldK_b agg65 rfl rfl (lb rfl) rfl) rfl ?_
  refine TO_cons rfl (TOp_storeB sz65 rfl rfl rfl rfl rfl rfl rfl (by decide) (lb rfl) rfl ?_)
  refine TO_st (σ' := [.box [(intA a0.relation), (sl tInt a0.values)], .box [(intA a0.relation), (.m [3] 0 r_1.length tInt.k)], .box [(intA a0.relation), (.m [3] 0 r_1.length tInt.k)], .row (flat tInt.own r_1)]) rfl ?_
  refine TO_nil ?_
  refine te [(2, (.b 1 0))] rfl ?_
  refine T_ret ?_
  obtain rfl := some_inj H
  exact end_pick (.cellK rfl agg65 rfl (lb rfl) .nil) rfl [3] (by decide) rfl rfl rfl rfl rfl rfl
theorem m_laws_toFact_ok (a0 : Fact) (r : Fact) (H : m_laws_toFact a0 = some r) : FnV prg 55 [(.g (tFact.enc a0))] (.g (tFact.enc r)) := (m_laws_toFact_own a0 r H).frz (frzOK_g (frz_cons (frz_loose rfl) (frz_cons (frzT (T := tInt) rfl) frz_nil)).1 (frz_cons (frz_loose rfl) (frz_cons (frzT (T := tInt) rfl) frz_nil)).2)

set_option maxHeartbeats 1000000 in
/-- laws.toFactS -/
theorem m_laws_toFactS_own (a0 : (List Fact)) (r : (List Fact)) (H : m_laws_toFactS a0 = some r) : FnO prg 62 [(sl tFact a0)] (.m [0] 0 r.length tFact.k) [.row (flat tFact.own r)] := by
  unfold m_laws_toFactS at H
  refine fnO_of_T Try.func62 rfl rfl (Nat.le_of_ble_eq_true rfl) ?_
  refine te [(0, (sl tFact a0))] rfl ?_
  refine sr ?_
  refine Tp rfl rfl (pur_assign rfl) rfl ?_
  refine TO_nil ?_
  refine te [(0, (sl tFact a0))] rfl ?_
  refine sr ?_
  refine Tp rfl rfl (pur_move rfl) rfl ?_
  refine Tp rfl rfl (pur_lenT (T := tFact) sl40 rfl rfl) rfl ?_
  obtain ⟨us_1, h_2, H⟩ := bind_inv H
  refine TO_cons rfl (TOp_makeN (T := tFact) (f := tFact.own) (zs := [.int .i64 0, .slice none 0 0]) (z := (default : Fact)) tFact.lenO (nilL_cons nilS (nilL_cons nilO nilL_nil)) rfl sl46 zero65 bytes65 rfl rfl rfl rfl h_2 ?_)
  refine TO_st (σ' := [.row (flat tFact.own us_1)]) rfl ?_
  refine Tp rfl rfl (pur_assign rfl) rfl ?_
  refine TO_nil ?_
  refine te [(0, (sl tFact a0)), (3, (.m [0] 0 us_1.length tFact.k))] rfl ?_
  refine T_seq ?_
  refine sr ?_
  refine Tp rfl rfl (pur_assign rfl) rfl ?_
  refine TO_nil ?_
  refine te [(0, (sl tFact a0)), (3, (.m [0] 0 us_1.length tFact.k)), (4, (intA 0))] rfl ?_
  obtain ⟨O4_, L4_, N4_⟩ := bind_inv H
  clear H
  obtain ⟨B4_, hb4, L4_⟩ := gen_forS L4_
  refine T_block ?_
  refine T_loopX (fun k => fun (x_ : Nat × (List Fact)) => k = a0.length - x_.1 ∧ forS B4_ (a0.drop x_.1) (x_.1 : Int) x_.2 = some O4_) (fun (x_ : Nat × (List Fact)) => [(0, (sl tFact a0)), (3, (.m [0] 0 x_.2.length tFact.k)), (4, (intA (x_.1 : Int)))]) (fun (x_ : Nat × (List Fact)) => [.row (flat tFact.own x_.2)]) _ (0, us_1) (wp 1 (lb rfl) rfl rfl rfl rfl rfl) ⟨rfl, L4_⟩ ?_
  rintro _ ⟨i_3, out3⟩ ⟨rfl, L4_⟩
  refine te [(0, (sl tFact a0)), (3, (.m [0] 0 out3.length tFact.k)), (4, (intA (i_3 : Int)))] rfl ?_
  refine T_st (σ' := [.row (flat tFact.own out3)]) rfl ?_
  refine T_fact (len_sl (T := tFact) (.tmp 0) rfl) (fun hl4 => ?_)
  refine T_seq ?_
  refine sr ?_
  refine Tp rfl rfl (pur_move rfl) rfl ?_
  refine Tp rfl rfl (pur_move rfl) rfl ?_
  refine Tp rfl rfl (pur_lenT (T := tFact) sl40 rfl rfl) rfl ?_
  refine Tp rfl rfl (pur_lss rfl rfl rfl) rfl ?_
  refine TO_nil ?_
  refine te [(0, (sl tFact a0)), (3, (.m [0] 0 out3.length tFact.k)), (4, (intA (i_3 : Int))), (11, (boolA (decide ((i_3 : Int) < (a0.length : Int)))))] rfl ?_
  refine T_cond (t := decide ((i_3 : Int) < (a0.length : Int))) rfl (fun d4 => ?_) (fun d4 => ?_)
  ·replace d4 := of_decide_eq_true d4
   obtain ⟨x_i_3, hx_i_3⟩ : ∃ v, (a0)[i_3]? = some v := ⟨_, List.getElem?_eq_getElem (by omega)⟩
   obtain ⟨C4_, H, K4_⟩ := forS_step L4_ hx_i_3
   rw [hb4] at H
   refine T_skip ?_
   refine te [(0, (sl tFact a0)), (3, (.m [0] 0 out3.length tFact.k)), (4, (intA (i_3 : Int)))] rfl ?_
   refine T_seq ?_
   refine T_block ?_
   refine T_region ?_
   refine Tp rfl rfl (pur_move rfl) rfl ?_
   refine Tp rfl rfl (pur_move rfl) rfl ?_
   refine Tp rfl rfl (pur_move rfl) rfl ?_
   refine Tp rfl rfl (pur_move rfl) rfl ?_
   refine Tp rfl rfl (pur_ixT (T := tFact) sl40 rfl rfl rfl hx_i_3 rfl) rfl ?_
   refine Tp rfl rfl (pur_ldTK (T := tFact) (i := i_3) (off := 0) rfl agg79 rfl rfl hx_i_3 (by decide) rfl) rfl ?_
   obtain ⟨r_5, h_6, H⟩ := bind_inv H
   refine TO_cons rfl (TOp_callO (call_static ent55 rfl) rfl (m_laws_toFact_own _ _ h_6) rfl rfl rfl ?_)
   refine toe [(0, (sl tFact a0)), (3, (.m [0] 0 out3.length tFact.k)), (4, (intA (i_3 : Int))), (14, (.m [0] 0 out3.length tFact.k)), (15, (intA (i_3 : Int))), (16, (sl tFact a0)), (17, (intA (i_3 : Int))), (18, (.q (flat tFact.enc a0) (i_3 * tFact.k))), (19, (.g (tFact.enc x_i_3))), (20, (.g [(intA r_5.relation), (.m [1] 0 r_5.values.length tInt.k)]))] rfl ?_
   refine TO_st (σ' := [.row (flat tFact.own out3), .row (flat tInt.own r_5.values)]) rfl ?_
   obtain ⟨v_7, h_8, H⟩ := bind_inv H
   obtain ⟨n_9, hz_10, hv_11⟩ := getI_inv h_8
   refine Tp rfl rfl (pur_ixM (T := tFact) sl46 rfl rfl hz_10 hv_11 rfl) rfl ?_
   refine TO_boxify 0 rfl (lb rfl) ?_
   refine TO_cons rfl (TOp_setN (T := tFact) (i := n_9) (off := 0) (xs := out3) (v := v_7) hz_10 sz65 (by decide) rfl rfl rfl rfl rfl hv_11 rfl rfl (lb rfl) rfl ?_)
   refine toe [(0, (sl tFact a0)), (3, (.m [0] 0 out3.length tFact.k)), (4, (intA (i_3 : Int))), (14, (.m [0] 0 out3.length tFact.k)), (15, (intA (i_3 : Int))), (16, (sl tFact a0)), (17, (intA (i_3 : Int))), (18, (.q (flat tFact.enc a0) (i_3 * tFact.k))), (19, (.g (tFact.enc x_i_3)))] rfl ?_
   refine TO_st (σ' := [.box (spl (flat tFact.own out3) (n_9 * tFact.k) [(intA r_5.relation), (.m [1] 0 r_5.values.length tInt.k)]), .row (flat tInt.own r_5.values)]) rfl ?_
   refine TO_absorbS (T := tFact) (i := n_9) (xs := out3) (v := v_7) 0 1 1 rfl hv_11 rfl rfl rfl (by decide) tInt.pos (flat_len tInt.lenO _) (lb rfl) (lb rfl) rfl (nms_box (namesL_spl namesL_own rfl) (nms_row nms_nil)) ?_
   refine TO_st (σ' := [.box (spl (flat tFact.own out3) (n_9 * tFact.k) [(intA r_5.relation), .o tInt.k (flat tInt.own r_5.values)]), .dead]) rfl ?_
   refine TO_rowifyS (T := tFact) (i := n_9) (xs := out3) 0 r_5 hz_10 rfl hv_11 rfl (lb rfl) ?_
   refine TO_env (E' := [(0, (sl tFact a0)), (3, (.m [0] 0 (out3.set ((i_3 : Int)).toNat r_5).length tFact.k)), (4, (intA (i_3 : Int))), (14, (.m [0] 0 (out3.set ((i_3 : Int)).toNat r_5).length tFact.k)), (15, (intA (i_3 : Int))), (16, (sl tFact a0)), (17, (intA (i_3 : Int))), (18, (.q (flat tFact.enc a0) (i_3 * tFact.k))), (19, (.g (tFact.enc x_i_3)))]) ⟨rfl, (congrArg (fun q => A.m [0] 0 q tFact.k) (List.length_set ..).symm), rfl, (congrArg (fun q => A.m [0] 0 q tFact.k) (List.length_set ..).symm), rfl, rfl, rfl, rfl, rfl, trivial⟩ ?_
   refine TO_st (σ' := [.row (flat tFact.own (out3.set ((i_3 : Int)).toNat r_5)), .dead]) rfl ?_
   refine TO_nil ?_
   refine te [(0, (sl tFact a0)), (3, (.m [0] 0 (out3.set ((i_3 : Int)).toNat r_5).length tFact.k)), (4, (intA (i_3 : Int)))] rfl ?_
   refine T_region ?_
   refine Tp rfl rfl (pur_move rfl) rfl ?_
   refine Tp rfl rfl (pur_add rfl rfl rfl (fits64 (by omega) (by omega))) rfl ?_
   refine Tp rfl rfl (pur_assign rfl) rfl ?_
   refine TO_nil ?_
   obtain rfl := some_inj H
   exact again (a0.length - (i_3 + 1)) (i_3 + 1, (out3.set ((i_3 : Int)).toNat r_5)) (by omega) (wp 1 (lb rfl) rfl rfl rfl rfl rfl) ⟨rfl, K4_⟩
  ·replace d4 := of_decide_eq_false d4
   obtain rfl := forS_end L4_ (by omega)
   refine T_exit ?_
   refine then_exit ?_
   refine then_exit ?_
   refine block_exit ?_
   replace H := N4_
   refine te [(3, (.m [0] 0 out3.length tFact.k))] rfl ?_
   refine sr ?_
   refine Tp rfl rfl (pur_move rfl) rfl ?_
   refine Tp rfl rfl (pur_assign rfl) rfl ?_
   refine TO_nil ?_
   refine te [(2, (.m [0] 0 out3.length tFact.k))] rfl ?_
   refine T_ret ?_
   obtain rfl := some_inj H
   exact end_pick (.tmp .nil) rfl [0] (by decide) rfl rfl rfl rfl rfl rfl
theorem m_laws_toFactS_ok (a0 : (List Fact)) (r : (List Fact)) (H : m_laws_toFactS a0 = some r) : FnV prg 62 [(sl tFact a0)] (sl tFact r) := (m_laws_toFactS_own a0 r H).frz (frzT (T := tFact) rfl)

set_option maxHeartbeats 1000000 in
/-- laws.toRelation -/
theorem m_laws_toRelation_ok (a0 : Relation) (r : Relation) (H : m_laws_toRelation a0 = some r) : FnV prg 145 [(.g (tRelation.enc a0))] (.g (tRelation.enc r)) := by
  unfold m_laws_toRelation at H
  refine fnV_of_T Try.func145 rfl rfl (Nat.le_of_ble_eq_true rfl) ?_
  refine te [(0, (.g (tRelation.enc a0)))] rfl ?_
  refine sr ?_
  refine TO_cons rfl (TOp_box rfl (boxAll rfl) rfl rfl ?_)
  refine TO_cons rfl (TOp_alloc zero130 rfl rfl ?_)
  refine TO_nil ?_
  refine te [(1, (.b 0 0)), (2, (.b 1 0))] rfl ?_
  refine sr ?_
  refine TO_cons rfl (TOp_alloc zero130 rfl rfl ?_)
  refine TO_nil ?_
  refine te [(1, (.b 0 0)), (2, (.b 1 0)), (3, (.b 2 0))] rfl ?_
  refine sr ?_
  refine Tp rfl rfl (pur_fa_b fld158_0 rfl rfl) rfl ?_
  refine Tp rfl rfl (pur_ld_b one9 rfl rfl rfl rfl) rfl ?_
  refine Tp rfl rfl (pur_fa_b fld130_0 rfl rfl) rfl ?_
  refine TO_cons rfl (TOp_storeB sz9 rfl rfl rfl rfl rfl rfl rfl (by decide) (lb rfl) rfl ?_)
  refine TO_st (σ' := [.box [(strA a0.name), (intA a0.arity), (intA a0.keyLength)], .box [(strA ByteArray.empty), (intA 0), (intA 0)], .box [(strA a0.name), (intA 0), (intA 0)]]) rfl ?_
  refine TO_nil ?_
  refine te [(1, (.b 0 0)), (2, (.b 1 0)), (3, (.b 2 0))] rfl ?_
  refine sr ?_
  refine Tp rfl rfl (pur_fa_b fld158_1 rfl rfl) rfl ?_
  refine Tp rfl rfl (pur_ld_b one3 rfl rfl rfl rfl) rfl ?_
  refine Tp rfl rfl (pur_fa_b fld130_1 rfl rfl) rfl ?_
  refine TO_cons rfl (TOp_storeB sz3 rfl rfl rfl rfl rfl rfl rfl (by decide) (lb rfl) rfl ?_)
  refine TO_st (σ' := [.box [(strA a0.name), (intA a0.arity), (intA a0.keyLength)], .box [(strA ByteArray.empty), (intA 0), (intA 0)], .box [(strA a0.name), (intA a0.arity), (intA 0)]]) rfl ?_
  refine TO_nil ?_
  refine te [(1, (.b 0 0)), (2, (.b 1 0)), (3, (.b 2 0))] rfl ?_
  refine sr ?_
  refine Tp rfl rfl (pur_fa_b fld158_2 rfl rfl) rfl ?_
  refine Tp rfl rfl (pur_ld_b one3 rfl rfl rfl rfl) rfl ?_
  refine Tp rfl rfl (pur_fa_b fld130_2 rfl rfl) rfl ?_
  refine TO_cons rfl (TOp_storeB sz3 rfl rfl rfl rfl rfl rfl rfl (by decide) (lb rfl) rfl ?_)
  refine TO_st (σ' := [.box [(strA a0.name), (intA a0.arity), (intA a0.keyLength)], .box [(strA ByteArray.empty), (intA 0), (intA 0)], .box [(strA a0.name), (intA a0.arity), (intA a0.keyLength)]]) rfl ?_
  refine TO_nil ?_
  refine te [(2, (.b 1 0)), (3, (.b 2 0))] rfl ?_
  refine sr ?_
  refine Tp rfl rfl (pur_ldK_b agg130 rfl rfl (lb rfl) rfl) rfl ?_
  refine TO_cons rfl (TOp_storeB sz130 rfl rfl rfl rfl rfl rfl rfl (by decide) (lb rfl) rfl ?_)
  refine TO_st (σ' := [.box [(strA a0.name), (intA a0.arity), (intA a0.keyLength)], .box [(strA a0.name), (intA a0.arity), (intA a0.keyLength)], .box [(strA a0.name), (intA a0.arity), (intA a0.keyLength)]]) rfl ?_
  refine TO_nil ?_
  refine te [(2, (.b 1 0))] rfl ?_
  refine T_ret ?_
  obtain rfl := some_inj H
  refine end_ret (.cellK rfl agg130 rfl (lb rfl) .nil) rfl rfl ⟨?_, rfl⟩
  rfl

set_option maxHeartbeats 1000000 in
/-- laws.toRelationS -/
theorem m_laws_toRelationS_own (a0 : (List Relation)) (r : (List Relation)) (H : m_laws_toRelationS a0 = some r) : FnO prg 93 [(sl tRelation a0)] (.m [0] 0 r.length tRelation.k) [.row (flat tRelation.own r)] := by
  unfold m_laws_toRelationS at H
  refine fnO_of_T Try.func93 rfl rfl (Nat.le_of_ble_eq_true rfl) ?_
  refine te [(0, (sl tRelation a0))] rfl ?_
  refine sr ?_
  refine Tp rfl rfl (pur_assign rfl) rfl ?_
  refine TO_nil ?_
  refine te [(0, (sl tRelation a0))] rfl ?_
  refine sr ?_
  refine Tp rfl rfl (pur_move rfl) rfl ?_
  refine Tp rfl rfl (pur_lenT (T := tRelation) sl39 rfl rfl) rfl ?_
  obtain ⟨us_1, h_2, H⟩ := bind_inv H
  refine TO_cons rfl (TOp_makeT (T := tRelation) (z := (default : Relation)) rfl sl45 zero130 rfl bytes130 rfl rfl rfl rfl h_2 ?_)
  refine Tp rfl rfl (pur_assign rfl) rfl ?_
  refine TO_nil ?_
  refine te [(0, (sl tRelation a0)), (3, (.m [0] 0 us_1.length tRelation.k))] rfl ?_
  refine T_seq ?_
  refine sr ?_
  refine Tp rfl rfl (pur_assign rfl) rfl ?_
  refine TO_nil ?_
  refine te [(0, (sl tRelation a0)), (3, (.m [0] 0 us_1.length tRelation.k)), (4, (intA 0))] rfl ?_
  obtain ⟨O4_, L4_, N4_⟩ := bind_inv H
  clear H
  obtain ⟨B4_, hb4, L4_⟩ := gen_forS L4_
  refine T_block ?_
  refine T_loopX (fun k => fun (x_ : Nat × (List Relation)) => k = a0.length - x_.1 ∧ forS B4_ (a0.drop x_.1) (x_.1 : Int) x_.2 = some O4_) (fun (x_ : Nat × (List Relation)) => [(0, (sl tRelation a0)), (3, (.m [0] 0 x_.2.length tRelation.k)), (4, (intA (x_.1 : Int)))]) (fun (x_ : Nat × (List Relation)) => [.row (flat tRelation.enc x_.2)]) _ (0, us_1) (wp 1 (lb rfl) rfl rfl rfl rfl rfl) ⟨rfl, L4_⟩ ?_
  rintro _ ⟨i_3, out3⟩ ⟨rfl, L4_⟩
  refine te [(0, (sl tRelation a0)), (3, (.m [0] 0 out3.length tRelation.k)), (4, (intA (i_3 : Int)))] rfl ?_
  refine T_st (σ' := [.row (flat tRelation.enc out3)]) rfl ?_
  refine T_fact (len_sl (T := tRelation) (.tmp 0) rfl) (fun hl4 => ?_)
  refine T_seq ?_
  refine sr ?_
  refine Tp rfl rfl (pur_move rfl) rfl ?_
  refine Tp rfl rfl (pur_move rfl) rfl ?_
  refine Tp rfl rfl (pur_lenT (T := tRelation) sl39 rfl rfl) rfl ?_
  refine Tp rfl rfl (pur_lss rfl rfl rfl) rfl ?_
  refine TO_nil ?_
  refine te [(0, (sl tRelation a0)), (3, (.m [0] 0 out3.length tRelation.k)), (4, (intA (i_3 : Int))), (11, (boolA (decide ((i_3 : Int) < (a0.length : Int)))))] rfl ?_
  refine T_cond (t := decide ((i_3 : Int) < (a0.length : Int))) rfl (fun d4 => ?_) (fun d4 => ?_)
  ·replace d4 := of_decide_eq_true d4
   obtain ⟨x_i_3, hx_i_3⟩ : ∃ v, (a0)[i_3]? = some v := ⟨_, List.getElem?_eq_getElem (by omega)⟩
   obtain ⟨C4_, H, K4_⟩ := forS_step L4_ hx_i_3
   rw [hb4] at H
   refine T_skip ?_
   refine te [(0, (sl tRelation a0)), (3, (.m [0] 0 out3.length tRelation.k)), (4, (intA (i_3 : Int)))] rfl ?_
   refine T_seq ?_
   refine T_block ?_
   refine T_region ?_
   refine Tp rfl rfl (pur_move rfl) rfl ?_
   refine Tp rfl rfl (pur_move rfl) rfl ?_
   refine Tp rfl rfl (pur_move rfl) rfl ?_
   refine Tp rfl rfl (pur_move rfl) rfl ?_
   refine Tp rfl rfl (pur_ixT (T := tRelation) sl39 rfl rfl rfl hx_i_3 rfl) rfl ?_
   refine Tp rfl rfl (pur_ldTK (T := tRelation) (i := i_3) (off := 0) rfl agg158 rfl rfl hx_i_3 (by decide) rfl) rfl ?_
   obtain ⟨r_5, h_6, H⟩ := bind_inv H
   refine TO_cons rfl (TOp_callV (call_static ent145 rfl) (m_laws_toRelation_ok _ _ h_6) rfl rfl rfl ?_)
   obtain ⟨v_7, h_8, H⟩ := bind_inv H
   obtain ⟨n_9, hz_10, hv_11⟩ := getI_inv h_8
   refine Tp rfl rfl (pur_ixM (T := tRelation) sl45 rfl rfl hz_10 hv_11 rfl) rfl ?_
   refine TO_cons rfl (TOp_setT (f := tRelation.enc) (z := (i_3 : Int)) (y := r_5) tRelation.len tRelation.pos hz_10 sz130 rfl rfl rfl rfl rfl hv_11 rfl rfl ?_)
   refine TO_env (E' := [(0, (sl tRelation a0)), (3, (.m [0] 0 (out3.set ((i_3 : Int)).toNat r_5).length tRelation.k)), (4, (intA (i_3 : Int))), (14, (.m [0] 0 (out3.set ((i_3 : Int)).toNat r_5).length tRelation.k)), (15, (intA (i_3 : Int))), (16, (sl tRelation a0)), (17, (intA (i_3 : Int))), (18, (.q (flat tRelation.enc a0) (i_3 * tRelation.k))), (19, (.g (tRelation.enc x_i_3))), (20, (.g (tRelation.enc r_5)))]) ⟨rfl, (congrArg (fun q => A.m [0] 0 q tRelation.k) (List.length_set ..).symm), rfl, (congrArg (fun q => A.m [0] 0 q tRelation.k) (List.length_set ..).symm), rfl, rfl, rfl, rfl, rfl, rfl, trivial⟩ ?_
   refine TO_st (σ' := [.row (flat tRelation.enc (out3.set ((i_3 : Int)).toNat r_5))]) rfl ?_
   refine TO_nil ?_
   refine te [(0, (sl tRelation a0)), (3, (.m [0] 0 (out3.set ((i_3 : Int)).toNat r_5).length tRelation.k)), (4, (intA (i_3 : Int)))] rfl ?_
   refine T_region ?_
   refine Tp rfl rfl (pur_move rfl) rfl ?_
   refine Tp rfl rfl (pur_add rfl rfl rfl (fits64 (by omega) (by omega))) rfl ?_
   refine Tp rfl rfl (pur_assign rfl) rfl ?_
   refine TO_nil ?_
   obtain rfl := some_inj H
   exact again (a0.length - (i_3 + 1)) (i_3 + 1, (out3.set ((i_3 : Int)).toNat r_5)) (by omega) (wp 1 (lb rfl) rfl rfl rfl rfl rfl) ⟨rfl, K4_⟩
  ·replace d4 := of_decide_eq_false d4
   obtain rfl := forS_end L4_ (by omega)
   refine T_exit ?_
   refine then_exit ?_
   refine then_exit ?_
   refine block_exit ?_
   replace H := N4_
   refine te [(3, (.m [0] 0 out3.length tRelation.k))] rfl ?_
   refine sr ?_
   refine Tp rfl rfl (pur_move rfl) rfl ?_
   refine Tp rfl rfl (pur_assign rfl) rfl ?_
   refine TO_nil ?_
   refine te [(2, (.m [0] 0 out3.length tRelation.k))] rfl ?_
   refine T_ret ?_
   obtain rfl := some_inj H
   exact end_pick (.tmp .nil) rfl [0] (by decide) rfl rfl rfl rfl rfl rfl
theorem m_laws_toRelationS_ok (a0 : (List Relation)) (r : (List Relation)) (H : m_laws_toRelationS a0 = some r) : FnV prg 93 [(sl tRelation a0)] (sl tRelation r) := (m_laws_toRelationS_own a0 r H).frz (frzT (T := tRelation) rfl)

set_option maxHeartbeats 1000000 in
/-- laws.toDatabase -/
theorem m_laws_toDatabase_own (a0 : Database) (r : Database) (H : m_laws_toDatabase a0 = some r) : FnO prg 27 [(.g (tDatabase.enc a0))] (.g [(.m [0] 0 r.relations.length tRelation.k), (.m [1] 0 r.facts.length tFact.k)]) [.row (flat tRelation.own r.relations), .row (flat tFact.own r.facts)] := by
  unfold m_laws_toDatabase at H
  refine fnO_of_T Try.func27 rfl rfl (Nat.le_of_ble_eq_true rfl) ?_
  refine te [(0, (.g (tDatabase.enc a0)))] rfl ?_
  refine sr ?_
  refine TO_cons rfl (TOp_box rfl (boxAll rfl) rfl rfl ?_)
  refine TO_cons rfl (TOp_alloc zero48 rfl rfl ?_)
  refine TO_nil ?_
  refine te [(1, (.b 0 0)), (2, (.b 1 0))] rfl ?_
  refine sr ?_
  refine TO_cons rfl (TOp_alloc zero48 rfl rfl ?_)
  refine TO_nil ?_
  refine te [(1, (.b 0 0)), (2, (.b 1 0)), (3, (.b 2 0))] rfl ?_
  refine sr ?_
  refine Tp rfl rfl (pur_fa_b fld42_0 rfl rfl) rfl ?_
  refine Tp rfl rfl (pur_ld_b one39 rfl rfl rfl rfl) rfl ?_
  obtain ⟨r_1, h_2, H⟩ := bind_inv H
  refine TO_cons rfl (TOp_callO (call_static ent93 rfl) rfl (m_laws_toRelationS_own _ _ h_2) rfl rfl rfl ?_)
  refine toe [(1, (.b 0 0)), (2, (.b 1 0)), (3, (.b 2 0)), (4, (.b 0 0)), (5, (sl tRelation a0.relations)), (6, (.m [3] 0 r_1.length tRelation.k))] rfl ?_
  refine TO_st (σ' := [.box [(sl tRelation a0.relations), (sl tFact a0.facts)], .box [.n, .n], .box [.n, .n], .row (flat tRelation.own r_1)]) rfl ?_
  refine Tp rfl rfl (pur_fa_b fld48_0 rfl rfl) rfl ?_
  refine TO_cons rfl (TOp_storeB sz45 rfl rfl rfl rfl rfl rfl rfl (by decide) (lb rfl) rfl ?_)
  refine TO_st (σ' := [.box [(sl tRelation a0.relations), (sl tFact a0.facts)], .box [.n, .n], .box [(.m [3] 0 r_1.length tRelation.k), .n], .row (flat tRelation.own r_1)]) rfl ?_
  refine TO_nil ?_
  refine te [(1, (.b 0 0)), (2, (.b 1 0)), (3, (.b 2 0))] rfl ?_
  refine sr ?_
  refine Tp rfl rfl (pur_fa_b fld42_1 rfl rfl) rfl ?_
  refine Tp rfl rfl (pur_ld_b one40 rfl rfl rfl rfl) rfl ?_
  obtain ⟨r_3, h_4, H⟩ := bind_inv H
  refine TO_cons rfl (TOp_callO (call_static ent62 rfl) rfl (m_laws_toFactS_own _ _ h_4) rfl rfl rfl ?_)
  refine toe [(1, (.b 0 0)), (2, (.b 1 0)), (3, (.b 2 0)), (8, (.b 0 1)), (9, (sl tFact a0.facts)), (10, (.m [4] 0 r_3.length tFact.k))] rfl ?_
  refine TO_st (σ' := [.box [(sl tRelation a0.relations), (sl tFact a0.facts)], .box [.n, .n], .box [(.m [3] 0 r_1.length tRelation.k), .n], .row (flat tRelation.own r_1), .row (flat tFact.own r_3)]) rfl ?_
  refine Tp rfl rfl (pur_fa_b fld48_1 rfl rfl) rfl ?_
  refine TO_cons rfl (TOp_storeB sz46 rfl rfl rfl rfl rfl rfl rfl (by decide) (lb rfl) rfl ?_)
  refine TO_st (σ' := [.box [(sl tRelation a0.relations), (sl tFact a0.facts)], .box [.n, .n], .box [(.m [3] 0 r_1.length tRelation.k), (.m [4] 0 r_3.length tFact.k)], .row (flat tRelation.own r_1), .row (flat tFact.own r_3)]) rfl ?_
  refine TO_nil ?_
  refine te [(2, (.b 1 0)), (3, (.b 2 0))] rfl ?_
  refine sr ?_
  refine Tp rfl rfl (pur_ldK_b agg48 rfl rfl (lb rfl) rfl) rfl ?_
  refine TO_cons rfl (TOp_storeB sz48 rfl rfl rfl rfl rfl rfl rfl (by decide) (lb rfl) rfl ?_)
  refine TO_st (σ' := [.box [(sl tRelation a0.relations), (sl tFact a0.facts)], .box [(.m [3] 0 r_1.length tRelation.k), (.m [4] 0 r_3.length tFact.k)], .box [(.m [3] 0 r_1.length tRelation.k), (.m [4] 0 r_3.length tFact.k)], .row (flat tRelation.own r_1), .row (flat tFact.own r_3)]) rfl ?_
  refine TO_nil ?_
  refine te [(2, (.b 1 0))] rfl ?_
  refine T_ret ?_
  obtain rfl := some_inj H
  exact end_pick (.cellK rfl agg48 rfl (lb rfl) .nil) rfl [3, 4] (by decide) rfl rfl rfl rfl rfl rfl
theorem m_laws_toDatabase_ok (a0 : Database) (r : Database) (H : m_laws_toDatabase a0 = some r) : FnV prg 27 [(.g (tDatabase.enc a0))] (.g (tDatabase.enc r)) := (m_laws_toDatabase_own a0 r H).frz (frzOK_g (frz_cons (frzT (T := tRelation) rfl) (frz_cons (frzT (T := tFact) rfl) frz_nil)).1 (frz_cons (frzT (T := tRelation) rfl) (frz_cons (frzT (T := tFact) rfl) frz_nil)).2)

set_option maxHeartbeats 1000000 in
/-- impl.compare -/
theorem m_impl_compare_ok (a0 : Int) (b1 : Int) (r : Int) (H : m_impl_compare a0 b1 = some r) : FnV prg 175 [(intA a0), (intA b1)] (intA r) := by
  unfold m_impl_compare at H
  refine fnV_of_T Try.func175 rfl rfl (Nat.le_of_ble_eq_true rfl) ?_
  refine te [(0, (intA a0)), (1, (intA b1))] rfl ?_
  refine sr ?_
  refine Tp rfl rfl (pur_assign rfl) rfl ?_
  refine TO_nil ?_
  refine te [(0, (intA a0)), (1, (intA b1))] rfl ?_
  refine T_seq ?_
  refine T_block ?_
  refine sr ?_
  refine Tp rfl rfl (pur_move rfl) rfl ?_
  refine Tp rfl rfl (pur_move rfl) rfl ?_
  refine Tp rfl rfl (pur_lss rfl rfl rfl) rfl ?_
  refine Tp rfl rfl (pur_assign rfl) rfl ?_
  refine TO_nil ?_
  refine te [(0, (intA a0)), (1, (intA b1)), (5, (boolA (decide (a0 < b1))))] rfl ?_
  refine T_cond (t := decide (a0 < b1)) rfl (fun c_1 => ?_) (fun c_1 => ?_)
  ·replace H := cond_t c_1 H
   refine sr ?_
   refine Tp rfl rfl (pur_assign rfl) rfl ?_
   refine TO_nil ?_
   refine te [(4, (intA (-1)))] rfl ?_
   refine T_ret ?_
   refine block_ret ?_
   refine then_ret ?_
   obtain rfl := some_inj H
   refine end_ret (.tmp .nil) rfl rfl ⟨?_, rfl⟩
   rfl
  ·replace H := cond_f c_1 H
   refine sr ?_
   refine Tp rfl rfl (pur_move rfl) rfl ?_
   refine Tp rfl rfl (pur_move rfl) rfl ?_
   refine Tp rfl rfl (pur_gtr rfl rfl rfl) rfl ?_
   refine Tp rfl rfl (pur_assign rfl) rfl ?_
   refine TO_nil ?_
   refine te [(9, (boolA (decide (b1 < a0))))] rfl ?_
   refine T_cond (t := decide (b1 < a0)) rfl (fun c_2 => ?_) (fun c_2 => ?_)
   ·replace H := cond_t c_2 H
    refine sr ?_
    refine Tp rfl rfl (pur_assign rfl) rfl ?_
    refine TO_nil ?_
    refine te [(4, (intA 1))] rfl ?_
    refine T_ret ?_
    refine block_ret ?_
    refine then_ret ?_
    obtain rfl := some_inj H
    refine end_ret (.tmp .nil) rfl rfl ⟨?_, rfl⟩
    rfl
   ·replace H := cond_f c_2 H
    refine T_skip ?_
    refine te [] rfl ?_
    refine sr ?_
    refine Tp rfl rfl (pur_assign rfl) rfl ?_
    refine TO_nil ?_
    refine te [(4, (intA 0))] rfl ?_
    refine T_ret ?_
    obtain rfl := some_inj H
    refine end_ret (.tmp .nil) rfl rfl ⟨?_, rfl⟩
    rfl

set_option maxHeartbeats 1000000 in
/-- cmp.isNaN[int] -/
theorem m_cmp_isNaN_int_ok (x0 : Int) (r : Bool) (H : m_cmp_isNaN_int x0 = some r) : FnV prg 191 [(intA x0)] (boolA r) := by
  unfold m_cmp_isNaN_int at H
  refine fnV_of_T Try.func191 rfl rfl (Nat.le_of_ble_eq_true rfl) ?_
  refine te [(0, (intA x0))] rfl ?_
  refine sr ?_
  refine Tp rfl rfl (pur_assign rfl) rfl ?_
  refine TO_nil ?_
  refine te [(0, (intA x0))] rfl ?_
  refine sr ?_
  refine Tp rfl rfl (pur_move rfl) rfl ?_
  refine Tp rfl rfl (pur_move rfl) rfl ?_
  refine Tp rfl rfl (pur_neq rfl rfl rfl) rfl ?_
  refine Tp rfl rfl (pur_assign rfl) rfl ?_
  refine TO_nil ?_
  refine te [(2, (boolA (decide (x0 ≠ x0))))] rfl ?_
  refine T_ret ?_
  obtain rfl := some_inj H
  refine end_ret (.tmp .nil) rfl rfl ⟨?_, rfl⟩
  rfl

set_option maxHeartbeats 1000000 in
/-- cmp.Compare[int] -/
theorem m_cmp_Compare_int_ok (x0 : Int) (y1 : Int) (r : Int) (H : m_cmp_Compare_int x0 y1 = some r) : FnV prg 187 [(intA x0), (intA y1)] (intA r) := by
  unfold m_cmp_Compare_int at H
  refine fnV_of_T Try.func187 rfl rfl (Nat.le_of_ble_eq_true rfl) ?_
  refine te [(0, (intA x0)), (1, (intA y1))] rfl ?_
  refine sr ?_
  refine Tp rfl rfl (pur_assign rfl) rfl ?_
  refine TO_nil ?_
  refine te [(0, (intA x0)), (1, (intA y1))] rfl ?_
  refine sr ?_
  refine Tp rfl rfl (pur_move rfl) rfl ?_
  obtain ⟨r_1, h_2, H⟩ := bind_inv H
  refine TO_cons rfl (TOp_callV (call_static ent191 rfl) (m_cmp_isNaN_int_ok _ _ h_2) rfl rfl rfl ?_)
  refine Tp rfl rfl (pur_assign rfl) rfl ?_
  refine TO_nil ?_
  refine te [(0, (intA x0)), (1, (intA y1)), (5, (boolA r_1))] rfl ?_
  refine sr ?_
  refine Tp rfl rfl (pur_move rfl) rfl ?_
  obtain ⟨r_3, h_4, H⟩ := bind_inv H
  refine TO_cons rfl (TOp_callV (call_static ent191 rfl) (m_cmp_isNaN_int_ok _ _ h_4) rfl rfl rfl ?_)
  refine Tp rfl rfl (pur_assign rfl) rfl ?_
  refine TO_nil ?_
  refine te [(0, (intA x0)), (1, (intA y1)), (5, (boolA r_1)), (6, (boolA r_3))] rfl ?_
  refine T_seq ?_
  refine sr ?_
  refine Tp rfl rfl (pur_move rfl) rfl ?_
  refine TO_nil ?_
  refine te [(0, (intA x0)), (1, (intA y1)), (6, (boolA r_3)), (11, (boolA r_1))] rfl ?_
  refine T_cond (t := r_1) rfl (fun c_5 => ?_) (fun c_5 => ?_)
  ·replace H := cond_t c_5 H
   refine T_seq ?_
   refine sr ?_
   refine Tp rfl rfl (pur_move rfl) rfl ?_
   refine TO_nil ?_
   refine te [(12, (boolA r_3))] rfl ?_
   refine T_cond (t := r_3) rfl (fun c_6 => ?_) (fun c_6 => ?_)
   ·replace H := cond_t c_6 H
    refine sr ?_
    refine Tp rfl rfl (pur_assign rfl) rfl ?_
    refine TO_nil ?_
    refine te [(4, (intA 0))] rfl ?_
    refine T_ret ?_
    refine then_ret ?_
    refine then_ret ?_
    obtain rfl := some_inj H
    refine end_ret (.tmp .nil) rfl rfl ⟨?_, rfl⟩
    rfl
   ·replace H := cond_f c_6 H
    refine T_skip ?_
    refine te [] rfl ?_
    refine sr ?_
    refine Tp rfl rfl (pur_assign rfl) rfl ?_
    refine TO_nil ?_
    refine te [(4, (intA (-1)))] rfl ?_
    refine T_ret ?_
    refine then_ret ?_
    obtain rfl := some_inj H
    refine end_ret (.tmp .nil) rfl rfl ⟨?_, rfl⟩
    rfl
  ·replace H := cond_f c_5 H
   refine T_skip ?_
   refine te [(0, (intA x0)), (1, (intA y1)), (6, (boolA r_3))] rfl ?_
   refine T_seq ?_
   refine sr ?_
   refine Tp rfl rfl (pur_move rfl) rfl ?_
   refine TO_nil ?_
   refine te [(0, (intA x0)), (1, (intA y1)), (13, (boolA r_3))] rfl ?_
   refine T_cond (t := r_3) rfl (fun c_7 => ?_) (fun c_7 => ?_)
   ·replace H := cond_t c_7 H
    refine sr ?_
    refine Tp rfl rfl (pur_assign rfl) rfl ?_
    refine TO_nil ?_
    refine te [(4, (intA 1))] rfl ?_
    refine T_ret ?_
    refine then_ret ?_
    obtain rfl := some_inj H
    refine end_ret (.tmp .nil) rfl rfl ⟨?_, rfl⟩
    rfl
   ·replace H := cond_f c_7 H
    refine T_skip ?_
    refine te [(0, (intA x0)), (1, (intA y1))] rfl ?_
    refine T_seq ?_
    refine sr ?_
    refine Tp rfl rfl (pur_move rfl) rfl ?_
    refine Tp rfl rfl (pur_move rfl) rfl ?_
    refine Tp rfl rfl (pur_lss rfl rfl rfl) rfl ?_
    refine TO_nil ?_
    refine te [(0, (intA x0)), (1, (intA y1)), (16, (boolA (decide (x0 < y1))))] rfl ?_
    refine T_cond (t := decide (x0 < y1)) rfl (fun c_8 => ?_) (fun c_8 => ?_)
    ·replace H := cond_t c_8 H
     refine sr ?_
     refine Tp rfl rfl (pur_assign rfl) rfl ?_
     refine TO_nil ?_
     refine te [(4, (intA (-1)))] rfl ?_
     refine T_ret ?_
     refine then_ret ?_
     obtain rfl := some_inj H
     refine end_ret (.tmp .nil) rfl rfl ⟨?_, rfl⟩
     rfl
    ·replace H := cond_f c_8 H
     refine T_skip ?_
     refine te [(0, (intA x0)), (1, (intA y1))] rfl ?_
     refine T_seq ?_
     refine sr ?_
     refine Tp rfl rfl (pur_move rfl) rfl ?_
     refine Tp rfl rfl (pur_move rfl) rfl ?_
     refine Tp rfl rfl (pur_gtr rfl rfl rfl) rfl ?_
     refine TO_nil ?_
     refine te [(19, (boolA (decide (y1 < x0))))] rfl ?_
     refine T_cond (t := decide (y1 < x0)) rfl (fun c_9 => ?_) (fun c_9 => ?_)
     ·replace H := cond_t c_9 H
      refine sr ?_
      refine Tp rfl rfl (pur_assign rfl) rfl ?_
      refine TO_nil ?_
      refine te [(4, (intA 1))] rfl ?_
      refine T_ret ?_
      refine then_ret ?_
      obtain rfl := some_inj H
      refine end_ret (.tmp .nil) rfl rfl ⟨?_, rfl⟩
      rfl
     ·replace H := cond_f c_9 H
      refine T_skip ?_
      refine te [] rfl ?_
      refine sr ?_
      refine Tp rfl rfl (pur_assign rfl) rfl ?_
      refine TO_nil ?_
      refine te [(4, (intA 0))] rfl ?_
      refine T_ret ?_
      obtain rfl := some_inj H
      refine end_ret (.tmp .nil) rfl rfl ⟨?_, rfl⟩
      rfl

set_option maxHeartbeats 1000000 in
/-- slices.Compare[[]int,int] -/
theorem m_slices_Compare_Sint_int_ok (s10 : (List Int)) (s21 : (List Int)) (r : Int) (H : m_slices_Compare_Sint_int s10 s21 = some r) : FnV prg 176 [(sl tInt s10), (sl tInt s21)] (intA r) := by
  unfold m_slices_Compare_Sint_int at H
  refine fnV_of_T Try.func176 rfl rfl (Nat.le_of_ble_eq_true rfl) ?_
  refine te [(0, (sl tInt s10)), (1, (sl tInt s21))] rfl ?_
  refine sr ?_
  refine Tp rfl rfl (pur_assign rfl) rfl ?_
  refine TO_nil ?_
  refine te [(0, (sl tInt s10)), (1, (sl tInt s21))] rfl ?_
  refine T_seq ?_
  refine sr ?_
  refine Tp rfl rfl (pur_move rfl) rfl ?_
  refine Tp rfl rfl (pur_lenT (T := tInt) sl23 rfl rfl) rfl ?_
  refine Tp rfl rfl (pur_move rfl) rfl ?_
  refine TO_nil ?_
  refine te [(0, (sl tInt s10)), (1, (sl tInt s21)), (9, (sl tInt s10)), (10, (intA (s10.length : Int))), (11, (intA 0))] rfl ?_
  obtain ⟨O2_, L2_, N2_⟩ := bind_inv H
  clear H
  obtain ⟨B2_, hb2, L2_⟩ := gen_forL L2_
  refine T_block ?_
  refine T_loopX (fun k => fun (t_1 : Nat) => k = s10.length - t_1 ∧ forL B2_ (s10.drop t_1) (t_1 : Int) () = some O2_) (fun (t_1 : Nat) => [(0, (sl tInt s10)), (1, (sl tInt s21)), (9, (sl tInt s10)), (10, (intA (s10.length : Int))), (11, (intA (t_1 : Int)))]) (fun (t_1 : Nat) => []) _ (0 : Nat) (wp 0 (lb rfl) rfl rfl rfl rfl rfl) ⟨rfl, L2_⟩ ?_
  rintro _ t_1 ⟨rfl, L2_⟩
  refine te [(0, (sl tInt s10)), (1, (sl tInt s21)), (9, (sl tInt s10)), (10, (intA (s10.length : Int))), (11, (intA (t_1 : Int)))] rfl ?_
  refine T_st (σ' := []) rfl ?_
  refine T_fact (len_sl (T := tInt) (.tmp 0) rfl) (fun hl2 => ?_)
  refine sr ?_
  refine Tp rfl rfl (pur_lss rfl rfl rfl) rfl ?_
  refine TO_nil ?_
  refine te [(0, (sl tInt s10)), (1, (sl tInt s21)), (9, (sl tInt s10)), (10, (intA (s10.length : Int))), (11, (intA (t_1 : Int))), (12, (boolA (decide ((t_1 : Int) < (s10.length : Int)))))] rfl ?_
  refine T_seq ?_
  refine T_cond (t := decide ((t_1 : Int) < (s10.length : Int))) rfl (fun d2 => ?_) (fun d2 => ?_)
  ·replace d2 := of_decide_eq_true d2
   obtain ⟨x_t_1, hx_t_1⟩ : ∃ v, (s10)[t_1]? = some v := ⟨_, List.getElem?_eq_getElem (by omega)⟩
   obtain ⟨C2_, H, K2_⟩ := forL_step L2_ hx_t_1
   rw [hb2] at H
   refine T_skip ?_
   refine te [(0, (sl tInt s10)), (1, (sl tInt s21)), (9, (sl tInt s10)), (10, (intA (s10.length : Int))), (11, (intA (t_1 : Int)))] rfl ?_
   refine T_seq ?_
   refine T_block ?_
   refine sr ?_
   refine Tp rfl rfl (pur_move rfl) rfl ?_
   refine Tp rfl rfl (pur_ixT (T := tInt) sl23 rfl rfl rfl hx_t_1 rfl) rfl ?_
   refine Tp rfl rfl (pur_ldT (T := tInt) (i := t_1) (off := 0) rfl one3 rfl rfl hx_t_1 rfl) rfl ?_
   refine Tp rfl rfl (pur_assign rfl) rfl ?_
   refine Tp rfl rfl (pur_assign rfl) rfl ?_
   refine TO_nil ?_
   refine te [(0, (sl tInt s10)), (1, (sl tInt s21)), (5, (intA (t_1 : Int))), (6, (intA x_t_1)), (9, (sl tInt s10)), (10, (intA (s10.length : Int))), (11, (intA (t_1 : Int)))] rfl ?_
   refine T_seq ?_
   refine sr ?_
   refine Tp rfl rfl (pur_move rfl) rfl ?_
   refine Tp rfl rfl (pur_move rfl) rfl ?_
   refine Tp rfl rfl (pur_lenT (T := tInt) sl23 rfl rfl) rfl ?_
   refine Tp rfl rfl (pur_geq rfl rfl rfl) rfl ?_
   refine TO_nil ?_
   refine te [(0, (sl tInt s10)), (1, (sl tInt s21)), (5, (intA (t_1 : Int))), (6, (intA x_t_1)), (9, (sl tInt s10)), (10, (intA (s10.length : Int))), (11, (intA (t_1 : Int))), (19, (boolA (decide ((s21.length : Int) ≤ (t_1 : Int)))))] rfl ?_
   refine T_cond (t := decide ((s21.length : Int) ≤ (t_1 : Int))) rfl (fun c_3 => ?_) (fun c_3 => ?_)
   ·replace H := cond_t c_3 H
    refine sr ?_
    refine Tp rfl rfl (pur_assign rfl) rfl ?_
    refine TO_nil ?_
    refine te [(4, (intA 1))] rfl ?_
    refine T_ret ?_
    refine then_ret ?_
    refine block_ret ?_
    refine then_ret ?_
    refine then_ret ?_
    refine block_ret ?_
    refine then_ret ?_
    obtain rfl := some_inj H
    obtain rfl := some_inj K2_
    replace H := onS_r N2_
    obtain rfl := some_inj H
    refine end_ret (.tmp .nil) rfl rfl ⟨?_, rfl⟩
    rfl
   ·replace H := cond_f c_3 H
    refine T_skip ?_
    refine te [(0, (sl tInt s10)), (1, (sl tInt s21)), (5, (intA (t_1 : Int))), (6, (intA x_t_1)), (9, (sl tInt s10)), (10, (intA (s10.length : Int))), (11, (intA (t_1 : Int)))] rfl ?_
    refine sr ?_
    refine Tp rfl rfl (pur_move rfl) rfl ?_
    refine Tp rfl rfl (pur_move rfl) rfl ?_
    obtain ⟨v_4, h_5, H⟩ := bind_inv H
    obtain ⟨n_6, hz_7, hv_8⟩ := getI_inv h_5
    refine Tp rfl rfl (pur_ixT (T := tInt) sl23 rfl rfl hz_7 hv_8 rfl) rfl ?_
    refine Tp rfl rfl (pur_ldT (T := tInt) (i := n_6) (off := 0) rfl one3 rfl rfl hv_8 rfl) rfl ?_
    refine Tp rfl rfl (pur_assign rfl) rfl ?_
    refine TO_nil ?_
    refine te [(0, (sl tInt s10)), (1, (sl tInt s21)), (6, (intA x_t_1)), (7, (intA v_4)), (9, (sl tInt s10)), (10, (intA (s10.length : Int))), (11, (intA (t_1 : Int)))] rfl ?_
    refine sr ?_
    refine Tp rfl rfl (pur_move rfl) rfl ?_
    refine Tp rfl rfl (pur_move rfl) rfl ?_
    obtain ⟨r_9, h_10, H⟩ := bind_inv H
    refine TO_cons rfl (TOp_callV (call_static ent187 rfl) (m_cmp_Compare_int_ok _ _ _ h_10) rfl rfl rfl ?_)
    refine Tp rfl rfl (pur_assign rfl) rfl ?_
    refine TO_nil ?_
    refine te [(0, (sl tInt s10)), (1, (sl tInt s21)), (8, (intA r_9)), (9, (sl tInt s10)), (10, (intA (s10.length : Int))), (11, (intA (t_1 : Int)))] rfl ?_
    refine sr ?_
    refine Tp rfl rfl (pur_move rfl) rfl ?_
    refine Tp rfl rfl (pur_neq rfl rfl rfl) rfl ?_
    refine TO_nil ?_
    refine te [(0, (sl tInt s10)), (1, (sl tInt s21)), (8, (intA r_9)), (9, (sl tInt s10)), (10, (intA (s10.length : Int))), (11, (intA (t_1 : Int))), (28, (boolA (decide (r_9 ≠ 0))))] rfl ?_
    refine T_cond (t := decide (r_9 ≠ 0)) rfl (fun c_11 => ?_) (fun c_11 => ?_)
    ·replace H := cond_t c_11 H
     refine sr ?_
     refine Tp rfl rfl (pur_move rfl) rfl ?_
     refine Tp rfl rfl (pur_assign rfl) rfl ?_
     refine TO_nil ?_
     refine te [(4, (intA r_9))] rfl ?_
     refine T_ret ?_
     refine block_ret ?_
     refine then_ret ?_
     refine then_ret ?_
     refine block_ret ?_
     refine then_ret ?_
     obtain rfl := some_inj H
     obtain rfl := some_inj K2_
     replace H := onS_r N2_
     obtain rfl := some_inj H
     refine end_ret (.tmp .nil) rfl rfl ⟨?_, rfl⟩
     rfl
    ·replace H := cond_f c_11 H
     refine T_skip ?_
     refine te [(0, (sl tInt s10)), (1, (sl tInt s21)), (9, (sl tInt s10)), (10, (intA (s10.length : Int))), (11, (intA (t_1 : Int)))] rfl ?_
     refine T_region ?_
     refine Tp rfl rfl (pur_add rfl rfl rfl (fits64 (by omega) (by omega))) rfl ?_
     refine Tp rfl rfl (pur_move rfl) rfl ?_
     refine TO_nil ?_
     obtain rfl := some_inj H
     exact again (s10.length - (t_1 + 1)) (t_1 + 1) (by omega) (wp 0 (lb rfl) rfl rfl rfl rfl rfl) ⟨rfl, K2_⟩
  ·replace d2 := of_decide_eq_false d2
   obtain rfl := forL_end L2_ (by omega)
   refine T_exit ?_
   refine then_exit ?_
   refine then_exit ?_
   refine block_exit ?_
   replace H := onS_l N2_
   refine te [(0, (sl tInt s10)), (1, (sl tInt s21))] rfl ?_
   refine T_seq ?_
   refine sr ?_
   refine Tp rfl rfl (pur_move rfl) rfl ?_
   refine Tp rfl rfl (pur_lenT (T := tInt) sl23 rfl rfl) rfl ?_
   refine Tp rfl rfl (pur_move rfl) rfl ?_
   refine Tp rfl rfl (pur_lenT (T := tInt) sl23 rfl rfl) rfl ?_
   refine Tp rfl rfl (pur_lss rfl rfl rfl) rfl ?_
   refine TO_nil ?_
   refine te [(35, (boolA (decide ((s10.length : Int) < (s21.length : Int)))))] rfl ?_
   refine T_cond (t := decide ((s10.length : Int) < (s21.length : Int))) rfl (fun c_12 => ?_) (fun c_12 => ?_)
   ·replace H := cond_t c_12 H
    refine sr ?_
    refine Tp rfl rfl (pur_assign rfl) rfl ?_
    refine TO_nil ?_
    refine te [(4, (intA (-1)))] rfl ?_
    refine T_ret ?_
    refine then_ret ?_
    obtain rfl := some_inj H
    refine end_ret (.tmp .nil) rfl rfl ⟨?_, rfl⟩
    rfl
   ·replace H := cond_f c_12 H
    refine T_skip ?_
    refine te [] rfl ?_
    refine sr ?_
    refine Tp rfl rfl (pur_assign rfl) rfl ?_
    refine TO_nil ?_
    refine te [(4, (intA 0))] rfl ?_
    refine T_ret ?_
    obtain rfl := some_inj H
    refine end_ret (.tmp .nil) rfl rfl ⟨?_, rfl⟩
    rfl

set_option maxHeartbeats 1000000 in
/-- impl.CompareFacts -/
theorem m_impl_CompareFacts_ok (a0 : Fact) (b1 : Fact) (r : Int) (H : m_impl_CompareFacts a0 b1 = some r) : FnV prg 152 [(.g (tFact.enc a0)), (.g (tFact.enc b1))] (intA r) := by
  unfold m_impl_CompareFacts at H
  refine fnV_of_T Try.func152 rfl rfl (Nat.le_of_ble_eq_true rfl) ?_
  refine te [(0, (.g (tFact.enc a0))), (1, (.g (tFact.enc b1)))] rfl ?_
  refine sr ?_
  refine TO_cons rfl (TOp_box rfl (boxAll rfl) rfl rfl ?_)
  refine TO_cons rfl (TOp_box rfl (boxAll rfl) rfl rfl ?_)
  refine Tp rfl rfl (pur_assign rfl) rfl ?_
  refine TO_nil ?_
  refine te [(2, (.b 0 0)), (3, (.b 1 0))] rfl ?_
  refine T_seq ?_
  refine sr ?_
  refine Tp rfl rfl (pur_fa_b fld65_0 rfl rfl) rfl ?_
  refine Tp rfl rfl (pur_ld_b one3 rfl rfl rfl rfl) rfl ?_
  refine Tp rfl rfl (pur_fa_b fld65_0 rfl rfl) rfl ?_
  refine Tp rfl rfl (pur_ld_b one3 rfl rfl rfl rfl) rfl ?_
  refine Tp rfl rfl (pur_neq rfl rfl rfl) rfl ?_
  refine TO_nil ?_
  refine te [(2, (.b 0 0)), (3, (.b 1 0)), (9, (boolA (decide (a0.relation ≠ b1.relation))))] rfl ?_
  refine T_cond (t := decide (a0.relation ≠ b1.relation)) rfl (fun c_1 => ?_) (fun c_1 => ?_)
  ·replace H := cond_t c_1 H
   refine sr ?_
   refine Tp rfl rfl (pur_fa_b fld65_0 rfl rfl) rfl ?_
   refine Tp rfl rfl (pur_ld_b one3 rfl rfl rfl rfl) rfl ?_
   refine Tp rfl rfl (pur_fa_b fld65_0 rfl rfl) rfl ?_
   refine Tp rfl rfl (pur_ld_b one3 rfl rfl rfl rfl) rfl ?_
   obtain ⟨r_2, h_3, H⟩ := bind_inv H
   refine TO_cons rfl (TOp_callV (call_static ent175 rfl) (m_impl_compare_ok _ _ _ h_3) rfl rfl rfl ?_)
   refine Tp rfl rfl (pur_assign rfl) rfl ?_
   refine TO_nil ?_
   refine te [(4, (intA r_2))] rfl ?_
   refine T_ret ?_
   refine then_ret ?_
   obtain rfl := some_inj H
   refine end_ret (.tmp .nil) rfl rfl ⟨?_, rfl⟩
   rfl
  ·replace H := cond_f c_1 H
   refine T_skip ?_
   refine te [(2, (.b 0 0)), (3, (.b 1 0))] rfl ?_
   refine sr ?_
   refine Tp rfl rfl (pur_fa_b fld65_1 rfl rfl) rfl ?_
   refine Tp rfl rfl (pur_ld_b one23 rfl rfl rfl rfl) rfl ?_
   refine Tp rfl rfl (pur_fa_b fld65_1 rfl rfl) rfl ?_
   refine Tp rfl rfl (pur_ld_b one23 rfl rfl rfl rfl) rfl ?_
   obtain ⟨r_4, h_5, H⟩ := bind_inv H
   refine TO_cons rfl (TOp_callV (call_static ent176 rfl) (m_slices_Compare_Sint_int_ok _ _ _ h_5) rfl rfl rfl ?_)
   refine Tp rfl rfl (pur_assign rfl) rfl ?_
   refine TO_nil ?_
   refine te [(4, (intA r_4))] rfl ?_
   refine T_ret ?_
   obtain rfl := some_inj H
   refine end_ret (.tmp .nil) rfl rfl ⟨?_, rfl⟩
   rfl

set_option maxHeartbeats 1000000 in
/-- impl.within -/
theorem m_impl_within_ok (n0 : Int) (low1 : Int) (high2 : Int) (r : Bool) (H : m_impl_within n0 low1 high2 = some r) : FnV prg 140 [(intA n0), (intA low1), (intA high2)] (boolA r) := by
  unfold m_impl_within at H
  refine fnV_of_T Try.func140 rfl rfl (Nat.le_of_ble_eq_true rfl) ?_
  refine te [(0, (intA n0)), (1, (intA low1)), (2, (intA high2))] rfl ?_
  refine sr ?_
  refine Tp rfl rfl (pur_assign rfl) rfl ?_
  refine TO_nil ?_
  refine te [(0, (intA n0)), (1, (intA low1)), (2, (intA high2))] rfl ?_
  refine T_cutX (fun x => ((decide (low1 ≤ n0)) && (decide (n0 ≤ high2))) = x) (fun (t6_1 : Bool) => [(6, (boolA t6_1))]) (fun (t6_1 : Bool) => []) ?_ ?_
  ·skip
   refine T_region ?_
   refine Tp rfl rfl (pur_move rfl) rfl ?_
   refine Tp rfl rfl (pur_move rfl) rfl ?_
   refine Tp rfl rfl (pur_leq rfl rfl rfl) rfl ?_
   refine Tp rfl rfl (pur_move rfl) rfl ?_
   refine TO_split (t := decide (low1 ≤ n0)) 10 rfl (fun g_3 => ?_) (fun g_3 => ?_)
   ·skip
    refine TO_on rfl rfl (by decide) rfl rfl (TOp_pure (pur_move rfl) rfl ?_)
    refine TO_on rfl rfl (by decide) rfl rfl (TOp_pure (pur_move rfl) rfl ?_)
    refine TO_on rfl rfl (by decide) rfl rfl (TOp_pure (pur_leq rfl rfl rfl) rfl ?_)
    refine Tp rfl rfl (pur_pick (t := true) rfl rfl rfl) rfl ?_
    refine Tp rfl rfl (pur_assign rfl) rfl ?_
    refine TO_nil ?_
    exact joined (decide (n0 ≤ high2)) (wp 0 (lb rfl) rfl rfl rfl rfl rfl) (by first | exact Eq.symm ((and_T g_3 rfl)))
   ·skip
    refine TO_off rfl rfl (by decide) rfl rfl rfl ?_
    refine TO_off rfl rfl (by decide) rfl rfl rfl ?_
    refine TO_off rfl rfl (by decide) rfl rfl rfl ?_
    refine Tp rfl rfl (pur_pick (t := false) rfl rfl rfl) rfl ?_
    refine Tp rfl rfl (pur_assign rfl) rfl ?_
    refine TO_nil ?_
    exact joined false (wp 0 (lb rfl) rfl rfl rfl rfl rfl) (by first | exact Eq.symm ((and_F g_3 rfl)))
  ·rintro _ rfl
   refine te [(6, (boolA ((decide (low1 ≤ n0)) && (decide (n0 ≤ high2)))))] rfl ?_
   refine T_ret ?_
   obtain rfl := some_inj H
   refine end_ret (.tmp .nil) rfl rfl ⟨?_, rfl⟩
   rfl
end Go.Proofs.Ytjdpolnakhmkmaa

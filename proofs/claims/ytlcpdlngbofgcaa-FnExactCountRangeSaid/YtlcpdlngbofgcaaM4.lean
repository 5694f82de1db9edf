/- Walks. -/
import Derived.Test.YtlcpdlngbofgcaaM1
import Derived.Test.YtlcpdlngbofgcaaM2
import Derived.Test.YtlcpdlngbofgcaaM3
set_option linter.unusedVariables false
set_option linter.unusedSimpArgs false
set_option maxRecDepth 4000
namespace Go.Proofs.Ytlcpdlngbofgcaa
open Go Go.Proofs Go.Sep
set_option maxHeartbeats 1000000 in
/-- spec.HaveSameKey -/
theorem m_spec_HaveSameKey_ok (u : Nat) (l0 : (List Relation)) (a1 : Fact) (b2 : Fact) (r : Bool) (H : m_spec_HaveSameKey u l0 a1 b2 = some r) : FnV prg 122 [(sl tRelation l0), (.g (tFact.enc a1)), (.g (tFact.enc b2))] (boolA r) := by
  unfold m_spec_HaveSameKey at H
  refine fnV_of_T Try.func122 rfl rfl (Nat.le_of_ble_eq_true rfl) ?_
  refine T_env (E' := [(0, (sl tRelation l0)), (1, (.g (tFact.enc a1))), (2, (.g (tFact.enc b2)))]) ⟨rfl, rfl, rfl, trivial⟩ ?_
  refine T_seq ?_
  refine T_region ?_
  refine TO_cons rfl (TOp_box rfl (boxAll rfl) rfl rfl ?_)
  refine TO_cons rfl (TOp_box rfl (boxAll rfl) rfl rfl ?_)
  refine TO_cons rfl (TOp_pure (pur_assign rfl) rfl ?_)
  refine TO_nil ?_
  refine T_env (E' := [(0, (sl tRelation l0)), (4, (.b 0 0)), (5, (.b 1 0))]) ⟨rfl, rfl, rfl, trivial⟩ ?_
  obtain ⟨t6, J_1, H_2⟩ := bind_inv H
  refine T_cutX (fun x => t6 = x) (fun (t6 : Bool) => [(6, (boolA t6))]) (fun (t6 : Bool) => []) ?_ ?_
  · replace H := J_1
    obtain ⟨r_3, h_4, H⟩ := bind_inv H
    refine T_caseB r_3 (fun g_5 => ?_) (fun g_5 => ?_)
    · replace H := cond_t g_5 H
      obtain ⟨r_6, h_7, H⟩ := bind_inv H
      refine T_caseB r_6 (fun g_8 => ?_) (fun g_8 => ?_)
      · replace H := cond_t g_8 H
        refine T_caseB (decide (a1.relation = b2.relation)) (fun g_9 => ?_) (fun g_9 => ?_)
        · replace H := cond_t g_9 H
          obtain ⟨r_10, h_11, H⟩ := bind_inv H
          obtain ⟨r_12, h_13, H⟩ := bind_inv H
          obtain ⟨r_14, h_15, H⟩ := bind_inv H
          refine T_regionP mixed ?_
          refine TA_first 0 #[true, false, false, false, false, false, false, false, false, false, false, false, false, false, false, false, false, false, false, false, false, false, false, false, false, false] rfl (purI_move rfl) rfl rfl rfl (by kernel_rfl) (by kernel_rfl) (by kernel_rfl) ?_
          refine TA_allG [1] (by kernel_rfl) (by decide) ⟨⟨_, rfl, goN rfl, (TOp_pure (pur_ldK_b agg60 rfl rfl (Nat.le_of_ble_eq_true rfl) rfl) rfl ?_)⟩, trivial⟩
          refine TA_listed #[true, true, false, false, false, false, false, false, false, false, false, false, false, false, false, false, false, false, false, false, false, false, false, false, false, false] rfl ?_
          refine TA_allG [2] (by kernel_rfl) (by decide) ⟨⟨_, rfl, goN rfl, (TOp_callV (call_static ent102 rfl) (m_spec_IsValidFact_ok u _ _ _ h_4) rfl rfl rfl ?_)⟩, trivial⟩
          refine TA_listed #[true, true, true, false, false, false, false, false, false, false, false, false, false, false, false, false, false, false, false, false, false, false, false, false, false, false] rfl ?_
          refine TA_first 3 #[true, true, true, true, false, false, false, false, false, false, false, false, false, false, false, false, false, false, false, false, false, false, false, false, false, false] rfl (purI_move rfl) rfl rfl rfl (by kernel_rfl) (by kernel_rfl) (by kernel_rfl) ?_
          refine TA_bool 10 g_5 rfl ?_
          refine TA_firstG 4 #[true, true, true, true, true, false, false, false, false, false, false, false, false, false, false, false, false, false, false, false, false, false, false, false, false, false] rfl (purI_move rfl) rfl rfl (by decide) rfl rfl rfl (by kernel_rfl) (by kernel_rfl) (by kernel_rfl) ?_
          refine TA_allG [5] (by kernel_rfl) (by decide) ⟨⟨_, rfl, goG rfl rfl (by decide) rfl, (TOp_pure (pur_ldK_b agg60 rfl rfl (Nat.le_of_ble_eq_true rfl) rfl) rfl ?_)⟩, trivial⟩
          refine TA_listed #[true, true, true, true, true, true, false, false, false, false, false, false, false, false, false, false, false, false, false, false, false, false, false, false, false, false] rfl ?_
          refine TA_allG [6] (by kernel_rfl) (by decide) ⟨⟨_, rfl, goG rfl rfl (by decide) rfl, (TOp_callV (call_static ent102 rfl) (m_spec_IsValidFact_ok u _ _ _ h_7) rfl rfl rfl ?_)⟩, trivial⟩
          refine TA_listed #[true, true, true, true, true, true, true, false, false, false, false, false, false, false, false, false, false, false, false, false, false, false, false, false, false, false] rfl ?_
          refine TA_allG [7] (by kernel_rfl) (by decide) ⟨⟨_, rfl, goN rfl, (TOp_pure (pur_pick (t := true) rfl rfl rfl) rfl ?_)⟩, trivial⟩
          refine TA_listed #[true, true, true, true, true, true, true, true, false, false, false, false, false, false, false, false, false, false, false, false, false, false, false, false, false, false] rfl ?_
          refine TA_first 8 #[true, true, true, true, true, true, true, true, true, false, false, false, false, false, false, false, false, false, false, false, false, false, false, false, false, false] rfl (purI_move rfl) rfl rfl rfl (by kernel_rfl) (by kernel_rfl) (by kernel_rfl) ?_
          refine TA_bool 15 g_8 rfl ?_
          refine TA_env (E' := [(0, (sl tRelation l0)), (4, (.b 0 0)), (5, (.b 1 0)), (15, (boolA true))]) ⟨rfl, rfl, rfl, rfl, trivial⟩ ?_
          refine TA_firstG 9 #[true, true, true, true, true, true, true, true, true, true, false, false, false, false, false, false, false, false, false, false, false, false, false, false, false, false] rfl (purI_fa_b fld60_0 rfl rfl) rfl rfl (by decide) rfl rfl rfl (by kernel_rfl) (by kernel_rfl) (by kernel_rfl) ?_
          refine TA_firstG 11 #[true, true, true, true, true, true, true, true, true, true, false, true, false, false, false, false, false, false, false, false, false, false, false, false, false, false] rfl (purI_fa_b fld60_0 rfl rfl) rfl rfl (by decide) rfl rfl rfl (by kernel_rfl) (by kernel_rfl) (by kernel_rfl) ?_
          refine TA_allG [10, 12] (by kernel_rfl) (by decide) ⟨?_, ?_, trivial⟩
          · skip
            refine ⟨_, rfl, goG rfl rfl (by decide) rfl, (TOp_pure (pur_ld_b one3 rfl rfl rfl rfl) rfl ?_)⟩
            refine TA_listed #[true, true, true, true, true, true, true, true, true, true, true, true, false, false, false, false, false, false, false, false, false, false, false, false, false, false] rfl ?_
            refine TA_allG [12] (by kernel_rfl) (by decide) ⟨⟨_, rfl, goG rfl rfl (by decide) rfl, (TOp_pure (pur_ld_b one3 rfl rfl rfl rfl) rfl ?_)⟩, trivial⟩
            refine TA_listed #[true, true, true, true, true, true, true, true, true, true, true, true, true, false, false, false, false, false, false, false, false, false, false, false, false, false] rfl ?_
            refine TA_allG [13] (by kernel_rfl) (by decide) ⟨⟨_, rfl, goG rfl rfl (by decide) rfl, (TOp_pure (pur_eql rfl rfl rfl) rfl ?_)⟩, trivial⟩
            refine TA_listed #[true, true, true, true, true, true, true, true, true, true, true, true, true, true, false, false, false, false, false, false, false, false, false, false, false, false] rfl ?_
            refine TA_allG [14] (by kernel_rfl) (by decide) ⟨⟨_, rfl, goN rfl, (TOp_pure (pur_pick (t := true) rfl rfl rfl) rfl ?_)⟩, trivial⟩
            refine TA_listed #[true, true, true, true, true, true, true, true, true, true, true, true, true, true, true, false, false, false, false, false, false, false, false, false, false, false] rfl ?_
            refine TA_first 15 #[true, true, true, true, true, true, true, true, true, true, true, true, true, true, true, true, false, false, false, false, false, false, false, false, false, false] rfl (purI_move rfl) rfl rfl rfl (by kernel_rfl) (by kernel_rfl) (by kernel_rfl) ?_
            refine TA_bool 22 g_9 rfl ?_
            refine TA_env (E' := [(0, (sl tRelation l0)), (4, (.b 0 0)), (5, (.b 1 0)), (22, (boolA true))]) ⟨rfl, rfl, rfl, rfl, trivial⟩ ?_
            refine TA_firstG 16 #[true, true, true, true, true, true, true, true, true, true, true, true, true, true, true, true, true, false, false, false, false, false, false, false, false, false] rfl (purI_move rfl) rfl rfl (by decide) rfl rfl rfl (by kernel_rfl) (by kernel_rfl) (by kernel_rfl) ?_
            refine TA_firstG 19 #[true, true, true, true, true, true, true, true, true, true, true, true, true, true, true, true, true, false, false, true, false, false, false, false, false, false] rfl (purI_move rfl) rfl rfl (by decide) rfl rfl rfl (by kernel_rfl) (by kernel_rfl) (by kernel_rfl) ?_
            refine TA_allG [17, 20] (by kernel_rfl) (by decide) ⟨?_, ?_, trivial⟩
            · skip
              refine ⟨_, rfl, goG rfl rfl (by decide) rfl, (TOp_pure (pur_ldK_b agg60 rfl rfl (Nat.le_of_ble_eq_true rfl) rfl) rfl ?_)⟩
              refine TA_listed #[true, true, true, true, true, true, true, true, true, true, true, true, true, true, true, true, true, true, false, true, false, false, false, false, false, false] rfl ?_
              refine TA_allG [18, 20] (by kernel_rfl) (by decide) ⟨?_, ?_, trivial⟩
              · skip
                refine ⟨_, rfl, goG rfl rfl (by decide) rfl, (TOp_callV (call_static ent135 rfl) (m_spec_KeyOf_ok u _ _ _ h_11) rfl rfl rfl ?_)⟩
                refine TA_listed #[true, true, true, true, true, true, true, true, true, true, true, true, true, true, true, true, true, true, true, true, false, false, false, false, false, false] rfl ?_
                refine TA_allG [20] (by kernel_rfl) (by decide) ⟨⟨_, rfl, goG rfl rfl (by decide) rfl, (TOp_pure (pur_ldK_b agg60 rfl rfl (Nat.le_of_ble_eq_true rfl) rfl) rfl ?_)⟩, trivial⟩
                refine TA_listed #[true, true, true, true, true, true, true, true, true, true, true, true, true, true, true, true, true, true, true, true, true, false, false, false, false, false] rfl ?_
                refine TA_allG [21] (by kernel_rfl) (by decide) ⟨⟨_, rfl, goG rfl rfl (by decide) rfl, (TOp_callV (call_static ent135 rfl) (m_spec_KeyOf_ok u _ _ _ h_13) rfl rfl rfl ?_)⟩, trivial⟩
                refine TA_listed #[true, true, true, true, true, true, true, true, true, true, true, true, true, true, true, true, true, true, true, true, true, true, false, false, false, false] rfl ?_
                refine TA_allG [22] (by kernel_rfl) (by decide) ⟨⟨_, rfl, goG rfl rfl (by decide) rfl, (TOp_callV (call_static ent47 rfl) (m_spec_l3Ints_ok u _ _ _ h_15) rfl rfl rfl ?_)⟩, trivial⟩
                refine TA_listed #[true, true, true, true, true, true, true, true, true, true, true, true, true, true, true, true, true, true, true, true, true, true, true, false, false, false] rfl ?_
                refine TA_allG [23] (by kernel_rfl) (by decide) ⟨⟨_, rfl, goG rfl rfl (by decide) rfl, (TOp_pure (pur_eql rfl rfl rfl) rfl ?_)⟩, trivial⟩
                refine TA_listed #[true, true, true, true, true, true, true, true, true, true, true, true, true, true, true, true, true, true, true, true, true, true, true, true, false, false] rfl ?_
                refine TA_allG [24] (by kernel_rfl) (by decide) ⟨⟨_, rfl, goN rfl, (TOp_pure (pur_pick (t := true) rfl rfl rfl) rfl ?_)⟩, trivial⟩
                refine TA_listed #[true, true, true, true, true, true, true, true, true, true, true, true, true, true, true, true, true, true, true, true, true, true, true, true, true, false] rfl ?_
                refine TA_first 25 #[true, true, true, true, true, true, true, true, true, true, true, true, true, true, true, true, true, true, true, true, true, true, true, true, true, true] rfl (purI_assign rfl) rfl rfl rfl (by kernel_rfl) (by kernel_rfl) (by kernel_rfl) ?_
                refine TA_env (E' := [(6, (boolA (decide (r_14 = 0))))]) ⟨rfl, trivial⟩ ?_
                refine TA_nil (by kernel_rfl) ?_
                exact joined (decide (r_14 = 0)) (WeakL.to 0 (Nat.le_of_ble_eq_true rfl) rfl rfl rfl rfl ⟨leR rfl, trivial⟩) (some_inj H).symm
              · skip
                refine ⟨_, rfl, goG rfl rfl (by decide) rfl, (TOp_pure (pur_ldK_b agg60 rfl rfl (Nat.le_of_ble_eq_true rfl) rfl) rfl ?_)⟩
                refine TA_listed #[true, true, true, true, true, true, true, true, true, true, true, true, true, true, true, true, true, true, false, true, true, false, false, false, false, false] rfl ?_
                refine TA_allG [18] (by kernel_rfl) (by decide) ⟨⟨_, rfl, goG rfl rfl (by decide) rfl, (TOp_callV (call_static ent135 rfl) (m_spec_KeyOf_ok u _ _ _ h_11) rfl rfl rfl ?_)⟩, trivial⟩
                refine TA_listed #[true, true, true, true, true, true, true, true, true, true, true, true, true, true, true, true, true, true, true, true, true, false, false, false, false, false] rfl ?_
                refine TA_allG [21] (by kernel_rfl) (by decide) ⟨⟨_, rfl, goG rfl rfl (by decide) rfl, (TOp_callV (call_static ent135 rfl) (m_spec_KeyOf_ok u _ _ _ h_13) rfl rfl rfl ?_)⟩, trivial⟩
                refine TA_listed #[true, true, true, true, true, true, true, true, true, true, true, true, true, true, true, true, true, true, true, true, true, true, false, false, false, false] rfl ?_
                refine TA_allG [22] (by kernel_rfl) (by decide) ⟨⟨_, rfl, goG rfl rfl (by decide) rfl, (TOp_callV (call_static ent47 rfl) (m_spec_l3Ints_ok u _ _ _ h_15) rfl rfl rfl ?_)⟩, trivial⟩
                refine TA_listed #[true, true, true, true, true, true, true, true, true, true, true, true, true, true, true, true, true, true, true, true, true, true, true, false, false, false] rfl ?_
                refine TA_allG [23] (by kernel_rfl) (by decide) ⟨⟨_, rfl, goG rfl rfl (by decide) rfl, (TOp_pure (pur_eql rfl rfl rfl) rfl ?_)⟩, trivial⟩
                refine TA_listed #[true, true, true, true, true, true, true, true, true, true, true, true, true, true, true, true, true, true, true, true, true, true, true, true, false, false] rfl ?_
                refine TA_allG [24] (by kernel_rfl) (by decide) ⟨⟨_, rfl, goN rfl, (TOp_pure (pur_pick (t := true) rfl rfl rfl) rfl ?_)⟩, trivial⟩
                refine TA_listed #[true, true, true, true, true, true, true, true, true, true, true, true, true, true, true, true, true, true, true, true, true, true, true, true, true, false] rfl ?_
                refine TA_first 25 #[true, true, true, true, true, true, true, true, true, true, true, true, true, true, true, true, true, true, true, true, true, true, true, true, true, true] rfl (purI_assign rfl) rfl rfl rfl (by kernel_rfl) (by kernel_rfl) (by kernel_rfl) ?_
                refine TA_env (E' := [(6, (boolA (decide (r_14 = 0))))]) ⟨rfl, trivial⟩ ?_
                refine TA_nil (by kernel_rfl) ?_
                exact joined (decide (r_14 = 0)) (WeakL.to 0 (Nat.le_of_ble_eq_true rfl) rfl rfl rfl rfl ⟨leR rfl, trivial⟩) (some_inj H).symm
            · skip
              refine ⟨_, rfl, goG rfl rfl (by decide) rfl, (TOp_pure (pur_ldK_b agg60 rfl rfl (Nat.le_of_ble_eq_true rfl) rfl) rfl ?_)⟩
              refine TA_listed #[true, true, true, true, true, true, true, true, true, true, true, true, true, true, true, true, true, false, false, true, true, false, false, false, false, false] rfl ?_
              refine TA_allG [17] (by kernel_rfl) (by decide) ⟨⟨_, rfl, goG rfl rfl (by decide) rfl, (TOp_pure (pur_ldK_b agg60 rfl rfl (Nat.le_of_ble_eq_true rfl) rfl) rfl ?_)⟩, trivial⟩
              refine TA_listed #[true, true, true, true, true, true, true, true, true, true, true, true, true, true, true, true, true, true, false, true, true, false, false, false, false, false] rfl ?_
              refine TA_allG [18] (by kernel_rfl) (by decide) ⟨⟨_, rfl, goG rfl rfl (by decide) rfl, (TOp_callV (call_static ent135 rfl) (m_spec_KeyOf_ok u _ _ _ h_11) rfl rfl rfl ?_)⟩, trivial⟩
              refine TA_listed #[true, true, true, true, true, true, true, true, true, true, true, true, true, true, true, true, true, true, true, true, true, false, false, false, false, false] rfl ?_
              refine TA_allG [21] (by kernel_rfl) (by decide) ⟨⟨_, rfl, goG rfl rfl (by decide) rfl, (TOp_callV (call_static ent135 rfl) (m_spec_KeyOf_ok u _ _ _ h_13) rfl rfl rfl ?_)⟩, trivial⟩
              refine TA_listed #[true, true, true, true, true, true, true, true, true, true, true, true, true, true, true, true, true, true, true, true, true, true, false, false, false, false] rfl ?_
              refine TA_allG [22] (by kernel_rfl) (by decide) ⟨⟨_, rfl, goG rfl rfl (by decide) rfl, (TOp_callV (call_static ent47 rfl) (m_spec_l3Ints_ok u _ _ _ h_15) rfl rfl rfl ?_)⟩, trivial⟩
              refine TA_listed #[true, true, true, true, true, true, true, true, true, true, true, true, true, true, true, true, true, true, true, true, true, true, true, false, false, false] rfl ?_
              refine TA_allG [23] (by kernel_rfl) (by decide) ⟨⟨_, rfl, goG rfl rfl (by decide) rfl, (TOp_pure (pur_eql rfl rfl rfl) rfl ?_)⟩, trivial⟩
              refine TA_listed #[true, true, true, true, true, true, true, true, true, true, true, true, true, true, true, true, true, true, true, true, true, true, true, true, false, false] rfl ?_
              refine TA_allG [24] (by kernel_rfl) (by decide) ⟨⟨_, rfl, goN rfl, (TOp_pure (pur_pick (t := true) rfl rfl rfl) rfl ?_)⟩, trivial⟩
              refine TA_listed #[true, true, true, true, true, true, true, true, true, true, true, true, true, true, true, true, true, true, true, true, true, true, true, true, true, false] rfl ?_
              refine TA_first 25 #[true, true, true, true, true, true, true, true, true, true, true, true, true, true, true, true, true, true, true, true, true, true, true, true, true, true] rfl (purI_assign rfl) rfl rfl rfl (by kernel_rfl) (by kernel_rfl) (by kernel_rfl) ?_
              refine TA_env (E' := [(6, (boolA (decide (r_14 = 0))))]) ⟨rfl, trivial⟩ ?_
              refine TA_nil (by kernel_rfl) ?_
              exact joined (decide (r_14 = 0)) (WeakL.to 0 (Nat.le_of_ble_eq_true rfl) rfl rfl rfl rfl ⟨leR rfl, trivial⟩) (some_inj H).symm
          · skip
            refine ⟨_, rfl, goG rfl rfl (by decide) rfl, (TOp_pure (pur_ld_b one3 rfl rfl rfl rfl) rfl ?_)⟩
            refine TA_listed #[true, true, true, true, true, true, true, true, true, true, false, true, true, false, false, false, false, false, false, false, false, false, false, false, false, false] rfl ?_
            refine TA_allG [10] (by kernel_rfl) (by decide) ⟨⟨_, rfl, goG rfl rfl (by decide) rfl, (TOp_pure (pur_ld_b one3 rfl rfl rfl rfl) rfl ?_)⟩, trivial⟩
            refine TA_listed #[true, true, true, true, true, true, true, true, true, true, true, true, true, false, false, false, false, false, false, false, false, false, false, false, false, false] rfl ?_
            refine TA_allG [13] (by kernel_rfl) (by decide) ⟨⟨_, rfl, goG rfl rfl (by decide) rfl, (TOp_pure (pur_eql rfl rfl rfl) rfl ?_)⟩, trivial⟩
            refine TA_listed #[true, true, true, true, true, true, true, true, true, true, true, true, true, true, false, false, false, false, false, false, false, false, false, false, false, false] rfl ?_
            refine TA_allG [14] (by kernel_rfl) (by decide) ⟨⟨_, rfl, goN rfl, (TOp_pure (pur_pick (t := true) rfl rfl rfl) rfl ?_)⟩, trivial⟩
            refine TA_listed #[true, true, true, true, true, true, true, true, true, true, true, true, true, true, true, false, false, false, false, false, false, false, false, false, false, false] rfl ?_
            refine TA_first 15 #[true, true, true, true, true, true, true, true, true, true, true, true, true, true, true, true, false, false, false, false, false, false, false, false, false, false] rfl (purI_move rfl) rfl rfl rfl (by kernel_rfl) (by kernel_rfl) (by kernel_rfl) ?_
            refine TA_bool 22 g_9 rfl ?_
            refine TA_env (E' := [(0, (sl tRelation l0)), (4, (.b 0 0)), (5, (.b 1 0)), (22, (boolA true))]) ⟨rfl, rfl, rfl, rfl, trivial⟩ ?_
            refine TA_firstG 16 #[true, true, true, true, true, true, true, true, true, true, true, true, true, true, true, true, true, false, false, false, false, false, false, false, false, false] rfl (purI_move rfl) rfl rfl (by decide) rfl rfl rfl (by kernel_rfl) (by kernel_rfl) (by kernel_rfl) ?_
            refine TA_firstG 19 #[true, true, true, true, true, true, true, true, true, true, true, true, true, true, true, true, true, false, false, true, false, false, false, false, false, false] rfl (purI_move rfl) rfl rfl (by decide) rfl rfl rfl (by kernel_rfl) (by kernel_rfl) (by kernel_rfl) ?_
            refine TA_allG [17, 20] (by kernel_rfl) (by decide) ⟨?_, ?_, trivial⟩
            · skip
              refine ⟨_, rfl, goG rfl rfl (by decide) rfl, (TOp_pure (pur_ldK_b agg60 rfl rfl (Nat.le_of_ble_eq_true rfl) rfl) rfl ?_)⟩
              refine TA_listed #[true, true, true, true, true, true, true, true, true, true, true, true, true, true, true, true, true, true, false, true, false, false, false, false, false, false] rfl ?_
              refine TA_allG [18, 20] (by kernel_rfl) (by decide) ⟨?_, ?_, trivial⟩
              · skip
                refine ⟨_, rfl, goG rfl rfl (by decide) rfl, (TOp_callV (call_static ent135 rfl) (m_spec_KeyOf_ok u _ _ _ h_11) rfl rfl rfl ?_)⟩
                refine TA_listed #[true, true, true, true, true, true, true, true, true, true, true, true, true, true, true, true, true, true, true, true, false, false, false, false, false, false] rfl ?_
                refine TA_allG [20] (by kernel_rfl) (by decide) ⟨⟨_, rfl, goG rfl rfl (by decide) rfl, (TOp_pure (pur_ldK_b agg60 rfl rfl (Nat.le_of_ble_eq_true rfl) rfl) rfl ?_)⟩, trivial⟩
                refine TA_listed #[true, true, true, true, true, true, true, true, true, true, true, true, true, true, true, true, true, true, true, true, true, false, false, false, false, false] rfl ?_
                refine TA_allG [21] (by kernel_rfl) (by decide) ⟨⟨_, rfl, goG rfl rfl (by decide) rfl, (TOp_callV (call_static ent135 rfl) (m_spec_KeyOf_ok u _ _ _ h_13) rfl rfl rfl ?_)⟩, trivial⟩
                refine TA_listed #[true, true, true, true, true, true, true, true, true, true, true, true, true, true, true, true, true, true, true, true, true, true, false, false, false, false] rfl ?_
                refine TA_allG [22] (by kernel_rfl) (by decide) ⟨⟨_, rfl, goG rfl rfl (by decide) rfl, (TOp_callV (call_static ent47 rfl) (m_spec_l3Ints_ok u _ _ _ h_15) rfl rfl rfl ?_)⟩, trivial⟩
                refine TA_listed #[true, true, true, true, true, true, true, true, true, true, true, true, true, true, true, true, true, true, true, true, true, true, true, false, false, false] rfl ?_
                refine TA_allG [23] (by kernel_rfl) (by decide) ⟨⟨_, rfl, goG rfl rfl (by decide) rfl, (TOp_pure (pur_eql rfl rfl rfl) rfl ?_)⟩, trivial⟩
                refine TA_listed #[true, true, true, true, true, true, true, true, true, true, true, true, true, true, true, true, true, true, true, true, true, true, true, true, false, false] rfl ?_
                refine TA_allG [24] (by kernel_rfl) (by decide) ⟨⟨_, rfl, goN rfl, (TOp_pure (pur_pick (t := true) rfl rfl rfl) rfl ?_)⟩, trivial⟩
                refine TA_listed #[true, true, true, true, true, true, true, true, true, true, true, true, true, true, true, true, true, true, true, true, true, true, true, true, true, false] rfl ?_
                refine TA_first 25 #[true, true, true, true, true, true, true, true, true, true, true, true, true, true, true, true, true, true, true, true, true, true, true, true, true, true] rfl (purI_assign rfl) rfl rfl rfl (by kernel_rfl) (by kernel_rfl) (by kernel_rfl) ?_
                refine TA_env (E' := [(6, (boolA (decide (r_14 = 0))))]) ⟨rfl, trivial⟩ ?_
                refine TA_nil (by kernel_rfl) ?_
                exact joined (decide (r_14 = 0)) (WeakL.to 0 (Nat.le_of_ble_eq_true rfl) rfl rfl rfl rfl ⟨leR rfl, trivial⟩) (some_inj H).symm
              · skip
                refine ⟨_, rfl, goG rfl rfl (by decide) rfl, (TOp_pure (pur_ldK_b agg60 rfl rfl (Nat.le_of_ble_eq_true rfl) rfl) rfl ?_)⟩
                refine TA_listed #[true, true, true, true, true, true, true, true, true, true, true, true, true, true, true, true, true, true, false, true, true, false, false, false, false, false] rfl ?_
                refine TA_allG [18] (by kernel_rfl) (by decide) ⟨⟨_, rfl, goG rfl rfl (by decide) rfl, (TOp_callV (call_static ent135 rfl) (m_spec_KeyOf_ok u _ _ _ h_11) rfl rfl rfl ?_)⟩, trivial⟩
                refine TA_listed #[true, true, true, true, true, true, true, true, true, true, true, true, true, true, true, true, true, true, true, true, true, false, false, false, false, false] rfl ?_
                refine TA_allG [21] (by kernel_rfl) (by decide) ⟨⟨_, rfl, goG rfl rfl (by decide) rfl, (TOp_callV (call_static ent135 rfl) (m_spec_KeyOf_ok u _ _ _ h_13) rfl rfl rfl ?_)⟩, trivial⟩
                refine TA_listed #[true, true, true, true, true, true, true, true, true, true, true, true, true, true, true, true, true, true, true, true, true, true, false, false, false, false] rfl ?_
                refine TA_allG [22] (by kernel_rfl) (by decide) ⟨⟨_, rfl, goG rfl rfl (by decide) rfl, (TOp_callV (call_static ent47 rfl) (m_spec_l3Ints_ok u _ _ _ h_15) rfl rfl rfl ?_)⟩, trivial⟩
                refine TA_listed #[true, true, true, true, true, true, true, true, true, true, true, true, true, true, true, true, true, true, true, true, true, true, true, false, false, false] rfl ?_
                refine TA_allG [23] (by kernel_rfl) (by decide) ⟨⟨_, rfl, goG rfl rfl (by decide) rfl, (TOp_pure (pur_eql rfl rfl rfl) rfl ?_)⟩, trivial⟩
                refine TA_listed #[true, true, true, true, true, true, true, true, true, true, true, true, true, true, true, true, true, true, true, true, true, true, true, true, false, false] rfl ?_
                refine TA_allG [24] (by kernel_rfl) (by decide) ⟨⟨_, rfl, goN rfl, (TOp_pure (pur_pick (t := true) rfl rfl rfl) rfl ?_)⟩, trivial⟩
                refine TA_listed #[true, true, true, true, true, true, true, true, true, true, true, true, true, true, true, true, true, true, true, true, true, true, true, true, true, false] rfl ?_
                refine TA_first 25 #[true, true, true, true, true, true, true, true, true, true, true, true, true, true, true, true, true, true, true, true, true, true, true, true, true, true] rfl (purI_assign rfl) rfl rfl rfl (by kernel_rfl) (by kernel_rfl) (by kernel_rfl) ?_
                refine TA_env (E' := [(6, (boolA (decide (r_14 = 0))))]) ⟨rfl, trivial⟩ ?_
                refine TA_nil (by kernel_rfl) ?_
                exact joined (decide (r_14 = 0)) (WeakL.to 0 (Nat.le_of_ble_eq_true rfl) rfl rfl rfl rfl ⟨leR rfl, trivial⟩) (some_inj H).symm
            · skip
              refine ⟨_, rfl, goG rfl rfl (by decide) rfl, (TOp_pure (pur_ldK_b agg60 rfl rfl (Nat.le_of_ble_eq_true rfl) rfl) rfl ?_)⟩
              refine TA_listed #[true, true, true, true, true, true, true, true, true, true, true, true, true, true, true, true, true, false, false, true, true, false, false, false, false, false] rfl ?_
              refine TA_allG [17] (by kernel_rfl) (by decide) ⟨⟨_, rfl, goG rfl rfl (by decide) rfl, (TOp_pure (pur_ldK_b agg60 rfl rfl (Nat.le_of_ble_eq_true rfl) rfl) rfl ?_)⟩, trivial⟩
              refine TA_listed #[true, true, true, true, true, true, true, true, true, true, true, true, true, true, true, true, true, true, false, true, true, false, false, false, false, false] rfl ?_
              refine TA_allG [18] (by kernel_rfl) (by decide) ⟨⟨_, rfl, goG rfl rfl (by decide) rfl, (TOp_callV (call_static ent135 rfl) (m_spec_KeyOf_ok u _ _ _ h_11) rfl rfl rfl ?_)⟩, trivial⟩
              refine TA_listed #[true, true, true, true, true, true, true, true, true, true, true, true, true, true, true, true, true, true, true, true, true, false, false, false, false, false] rfl ?_
              refine TA_allG [21] (by kernel_rfl) (by decide) ⟨⟨_, rfl, goG rfl rfl (by decide) rfl, (TOp_callV (call_static ent135 rfl) (m_spec_KeyOf_ok u _ _ _ h_13) rfl rfl rfl ?_)⟩, trivial⟩
              refine TA_listed #[true, true, true, true, true, true, true, true, true, true, true, true, true, true, true, true, true, true, true, true, true, true, false, false, false, false] rfl ?_
              refine TA_allG [22] (by kernel_rfl) (by decide) ⟨⟨_, rfl, goG rfl rfl (by decide) rfl, (TOp_callV (call_static ent47 rfl) (m_spec_l3Ints_ok u _ _ _ h_15) rfl rfl rfl ?_)⟩, trivial⟩
              refine TA_listed #[true, true, true, true, true, true, true, true, true, true, true, true, true, true, true, true, true, true, true, true, true, true, true, false, false, false] rfl ?_
              refine TA_allG [23] (by kernel_rfl) (by decide) ⟨⟨_, rfl, goG rfl rfl (by decide) rfl, (TOp_pure (pur_eql rfl rfl rfl) rfl ?_)⟩, trivial⟩
              refine TA_listed #[true, true, true, true, true, true, true, true, true, true, true, true, true, true, true, true, true, true, true, true, true, true, true, true, false, false] rfl ?_
              refine TA_allG [24] (by kernel_rfl) (by decide) ⟨⟨_, rfl, goN rfl, (TOp_pure (pur_pick (t := true) rfl rfl rfl) rfl ?_)⟩, trivial⟩
              refine TA_listed #[true, true, true, true, true, true, true, true, true, true, true, true, true, true, true, true, true, true, true, true, true, true, true, true, true, false] rfl ?_
              refine TA_first 25 #[true, true, true, true, true, true, true, true, true, true, true, true, true, true, true, true, true, true, true, true, true, true, true, true, true, true] rfl (purI_assign rfl) rfl rfl rfl (by kernel_rfl) (by kernel_rfl) (by kernel_rfl) ?_
              refine TA_env (E' := [(6, (boolA (decide (r_14 = 0))))]) ⟨rfl, trivial⟩ ?_
              refine TA_nil (by kernel_rfl) ?_
              exact joined (decide (r_14 = 0)) (WeakL.to 0 (Nat.le_of_ble_eq_true rfl) rfl rfl rfl rfl ⟨leR rfl, trivial⟩) (some_inj H).symm
        · replace H := cond_f g_9 H
          refine T_regionP mixed ?_
          refine TA_first 0 #[true, false, false, false, false, false, false, false, false, false, false, false, false, false, false, false, false, false, false, false, false, false, false, false, false, false] rfl (purI_move rfl) rfl rfl rfl (by kernel_rfl) (by kernel_rfl) (by kernel_rfl) ?_
          refine TA_allG [1] (by kernel_rfl) (by decide) ⟨⟨_, rfl, goN rfl, (TOp_pure (pur_ldK_b agg60 rfl rfl (Nat.le_of_ble_eq_true rfl) rfl) rfl ?_)⟩, trivial⟩
          refine TA_listed #[true, true, false, false, false, false, false, false, false, false, false, false, false, false, false, false, false, false, false, false, false, false, false, false, false, false] rfl ?_
          refine TA_allG [2] (by kernel_rfl) (by decide) ⟨⟨_, rfl, goN rfl, (TOp_callV (call_static ent102 rfl) (m_spec_IsValidFact_ok u _ _ _ h_4) rfl rfl rfl ?_)⟩, trivial⟩
          refine TA_listed #[true, true, true, false, false, false, false, false, false, false, false, false, false, false, false, false, false, false, false, false, false, false, false, false, false, false] rfl ?_
          refine TA_first 3 #[true, true, true, true, false, false, false, false, false, false, false, false, false, false, false, false, false, false, false, false, false, false, false, false, false, false] rfl (purI_move rfl) rfl rfl rfl (by kernel_rfl) (by kernel_rfl) (by kernel_rfl) ?_
          refine TA_bool 10 g_5 rfl ?_
          refine TA_firstG 4 #[true, true, true, true, true, false, false, false, false, false, false, false, false, false, false, false, false, false, false, false, false, false, false, false, false, false] rfl (purI_move rfl) rfl rfl (by decide) rfl rfl rfl (by kernel_rfl) (by kernel_rfl) (by kernel_rfl) ?_
          refine TA_allG [5] (by kernel_rfl) (by decide) ⟨⟨_, rfl, goG rfl rfl (by decide) rfl, (TOp_pure (pur_ldK_b agg60 rfl rfl (Nat.le_of_ble_eq_true rfl) rfl) rfl ?_)⟩, trivial⟩
          refine TA_listed #[true, true, true, true, true, true, false, false, false, false, false, false, false, false, false, false, false, false, false, false, false, false, false, false, false, false] rfl ?_
          refine TA_allG [6] (by kernel_rfl) (by decide) ⟨⟨_, rfl, goG rfl rfl (by decide) rfl, (TOp_callV (call_static ent102 rfl) (m_spec_IsValidFact_ok u _ _ _ h_7) rfl rfl rfl ?_)⟩, trivial⟩
          refine TA_listed #[true, true, true, true, true, true, true, false, false, false, false, false, false, false, false, false, false, false, false, false, false, false, false, false, false, false] rfl ?_
          refine TA_allG [7] (by kernel_rfl) (by decide) ⟨⟨_, rfl, goN rfl, (TOp_pure (pur_pick (t := true) rfl rfl rfl) rfl ?_)⟩, trivial⟩
          refine TA_listed #[true, true, true, true, true, true, true, true, false, false, false, false, false, false, false, false, false, false, false, false, false, false, false, false, false, false] rfl ?_
          refine TA_first 8 #[true, true, true, true, true, true, true, true, true, false, false, false, false, false, false, false, false, false, false, false, false, false, false, false, false, false] rfl (purI_move rfl) rfl rfl rfl (by kernel_rfl) (by kernel_rfl) (by kernel_rfl) ?_
          refine TA_bool 15 g_8 rfl ?_
          refine TA_env (E' := [(0, (sl tRelation l0)), (4, (.b 0 0)), (5, (.b 1 0)), (15, (boolA true))]) ⟨rfl, rfl, rfl, rfl, trivial⟩ ?_
          refine TA_firstG 9 #[true, true, true, true, true, true, true, true, true, true, false, false, false, false, false, false, false, false, false, false, false, false, false, false, false, false] rfl (purI_fa_b fld60_0 rfl rfl) rfl rfl (by decide) rfl rfl rfl (by kernel_rfl) (by kernel_rfl) (by kernel_rfl) ?_
          refine TA_firstG 11 #[true, true, true, true, true, true, true, true, true, true, false, true, false, false, false, false, false, false, false, false, false, false, false, false, false, false] rfl (purI_fa_b fld60_0 rfl rfl) rfl rfl (by decide) rfl rfl rfl (by kernel_rfl) (by kernel_rfl) (by kernel_rfl) ?_
          refine TA_allG [10, 12] (by kernel_rfl) (by decide) ⟨?_, ?_, trivial⟩
          · skip
            refine ⟨_, rfl, goG rfl rfl (by decide) rfl, (TOp_pure (pur_ld_b one3 rfl rfl rfl rfl) rfl ?_)⟩
            refine TA_listed #[true, true, true, true, true, true, true, true, true, true, true, true, false, false, false, false, false, false, false, false, false, false, false, false, false, false] rfl ?_
            refine TA_allG [12] (by kernel_rfl) (by decide) ⟨⟨_, rfl, goG rfl rfl (by decide) rfl, (TOp_pure (pur_ld_b one3 rfl rfl rfl rfl) rfl ?_)⟩, trivial⟩
            refine TA_listed #[true, true, true, true, true, true, true, true, true, true, true, true, true, false, false, false, false, false, false, false, false, false, false, false, false, false] rfl ?_
            refine TA_allG [13] (by kernel_rfl) (by decide) ⟨⟨_, rfl, goG rfl rfl (by decide) rfl, (TOp_pure (pur_eql rfl rfl rfl) rfl ?_)⟩, trivial⟩
            refine TA_listed #[true, true, true, true, true, true, true, true, true, true, true, true, true, true, false, false, false, false, false, false, false, false, false, false, false, false] rfl ?_
            refine TA_allG [14] (by kernel_rfl) (by decide) ⟨⟨_, rfl, goN rfl, (TOp_pure (pur_pick (t := true) rfl rfl rfl) rfl ?_)⟩, trivial⟩
            refine TA_listed #[true, true, true, true, true, true, true, true, true, true, true, true, true, true, true, false, false, false, false, false, false, false, false, false, false, false] rfl ?_
            refine TA_first 15 #[true, true, true, true, true, true, true, true, true, true, true, true, true, true, true, true, false, false, false, false, false, false, false, false, false, false] rfl (purI_move rfl) rfl rfl rfl (by kernel_rfl) (by kernel_rfl) (by kernel_rfl) ?_
            refine TA_bool 22 g_9 rfl ?_
            refine TA_env (E' := [(0, (sl tRelation l0)), (4, (.b 0 0)), (5, (.b 1 0)), (22, (boolA false))]) ⟨rfl, rfl, rfl, rfl, trivial⟩ ?_
            refine TA_off 16 #[true, true, true, true, true, true, true, true, true, true, true, true, true, true, true, true, true, false, false, false, false, false, false, false, false, false] rfl rfl rfl (by decide) rfl rfl rfl rfl (by kernel_rfl) (by kernel_rfl) (by kernel_rfl) ?_
            refine TA_off 17 #[true, true, true, true, true, true, true, true, true, true, true, true, true, true, true, true, true, true, false, false, false, false, false, false, false, false] rfl rfl rfl (by decide) rfl rfl rfl rfl (by kernel_rfl) (by kernel_rfl) (by kernel_rfl) ?_
            refine TA_off 18 #[true, true, true, true, true, true, true, true, true, true, true, true, true, true, true, true, true, true, true, false, false, false, false, false, false, false] rfl rfl rfl (by decide) rfl rfl rfl rfl (by kernel_rfl) (by kernel_rfl) (by kernel_rfl) ?_
            refine TA_off 19 #[true, true, true, true, true, true, true, true, true, true, true, true, true, true, true, true, true, true, true, true, false, false, false, false, false, false] rfl rfl rfl (by decide) rfl rfl rfl rfl (by kernel_rfl) (by kernel_rfl) (by kernel_rfl) ?_
            refine TA_off 20 #[true, true, true, true, true, true, true, true, true, true, true, true, true, true, true, true, true, true, true, true, true, false, false, false, false, false] rfl rfl rfl (by decide) rfl rfl rfl rfl (by kernel_rfl) (by kernel_rfl) (by kernel_rfl) ?_
            refine TA_off 21 #[true, true, true, true, true, true, true, true, true, true, true, true, true, true, true, true, true, true, true, true, true, true, false, false, false, false] rfl rfl rfl (by decide) rfl rfl rfl rfl (by kernel_rfl) (by kernel_rfl) (by kernel_rfl) ?_
            refine TA_off 22 #[true, true, true, true, true, true, true, true, true, true, true, true, true, true, true, true, true, true, true, true, true, true, true, false, false, false] rfl rfl rfl (by decide) rfl rfl rfl rfl (by kernel_rfl) (by kernel_rfl) (by kernel_rfl) ?_
            refine TA_off 23 #[true, true, true, true, true, true, true, true, true, true, true, true, true, true, true, true, true, true, true, true, true, true, true, true, false, false] rfl rfl rfl (by decide) rfl rfl rfl rfl (by kernel_rfl) (by kernel_rfl) (by kernel_rfl) ?_
            refine TA_allG [24] (by kernel_rfl) (by decide) ⟨⟨_, rfl, goN rfl, (TOp_pure (pur_pick (t := false) rfl rfl rfl) rfl ?_)⟩, trivial⟩
            refine TA_listed #[true, true, true, true, true, true, true, true, true, true, true, true, true, true, true, true, true, true, true, true, true, true, true, true, true, false] rfl ?_
            refine TA_first 25 #[true, true, true, true, true, true, true, true, true, true, true, true, true, true, true, true, true, true, true, true, true, true, true, true, true, true] rfl (purI_assign rfl) rfl rfl rfl (by kernel_rfl) (by kernel_rfl) (by kernel_rfl) ?_
            refine TA_env (E' := [(6, (boolA false))]) ⟨rfl, trivial⟩ ?_
            refine TA_nil (by kernel_rfl) ?_
            exact joined false (WeakL.to 0 (Nat.le_of_ble_eq_true rfl) rfl rfl rfl rfl ⟨leR rfl, trivial⟩) (some_inj H).symm
          · skip
            refine ⟨_, rfl, goG rfl rfl (by decide) rfl, (TOp_pure (pur_ld_b one3 rfl rfl rfl rfl) rfl ?_)⟩
            refine TA_listed #[true, true, true, true, true, true, true, true, true, true, false, true, true, false, false, false, false, false, false, false, false, false, false, false, false, false] rfl ?_
            refine TA_allG [10] (by kernel_rfl) (by decide) ⟨⟨_, rfl, goG rfl rfl (by decide) rfl, (TOp_pure (pur_ld_b one3 rfl rfl rfl rfl) rfl ?_)⟩, trivial⟩
            refine TA_listed #[true, true, true, true, true, true, true, true, true, true, true, true, true, false, false, false, false, false, false, false, false, false, false, false, false, false] rfl ?_
            refine TA_allG [13] (by kernel_rfl) (by decide) ⟨⟨_, rfl, goG rfl rfl (by decide) rfl, (TOp_pure (pur_eql rfl rfl rfl) rfl ?_)⟩, trivial⟩
            refine TA_listed #[true, true, true, true, true, true, true, true, true, true, true, true, true, true, false, false, false, false, false, false, false, false, false, false, false, false] rfl ?_
            refine TA_allG [14] (by kernel_rfl) (by decide) ⟨⟨_, rfl, goN rfl, (TOp_pure (pur_pick (t := true) rfl rfl rfl) rfl ?_)⟩, trivial⟩
            refine TA_listed #[true, true, true, true, true, true, true, true, true, true, true, true, true, true, true, false, false, false, false, false, false, false, false, false, false, false] rfl ?_
            refine TA_first 15 #[true, true, true, true, true, true, true, true, true, true, true, true, true, true, true, true, false, false, false, false, false, false, false, false, false, false] rfl (purI_move rfl) rfl rfl rfl (by kernel_rfl) (by kernel_rfl) (by kernel_rfl) ?_
            refine TA_bool 22 g_9 rfl ?_
            refine TA_env (E' := [(0, (sl tRelation l0)), (4, (.b 0 0)), (5, (.b 1 0)), (22, (boolA false))]) ⟨rfl, rfl, rfl, rfl, trivial⟩ ?_
            refine TA_off 16 #[true, true, true, true, true, true, true, true, true, true, true, true, true, true, true, true, true, false, false, false, false, false, false, false, false, false] rfl rfl rfl (by decide) rfl rfl rfl rfl (by kernel_rfl) (by kernel_rfl) (by kernel_rfl) ?_
            refine TA_off 17 #[true, true, true, true, true, true, true, true, true, true, true, true, true, true, true, true, true, true, false, false, false, false, false, false, false, false] rfl rfl rfl (by decide) rfl rfl rfl rfl (by kernel_rfl) (by kernel_rfl) (by kernel_rfl) ?_
            refine TA_off 18 #[true, true, true, true, true, true, true, true, true, true, true, true, true, true, true, true, true, true, true, false, false, false, false, false, false, false] rfl rfl rfl (by decide) rfl rfl rfl rfl (by kernel_rfl) (by kernel_rfl) (by kernel_rfl) ?_
            refine TA_off 19 #[true, true, true, true, true, true, true, true, true, true, true, true, true, true, true, true, true, true, true, true, false, false, false, false, false, false] rfl rfl rfl (by decide) rfl rfl rfl rfl (by kernel_rfl) (by kernel_rfl) (by kernel_rfl) ?_
            refine TA_off 20 #[true, true, true, true, true, true, true, true, true, true, true, true, true, true, true, true, true, true, true, true, true, false, false, false, false, false] rfl rfl rfl (by decide) rfl rfl rfl rfl (by kernel_rfl) (by kernel_rfl) (by kernel_rfl) ?_
            refine TA_off 21 #[true, true, true, true, true, true, true, true, true, true, true, true, true, true, true, true, true, true, true, true, true, true, false, false, false, false] rfl rfl rfl (by decide) rfl rfl rfl rfl (by kernel_rfl) (by kernel_rfl) (by kernel_rfl) ?_
            refine TA_off 22 #[true, true, true, true, true, true, true, true, true, true, true, true, true, true, true, true, true, true, true, true, true, true, true, false, false, false] rfl rfl rfl (by decide) rfl rfl rfl rfl (by kernel_rfl) (by kernel_rfl) (by kernel_rfl) ?_
            refine TA_off 23 #[true, true, true, true, true, true, true, true, true, true, true, true, true, true, true, true, true, true, true, true, true, true, true, true, false, false] rfl rfl rfl (by decide) rfl rfl rfl rfl (by kernel_rfl) (by kernel_rfl) (by kernel_rfl) ?_
            refine TA_allG [24] (by kernel_rfl) (by decide) ⟨⟨_, rfl, goN rfl, (TOp_pure (pur_pick (t := false) rfl rfl rfl) rfl ?_)⟩, trivial⟩
            refine TA_listed #[true, true, true, true, true, true, true, true, true, true, true, true, true, true, true, true, true, true, true, true, true, true, true, true, true, false] rfl ?_
            refine TA_first 25 #[true, true, true, true, true, true, true, true, true, true, true, true, true, true, true, true, true, true, true, true, true, true, true, true, true, true] rfl (purI_assign rfl) rfl rfl rfl (by kernel_rfl) (by kernel_rfl) (by kernel_rfl) ?_
            refine TA_env (E' := [(6, (boolA false))]) ⟨rfl, trivial⟩ ?_
            refine TA_nil (by kernel_rfl) ?_
            exact joined false (WeakL.to 0 (Nat.le_of_ble_eq_true rfl) rfl rfl rfl rfl ⟨leR rfl, trivial⟩) (some_inj H).symm
      · replace H := cond_f g_8 H
        refine T_regionP mixed ?_
        refine TA_first 0 #[true, false, false, false, false, false, false, false, false, false, false, false, false, false, false, false, false, false, false, false, false, false, false, false, false, false] rfl (purI_move rfl) rfl rfl rfl (by kernel_rfl) (by kernel_rfl) (by kernel_rfl) ?_
        refine TA_allG [1] (by kernel_rfl) (by decide) ⟨⟨_, rfl, goN rfl, (TOp_pure (pur_ldK_b agg60 rfl rfl (Nat.le_of_ble_eq_true rfl) rfl) rfl ?_)⟩, trivial⟩
        refine TA_listed #[true, true, false, false, false, false, false, false, false, false, false, false, false, false, false, false, false, false, false, false, false, false, false, false, false, false] rfl ?_
        refine TA_allG [2] (by kernel_rfl) (by decide) ⟨⟨_, rfl, goN rfl, (TOp_callV (call_static ent102 rfl) (m_spec_IsValidFact_ok u _ _ _ h_4) rfl rfl rfl ?_)⟩, trivial⟩
        refine TA_listed #[true, true, true, false, false, false, false, false, false, false, false, false, false, false, false, false, false, false, false, false, false, false, false, false, false, false] rfl ?_
        refine TA_first 3 #[true, true, true, true, false, false, false, false, false, false, false, false, false, false, false, false, false, false, false, false, false, false, false, false, false, false] rfl (purI_move rfl) rfl rfl rfl (by kernel_rfl) (by kernel_rfl) (by kernel_rfl) ?_
        refine TA_bool 10 g_5 rfl ?_
        refine TA_firstG 4 #[true, true, true, true, true, false, false, false, false, false, false, false, false, false, false, false, false, false, false, false, false, false, false, false, false, false] rfl (purI_move rfl) rfl rfl (by decide) rfl rfl rfl (by kernel_rfl) (by kernel_rfl) (by kernel_rfl) ?_
        refine TA_allG [5] (by kernel_rfl) (by decide) ⟨⟨_, rfl, goG rfl rfl (by decide) rfl, (TOp_pure (pur_ldK_b agg60 rfl rfl (Nat.le_of_ble_eq_true rfl) rfl) rfl ?_)⟩, trivial⟩
        refine TA_listed #[true, true, true, true, true, true, false, false, false, false, false, false, false, false, false, false, false, false, false, false, false, false, false, false, false, false] rfl ?_
        refine TA_allG [6] (by kernel_rfl) (by decide) ⟨⟨_, rfl, goG rfl rfl (by decide) rfl, (TOp_callV (call_static ent102 rfl) (m_spec_IsValidFact_ok u _ _ _ h_7) rfl rfl rfl ?_)⟩, trivial⟩
        refine TA_listed #[true, true, true, true, true, true, true, false, false, false, false, false, false, false, false, false, false, false, false, false, false, false, false, false, false, false] rfl ?_
        refine TA_allG [7] (by kernel_rfl) (by decide) ⟨⟨_, rfl, goN rfl, (TOp_pure (pur_pick (t := true) rfl rfl rfl) rfl ?_)⟩, trivial⟩
        refine TA_listed #[true, true, true, true, true, true, true, true, false, false, false, false, false, false, false, false, false, false, false, false, false, false, false, false, false, false] rfl ?_
        refine TA_first 8 #[true, true, true, true, true, true, true, true, true, false, false, false, false, false, false, false, false, false, false, false, false, false, false, false, false, false] rfl (purI_move rfl) rfl rfl rfl (by kernel_rfl) (by kernel_rfl) (by kernel_rfl) ?_
        refine TA_bool 15 g_8 rfl ?_
        refine TA_env (E' := [(0, (sl tRelation l0)), (4, (.b 0 0)), (5, (.b 1 0)), (15, (boolA false))]) ⟨rfl, rfl, rfl, rfl, trivial⟩ ?_
        refine TA_off 9 #[true, true, true, true, true, true, true, true, true, true, false, false, false, false, false, false, false, false, false, false, false, false, false, false, false, false] rfl rfl rfl (by decide) rfl rfl rfl rfl (by kernel_rfl) (by kernel_rfl) (by kernel_rfl) ?_
        refine TA_off 10 #[true, true, true, true, true, true, true, true, true, true, true, false, false, false, false, false, false, false, false, false, false, false, false, false, false, false] rfl rfl rfl (by decide) rfl rfl rfl rfl (by kernel_rfl) (by kernel_rfl) (by kernel_rfl) ?_
        refine TA_off 11 #[true, true, true, true, true, true, true, true, true, true, true, true, false, false, false, false, false, false, false, false, false, false, false, false, false, false] rfl rfl rfl (by decide) rfl rfl rfl rfl (by kernel_rfl) (by kernel_rfl) (by kernel_rfl) ?_
        refine TA_off 12 #[true, true, true, true, true, true, true, true, true, true, true, true, true, false, false, false, false, false, false, false, false, false, false, false, false, false] rfl rfl rfl (by decide) rfl rfl rfl rfl (by kernel_rfl) (by kernel_rfl) (by kernel_rfl) ?_
        refine TA_off 13 #[true, true, true, true, true, true, true, true, true, true, true, true, true, true, false, false, false, false, false, false, false, false, false, false, false, false] rfl rfl rfl (by decide) rfl rfl rfl rfl (by kernel_rfl) (by kernel_rfl) (by kernel_rfl) ?_
        refine TA_allG [14] (by kernel_rfl) (by decide) ⟨⟨_, rfl, goN rfl, (TOp_pure (pur_pick (t := false) rfl rfl rfl) rfl ?_)⟩, trivial⟩
        refine TA_listed #[true, true, true, true, true, true, true, true, true, true, true, true, true, true, true, false, false, false, false, false, false, false, false, false, false, false] rfl ?_
        refine TA_first 15 #[true, true, true, true, true, true, true, true, true, true, true, true, true, true, true, true, false, false, false, false, false, false, false, false, false, false] rfl (purI_move rfl) rfl rfl rfl (by kernel_rfl) (by kernel_rfl) (by kernel_rfl) ?_
        refine TA_env (E' := [(0, (sl tRelation l0)), (4, (.b 0 0)), (5, (.b 1 0)), (22, (boolA false))]) ⟨rfl, rfl, rfl, rfl, trivial⟩ ?_
        refine TA_off 16 #[true, true, true, true, true, true, true, true, true, true, true, true, true, true, true, true, true, false, false, false, false, false, false, false, false, false] rfl rfl rfl (by decide) rfl rfl rfl rfl (by kernel_rfl) (by kernel_rfl) (by kernel_rfl) ?_
        refine TA_off 17 #[true, true, true, true, true, true, true, true, true, true, true, true, true, true, true, true, true, true, false, false, false, false, false, false, false, false] rfl rfl rfl (by decide) rfl rfl rfl rfl (by kernel_rfl) (by kernel_rfl) (by kernel_rfl) ?_
        refine TA_off 18 #[true, true, true, true, true, true, true, true, true, true, true, true, true, true, true, true, true, true, true, false, false, false, false, false, false, false] rfl rfl rfl (by decide) rfl rfl rfl rfl (by kernel_rfl) (by kernel_rfl) (by kernel_rfl) ?_
        refine TA_off 19 #[true, true, true, true, true, true, true, true, true, true, true, true, true, true, true, true, true, true, true, true, false, false, false, false, false, false] rfl rfl rfl (by decide) rfl rfl rfl rfl (by kernel_rfl) (by kernel_rfl) (by kernel_rfl) ?_
        refine TA_off 20 #[true, true, true, true, true, true, true, true, true, true, true, true, true, true, true, true, true, true, true, true, true, false, false, false, false, false] rfl rfl rfl (by decide) rfl rfl rfl rfl (by kernel_rfl) (by kernel_rfl) (by kernel_rfl) ?_
        refine TA_off 21 #[true, true, true, true, true, true, true, true, true, true, true, true, true, true, true, true, true, true, true, true, true, true, false, false, false, false] rfl rfl rfl (by decide) rfl rfl rfl rfl (by kernel_rfl) (by kernel_rfl) (by kernel_rfl) ?_
        refine TA_off 22 #[true, true, true, true, true, true, true, true, true, true, true, true, true, true, true, true, true, true, true, true, true, true, true, false, false, false] rfl rfl rfl (by decide) rfl rfl rfl rfl (by kernel_rfl) (by kernel_rfl) (by kernel_rfl) ?_
        refine TA_off 23 #[true, true, true, true, true, true, true, true, true, true, true, true, true, true, true, true, true, true, true, true, true, true, true, true, false, false] rfl rfl rfl (by decide) rfl rfl rfl rfl (by kernel_rfl) (by kernel_rfl) (by kernel_rfl) ?_
        refine TA_allG [24] (by kernel_rfl) (by decide) ⟨⟨_, rfl, goN rfl, (TOp_pure (pur_pick (t := false) rfl rfl rfl) rfl ?_)⟩, trivial⟩
        refine TA_listed #[true, true, true, true, true, true, true, true, true, true, true, true, true, true, true, true, true, true, true, true, true, true, true, true, true, false] rfl ?_
        refine TA_first 25 #[true, true, true, true, true, true, true, true, true, true, true, true, true, true, true, true, true, true, true, true, true, true, true, true, true, true] rfl (purI_assign rfl) rfl rfl rfl (by kernel_rfl) (by kernel_rfl) (by kernel_rfl) ?_
        refine TA_env (E' := [(6, (boolA false))]) ⟨rfl, trivial⟩ ?_
        refine TA_nil (by kernel_rfl) ?_
        exact joined false (WeakL.to 0 (Nat.le_of_ble_eq_true rfl) rfl rfl rfl rfl ⟨leR rfl, trivial⟩) (some_inj H).symm
    · replace H := cond_f g_5 H
      refine T_regionP mixed ?_
      refine TA_first 0 #[true, false, false, false, false, false, false, false, false, false, false, false, false, false, false, false, false, false, false, false, false, false, false, false, false, false] rfl (purI_move rfl) rfl rfl rfl (by kernel_rfl) (by kernel_rfl) (by kernel_rfl) ?_
      refine TA_allG [1] (by kernel_rfl) (by decide) ⟨⟨_, rfl, goN rfl, (TOp_pure (pur_ldK_b agg60 rfl rfl (Nat.le_of_ble_eq_true rfl) rfl) rfl ?_)⟩, trivial⟩
      refine TA_listed #[true, true, false, false, false, false, false, false, false, false, false, false, false, false, false, false, false, false, false, false, false, false, false, false, false, false] rfl ?_
      refine TA_allG [2] (by kernel_rfl) (by decide) ⟨⟨_, rfl, goN rfl, (TOp_callV (call_static ent102 rfl) (m_spec_IsValidFact_ok u _ _ _ h_4) rfl rfl rfl ?_)⟩, trivial⟩
      refine TA_listed #[true, true, true, false, false, false, false, false, false, false, false, false, false, false, false, false, false, false, false, false, false, false, false, false, false, false] rfl ?_
      refine TA_first 3 #[true, true, true, true, false, false, false, false, false, false, false, false, false, false, false, false, false, false, false, false, false, false, false, false, false, false] rfl (purI_move rfl) rfl rfl rfl (by kernel_rfl) (by kernel_rfl) (by kernel_rfl) ?_
      refine TA_bool 10 g_5 rfl ?_
      refine TA_off 4 #[true, true, true, true, true, false, false, false, false, false, false, false, false, false, false, false, false, false, false, false, false, false, false, false, false, false] rfl rfl rfl (by decide) rfl rfl rfl rfl (by kernel_rfl) (by kernel_rfl) (by kernel_rfl) ?_
      refine TA_off 5 #[true, true, true, true, true, true, false, false, false, false, false, false, false, false, false, false, false, false, false, false, false, false, false, false, false, false] rfl rfl rfl (by decide) rfl rfl rfl rfl (by kernel_rfl) (by kernel_rfl) (by kernel_rfl) ?_
      refine TA_off 6 #[true, true, true, true, true, true, true, false, false, false, false, false, false, false, false, false, false, false, false, false, false, false, false, false, false, false] rfl rfl rfl (by decide) rfl rfl rfl rfl (by kernel_rfl) (by kernel_rfl) (by kernel_rfl) ?_
      refine TA_allG [7] (by kernel_rfl) (by decide) ⟨⟨_, rfl, goN rfl, (TOp_pure (pur_pick (t := false) rfl rfl rfl) rfl ?_)⟩, trivial⟩
      refine TA_listed #[true, true, true, true, true, true, true, true, false, false, false, false, false, false, false, false, false, false, false, false, false, false, false, false, false, false] rfl ?_
      refine TA_first 8 #[true, true, true, true, true, true, true, true, true, false, false, false, false, false, false, false, false, false, false, false, false, false, false, false, false, false] rfl (purI_move rfl) rfl rfl rfl (by kernel_rfl) (by kernel_rfl) (by kernel_rfl) ?_
      refine TA_env (E' := [(0, (sl tRelation l0)), (4, (.b 0 0)), (5, (.b 1 0)), (15, (boolA false))]) ⟨rfl, rfl, rfl, rfl, trivial⟩ ?_
      refine TA_off 9 #[true, true, true, true, true, true, true, true, true, true, false, false, false, false, false, false, false, false, false, false, false, false, false, false, false, false] rfl rfl rfl (by decide) rfl rfl rfl rfl (by kernel_rfl) (by kernel_rfl) (by kernel_rfl) ?_
      refine TA_off 10 #[true, true, true, true, true, true, true, true, true, true, true, false, false, false, false, false, false, false, false, false, false, false, false, false, false, false] rfl rfl rfl (by decide) rfl rfl rfl rfl (by kernel_rfl) (by kernel_rfl) (by kernel_rfl) ?_
      refine TA_off 11 #[true, true, true, true, true, true, true, true, true, true, true, true, false, false, false, false, false, false, false, false, false, false, false, false, false, false] rfl rfl rfl (by decide) rfl rfl rfl rfl (by kernel_rfl) (by kernel_rfl) (by kernel_rfl) ?_
      refine TA_off 12 #[true, true, true, true, true, true, true, true, true, true, true, true, true, false, false, false, false, false, false, false, false, false, false, false, false, false] rfl rfl rfl (by decide) rfl rfl rfl rfl (by kernel_rfl) (by kernel_rfl) (by kernel_rfl) ?_
      refine TA_off 13 #[true, true, true, true, true, true, true, true, true, true, true, true, true, true, false, false, false, false, false, false, false, false, false, false, false, false] rfl rfl rfl (by decide) rfl rfl rfl rfl (by kernel_rfl) (by kernel_rfl) (by kernel_rfl) ?_
      refine TA_allG [14] (by kernel_rfl) (by decide) ⟨⟨_, rfl, goN rfl, (TOp_pure (pur_pick (t := false) rfl rfl rfl) rfl ?_)⟩, trivial⟩
      refine TA_listed #[true, true, true, true, true, true, true, true, true, true, true, true, true, true, true, false, false, false, false, false, false, false, false, false, false, false] rfl ?_
      refine TA_first 15 #[true, true, true, true, true, true, true, true, true, true, true, true, true, true, true, true, false, false, false, false, false, false, false, false, false, false] rfl (purI_move rfl) rfl rfl rfl (by kernel_rfl) (by kernel_rfl) (by kernel_rfl) ?_
      refine TA_env (E' := [(0, (sl tRelation l0)), (4, (.b 0 0)), (5, (.b 1 0)), (22, (boolA false))]) ⟨rfl, rfl, rfl, rfl, trivial⟩ ?_
      refine TA_off 16 #[true, true, true, true, true, true, true, true, true, true, true, true, true, true, true, true, true, false, false, false, false, false, false, false, false, false] rfl rfl rfl (by decide) rfl rfl rfl rfl (by kernel_rfl) (by kernel_rfl) (by kernel_rfl) ?_
      refine TA_off 17 #[true, true, true, true, true, true, true, true, true, true, true, true, true, true, true, true, true, true, false, false, false, false, false, false, false, false] rfl rfl rfl (by decide) rfl rfl rfl rfl (by kernel_rfl) (by kernel_rfl) (by kernel_rfl) ?_
      refine TA_off 18 #[true, true, true, true, true, true, true, true, true, true, true, true, true, true, true, true, true, true, true, false, false, false, false, false, false, false] rfl rfl rfl (by decide) rfl rfl rfl rfl (by kernel_rfl) (by kernel_rfl) (by kernel_rfl) ?_
      refine TA_off 19 #[true, true, true, true, true, true, true, true, true, true, true, true, true, true, true, true, true, true, true, true, false, false, false, false, false, false] rfl rfl rfl (by decide) rfl rfl rfl rfl (by kernel_rfl) (by kernel_rfl) (by kernel_rfl) ?_
      refine TA_off 20 #[true, true, true, true, true, true, true, true, true, true, true, true, true, true, true, true, true, true, true, true, true, false, false, false, false, false] rfl rfl rfl (by decide) rfl rfl rfl rfl (by kernel_rfl) (by kernel_rfl) (by kernel_rfl) ?_
      refine TA_off 21 #[true, true, true, true, true, true, true, true, true, true, true, true, true, true, true, true, true, true, true, true, true, true, false, false, false, false] rfl rfl rfl (by decide) rfl rfl rfl rfl (by kernel_rfl) (by kernel_rfl) (by kernel_rfl) ?_
      refine TA_off 22 #[true, true, true, true, true, true, true, true, true, true, true, true, true, true, true, true, true, true, true, true, true, true, true, false, false, false] rfl rfl rfl (by decide) rfl rfl rfl rfl (by kernel_rfl) (by kernel_rfl) (by kernel_rfl) ?_
      refine TA_off 23 #[true, true, true, true, true, true, true, true, true, true, true, true, true, true, true, true, true, true, true, true, true, true, true, true, false, false] rfl rfl rfl (by decide) rfl rfl rfl rfl (by kernel_rfl) (by kernel_rfl) (by kernel_rfl) ?_
      refine TA_allG [24] (by kernel_rfl) (by decide) ⟨⟨_, rfl, goN rfl, (TOp_pure (pur_pick (t := false) rfl rfl rfl) rfl ?_)⟩, trivial⟩
      refine TA_listed #[true, true, true, true, true, true, true, true, true, true, true, true, true, true, true, true, true, true, true, true, true, true, true, true, true, false] rfl ?_
      refine TA_first 25 #[true, true, true, true, true, true, true, true, true, true, true, true, true, true, true, true, true, true, true, true, true, true, true, true, true, true] rfl (purI_assign rfl) rfl rfl rfl (by kernel_rfl) (by kernel_rfl) (by kernel_rfl) ?_
      refine TA_env (E' := [(6, (boolA false))]) ⟨rfl, trivial⟩ ?_
      refine TA_nil (by kernel_rfl) ?_
      exact joined false (WeakL.to 0 (Nat.le_of_ble_eq_true rfl) rfl rfl rfl rfl ⟨leR rfl, trivial⟩) (some_inj H).symm
  · rintro _ rfl
    replace H := H_2
    refine T_env (E' := [(6, (boolA t6))]) ⟨rfl, trivial⟩ ?_
    refine T_ret ?_
    obtain rfl := some_inj H
    refine end_ret (.tmp .nil) rfl rfl ⟨?_, rfl⟩
    rfl

set_option maxHeartbeats 1000000 in
/-- spec.BlockOf -/
theorem m_spec_BlockOf_own (u : Nat) (d0 : Database) (i1 : Int) (r : (List Int)) (H : m_spec_BlockOf u d0 i1 = some r) : FnO prg 105 [(.g (tDatabase.enc d0)), (intA i1)] (.m [0] 0 r.length tInt.k) [.row (flat tInt.own r)] := by
  unfold m_spec_BlockOf at H
  refine fnO_of_T Try.func105 rfl rfl (Nat.le_of_ble_eq_true rfl) ?_
  refine T_env (E' := [(0, (.g (tDatabase.enc d0))), (1, (intA i1))]) ⟨rfl, rfl, trivial⟩ ?_
  refine T_seq ?_
  refine T_region ?_
  refine TO_cons rfl (TOp_box rfl (boxAll rfl) rfl rfl ?_)
  refine TO_cons rfl (TOp_pure (pur_assign rfl) rfl ?_)
  refine TO_nil ?_
  refine T_env (E' := [(1, (intA i1)), (2, (.b 0 0))]) ⟨rfl, rfl, trivial⟩ ?_
  refine T_seq ?_
  refine T_region ?_
  refine TO_cons rfl (TOp_lit (nn := 0) (k := 1) sl33 zero3 rfl rfl rfl rfl (by decide) ?_)
  refine TO_st (σ' := [.box [(sl tRelation d0.relations), (sl tFact d0.facts)], .row (flat tInt.enc ([] : (List Int)))]) rfl ?_
  refine TO_cons rfl (TOp_pure (pur_assign rfl) rfl ?_)
  refine TO_nil ?_
  refine T_env (E' := [(1, (intA i1)), (2, (.b 0 0)), (5, (.m [1] 0 ([] : (List Int)).length tInt.k))]) ⟨rfl, rfl, rfl, trivial⟩ ?_
  refine T_seq ?_
  refine T_seq ?_
  refine T_region ?_
  refine TO_cons rfl (TOp_pure (pur_assign rfl) rfl ?_)
  refine TO_nil ?_
  refine T_env (E' := [(1, (intA i1)), (2, (.b 0 0)), (5, (.m [1] 0 ([] : (List Int)).length tInt.k)), (6, (intA 0))]) ⟨rfl, rfl, rfl, rfl, trivial⟩ ?_
  obtain ⟨O1_, L1_, N1_⟩ := bind_inv H
  clear H
  obtain ⟨B1_, hb1, L1_⟩ := gen_whileF L1_
  refine T_block ?_
  refine T_loopX (fun k => fun (x_ : (List Int) × Int) => whileF B1_ k (x_.1, x_.2) = some O1_) (fun (x_ : (List Int) × Int) => [(1, (intA i1)), (2, (.b 0 0)), (5, (.m [1] 0 x_.1.length tInt.k)), (6, (intA x_.2))]) (fun (x_ : (List Int) × Int) => [.box [(sl tRelation d0.relations), (sl tFact d0.facts)], .row (flat tInt.enc x_.1)]) u (([] : (List Int)), 0) (WeakL.to 2 (Nat.le_of_ble_eq_true rfl) rfl rfl rfl rfl ⟨leR rfl, leR rfl, leR rfl, leR rfl, trivial⟩) L1_ ?_
  rintro _ ⟨out5, k6⟩ L1_
  obtain ⟨k1, rfl, C1_, H, K1_⟩ := while_step L1_
  rw [hb1] at H
  refine T_env (E' := [(1, (intA i1)), (2, (.b 0 0)), (5, (.m [1] 0 out5.length tInt.k)), (6, (intA k6))]) ⟨rfl, rfl, rfl, rfl, trivial⟩ ?_
  refine T_st (σ' := [.box [(sl tRelation d0.relations), (sl tFact d0.facts)], .row (flat tInt.enc out5)]) rfl ?_
  refine T_seq ?_
  obtain ⟨t24, J_2, H_3⟩ := bind_inv H
  refine T_cutX (fun x => t24 = x) (fun (t24 : Bool) => [(1, (intA i1)), (2, (.b 0 0)), (5, (.m [1] 0 out5.length tInt.k)), (6, (intA k6)), (24, (boolA t24))]) (fun (t24 : Bool) => [.box [(sl tRelation d0.relations), (sl tFact d0.facts)], .row (flat tInt.enc out5)]) ?_ ?_
  · replace H := J_2
    refine T_region ?_
    refine TO_cons rfl (TOp_pure (pur_move rfl) rfl ?_)
    refine TO_cons rfl (TOp_pure (pur_fa_b fld32_1 rfl rfl) rfl ?_)
    refine TO_cons rfl (TOp_pure (pur_ld_b one30 rfl rfl rfl rfl) rfl ?_)
    refine TO_cons rfl (TOp_pure (pur_lenT (T := tFact) sl30 rfl rfl) rfl ?_)
    refine TO_cons rfl (TOp_pure (pur_lss rfl rfl rfl) rfl ?_)
    refine TO_cons rfl (TOp_pure (pur_move rfl) rfl ?_)
    refine TO_split (t := decide (k6 < (d0.facts.length : Int))) 13 rfl (fun g_4 => ?_) (fun g_4 => ?_)
    · replace H := cond_t g_4 H
      refine TO_on rfl rfl (by decide) rfl rfl (TOp_pure (pur_ldK_b agg32 rfl rfl (Nat.le_of_ble_eq_true rfl) rfl) rfl ?_)
      obtain ⟨r_5, h_6, H⟩ := bind_inv H
      refine TO_on rfl rfl (by decide) rfl rfl (TOp_callV (call_static ent76 rfl) (m_spec_IsValidDatabase_ok u _ _ h_6) rfl rfl rfl ?_)
      refine TO_cons rfl (TOp_pure (pur_pick (t := true) rfl rfl rfl) rfl ?_)
      refine TO_cons rfl (TOp_pure (pur_move rfl) rfl ?_)
      refine TO_split (t := r_5) 17 rfl (fun g_7 => ?_) (fun g_7 => ?_)
      · replace H := cond_t g_7 H
        refine TO_on rfl rfl (by decide) rfl rfl (TOp_pure (pur_move rfl) rfl ?_)
        refine TO_on rfl rfl (by decide) rfl rfl (TOp_pure (pur_fa_b fld32_1 rfl rfl) rfl ?_)
        refine TO_on rfl rfl (by decide) rfl rfl (TOp_pure (pur_ld_b one30 rfl rfl rfl rfl) rfl ?_)
        refine TO_on rfl rfl (by decide) rfl rfl (TOp_pure (pur_lenT (T := tFact) sl30 rfl rfl) rfl ?_)
        refine TO_fact (len_sl (T := tFact) (.tmp 10) rfl) (fun hl_8 => ?_)
        refine TO_on rfl rfl (by decide) rfl rfl (TOp_pure (pur_sub rfl rfl rfl (fits64 (by omega) (by omega))) rfl ?_)
        obtain ⟨r_9, h_10, H⟩ := bind_inv H
        refine TO_on rfl rfl (by decide) rfl rfl (TOp_callV (call_static ent78 rfl) (m_spec_l1In_ok _ _ _ _ h_10) rfl rfl rfl ?_)
        refine TO_cons rfl (TOp_pure (pur_pick (t := true) rfl rfl rfl) rfl ?_)
        refine TO_nil ?_
        exact joined r_9 (WeakL.to 2 (Nat.le_of_ble_eq_true rfl) rfl rfl rfl rfl ⟨leR rfl, leR rfl, leR rfl, leR rfl, leR rfl, trivial⟩) (some_inj H).symm
      · replace H := cond_f g_7 H
        refine TO_off rfl rfl (by decide) rfl rfl rfl ?_
        refine TO_off rfl rfl (by decide) rfl rfl rfl ?_
        refine TO_off rfl rfl (by decide) rfl rfl rfl ?_
        refine TO_off rfl rfl (by decide) rfl rfl rfl ?_
        refine TO_off rfl rfl (by decide) rfl rfl rfl ?_
        refine TO_off rfl rfl (by decide) rfl rfl rfl ?_
        refine TO_cons rfl (TOp_pure (pur_pick (t := false) rfl rfl rfl) rfl ?_)
        refine TO_nil ?_
        exact joined false (WeakL.to 2 (Nat.le_of_ble_eq_true rfl) rfl rfl rfl rfl ⟨leR rfl, leR rfl, leR rfl, leR rfl, leR rfl, trivial⟩) (some_inj H).symm
    · replace H := cond_f g_4 H
      refine TO_off rfl rfl (by decide) rfl rfl rfl ?_
      refine TO_off rfl rfl (by decide) rfl rfl rfl ?_
      refine TO_cons rfl (TOp_pure (pur_pick (t := false) rfl rfl rfl) rfl ?_)
      refine TO_cons rfl (TOp_pure (pur_move rfl) rfl ?_)
      refine TO_off rfl rfl (by decide) rfl rfl rfl ?_
      refine TO_off rfl rfl (by decide) rfl rfl rfl ?_
      refine TO_off rfl rfl (by decide) rfl rfl rfl ?_
      refine TO_off rfl rfl (by decide) rfl rfl rfl ?_
      refine TO_env (E' := [(1, (intA i1)), (2, (.b 0 0)), (5, (.m [1] 0 out5.length tInt.k)), (6, (intA k6)), (17, (boolA false)), (18, (.v undef)), (21, (.v undef))]) ⟨rfl, rfl, rfl, rfl, rfl, rfl, rfl, trivial⟩ ?_
      refine TO_off rfl rfl (by decide) rfl rfl rfl ?_
      refine TO_off rfl rfl (by decide) rfl rfl rfl ?_
      refine TO_cons rfl (TOp_pure (pur_pick (t := false) rfl rfl rfl) rfl ?_)
      refine TO_nil ?_
      exact joined false (WeakL.to 2 (Nat.le_of_ble_eq_true rfl) rfl rfl rfl rfl ⟨leR rfl, leR rfl, leR rfl, leR rfl, leR rfl, trivial⟩) (some_inj H).symm
  · rintro _ rfl
    replace H := H_3
    refine T_env (E' := [(1, (intA i1)), (2, (.b 0 0)), (5, (.m [1] 0 out5.length tInt.k)), (6, (intA k6)), (24, (boolA t24))]) ⟨rfl, rfl, rfl, rfl, rfl, trivial⟩ ?_
    refine T_cond (t := t24) rfl (fun c_11 => ?_) (fun c_11 => ?_)
    · replace H := cond_t c_11 H
      refine T_skip ?_
      refine T_env (E' := [(1, (intA i1)), (2, (.b 0 0)), (5, (.m [1] 0 out5.length tInt.k)), (6, (intA k6))]) ⟨rfl, rfl, rfl, rfl, trivial⟩ ?_
      refine T_seq ?_
      refine T_block ?_
      refine T_seq ?_
      refine T_regionD mixed (by kernel_rfl) ?_
      refine TQ_pure rfl (pur_fa_b fld32_0 rfl rfl) rfl ?_
      refine TQ_pure rfl (pur_ld_b one29 rfl rfl rfl rfl) rfl ?_
      refine TQ_pure rfl (pur_fa_b fld32_1 rfl rfl) rfl ?_
      refine TQ_pure rfl (pur_ld_b one30 rfl rfl rfl rfl) rfl ?_
      refine TQ_pure rfl (pur_move rfl) rfl ?_
      obtain ⟨v_12, h_13, H⟩ := bind_inv H
      obtain ⟨n_14, hz_15, hv_16⟩ := getI_inv h_13
      refine TQ_pure rfl (pur_ixT (T := tFact) sl30 rfl rfl hz_15 hv_16 rfl) rfl ?_
      refine TQ_pure rfl (pur_ldTK (T := tFact) (i := n_14) (off := 0) rfl agg60 rfl rfl hv_16 (by decide) rfl) rfl ?_
      refine TQ_pure rfl (pur_fa_b fld32_1 rfl rfl) rfl ?_
      refine TQ_env (E' := [(1, (intA i1)), (2, (.b 0 0)), (5, (.m [1] 0 out5.length tInt.k)), (6, (intA k6)), (28, (sl tRelation d0.relations)), (33, (.g (tFact.enc v_12))), (34, (.b 0 1))]) ⟨rfl, rfl, rfl, rfl, rfl, rfl, rfl, trivial⟩ ?_
      refine TQ_pure rfl (pur_ld_b one30 rfl rfl rfl rfl) rfl ?_
      refine TQ_pure rfl (pur_move rfl) rfl ?_
      obtain ⟨v_17, h_18, H⟩ := bind_inv H
      obtain ⟨n_19, hz_20, hv_21⟩ := getI_inv h_18
      refine TQ_pure rfl (pur_ixT (T := tFact) sl30 rfl rfl hz_20 hv_21 rfl) rfl ?_
      refine TQ_pure rfl (pur_ldTK (T := tFact) (i := n_19) (off := 0) rfl agg60 rfl rfl hv_21 (by decide) rfl) rfl ?_
      obtain ⟨r_22, h_23, H⟩ := bind_inv H
      refine TQ_callV rfl (call_static ent122 rfl) (m_spec_HaveSameKey_ok u _ _ _ _ h_23) rfl rfl ?_
      refine TQ_nil ?_
      refine T_env (E' := [(1, (intA i1)), (2, (.b 0 0)), (5, (.m [1] 0 out5.length tInt.k)), (6, (intA k6)), (39, (boolA r_22))]) ⟨rfl, rfl, rfl, rfl, rfl, trivial⟩ ?_
      refine T_cond (t := r_22) rfl (fun c_24 => ?_) (fun c_24 => ?_)
      · replace H := cond_t c_24 H
        refine T_region ?_
        refine TO_cons rfl (TOp_pure (pur_move rfl) rfl ?_)
        refine TO_cons rfl (TOp_pure (pur_move rfl) rfl ?_)
        refine TO_cons rfl (TOp_lit (nn := 1) (k := 1) sl33 zero3 rfl rfl rfl rfl (by decide) ?_)
        refine TO_st (σ' := [.box [(sl tRelation d0.relations), (sl tFact d0.facts)], .row (flat tInt.enc out5), .row (flat tInt.enc ([k6] : (List Int)))]) rfl ?_
        obtain ⟨us_25, h_26, H⟩ := bind_inv H
        refine TO_cons rfl (TOp_appZ (T := tInt) (f := tInt.enc) (xs := out5) (ys := ([k6] : (List Int))) tInt.len sl33 zero3 rfl bytes3 (by decide) rfl rfl rfl rfl (src_mT (f := tInt.enc) tInt.len rfl rfl (flat_cell tInt _)) (flat_cell tInt _) h_26 (Nat.le_of_ble_eq_true rfl) ?_)
        refine TO_env (E' := [(1, (intA i1)), (2, (.b 0 0)), (6, (intA k6)), (39, (boolA r_22)), (41, (intA k6)), (42, (.m [2] 0 ([k6] : (List Int)).length tInt.k)), (43, (.m [1] 0 us_25.length tInt.k))]) ⟨rfl, rfl, rfl, rfl, rfl, rfl, rfl, trivial⟩ ?_
        refine TO_st (σ' := [.box [(sl tRelation d0.relations), (sl tFact d0.facts)], .row (flat tInt.enc us_25), .row (flat tInt.enc ([k6] : (List Int))), .dead]) rfl ?_
        refine TO_cons rfl (TOp_pure (pur_assign rfl) rfl ?_)
        refine TO_nil ?_
        refine T_env (E' := [(1, (intA i1)), (2, (.b 0 0)), (5, (.m [1] 0 us_25.length tInt.k)), (6, (intA k6))]) ⟨rfl, rfl, rfl, rfl, trivial⟩ ?_
        refine T_region ?_
        refine TO_cons rfl (TOp_pure (pur_move rfl) rfl ?_)
        refine TO_cons rfl (TOp_pure (pur_wadd rfl rfl rfl) rfl ?_)
        refine TO_cons rfl (TOp_pure (pur_assign rfl) rfl ?_)
        refine TO_nil ?_
        obtain rfl := some_inj H
        exact again k1 (us_25, (w64 (k6 + 1))) (Nat.lt_succ_self _) (WeakL.to 2 (Nat.le_of_ble_eq_true rfl) rfl rfl rfl rfl ⟨leR rfl, leR rfl, leR rfl, leR rfl, trivial⟩) K1_
      · replace H := cond_f c_24 H
        refine T_skip ?_
        refine T_env (E' := [(1, (intA i1)), (2, (.b 0 0)), (5, (.m [1] 0 out5.length tInt.k)), (6, (intA k6))]) ⟨rfl, rfl, rfl, rfl, trivial⟩ ?_
        refine T_region ?_
        refine TO_cons rfl (TOp_pure (pur_move rfl) rfl ?_)
        refine TO_cons rfl (TOp_pure (pur_wadd rfl rfl rfl) rfl ?_)
        refine TO_cons rfl (TOp_pure (pur_assign rfl) rfl ?_)
        refine TO_nil ?_
        obtain rfl := some_inj H
        exact again k1 (out5, (w64 (k6 + 1))) (Nat.lt_succ_self _) (WeakL.to 2 (Nat.le_of_ble_eq_true rfl) rfl rfl rfl rfl ⟨leR rfl, leR rfl, leR rfl, leR rfl, trivial⟩) K1_
    · replace H := cond_f c_11 H
      refine T_exit ?_
      refine then_exit ?_
      refine then_exit ?_
      refine block_exit ?_
      obtain rfl := some_inj H
      obtain rfl := some_inj K1_
      replace H := onS_l N1_
      refine T_env (E' := [(5, (.m [1] 0 out5.length tInt.k))]) ⟨rfl, trivial⟩ ?_
      refine T_seq ?_
      refine T_region ?_
      refine TO_cons rfl (TOp_pure (pur_move rfl) rfl ?_)
      refine TO_cons rfl (TOp_pure (pur_assign rfl) rfl ?_)
      refine TO_nil ?_
      refine T_env (E' := [(4, (.m [1] 0 out5.length tInt.k))]) ⟨rfl, trivial⟩ ?_
      refine T_ret ?_
      obtain rfl := some_inj H
      exact end_pick (.tmp .nil) rfl [1] (by decide) rfl rfl rfl rfl rfl rfl
theorem m_spec_BlockOf_ok (u : Nat) (d0 : Database) (i1 : Int) (r : (List Int)) (H : m_spec_BlockOf u d0 i1 = some r) : FnV prg 105 [(.g (tDatabase.enc d0)), (intA i1)] (sl tInt r) := (m_spec_BlockOf_own u d0 i1 r H).frz (frzT (T := tInt) rfl)

set_option maxHeartbeats 1000000 in
/-- spec.Blocks -/
theorem m_spec_Blocks_own (u : Nat) (d0 : Database) (r : (List (List Int))) (H : m_spec_Blocks u d0 = some r) : FnO prg 79 [(.g (tDatabase.enc d0))] (.m [0] 0 r.length (tSl tInt).k) [.row (flat (tSl tInt).own r)] := by
  unfold m_spec_Blocks at H
  refine fnO_of_T Try.func79 rfl rfl (Nat.le_of_ble_eq_true rfl) ?_
  refine T_env (E' := [(0, (.g (tDatabase.enc d0)))]) ⟨rfl, trivial⟩ ?_
  refine T_seq ?_
  refine T_region ?_
  refine TO_cons rfl (TOp_box rfl (boxAll rfl) rfl rfl ?_)
  refine TO_cons rfl (TOp_pure (pur_assign rfl) rfl ?_)
  refine TO_nil ?_
  refine T_env (E' := [(1, (.b 0 0))]) ⟨rfl, trivial⟩ ?_
  refine T_seq ?_
  refine T_region ?_
  refine TO_cons rfl (TOp_lit (nn := 0) (k := 1) sl22 zero33 rfl rfl rfl rfl (by decide) ?_)
  refine TO_st (σ' := [.box [(sl tRelation d0.relations), (sl tFact d0.facts)], .row (flat (tSl tInt).own ([] : (List (List Int))))]) rfl ?_
  refine TO_cons rfl (TOp_pure (pur_assign rfl) rfl ?_)
  refine TO_nil ?_
  refine T_env (E' := [(1, (.b 0 0)), (3, (.m [1] 0 ([] : (List (List Int))).length (tSl tInt).k))]) ⟨rfl, rfl, trivial⟩ ?_
  refine T_seq ?_
  refine T_seq ?_
  refine T_region ?_
  refine TO_cons rfl (TOp_pure (pur_assign rfl) rfl ?_)
  refine TO_nil ?_
  refine T_env (E' := [(1, (.b 0 0)), (3, (.m [1] 0 ([] : (List (List Int))).length (tSl tInt).k)), (4, (intA 0))]) ⟨rfl, rfl, rfl, trivial⟩ ?_
  obtain ⟨O1_, L1_, N1_⟩ := bind_inv H
  clear H
  obtain ⟨B1_, hb1, L1_⟩ := gen_whileF L1_
  refine T_block ?_
  refine T_loopX (fun k => fun (x_ : (List (List Int)) × Int) => whileF B1_ k (x_.1, x_.2) = some O1_) (fun (x_ : (List (List Int)) × Int) => [(1, (.b 0 0)), (3, (.m [1] 0 x_.1.length (tSl tInt).k)), (4, (intA x_.2))]) (fun (x_ : (List (List Int)) × Int) => [.box [(sl tRelation d0.relations), (sl tFact d0.facts)], .row (flat (tSl tInt).own x_.1)]) u (([] : (List (List Int))), 0) (WeakL.to 2 (Nat.le_of_ble_eq_true rfl) rfl rfl rfl rfl ⟨leR rfl, leR rfl, leR rfl, trivial⟩) L1_ ?_
  rintro _ ⟨out3, i4⟩ L1_
  obtain ⟨k1, rfl, C1_, H, K1_⟩ := while_step L1_
  rw [hb1] at H
  refine T_env (E' := [(1, (.b 0 0)), (3, (.m [1] 0 out3.length (tSl tInt).k)), (4, (intA i4))]) ⟨rfl, rfl, rfl, trivial⟩ ?_
  refine T_st (σ' := [.box [(sl tRelation d0.relations), (sl tFact d0.facts)], .row (flat (tSl tInt).own out3)]) rfl ?_
  refine T_seq ?_
  obtain ⟨t15, J_2, H_3⟩ := bind_inv H
  refine T_cutX (fun x => t15 = x) (fun (t15 : Bool) => [(1, (.b 0 0)), (3, (.m [1] 0 out3.length (tSl tInt).k)), (4, (intA i4)), (15, (boolA t15))]) (fun (t15 : Bool) => [.box [(sl tRelation d0.relations), (sl tFact d0.facts)], .row (flat (tSl tInt).own out3)]) ?_ ?_
  · replace H := J_2
    refine T_region ?_
    refine TO_cons rfl (TOp_pure (pur_move rfl) rfl ?_)
    refine TO_cons rfl (TOp_pure (pur_fa_b fld32_1 rfl rfl) rfl ?_)
    refine TO_cons rfl (TOp_pure (pur_ld_b one30 rfl rfl rfl rfl) rfl ?_)
    refine TO_cons rfl (TOp_pure (pur_lenT (T := tFact) sl30 rfl rfl) rfl ?_)
    refine TO_cons rfl (TOp_pure (pur_lss rfl rfl rfl) rfl ?_)
    refine TO_cons rfl (TOp_pure (pur_move rfl) rfl ?_)
    refine TO_split (t := decide (i4 < (d0.facts.length : Int))) 12 rfl (fun g_4 => ?_) (fun g_4 => ?_)
    · replace H := cond_t g_4 H
      refine TO_on rfl rfl (by decide) rfl rfl (TOp_pure (pur_ldK_b agg32 rfl rfl (Nat.le_of_ble_eq_true rfl) rfl) rfl ?_)
      obtain ⟨r_5, h_6, H⟩ := bind_inv H
      refine TO_on rfl rfl (by decide) rfl rfl (TOp_callV (call_static ent76 rfl) (m_spec_IsValidDatabase_ok u _ _ h_6) rfl rfl rfl ?_)
      refine TO_cons rfl (TOp_pure (pur_pick (t := true) rfl rfl rfl) rfl ?_)
      refine TO_nil ?_
      exact joined r_5 (WeakL.to 2 (Nat.le_of_ble_eq_true rfl) rfl rfl rfl rfl ⟨leR rfl, leR rfl, leR rfl, leR rfl, trivial⟩) (some_inj H).symm
    · replace H := cond_f g_4 H
      refine TO_off rfl rfl (by decide) rfl rfl rfl ?_
      refine TO_off rfl rfl (by decide) rfl rfl rfl ?_
      refine TO_cons rfl (TOp_pure (pur_pick (t := false) rfl rfl rfl) rfl ?_)
      refine TO_nil ?_
      exact joined false (WeakL.to 2 (Nat.le_of_ble_eq_true rfl) rfl rfl rfl rfl ⟨leR rfl, leR rfl, leR rfl, leR rfl, trivial⟩) (some_inj H).symm
  · rintro _ rfl
    replace H := H_3
    refine T_env (E' := [(1, (.b 0 0)), (3, (.m [1] 0 out3.length (tSl tInt).k)), (4, (intA i4)), (15, (boolA t15))]) ⟨rfl, rfl, rfl, rfl, trivial⟩ ?_
    refine T_cond (t := t15) rfl (fun c_7 => ?_) (fun c_7 => ?_)
    · replace H := cond_t c_7 H
      refine T_skip ?_
      refine T_env (E' := [(1, (.b 0 0)), (3, (.m [1] 0 out3.length (tSl tInt).k)), (4, (intA i4))]) ⟨rfl, rfl, rfl, trivial⟩ ?_
      refine T_seq ?_
      refine T_block ?_
      refine T_seq ?_
      refine T_region ?_
      refine TO_cons rfl (TOp_pure (pur_ldK_b agg32 rfl rfl (Nat.le_of_ble_eq_true rfl) rfl) rfl ?_)
      refine TO_cons rfl (TOp_pure (pur_move rfl) rfl ?_)
      obtain ⟨r_8, h_9, H⟩ := bind_inv H
      refine TO_cons rfl (TOp_callO (call_static ent105 rfl) rfl (m_spec_BlockOf_own u _ _ _ h_9) rfl rfl rfl ?_)
      refine TO_env (E' := [(1, (.b 0 0)), (3, (.m [1] 0 out3.length (tSl tInt).k)), (4, (intA i4)), (18, (.g (tDatabase.enc d0))), (19, (intA i4)), (20, (.m [2] 0 r_8.length tInt.k))]) ⟨rfl, rfl, rfl, rfl, rfl, rfl, trivial⟩ ?_
      refine TO_st (σ' := [.box [(sl tRelation d0.relations), (sl tFact d0.facts)], .row (flat (tSl tInt).own out3), .row (flat tInt.own r_8)]) rfl ?_
      refine TO_cons rfl (TOp_pure (pur_assign rfl) rfl ?_)
      refine TO_nil ?_
      refine T_env (E' := [(1, (.b 0 0)), (3, (.m [1] 0 out3.length (tSl tInt).k)), (4, (intA i4)), (5, (.m [2] 0 r_8.length tInt.k))]) ⟨rfl, rfl, rfl, rfl, trivial⟩ ?_
      refine T_seq ?_
      refine T_region ?_
      refine TO_cons rfl (TOp_pure (pur_move rfl) rfl ?_)
      obtain ⟨v_10, h_11, H⟩ := bind_inv H
      obtain ⟨n_12, hz_13, hv_14⟩ := getI_inv h_11
      refine TO_cons rfl (TOp_pure (pur_ixM (T := tInt) sl33 rfl rfl hz_13 hv_14 rfl) rfl ?_)
      refine TO_cons rfl (TOp_pure (pur_ldE (f := tInt.own) (k := tInt.k) (i := n_12) (off := 0) tInt.lenO rfl one3 rfl rfl rfl hv_14 rfl rfl) rfl ?_)
      refine TO_cons rfl (TOp_pure (pur_move rfl) rfl ?_)
      refine TO_cons rfl (TOp_pure (pur_eql rfl rfl rfl) rfl ?_)
      refine TO_nil ?_
      refine T_env (E' := [(1, (.b 0 0)), (3, (.m [1] 0 out3.length (tSl tInt).k)), (4, (intA i4)), (5, (.m [2] 0 r_8.length tInt.k)), (25, (boolA (decide (v_10 = i4))))]) ⟨rfl, rfl, rfl, rfl, rfl, trivial⟩ ?_
      refine T_cond (t := decide (v_10 = i4)) rfl (fun c_15 => ?_) (fun c_15 => ?_)
      · replace H := cond_t c_15 H
        refine T_region ?_
        refine TO_cons rfl (TOp_pure (pur_move rfl) rfl ?_)
        refine TO_cons rfl (TOp_pure (pur_move rfl) rfl ?_)
        refine TO_cons rfl (TOp_litB (nn := 1) (k := 1) sl22 zero33 rfl rfl rfl rfl (by decide) ?_)
        refine TO_st (σ' := [.box [(sl tRelation d0.relations), (sl tFact d0.facts)], .row (flat (tSl tInt).own out3), .row (flat tInt.own r_8), .box [(.m [2] 0 r_8.length tInt.k)]]) rfl ?_
        refine TO_boxify 1 rfl (Nat.le_of_ble_eq_true rfl) ?_
        obtain ⟨us_16, h_17, H⟩ := bind_inv H
        refine TO_cons rfl (TOp_appB (T := (tSl tInt)) (xs := out3) (v := r_8) sl22 zero33 rfl bytes33 (by decide) rfl rfl rfl rfl rfl rfl rfl rfl h_17 (Nat.le_of_ble_eq_true rfl) ?_)
        refine TO_env (E' := [(1, (.b 0 0)), (4, (intA i4)), (25, (boolA (decide (v_10 = i4)))), (29, .m [4] 0 (out3.length + 1) (tSl tInt).k)]) ⟨rfl, rfl, rfl, rfl, trivial⟩ ?_
        refine TO_st (σ' := [.box [(sl tRelation d0.relations), (sl tFact d0.facts)], .dead, .row (flat tInt.own r_8), .box [(.m [2] 0 r_8.length tInt.k)], .box (flat (tSl tInt).own out3 ++ [(.m [2] 0 r_8.length tInt.k)])]) rfl ?_
        refine TO_absorbA (pr := flat (tSl tInt).own out3) 4 0 2 rfl rfl rfl (by decide) tInt.pos (flat_len tInt.lenO _) (Nat.le_of_ble_eq_true rfl) (Nat.le_of_ble_eq_true rfl) rfl (nms_box rfl (nms_dead (nms_row (nms_box rfl (nms_box (namesA namesL_own rfl) nms_nil))))) ?_
        refine TO_st (σ' := [.box [(sl tRelation d0.relations), (sl tFact d0.facts)], .dead, .dead, .box [(.m [2] 0 r_8.length tInt.k)], .box (flat (tSl tInt).own out3 ++ [.o tInt.k (flat tInt.own r_8)])]) rfl ?_
        refine TO_rowifyT (T := (tSl tInt)) (xs := out3) (v := r_8) 4 rfl rfl h_17 (Nat.le_of_ble_eq_true rfl) ?_
        refine TO_st (σ' := [.box [(sl tRelation d0.relations), (sl tFact d0.facts)], .dead, .dead, .box [(.m [2] 0 r_8.length tInt.k)], .row (flat (tSl tInt).own us_16)]) rfl ?_
        refine TO_move 1 4 (by decide) (Nat.le_of_ble_eq_true rfl) rfl rfl (Nat.le_of_ble_eq_true rfl) ?_
        refine TO_env (E' := [(1, (.b 0 0)), (4, (intA i4)), (25, (boolA (decide (v_10 = i4)))), (29, (.m [1] 0 us_16.length (tSl tInt).k))]) ⟨rfl, rfl, rfl, (congrArg (fun q => A.m [1] 0 q (tSl tInt).k) (app_len h_17)), trivial⟩ ?_
        refine TO_kill 3 (Nat.le_of_ble_eq_true rfl) ?_
        refine TO_st (σ' := [.box [(sl tRelation d0.relations), (sl tFact d0.facts)], .row (flat (tSl tInt).own us_16), .dead, .dead, .dead]) rfl ?_
        refine TO_cons rfl (TOp_pure (pur_assign rfl) rfl ?_)
        refine TO_nil ?_
        refine T_env (E' := [(1, (.b 0 0)), (3, (.m [1] 0 us_16.length (tSl tInt).k)), (4, (intA i4))]) ⟨rfl, rfl, rfl, trivial⟩ ?_
        refine T_region ?_
        refine TO_cons rfl (TOp_pure (pur_move rfl) rfl ?_)
        refine TO_cons rfl (TOp_pure (pur_wadd rfl rfl rfl) rfl ?_)
        refine TO_cons rfl (TOp_pure (pur_assign rfl) rfl ?_)
        refine TO_nil ?_
        obtain rfl := some_inj H
        exact again k1 (us_16, (w64 (i4 + 1))) (Nat.lt_succ_self _) (WeakL.to 2 (Nat.le_of_ble_eq_true rfl) rfl rfl rfl rfl ⟨leR rfl, leR rfl, leR rfl, trivial⟩) K1_
      · replace H := cond_f c_15 H
        refine T_skip ?_
        refine T_env (E' := [(1, (.b 0 0)), (3, (.m [1] 0 out3.length (tSl tInt).k)), (4, (intA i4))]) ⟨rfl, rfl, rfl, trivial⟩ ?_
        refine T_region ?_
        refine TO_cons rfl (TOp_pure (pur_move rfl) rfl ?_)
        refine TO_cons rfl (TOp_pure (pur_wadd rfl rfl rfl) rfl ?_)
        refine TO_cons rfl (TOp_pure (pur_assign rfl) rfl ?_)
        refine TO_nil ?_
        obtain rfl := some_inj H
        exact again k1 (out3, (w64 (i4 + 1))) (Nat.lt_succ_self _) (WeakL.to 2 (Nat.le_of_ble_eq_true rfl) rfl rfl rfl rfl ⟨leR rfl, leR rfl, leR rfl, trivial⟩) K1_
    · replace H := cond_f c_7 H
      refine T_exit ?_
      refine then_exit ?_
      refine then_exit ?_
      refine block_exit ?_
      obtain rfl := some_inj H
      obtain rfl := some_inj K1_
      replace H := onS_l N1_
      refine T_env (E' := [(3, (.m [1] 0 out3.length (tSl tInt).k))]) ⟨rfl, trivial⟩ ?_
      refine T_seq ?_
      refine T_region ?_
      refine TO_cons rfl (TOp_pure (pur_move rfl) rfl ?_)
      refine TO_cons rfl (TOp_pure (pur_assign rfl) rfl ?_)
      refine TO_nil ?_
      refine T_env (E' := [(2, (.m [1] 0 out3.length (tSl tInt).k))]) ⟨rfl, trivial⟩ ?_
      refine T_ret ?_
      obtain rfl := some_inj H
      exact end_pick (.tmp .nil) rfl [1] (by decide) rfl rfl rfl rfl rfl rfl
theorem m_spec_Blocks_ok (u : Nat) (d0 : Database) (r : (List (List Int))) (H : m_spec_Blocks u d0 = some r) : FnV prg 79 [(.g (tDatabase.enc d0))] (sl (tSl tInt) r) := (m_spec_Blocks_own u d0 r H).frz (frzT (T := (tSl tInt)) rfl)
end Go.Proofs.Ytlcpdlngbofgcaa

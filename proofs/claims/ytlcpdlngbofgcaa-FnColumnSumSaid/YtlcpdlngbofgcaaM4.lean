/- Walks. -/
import Derived.Test.YtlcpdlngbofgcaaM1
import Derived.Test.YtlcpdlngbofgcaaM2
import Derived.Test.YtlcpdlngbofgcaaM3
set_option linter.unusedVariables false
set_option linter.unusedSimpArgs false
set_option maxRecDepth 4000
namespace Go.Proofs.Ytlcpdlngbofgcaa
open Go Go.Proofs Go.Sep
set_option maxHeartbeats 1000000 in
/-- spec.FactIndex -/
theorem m_spec_FactIndex_ok (u : Nat) (d0 : Database) (f1 : Fact) (r : Int) (H : m_spec_FactIndex u d0 f1 = some r) : FnV prg 158 [(.g (tDatabase.enc d0)), (.g (tFact.enc f1))] (intA r) := by
  unfold m_spec_FactIndex at H
  refine fnV_of_T Try.func158 rfl rfl (Nat.le_of_ble_eq_true rfl) ?_
  refine T_env (E' := [(0, (.g (tDatabase.enc d0))), (1, (.g (tFact.enc f1)))]) ⟨rfl, rfl, trivial⟩ ?_
  refine T_seq ?_
  refine T_region ?_
  refine TO_cons rfl (TOp_box rfl (boxAll rfl) rfl rfl ?_)
  refine TO_cons rfl (TOp_box rfl (boxAll rfl) rfl rfl ?_)
  refine TO_cons rfl (TOp_pure (pur_assign rfl) rfl ?_)
  refine TO_nil ?_
  refine T_env (E' := [(2, (.b 0 0)), (3, (.b 1 0))]) ⟨rfl, rfl, trivial⟩ ?_
  refine T_seq ?_
  refine T_seq ?_
  refine T_region ?_
  refine TO_cons rfl (TOp_pure (pur_assign rfl) rfl ?_)
  refine TO_nil ?_
  refine T_env (E' := [(2, (.b 0 0)), (3, (.b 1 0)), (5, (intA 0))]) ⟨rfl, rfl, rfl, trivial⟩ ?_
  obtain ⟨O1_, L1_, N1_⟩ := bind_inv H
  clear H
  obtain ⟨B1_, hb1, L1_⟩ := gen_whileF L1_
  refine T_block ?_
  refine T_loopX (fun k => fun (i5 : Int) => whileF B1_ k i5 = some O1_) (fun (i5 : Int) => [(2, (.b 0 0)), (3, (.b 1 0)), (5, (intA i5))]) (fun (i5 : Int) => [.box [(sl tRelation d0.relations), (sl tFact d0.facts)], .box [(intA f1.relation), (sl tInt f1.values)]]) u 0 (WeakL.to 2 (Nat.le_of_ble_eq_true rfl) rfl rfl rfl rfl ⟨leR rfl, leR rfl, leR rfl, trivial⟩) L1_ ?_
  rintro _ i5 L1_
  obtain ⟨k1, rfl, C1_, H, K1_⟩ := while_step L1_
  rw [hb1] at H
  refine T_env (E' := [(2, (.b 0 0)), (3, (.b 1 0)), (5, (intA i5))]) ⟨rfl, rfl, rfl, trivial⟩ ?_
  refine T_st (σ' := [.box [(sl tRelation d0.relations), (sl tFact d0.facts)], .box [(intA f1.relation), (sl tInt f1.values)]]) rfl ?_
  refine T_seq ?_
  refine T_seq ?_
  refine T_region ?_
  refine TO_cons rfl (TOp_pure (pur_move rfl) rfl ?_)
  refine TO_cons rfl (TOp_pure (pur_fa_b fld32_1 rfl rfl) rfl ?_)
  refine TO_cons rfl (TOp_pure (pur_ld_b one30 rfl rfl rfl rfl) rfl ?_)
  refine TO_cons rfl (TOp_pure (pur_lenT (T := tFact) sl30 rfl rfl) rfl ?_)
  refine TO_cons rfl (TOp_pure (pur_lss rfl rfl rfl) rfl ?_)
  refine TO_nil ?_
  refine T_env (E' := [(2, (.b 0 0)), (3, (.b 1 0)), (5, (intA i5)), (10, (boolA (decide (i5 < (d0.facts.length : Int)))))]) ⟨rfl, rfl, rfl, rfl, trivial⟩ ?_
  refine T_cond (t := decide (i5 < (d0.facts.length : Int))) rfl (fun c_2 => ?_) (fun c_2 => ?_)
  · replace H := cond_t c_2 H
    refine T_skip ?_
    refine T_env (E' := [(2, (.b 0 0)), (3, (.b 1 0)), (5, (intA i5))]) ⟨rfl, rfl, rfl, trivial⟩ ?_
    refine T_seq ?_
    refine T_block ?_
    refine T_seq ?_
    refine T_regionD mixed (by kernel_rfl) ?_
    refine TQ_pure rfl (pur_fa_b fld32_1 rfl rfl) rfl ?_
    refine TQ_pure rfl (pur_ld_b one30 rfl rfl rfl rfl) rfl ?_
    refine TQ_pure rfl (pur_move rfl) rfl ?_
    obtain ⟨v_3, h_4, H⟩ := bind_inv H
    obtain ⟨n_5, hz_6, hv_7⟩ := getI_inv h_4
    refine TQ_pure rfl (pur_ixT (T := tFact) sl30 rfl rfl hz_6 hv_7 rfl) rfl ?_
    refine TQ_pure rfl (pur_ldTK (T := tFact) (i := n_5) (off := 0) rfl agg60 rfl rfl hv_7 (by decide) rfl) rfl ?_
    refine TQ_pure rfl (pur_ldK_b agg60 rfl rfl (Nat.le_of_ble_eq_true rfl) rfl) rfl ?_
    obtain ⟨r_8, h_9, H⟩ := bind_inv H
    refine TQ_callV rfl (call_static ent103 rfl) (m_spec_CompareFacts_ok u _ _ _ h_9) rfl rfl ?_
    refine TQ_pure rfl (pur_eql rfl rfl rfl) rfl ?_
    refine TQ_nil ?_
    refine T_env (E' := [(2, (.b 0 0)), (3, (.b 1 0)), (5, (intA i5)), (20, (boolA (decide (r_8 = 0))))]) ⟨rfl, rfl, rfl, rfl, trivial⟩ ?_
    refine T_cond (t := decide (r_8 = 0)) rfl (fun c_10 => ?_) (fun c_10 => ?_)
    · replace H := cond_t c_10 H
      refine T_seq ?_
      refine T_region ?_
      refine TO_cons rfl (TOp_pure (pur_move rfl) rfl ?_)
      refine TO_cons rfl (TOp_pure (pur_assign rfl) rfl ?_)
      refine TO_nil ?_
      refine T_env (E' := [(4, (intA i5))]) ⟨rfl, trivial⟩ ?_
      refine T_ret ?_
      refine block_ret ?_
      refine then_ret ?_
      refine then_ret ?_
      refine block_ret ?_
      refine then_ret ?_
      obtain rfl := some_inj H
      obtain rfl := some_inj K1_
      replace H := onS_r N1_
      obtain rfl := some_inj H
      refine end_ret (.tmp .nil) rfl rfl ⟨?_, rfl⟩
      rfl
    · replace H := cond_f c_10 H
      refine T_skip ?_
      refine T_env (E' := [(2, (.b 0 0)), (3, (.b 1 0)), (5, (intA i5))]) ⟨rfl, rfl, rfl, trivial⟩ ?_
      refine T_region ?_
      refine TO_cons rfl (TOp_pure (pur_move rfl) rfl ?_)
      refine TO_cons rfl (TOp_pure (pur_wadd rfl rfl rfl) rfl ?_)
      refine TO_cons rfl (TOp_pure (pur_assign rfl) rfl ?_)
      refine TO_nil ?_
      obtain rfl := some_inj H
      exact again k1 (w64 (i5 + 1)) (Nat.lt_succ_self _) (WeakL.to 2 (Nat.le_of_ble_eq_true rfl) rfl rfl rfl rfl ⟨leR rfl, leR rfl, leR rfl, trivial⟩) K1_
  · replace H := cond_f c_2 H
    refine T_exit ?_
    refine then_exit ?_
    refine then_exit ?_
    refine block_exit ?_
    obtain rfl := some_inj H
    obtain rfl := some_inj K1_
    replace H := onS_l N1_
    refine T_env (E' := []) trivial ?_
    refine T_seq ?_
    refine T_region ?_
    refine TO_cons rfl (TOp_pure (pur_assign rfl) rfl ?_)
    refine TO_nil ?_
    refine T_env (E' := [(4, (intA (-1)))]) ⟨rfl, trivial⟩ ?_
    refine T_ret ?_
    obtain rfl := some_inj H
    refine end_ret (.tmp .nil) rfl rfl ⟨?_, rfl⟩
    rfl

set_option maxHeartbeats 1000000 in
/-- spec.ContainsFact -/
theorem m_spec_ContainsFact_ok (u : Nat) (d0 : Database) (f1 : Fact) (r : Bool) (H : m_spec_ContainsFact u d0 f1 = some r) : FnV prg 148 [(.g (tDatabase.enc d0)), (.g (tFact.enc f1))] (boolA r) := by
  unfold m_spec_ContainsFact at H
  refine fnV_of_T Try.func148 rfl rfl (Nat.le_of_ble_eq_true rfl) ?_
  refine T_env (E' := [(0, (.g (tDatabase.enc d0))), (1, (.g (tFact.enc f1)))]) ⟨rfl, rfl, trivial⟩ ?_
  refine T_seq ?_
  refine T_region ?_
  refine TO_cons rfl (TOp_box rfl (boxAll rfl) rfl rfl ?_)
  refine TO_cons rfl (TOp_box rfl (boxAll rfl) rfl rfl ?_)
  refine TO_cons rfl (TOp_pure (pur_assign rfl) rfl ?_)
  refine TO_nil ?_
  refine T_env (E' := [(2, (.b 0 0)), (3, (.b 1 0))]) ⟨rfl, rfl, trivial⟩ ?_
  obtain ⟨t4_1, J_1, H_2⟩ := bind_inv H
  refine T_cutX (fun x => t4_1 = x) (fun (t4_1 : Bool) => [(4, (boolA t4_1))]) (fun (t4_1 : Bool) => []) ?_ ?_
  · replace H := J_1
    refine T_region ?_
    refine TO_cons rfl (TOp_pure (pur_ldK_b agg32 rfl rfl (Nat.le_of_ble_eq_true rfl) rfl) rfl ?_)
    obtain ⟨r_3, h_4, H⟩ := bind_inv H
    refine TO_cons rfl (TOp_callV (call_static ent76 rfl) (m_spec_IsValidDatabase_ok u _ _ h_4) rfl rfl rfl ?_)
    refine TO_cons rfl (TOp_pure (pur_move rfl) rfl ?_)
    refine TO_split (t := r_3) 7 rfl (fun g_5 => ?_) (fun g_5 => ?_)
    · replace H := cond_t g_5 H
      refine TO_on rfl rfl (by decide) rfl rfl (TOp_pure (pur_ldK_b agg32 rfl rfl (Nat.le_of_ble_eq_true rfl) rfl) rfl ?_)
      refine TO_on rfl rfl (by decide) rfl rfl (TOp_pure (pur_ldK_b agg60 rfl rfl (Nat.le_of_ble_eq_true rfl) rfl) rfl ?_)
      obtain ⟨r_6, h_7, H⟩ := bind_inv H
      refine TO_on rfl rfl (by decide) rfl rfl (TOp_callV (call_static ent158 rfl) (m_spec_FactIndex_ok u _ _ _ h_7) rfl rfl rfl ?_)
      refine TO_on rfl rfl (by decide) rfl rfl (TOp_pure (pur_geq rfl rfl rfl) rfl ?_)
      refine TO_cons rfl (TOp_pure (pur_pick (t := true) rfl rfl rfl) rfl ?_)
      refine TO_cons rfl (TOp_pure (pur_assign rfl) rfl ?_)
      refine TO_nil ?_
      exact joined (decide (0 ≤ r_6)) (WeakL.to 0 (Nat.le_of_ble_eq_true rfl) rfl rfl rfl rfl ⟨leR rfl, trivial⟩) (some_inj H).symm
    · replace H := cond_f g_5 H
      refine TO_off rfl rfl (by decide) rfl rfl rfl ?_
      refine TO_off rfl rfl (by decide) rfl rfl rfl ?_
      refine TO_off rfl rfl (by decide) rfl rfl rfl ?_
      refine TO_off rfl rfl (by decide) rfl rfl rfl ?_
      refine TO_cons rfl (TOp_pure (pur_pick (t := false) rfl rfl rfl) rfl ?_)
      refine TO_cons rfl (TOp_pure (pur_assign rfl) rfl ?_)
      refine TO_nil ?_
      exact joined false (WeakL.to 0 (Nat.le_of_ble_eq_true rfl) rfl rfl rfl rfl ⟨leR rfl, trivial⟩) (some_inj H).symm
  · rintro _ rfl
    replace H := H_2
    refine T_env (E' := [(4, (boolA t4_1))]) ⟨rfl, trivial⟩ ?_
    refine T_ret ?_
    obtain rfl := some_inj H
    refine end_ret (.tmp .nil) rfl rfl ⟨?_, rfl⟩
    rfl

set_option maxHeartbeats 1000000 in
/-- spec.InsertFact -/
theorem m_spec_InsertFact_own (u : Nat) (d0 : Database) (f1 : Fact) (r : (Database × Bool)) (H : m_spec_InsertFact u d0 f1 = some r) : FnO prg 127 [(.g (tDatabase.enc d0)), (.g (tFact.enc f1))] (.t [(.g [(.m [0] 0 r.1.relations.length tRelation.k), (.m [1] 0 r.1.facts.length tFact.k)]), (boolA r.2)]) [.row (flat tRelation.enc r.1.relations), .row (flat tFact.enc r.1.facts)] := by
  unfold m_spec_InsertFact at H
  refine fnO_of_T Try.func127 rfl rfl (Nat.le_of_ble_eq_true rfl) ?_
  refine T_env (E' := [(0, (.g (tDatabase.enc d0))), (1, (.g (tFact.enc f1)))]) ⟨rfl, rfl, trivial⟩ ?_
  refine T_seq ?_
  refine T_region ?_
  refine TO_cons rfl (TOp_box rfl (boxAll rfl) rfl rfl ?_)
  refine TO_cons rfl (TOp_box rfl (boxAll rfl) rfl rfl ?_)
  refine TO_cons rfl (TOp_alloc zero32 rfl rfl ?_)
  refine TO_cons rfl (TOp_pure (pur_assign rfl) rfl ?_)
  refine TO_nil ?_
  refine T_env (E' := [(2, (.b 0 0)), (3, (.b 1 0)), (4, (.b 2 0))]) ⟨rfl, rfl, rfl, trivial⟩ ?_
  refine T_seq ?_
  refine T_region ?_
  refine TO_cons rfl (TOp_pure (pur_ldK_b agg32 rfl rfl (Nat.le_of_ble_eq_true rfl) rfl) rfl ?_)
  obtain ⟨r_1, h_2, H⟩ := bind_inv H
  refine TO_cons rfl (TOp_callO (call_static ent147 rfl) rfl (m_spec_l4Copy_own u _ _ h_2) rfl rfl rfl ?_)
  refine TO_env (E' := [(2, (.b 0 0)), (3, (.b 1 0)), (4, (.b 2 0)), (9, (.g (tDatabase.enc d0))), (10, (.g [(.m [3] 0 r_1.relations.length tRelation.k), (.m [4] 0 r_1.facts.length tFact.k)]))]) ⟨rfl, rfl, rfl, rfl, rfl, trivial⟩ ?_
  refine TO_st (σ' := [.box [(sl tRelation d0.relations), (sl tFact d0.facts)], .box [(intA f1.relation), (sl tInt f1.values)], .box [.n, .n], .row (flat tRelation.enc r_1.relations), .row (flat tFact.enc r_1.facts)]) rfl ?_
  refine TO_cons rfl (TOp_alloc zero32 rfl rfl ?_)
  refine TO_cons rfl (TOp_storeB sz32 rfl rfl rfl rfl rfl rfl rfl (by decide) (Nat.le_of_ble_eq_true rfl) rfl ?_)
  refine TO_st (σ' := [.box [(sl tRelation d0.relations), (sl tFact d0.facts)], .box [(intA f1.relation), (sl tInt f1.values)], .box [.n, .n], .row (flat tRelation.enc r_1.relations), .row (flat tFact.enc r_1.facts), .box [(.m [3] 0 r_1.relations.length tRelation.k), (.m [4] 0 r_1.facts.length tFact.k)]]) rfl ?_
  refine TO_nil ?_
  refine T_env (E' := [(2, (.b 0 0)), (3, (.b 1 0)), (4, (.b 2 0)), (6, (.b 5 0))]) ⟨rfl, rfl, rfl, rfl, trivial⟩ ?_
  refine T_seq ?_
  obtain ⟨t31_3, J_3, H_4⟩ := bind_inv H
  refine T_cutX (fun x => t31_3 = x) (fun (t31_3 : Bool) => [(3, (.b 1 0)), (4, (.b 2 0)), (6, (.b 5 0)), (31, (boolA t31_3))]) (fun (t31_3 : Bool) => [.box [(sl tRelation d0.relations), (sl tFact d0.facts)], .box [(intA f1.relation), (sl tInt f1.values)], .box [.n, .n], .row (flat tRelation.enc r_1.relations), .row (flat tFact.enc r_1.facts), .box [(.m [3] 0 r_1.relations.length tRelation.k), (.m [4] 0 r_1.facts.length tFact.k)]]) ?_ ?_
  · replace H := J_3
    refine T_region ?_
    refine TO_cons rfl (TOp_pure (pur_ldK_b agg32 rfl rfl (Nat.le_of_ble_eq_true rfl) rfl) rfl ?_)
    obtain ⟨r_5, h_6, H⟩ := bind_inv H
    refine TO_cons rfl (TOp_callV (call_static ent76 rfl) (m_spec_IsValidDatabase_ok u _ _ h_6) rfl rfl rfl ?_)
    refine TO_cons rfl (TOp_pure (pur_not rfl rfl) rfl ?_)
    refine TO_cons rfl (TOp_pure (pur_move rfl) rfl ?_)
    refine TO_split (t := (!r_5)) 14 rfl (fun g_7 => ?_) (fun g_7 => ?_)
    · replace H := cond_t g_7 H
      refine TO_off rfl rfl (by decide) rfl rfl rfl ?_
      refine TO_off rfl rfl (by decide) rfl rfl rfl ?_
      refine TO_off rfl rfl (by decide) rfl rfl rfl ?_
      refine TO_off rfl rfl (by decide) rfl rfl rfl ?_
      refine TO_off rfl rfl (by decide) rfl rfl rfl ?_
      refine TO_cons rfl (TOp_pure (pur_pick (t := true) rfl rfl rfl) rfl ?_)
      refine TO_cons rfl (TOp_pure (pur_move rfl) rfl ?_)
      refine TO_off rfl rfl (by decide) rfl rfl rfl ?_
      refine TO_env (E' := [(2, (.b 0 0)), (3, (.b 1 0)), (4, (.b 2 0)), (6, (.b 5 0)), (21, (boolA true)), (22, (.v undef))]) ⟨rfl, rfl, rfl, rfl, rfl, rfl, trivial⟩ ?_
      refine TO_off rfl rfl (by decide) rfl rfl rfl ?_
      refine TO_off rfl rfl (by decide) rfl rfl rfl ?_
      refine TO_cons rfl (TOp_pure (pur_pick (t := true) rfl rfl rfl) rfl ?_)
      refine TO_cons rfl (TOp_pure (pur_move rfl) rfl ?_)
      refine TO_off rfl rfl (by decide) rfl rfl rfl ?_
      refine TO_off rfl rfl (by decide) rfl rfl rfl ?_
      refine TO_off rfl rfl (by decide) rfl rfl rfl ?_
      refine TO_off rfl rfl (by decide) rfl rfl rfl ?_
      refine TO_cons rfl (TOp_pure (pur_pick (t := true) rfl rfl rfl) rfl ?_)
      refine TO_nil ?_
      exact joined true (WeakL.to 6 (Nat.le_of_ble_eq_true rfl) rfl rfl rfl rfl ⟨leR rfl, leR rfl, leR rfl, leR rfl, trivial⟩) (some_inj H).symm
    · replace H := cond_f g_7 H
      refine TO_on rfl rfl (by decide) rfl rfl (TOp_pure (pur_fa_b fld32_0 rfl rfl) rfl ?_)
      refine TO_on rfl rfl (by decide) rfl rfl (TOp_pure (pur_ld_b one29 rfl rfl rfl rfl) rfl ?_)
      refine TO_on rfl rfl (by decide) rfl rfl (TOp_pure (pur_ldK_b agg60 rfl rfl (Nat.le_of_ble_eq_true rfl) rfl) rfl ?_)
      obtain ⟨r_8, h_9, H⟩ := bind_inv H
      refine TO_on rfl rfl (by decide) rfl rfl (TOp_callV (call_static ent102 rfl) (m_spec_IsValidFact_ok u _ _ _ h_9) rfl rfl rfl ?_)
      refine TO_on rfl rfl (by decide) rfl rfl (TOp_pure (pur_not rfl rfl) rfl ?_)
      refine TO_cons rfl (TOp_pure (pur_pick (t := false) rfl rfl rfl) rfl ?_)
      refine TO_cons rfl (TOp_pure (pur_move rfl) rfl ?_)
      refine TO_split (t := (!r_8)) 21 rfl (fun g_10 => ?_) (fun g_10 => ?_)
      · replace H := cond_t g_10 H
        refine TO_off rfl rfl (by decide) rfl rfl rfl ?_
        refine TO_off rfl rfl (by decide) rfl rfl rfl ?_
        refine TO_off rfl rfl (by decide) rfl rfl rfl ?_
        refine TO_cons rfl (TOp_pure (pur_pick (t := true) rfl rfl rfl) rfl ?_)
        refine TO_cons rfl (TOp_pure (pur_move rfl) rfl ?_)
        refine TO_off rfl rfl (by decide) rfl rfl rfl ?_
        refine TO_off rfl rfl (by decide) rfl rfl rfl ?_
        refine TO_off rfl rfl (by decide) rfl rfl rfl ?_
        refine TO_off rfl rfl (by decide) rfl rfl rfl ?_
        refine TO_cons rfl (TOp_pure (pur_pick (t := true) rfl rfl rfl) rfl ?_)
        refine TO_nil ?_
        exact joined true (WeakL.to 6 (Nat.le_of_ble_eq_true rfl) rfl rfl rfl rfl ⟨leR rfl, leR rfl, leR rfl, leR rfl, trivial⟩) (some_inj H).symm
      · replace H := cond_f g_10 H
        refine TO_on rfl rfl (by decide) rfl rfl (TOp_pure (pur_ldK_b agg32 rfl rfl (Nat.le_of_ble_eq_true rfl) rfl) rfl ?_)
        refine TO_on rfl rfl (by decide) rfl rfl (TOp_pure (pur_ldK_b agg60 rfl rfl (Nat.le_of_ble_eq_true rfl) rfl) rfl ?_)
        obtain ⟨r_11, h_12, H⟩ := bind_inv H
        refine TO_on rfl rfl (by decide) rfl rfl (TOp_callV (call_static ent148 rfl) (m_spec_ContainsFact_ok u _ _ _ h_12) rfl rfl rfl ?_)
        refine TO_cons rfl (TOp_pure (pur_pick (t := false) rfl rfl rfl) rfl ?_)
        refine TO_cons rfl (TOp_pure (pur_move rfl) rfl ?_)
        refine TO_split (t := r_11) 26 rfl (fun g_13 => ?_) (fun g_13 => ?_)
        · replace H := cond_t g_13 H
          refine TO_off rfl rfl (by decide) rfl rfl rfl ?_
          refine TO_off rfl rfl (by decide) rfl rfl rfl ?_
          refine TO_off rfl rfl (by decide) rfl rfl rfl ?_
          refine TO_off rfl rfl (by decide) rfl rfl rfl ?_
          refine TO_cons rfl (TOp_pure (pur_pick (t := true) rfl rfl rfl) rfl ?_)
          refine TO_nil ?_
          exact joined true (WeakL.to 6 (Nat.le_of_ble_eq_true rfl) rfl rfl rfl rfl ⟨leR rfl, leR rfl, leR rfl, leR rfl, trivial⟩) (some_inj H).symm
        · replace H := cond_f g_13 H
          refine TO_on rfl rfl (by decide) rfl rfl (TOp_pure (pur_fa_b fld32_1 rfl rfl) rfl ?_)
          refine TO_on rfl rfl (by decide) rfl rfl (TOp_pure (pur_ld_b one30 rfl rfl rfl rfl) rfl ?_)
          refine TO_on rfl rfl (by decide) rfl rfl (TOp_pure (pur_lenT (T := tFact) sl30 rfl rfl) rfl ?_)
          refine TO_on rfl rfl (by decide) rfl rfl (TOp_pure (pur_eql rfl rfl rfl) rfl ?_)
          refine TO_cons rfl (TOp_pure (pur_pick (t := false) rfl rfl rfl) rfl ?_)
          refine TO_nil ?_
          exact joined (decide ((d0.facts.length : Int) = 14)) (WeakL.to 6 (Nat.le_of_ble_eq_true rfl) rfl rfl rfl rfl ⟨leR rfl, leR rfl, leR rfl, leR rfl, trivial⟩) (some_inj H).symm
  · rintro _ rfl
    replace H := H_4
    refine T_env (E' := [(3, (.b 1 0)), (4, (.b 2 0)), (6, (.b 5 0)), (31, (boolA t31_3))]) ⟨rfl, rfl, rfl, rfl, trivial⟩ ?_
    refine T_cond (t := t31_3) rfl (fun c_14 => ?_) (fun c_14 => ?_)
    · replace H := cond_t c_14 H
      refine T_seq ?_
      refine T_region ?_
      refine TO_cons rfl (TOp_pure (pur_ldK_b agg32 rfl rfl (Nat.le_of_ble_eq_true rfl) rfl) rfl ?_)
      refine TO_cons rfl (TOp_storeB sz32 rfl rfl rfl rfl rfl rfl rfl (by decide) (Nat.le_of_ble_eq_true rfl) rfl ?_)
      refine TO_st (σ' := [.box [(sl tRelation d0.relations), (sl tFact d0.facts)], .box [(intA f1.relation), (sl tInt f1.values)], .box [(.m [3] 0 r_1.relations.length tRelation.k), (.m [4] 0 r_1.facts.length tFact.k)], .row (flat tRelation.enc r_1.relations), .row (flat tFact.enc r_1.facts), .box [(.m [3] 0 r_1.relations.length tRelation.k), (.m [4] 0 r_1.facts.length tFact.k)]]) rfl ?_
      refine TO_cons rfl (TOp_pure (pur_assign rfl) rfl ?_)
      refine TO_nil ?_
      refine T_env (E' := [(4, (.b 2 0)), (5, (boolA false))]) ⟨rfl, rfl, trivial⟩ ?_
      refine T_ret ?_
      refine then_ret ?_
      obtain rfl := some_inj H
      exact end_pick (.cellK rfl agg32 rfl (Nat.le_of_ble_eq_true rfl) (.tmp .nil)) rfl [3, 4] (by decide) rfl rfl rfl rfl rfl rfl
    · replace H := cond_f c_14 H
      refine T_skip ?_
      refine T_env (E' := [(3, (.b 1 0)), (4, (.b 2 0)), (6, (.b 5 0))]) ⟨rfl, rfl, rfl, trivial⟩ ?_
      refine T_seq ?_
      refine T_region ?_
      refine TO_cons rfl (TOp_pure (pur_assign rfl) rfl ?_)
      refine TO_nil ?_
      refine T_env (E' := [(3, (.b 1 0)), (4, (.b 2 0)), (6, (.b 5 0)), (7, (intA 0))]) ⟨rfl, rfl, rfl, rfl, trivial⟩ ?_
      obtain ⟨O15_, L15_, N15_⟩ := bind_inv H
      clear H
      obtain ⟨B15_, hb15, L15_⟩ := gen_whileF L15_
      refine T_cutX (fun (x : Int) => O15_ = .inl x) (fun (k7 : Int) => [(3, (.b 1 0)), (4, (.b 2 0)), (6, (.b 5 0)), (7, (intA k7))]) (fun (k7 : Int) => [.box [(sl tRelation d0.relations), (sl tFact d0.facts)], .box [(intA f1.relation), (sl tInt f1.values)], .box [.n, .n], .row (flat tRelation.enc r_1.relations), .row (flat tFact.enc r_1.facts), .box [(.m [3] 0 r_1.relations.length tRelation.k), (.m [4] 0 r_1.facts.length tFact.k)]]) ?_ ?_
      · skip
        refine T_block ?_
        refine T_loopX (fun k => fun (k7 : Int) => whileF B15_ k k7 = some O15_) (fun (k7 : Int) => [(3, (.b 1 0)), (4, (.b 2 0)), (6, (.b 5 0)), (7, (intA k7))]) (fun (k7 : Int) => [.box [(sl tRelation d0.relations), (sl tFact d0.facts)], .box [(intA f1.relation), (sl tInt f1.values)], .box [.n, .n], .row (flat tRelation.enc r_1.relations), .row (flat tFact.enc r_1.facts), .box [(.m [3] 0 r_1.relations.length tRelation.k), (.m [4] 0 r_1.facts.length tFact.k)]]) u 0 (WeakL.to 6 (Nat.le_of_ble_eq_true rfl) rfl rfl rfl rfl ⟨leR rfl, leR rfl, leR rfl, leR rfl, trivial⟩) L15_ ?_
        rintro _ k7 L15_
        obtain ⟨k15, rfl, C15_, H, K15_⟩ := while_step L15_
        rw [hb15] at H
        refine T_env (E' := [(3, (.b 1 0)), (4, (.b 2 0)), (6, (.b 5 0)), (7, (intA k7))]) ⟨rfl, rfl, rfl, rfl, trivial⟩ ?_
        refine T_st (σ' := [.box [(sl tRelation d0.relations), (sl tFact d0.facts)], .box [(intA f1.relation), (sl tInt f1.values)], .box [.n, .n], .row (flat tRelation.enc r_1.relations), .row (flat tFact.enc r_1.facts), .box [(.m [3] 0 r_1.relations.length tRelation.k), (.m [4] 0 r_1.facts.length tFact.k)]]) rfl ?_
        refine T_seq ?_
        obtain ⟨t47_16, J_16, H_17⟩ := bind_inv H
        refine T_cutX (fun x => t47_16 = x) (fun (t47_16 : Bool) => [(3, (.b 1 0)), (4, (.b 2 0)), (6, (.b 5 0)), (7, (intA k7)), (47, (boolA t47_16))]) (fun (t47_16 : Bool) => [.box [(sl tRelation d0.relations), (sl tFact d0.facts)], .box [(intA f1.relation), (sl tInt f1.values)], .box [.n, .n], .row (flat tRelation.enc r_1.relations), .row (flat tFact.enc r_1.facts), .box [(.m [3] 0 r_1.relations.length tRelation.k), (.m [4] 0 r_1.facts.length tFact.k)]]) ?_ ?_
        · replace H := J_16
          refine T_regionD mixed (by kernel_rfl) ?_
          refine TQ_pure rfl (pur_move rfl) rfl ?_
          refine TQ_pure rfl (pur_fa_b fld32_1 rfl rfl) rfl ?_
          refine TQ_pure rfl (pur_ld_b one30 rfl rfl rfl rfl) rfl ?_
          refine TQ_pure rfl (pur_len_m sl30 rfl rfl) rfl ?_
          refine TQ_pure rfl (pur_lss rfl rfl rfl) rfl ?_
          refine TQ_pure rfl (pur_move rfl) rfl ?_
          refine TQ_split (t := decide (k7 < (r_1.facts.length : Int))) 38 rfl (fun g_18 => ?_) (fun g_18 => ?_)
          · replace H := cond_t g_18 H
            refine TQ_on rfl rfl (by decide) rfl (pur_fa_b fld32_1 rfl rfl) rfl ?_
            refine TQ_on rfl rfl (by decide) rfl (pur_ld_b one30 rfl rfl rfl rfl) rfl ?_
            refine TQ_on rfl rfl (by decide) rfl (pur_move rfl) rfl ?_
            obtain ⟨v_19, h_20, H⟩ := bind_inv H
            obtain ⟨n_21, hz_22, hv_23⟩ := getI_inv h_20
            refine TQ_on rfl rfl (by decide) rfl (pur_ixM (T := tFact) sl30 rfl rfl hz_22 hv_23 rfl) rfl ?_
            refine TQ_on rfl rfl (by decide) rfl (pur_ldEK (f := tFact.enc) (k := tFact.k) (i := n_21) (off := 0) tFact.len rfl agg60 rfl rfl rfl hv_23 (by decide) rfl) rfl ?_
            refine TQ_on rfl rfl (by decide) rfl (pur_ldK_b agg60 rfl rfl (Nat.le_of_ble_eq_true rfl) rfl) rfl ?_
            obtain ⟨r_24, h_25, H⟩ := bind_inv H
            refine TQ_onV rfl rfl (by decide) rfl (call_static ent103 rfl) (m_spec_CompareFacts_ok u _ _ _ h_25) rfl rfl ?_
            refine TQ_on rfl rfl (by decide) rfl (pur_lss rfl rfl rfl) rfl ?_
            refine TQ_pure rfl (pur_pick (t := true) rfl rfl rfl) rfl ?_
            refine TQ_nil ?_
            exact joined (decide (r_24 < 0)) (WeakL.to 6 (Nat.le_of_ble_eq_true rfl) rfl rfl rfl rfl ⟨leR rfl, leR rfl, leR rfl, leR rfl, leR rfl, trivial⟩) (some_inj H).symm
          · replace H := cond_f g_18 H
            refine TQ_off rfl rfl (by decide) rfl rfl rfl ?_
            refine TQ_off rfl rfl (by decide) rfl rfl rfl ?_
            refine TQ_off rfl rfl (by decide) rfl rfl rfl ?_
            refine TQ_off rfl rfl (by decide) rfl rfl rfl ?_
            refine TQ_off rfl rfl (by decide) rfl rfl rfl ?_
            refine TQ_off rfl rfl (by decide) rfl rfl rfl ?_
            refine TQ_off rfl rfl (by decide) rfl rfl rfl ?_
            refine TQ_off rfl rfl (by decide) rfl rfl rfl ?_
            refine TQ_pure rfl (pur_pick (t := false) rfl rfl rfl) rfl ?_
            refine TQ_nil ?_
            exact joined false (WeakL.to 6 (Nat.le_of_ble_eq_true rfl) rfl rfl rfl rfl ⟨leR rfl, leR rfl, leR rfl, leR rfl, leR rfl, trivial⟩) (some_inj H).symm
        · rintro _ rfl
          replace H := H_17
          refine T_env (E' := [(3, (.b 1 0)), (4, (.b 2 0)), (6, (.b 5 0)), (7, (intA k7)), (47, (boolA t47_16))]) ⟨rfl, rfl, rfl, rfl, rfl, trivial⟩ ?_
          refine T_cond (t := t47_16) rfl (fun c_26 => ?_) (fun c_26 => ?_)
          · replace H := cond_t c_26 H
            refine T_skip ?_
            refine T_env (E' := [(3, (.b 1 0)), (4, (.b 2 0)), (6, (.b 5 0)), (7, (intA k7))]) ⟨rfl, rfl, rfl, rfl, trivial⟩ ?_
            refine T_block ?_
            refine T_region ?_
            refine TO_cons rfl (TOp_pure (pur_move rfl) rfl ?_)
            refine TO_cons rfl (TOp_pure (pur_wadd rfl rfl rfl) rfl ?_)
            refine TO_cons rfl (TOp_pure (pur_assign rfl) rfl ?_)
            refine TO_nil ?_
            obtain rfl := some_inj H
            exact again k15 (w64 (k7 + 1)) (Nat.lt_succ_self _) (WeakL.to 6 (Nat.le_of_ble_eq_true rfl) rfl rfl rfl rfl ⟨leR rfl, leR rfl, leR rfl, leR rfl, trivial⟩) K15_
          · replace H := cond_f c_26 H
            refine T_exit ?_
            refine then_exit ?_
            refine then_exit ?_
            refine block_exit ?_
            obtain rfl := some_inj H
            obtain rfl := some_inj K15_
            exact joined k7 (WeakL.to 6 (Nat.le_of_ble_eq_true rfl) rfl rfl rfl rfl ⟨leR rfl, leR rfl, leR rfl, leR rfl, trivial⟩) rfl
      · rintro k7 rfl
        replace H := onS_l N15_
        refine T_env (E' := [(3, (.b 1 0)), (4, (.b 2 0)), (6, (.b 5 0)), (7, (intA k7))]) ⟨rfl, rfl, rfl, rfl, trivial⟩ ?_
        obtain ⟨us_27, h_28, H⟩ := bind_inv H
        obtain ⟨ys_29, h_30, H⟩ := bind_inv H
        obtain ⟨i_31, j_32, hi_33, hj_34, hij_35, hjl_36, hys_37, _⟩ := cutI_inv h_30
        obtain ⟨us_38, h_39, H⟩ := bind_inv H
        refine T_pad ?_
        refine T_pad ?_
        refine T_pad ?_
        refine T_cutX (fun (_ : Unit) => True) (fun _ => [(4, (.b 2 0)), (6, (.b 5 0)), (7, (intA k7)), (8, (.m [6] 0 us_38.length tFact.k))]) (fun _ => [.box [(sl tRelation d0.relations), (sl tFact d0.facts)], .box [(intA f1.relation), (sl tInt f1.values)], .box [.n, .n], .row (flat tRelation.enc r_1.relations), .row (flat tFact.enc r_1.facts), .box [(.m [3] 0 r_1.relations.length tRelation.k), (.m [4] 0 r_1.facts.length tFact.k)], .row (flat tFact.enc us_38)]) ?_ ?_
        · skip
          refine T_regionP mixed ?_
          refine TA_have 2 #[true, true, true, true, true, true, true, true, true, true, true, true, false, false] [(4, (.b 2 0)), (6, (.b 5 0)), (7, (intA k7)), (57, (.m [8] 0 ([({ relation := f1.relation, values := us_27 } : Fact)] : (List Fact)).length tFact.k)), (61, (.m [4] (i_31 * tFact.k) (j_32 - i_31) tFact.k))] [.box [(sl tRelation d0.relations), (sl tFact d0.facts)], .box [(intA f1.relation), (sl tInt f1.values)], .box [.n, .n], .row (flat tRelation.enc r_1.relations), .row (flat tFact.enc r_1.facts), .box [(.m [3] 0 r_1.relations.length tRelation.k), (.m [4] 0 r_1.facts.length tFact.k)], .dead, .dead, .row (flat tFact.enc ([({ relation := f1.relation, values := us_27 } : Fact)] : (List Fact)))] ?_ (fun hj0_7 => ?_)
          · skip
            refine TA_all [12] (by kernel_rfl) (by decide) ⟨⟨_, rfl, rfl, (TOp_appY (T := tFact) (f := tFact.enc) (xs := ([({ relation := f1.relation, values := us_27 } : Fact)] : (List Fact))) (ys := ys_29) tFact.len sl30 zero60 rfl bytes60 (by decide) rfl rfl rfl rfl (src_cut (T := tFact) (xs := r_1.facts) (i := i_31) (j := j_32) rfl rfl hij_35 hjl_36 hys_37) (flat_cell tFact _) h_39 ?_)⟩, trivial⟩
            refine TA_listed #[true, true, true, true, true, true, true, true, true, true, true, true, true, false] rfl ?_
            refine TA_ghost (E' := [(4, (.b 2 0)), (6, (.b 5 0)), (7, (intA k7)), (61, (.m [4] (i_31 * tFact.k) (j_32 - i_31) tFact.k)), (62, (.m [8] 0 us_38.length tFact.k))]) (σ' := [.box [(sl tRelation d0.relations), (sl tFact d0.facts)], .box [(intA f1.relation), (sl tInt f1.values)], .box [.n, .n], .row (flat tRelation.enc r_1.relations), .row (flat tFact.enc r_1.facts), .box [(.m [3] 0 r_1.relations.length tRelation.k), (.m [4] 0 r_1.facts.length tFact.k)], .dead, .dead, .row (flat tFact.enc us_38), .dead]) (Ghost.move 8 9 (by decide) (Nat.le_of_ble_eq_true rfl) rfl rfl (Nat.le_of_ble_eq_true rfl) (Ghost.weak (WeakL.to 10 (Nat.le_of_ble_eq_true rfl) rfl rfl rfl rfl ⟨leR rfl, leR rfl, leR rfl, leR rfl, leR rfl, trivial⟩))) ?_
            refine TA_first 13 #[true, true, true, true, true, true, true, true, true, true, true, true, true, true] rfl (purI_assign rfl) rfl rfl rfl (by kernel_rfl) (by kernel_rfl) (by kernel_rfl) ?_
            refine TA_ghost (E' := [(4, (.b 2 0)), (6, (.b 5 0)), (7, (intA k7)), (8, (.m [6] 0 us_38.length tFact.k))]) (σ' := [.box [(sl tRelation d0.relations), (sl tFact d0.facts)], .box [(intA f1.relation), (sl tInt f1.values)], .box [.n, .n], .row (flat tRelation.enc r_1.relations), .row (flat tFact.enc r_1.facts), .box [(.m [3] 0 r_1.relations.length tRelation.k), (.m [4] 0 r_1.facts.length tFact.k)], .row (flat tFact.enc us_38), .dead, .dead, .dead]) (Ghost.move 6 8 (by decide) (Nat.le_of_ble_eq_true rfl) rfl rfl (Nat.le_of_ble_eq_true rfl) (Ghost.weak (WeakL.to 10 (Nat.le_of_ble_eq_true rfl) rfl rfl rfl rfl ⟨leR rfl, leR rfl, leR rfl, leR rfl, trivial⟩))) ?_
            exact TA_nil (by kernel_rfl) (joined () (WeakL.to 7 (Nat.le_of_ble_eq_true rfl) rfl rfl rfl rfl ⟨leR rfl, leR rfl, leR rfl, leR rfl, trivial⟩) trivial)
          refine TA_have 3 #[true, true, true, true, true, true, true, false, true, true, true, true, false, false] [(4, (.b 2 0)), (6, (.b 5 0)), (7, (intA k7)), (56, (.g [(intA f1.relation), (sl tInt us_27)])), (61, (.m [4] (i_31 * tFact.k) (j_32 - i_31) tFact.k))] [.box [(sl tRelation d0.relations), (sl tFact d0.facts)], .box [(intA f1.relation), (sl tInt f1.values)], .box [.n, .n], .row (flat tRelation.enc r_1.relations), .row (flat tFact.enc r_1.facts), .box [(.m [3] 0 r_1.relations.length tRelation.k), (.m [4] 0 r_1.facts.length tFact.k)], .dead, .dead, .dead] ?_ (fun hj1_7 => ?_)
          · skip
            refine TA_all [7] (by kernel_rfl) (by decide) ⟨⟨_, rfl, rfl, (TOp_lit (nn := 1) (k := 2) sl30 zero60 rfl rfl rfl rfl (by decide) ?_)⟩, trivial⟩
            refine TA_listed #[true, true, true, true, true, true, true, true, true, true, true, true, false, false] rfl ?_
            refine TA_st (σ' := [.box [(sl tRelation d0.relations), (sl tFact d0.facts)], .box [(intA f1.relation), (sl tInt f1.values)], .box [.n, .n], .row (flat tRelation.enc r_1.relations), .row (flat tFact.enc r_1.facts), .box [(.m [3] 0 r_1.relations.length tRelation.k), (.m [4] 0 r_1.facts.length tFact.k)], .dead, .dead, .dead, .row (flat tFact.enc ([({ relation := f1.relation, values := us_27 } : Fact)] : (List Fact)))]) rfl ?_
            refine TA_ghost (E' := [(4, (.b 2 0)), (6, (.b 5 0)), (7, (intA k7)), (56, (.g [(intA f1.relation), (sl tInt us_27)])), (57, (.m [8] 0 ([({ relation := f1.relation, values := us_27 } : Fact)] : (List Fact)).length tFact.k)), (61, (.m [4] (i_31 * tFact.k) (j_32 - i_31) tFact.k))]) (σ' := [.box [(sl tRelation d0.relations), (sl tFact d0.facts)], .box [(intA f1.relation), (sl tInt f1.values)], .box [.n, .n], .row (flat tRelation.enc r_1.relations), .row (flat tFact.enc r_1.facts), .box [(.m [3] 0 r_1.relations.length tRelation.k), (.m [4] 0 r_1.facts.length tFact.k)], .dead, .dead, .row (flat tFact.enc ([({ relation := f1.relation, values := us_27 } : Fact)] : (List Fact)))]) (Ghost.move 8 9 (by decide) (Nat.le_of_ble_eq_true rfl) rfl rfl (Nat.le_of_ble_eq_true rfl) (Ghost.weak (WeakL.to 9 (Nat.le_of_ble_eq_true rfl) rfl rfl rfl rfl ⟨leR rfl, leR rfl, leR rfl, leR rfl, leR rfl, leR rfl, trivial⟩))) ?_
            refine TA_ghost (E' := [(4, (.b 2 0)), (6, (.b 5 0)), (7, (intA k7)), (57, (.m [8] 0 ([({ relation := f1.relation, values := us_27 } : Fact)] : (List Fact)).length tFact.k)), (61, (.m [4] (i_31 * tFact.k) (j_32 - i_31) tFact.k))]) (σ' := [.box [(sl tRelation d0.relations), (sl tFact d0.facts)], .box [(intA f1.relation), (sl tInt f1.values)], .box [.n, .n], .row (flat tRelation.enc r_1.relations), .row (flat tFact.enc r_1.facts), .box [(.m [3] 0 r_1.relations.length tRelation.k), (.m [4] 0 r_1.facts.length tFact.k)], .dead, .dead, .row (flat tFact.enc ([({ relation := f1.relation, values := us_27 } : Fact)] : (List Fact)))]) (Ghost.weak (WeakL.to 9 (Nat.le_of_ble_eq_true rfl) rfl rfl rfl rfl ⟨leR rfl, leR rfl, leR rfl, leR rfl, leR rfl, trivial⟩)) ?_
            exact hj0_7
          refine TA_have 4 #[true, true, true, true, true, true, false, false, true, true, true, true, false, false] [(4, (.b 2 0)), (6, (.b 5 0)), (7, (intA k7)), (51, (intA f1.relation)), (55, (.m [7] 0 us_27.length tInt.k)), (61, (.m [4] (i_31 * tFact.k) (j_32 - i_31) tFact.k))] [.box [(sl tRelation d0.relations), (sl tFact d0.facts)], .box [(intA f1.relation), (sl tInt f1.values)], .box [.n, .n], .row (flat tRelation.enc r_1.relations), .row (flat tFact.enc r_1.facts), .box [(.m [3] 0 r_1.relations.length tRelation.k), (.m [4] 0 r_1.facts.length tFact.k)], .dead, .row (flat tInt.enc us_27), .dead] ?_ (fun hj2_7 => ?_)
          · skip
            refine TA_first 6 #[true, true, true, true, true, true, true, false, true, true, true, true, false, false] rfl (purI_build bld60 rfl rfl) rfl rfl rfl (by kernel_rfl) (by kernel_rfl) (by kernel_rfl) ?_
            refine TA_frz1 7 (E' := [(4, (.b 2 0)), (6, (.b 5 0)), (7, (intA k7)), (51, (intA f1.relation)), (55, (sl tInt us_27)), (56, (.g [(intA f1.relation), (sl tInt us_27)])), (61, (.m [4] (i_31 * tFact.k) (j_32 - i_31) tFact.k))]) rfl rfl (Nat.le_of_ble_eq_true rfl) ?_ ?_
            · exact ⟨(.keep rfl), (.keep rfl), (.keep rfl), (.keep rfl), fz1E, (fz1G (fzC (.keep rfl) (fzC fz1E fzN))), (.keep rfl), trivial⟩
            refine TA_st (σ' := [.box [(sl tRelation d0.relations), (sl tFact d0.facts)], .box [(intA f1.relation), (sl tInt f1.values)], .box [.n, .n], .row (flat tRelation.enc r_1.relations), .row (flat tFact.enc r_1.facts), .box [(.m [3] 0 r_1.relations.length tRelation.k), (.m [4] 0 r_1.facts.length tFact.k)], .dead, .dead, .dead]) rfl ?_
            refine TA_ghost (E' := [(4, (.b 2 0)), (6, (.b 5 0)), (7, (intA k7)), (56, (.g [(intA f1.relation), (sl tInt us_27)])), (61, (.m [4] (i_31 * tFact.k) (j_32 - i_31) tFact.k))]) (σ' := [.box [(sl tRelation d0.relations), (sl tFact d0.facts)], .box [(intA f1.relation), (sl tInt f1.values)], .box [.n, .n], .row (flat tRelation.enc r_1.relations), .row (flat tFact.enc r_1.facts), .box [(.m [3] 0 r_1.relations.length tRelation.k), (.m [4] 0 r_1.facts.length tFact.k)], .dead, .dead, .dead]) (Ghost.weak (WeakL.to 9 (Nat.le_of_ble_eq_true rfl) rfl rfl rfl rfl ⟨leR rfl, leR rfl, leR rfl, leR rfl, leR rfl, trivial⟩)) ?_
            exact hj1_7
          refine TA_have 5 #[true, false, true, true, true, true, false, false, true, true, true, true, false, false] [(4, (.b 2 0)), (6, (.b 5 0)), (7, (intA k7)), (50, (.b 1 0)), (55, (.m [7] 0 us_27.length tInt.k)), (61, (.m [4] (i_31 * tFact.k) (j_32 - i_31) tFact.k))] [.box [(sl tRelation d0.relations), (sl tFact d0.facts)], .box [(intA f1.relation), (sl tInt f1.values)], .box [.n, .n], .row (flat tRelation.enc r_1.relations), .row (flat tFact.enc r_1.facts), .box [(.m [3] 0 r_1.relations.length tRelation.k), (.m [4] 0 r_1.facts.length tFact.k)], .dead, .row (flat tInt.enc us_27), .dead] ?_ (fun hj3_7 => ?_)
          · skip
            refine TA_all [1] (by kernel_rfl) (by decide) ⟨⟨_, rfl, rfl, (TOp_pure (pur_ld_b one3 rfl rfl rfl rfl) rfl ?_)⟩, trivial⟩
            refine TA_listed #[true, true, true, true, true, true, false, false, true, true, true, true, false, false] rfl ?_
            refine TA_ghost (E' := [(4, (.b 2 0)), (6, (.b 5 0)), (7, (intA k7)), (51, (intA f1.relation)), (55, (.m [7] 0 us_27.length tInt.k)), (61, (.m [4] (i_31 * tFact.k) (j_32 - i_31) tFact.k))]) (σ' := [.box [(sl tRelation d0.relations), (sl tFact d0.facts)], .box [(intA f1.relation), (sl tInt f1.values)], .box [.n, .n], .row (flat tRelation.enc r_1.relations), .row (flat tFact.enc r_1.facts), .box [(.m [3] 0 r_1.relations.length tRelation.k), (.m [4] 0 r_1.facts.length tFact.k)], .dead, .row (flat tInt.enc us_27), .dead]) (Ghost.weak (WeakL.to 9 (Nat.le_of_ble_eq_true rfl) rfl rfl rfl rfl ⟨leR rfl, leR rfl, leR rfl, leR rfl, leR rfl, leR rfl, trivial⟩)) ?_
            exact hj2_7
          refine TA_have 5 #[true, true, true, true, true, false, false, false, true, true, true, true, false, false] [(4, (.b 2 0)), (6, (.b 5 0)), (7, (intA k7)), (51, (intA f1.relation)), (52, (.m [7] 0 ([] : (List Int)).length tInt.k)), (54, (sl tInt f1.values)), (61, (.m [4] (i_31 * tFact.k) (j_32 - i_31) tFact.k))] [.box [(sl tRelation d0.relations), (sl tFact d0.facts)], .box [(intA f1.relation), (sl tInt f1.values)], .box [.n, .n], .row (flat tRelation.enc r_1.relations), .row (flat tFact.enc r_1.facts), .box [(.m [3] 0 r_1.relations.length tRelation.k), (.m [4] 0 r_1.facts.length tFact.k)], .dead, .row (flat tInt.enc ([] : (List Int))), .dead] ?_ (fun hj4_7 => ?_)
          · skip
            refine TA_all [5] (by kernel_rfl) (by decide) ⟨⟨_, rfl, rfl, (TOp_appY (T := tInt) (f := tInt.enc) (xs := ([] : (List Int))) (ys := f1.values) tInt.len sl33 zero3 rfl bytes3 (by decide) rfl rfl rfl rfl (src_T (T := tInt) rfl) (flat_cell tInt _) h_28 ?_)⟩, trivial⟩
            refine TA_listed #[true, true, true, true, true, true, false, false, true, true, true, true, false, false] rfl ?_
            refine TA_ghost (E' := [(4, (.b 2 0)), (6, (.b 5 0)), (7, (intA k7)), (51, (intA f1.relation)), (54, (sl tInt f1.values)), (55, (.m [7] 0 us_27.length tInt.k)), (61, (.m [4] (i_31 * tFact.k) (j_32 - i_31) tFact.k))]) (σ' := [.box [(sl tRelation d0.relations), (sl tFact d0.facts)], .box [(intA f1.relation), (sl tInt f1.values)], .box [.n, .n], .row (flat tRelation.enc r_1.relations), .row (flat tFact.enc r_1.facts), .box [(.m [3] 0 r_1.relations.length tRelation.k), (.m [4] 0 r_1.facts.length tFact.k)], .dead, .row (flat tInt.enc us_27), .dead, .dead]) (Ghost.move 7 9 (by decide) (Nat.le_of_ble_eq_true rfl) rfl rfl (Nat.le_of_ble_eq_true rfl) (Ghost.weak (WeakL.to 10 (Nat.le_of_ble_eq_true rfl) rfl rfl rfl rfl ⟨leR rfl, leR rfl, leR rfl, leR rfl, leR rfl, leR rfl, leR rfl, trivial⟩))) ?_
            refine TA_ghost (E' := [(4, (.b 2 0)), (6, (.b 5 0)), (7, (intA k7)), (51, (intA f1.relation)), (55, (.m [7] 0 us_27.length tInt.k)), (61, (.m [4] (i_31 * tFact.k) (j_32 - i_31) tFact.k))]) (σ' := [.box [(sl tRelation d0.relations), (sl tFact d0.facts)], .box [(intA f1.relation), (sl tInt f1.values)], .box [.n, .n], .row (flat tRelation.enc r_1.relations), .row (flat tFact.enc r_1.facts), .box [(.m [3] 0 r_1.relations.length tRelation.k), (.m [4] 0 r_1.facts.length tFact.k)], .dead, .row (flat tInt.enc us_27), .dead]) (Ghost.weak (WeakL.to 9 (Nat.le_of_ble_eq_true rfl) rfl rfl rfl rfl ⟨leR rfl, leR rfl, leR rfl, leR rfl, leR rfl, leR rfl, trivial⟩)) ?_
            exact hj2_7
          refine TA_have 6 #[true, false, true, true, true, false, false, false, true, true, true, true, false, false] [(4, (.b 2 0)), (6, (.b 5 0)), (7, (intA k7)), (50, (.b 1 0)), (52, (.m [7] 0 ([] : (List Int)).length tInt.k)), (54, (sl tInt f1.values)), (61, (.m [4] (i_31 * tFact.k) (j_32 - i_31) tFact.k))] [.box [(sl tRelation d0.relations), (sl tFact d0.facts)], .box [(intA f1.relation), (sl tInt f1.values)], .box [.n, .n], .row (flat tRelation.enc r_1.relations), .row (flat tFact.enc r_1.facts), .box [(.m [3] 0 r_1.relations.length tRelation.k), (.m [4] 0 r_1.facts.length tFact.k)], .dead, .row (flat tInt.enc ([] : (List Int))), .dead] ?_ (fun hj5_7 => ?_)
          · skip
            refine TA_all [1, 5] (by kernel_rfl) (by decide) ⟨?_, ?_, trivial⟩
            · skip
              refine ⟨_, rfl, rfl, (TOp_pure (pur_ld_b one3 rfl rfl rfl rfl) rfl ?_)⟩
              refine TA_listed #[true, true, true, true, true, false, false, false, true, true, true, true, false, false] rfl ?_
              refine TA_ghost (E' := [(4, (.b 2 0)), (6, (.b 5 0)), (7, (intA k7)), (51, (intA f1.relation)), (52, (.m [7] 0 ([] : (List Int)).length tInt.k)), (54, (sl tInt f1.values)), (61, (.m [4] (i_31 * tFact.k) (j_32 - i_31) tFact.k))]) (σ' := [.box [(sl tRelation d0.relations), (sl tFact d0.facts)], .box [(intA f1.relation), (sl tInt f1.values)], .box [.n, .n], .row (flat tRelation.enc r_1.relations), .row (flat tFact.enc r_1.facts), .box [(.m [3] 0 r_1.relations.length tRelation.k), (.m [4] 0 r_1.facts.length tFact.k)], .dead, .row (flat tInt.enc ([] : (List Int))), .dead]) (Ghost.weak (WeakL.to 9 (Nat.le_of_ble_eq_true rfl) rfl rfl rfl rfl ⟨leR rfl, leR rfl, leR rfl, leR rfl, leR rfl, leR rfl, leR rfl, trivial⟩)) ?_
              exact hj4_7
            · skip
              refine ⟨_, rfl, rfl, (TOp_appY (T := tInt) (f := tInt.enc) (xs := ([] : (List Int))) (ys := f1.values) tInt.len sl33 zero3 rfl bytes3 (by decide) rfl rfl rfl rfl (src_T (T := tInt) rfl) (flat_cell tInt _) h_28 ?_)⟩
              refine TA_listed #[true, false, true, true, true, true, false, false, true, true, true, true, false, false] rfl ?_
              refine TA_ghost (E' := [(4, (.b 2 0)), (6, (.b 5 0)), (7, (intA k7)), (50, (.b 1 0)), (54, (sl tInt f1.values)), (55, (.m [7] 0 us_27.length tInt.k)), (61, (.m [4] (i_31 * tFact.k) (j_32 - i_31) tFact.k))]) (σ' := [.box [(sl tRelation d0.relations), (sl tFact d0.facts)], .box [(intA f1.relation), (sl tInt f1.values)], .box [.n, .n], .row (flat tRelation.enc r_1.relations), .row (flat tFact.enc r_1.facts), .box [(.m [3] 0 r_1.relations.length tRelation.k), (.m [4] 0 r_1.facts.length tFact.k)], .dead, .row (flat tInt.enc us_27), .dead, .dead]) (Ghost.move 7 9 (by decide) (Nat.le_of_ble_eq_true rfl) rfl rfl (Nat.le_of_ble_eq_true rfl) (Ghost.weak (WeakL.to 10 (Nat.le_of_ble_eq_true rfl) rfl rfl rfl rfl ⟨leR rfl, leR rfl, leR rfl, leR rfl, leR rfl, leR rfl, leR rfl, trivial⟩))) ?_
              refine TA_ghost (E' := [(4, (.b 2 0)), (6, (.b 5 0)), (7, (intA k7)), (50, (.b 1 0)), (55, (.m [7] 0 us_27.length tInt.k)), (61, (.m [4] (i_31 * tFact.k) (j_32 - i_31) tFact.k))]) (σ' := [.box [(sl tRelation d0.relations), (sl tFact d0.facts)], .box [(intA f1.relation), (sl tInt f1.values)], .box [.n, .n], .row (flat tRelation.enc r_1.relations), .row (flat tFact.enc r_1.facts), .box [(.m [3] 0 r_1.relations.length tRelation.k), (.m [4] 0 r_1.facts.length tFact.k)], .dead, .row (flat tInt.enc us_27), .dead]) (Ghost.weak (WeakL.to 9 (Nat.le_of_ble_eq_true rfl) rfl rfl rfl rfl ⟨leR rfl, leR rfl, leR rfl, leR rfl, leR rfl, leR rfl, trivial⟩)) ?_
              exact hj3_7
          refine TA_have 6 #[true, true, false, true, true, false, false, false, true, true, true, true, false, false] [(4, (.b 2 0)), (6, (.b 5 0)), (7, (intA k7)), (51, (intA f1.relation)), (54, (sl tInt f1.values)), (61, (.m [4] (i_31 * tFact.k) (j_32 - i_31) tFact.k))] [.box [(sl tRelation d0.relations), (sl tFact d0.facts)], .box [(intA f1.relation), (sl tInt f1.values)], .box [.n, .n], .row (flat tRelation.enc r_1.relations), .row (flat tFact.enc r_1.facts), .box [(.m [3] 0 r_1.relations.length tRelation.k), (.m [4] 0 r_1.facts.length tFact.k)], .dead, .dead, .dead] ?_ (fun hj6_7 => ?_)
          · skip
            refine TA_all [2] (by kernel_rfl) (by decide) ⟨⟨_, rfl, rfl, (TOp_lit (nn := 0) (k := 1) sl33 zero3 rfl rfl rfl rfl (by decide) ?_)⟩, trivial⟩
            refine TA_listed #[true, true, true, true, true, false, false, false, true, true, true, true, false, false] rfl ?_
            refine TA_st (σ' := [.box [(sl tRelation d0.relations), (sl tFact d0.facts)], .box [(intA f1.relation), (sl tInt f1.values)], .box [.n, .n], .row (flat tRelation.enc r_1.relations), .row (flat tFact.enc r_1.facts), .box [(.m [3] 0 r_1.relations.length tRelation.k), (.m [4] 0 r_1.facts.length tFact.k)], .dead, .dead, .dead, .row (flat tInt.enc ([] : (List Int)))]) rfl ?_
            refine TA_ghost (E' := [(4, (.b 2 0)), (6, (.b 5 0)), (7, (intA k7)), (51, (intA f1.relation)), (52, (.m [7] 0 ([] : (List Int)).length tInt.k)), (54, (sl tInt f1.values)), (61, (.m [4] (i_31 * tFact.k) (j_32 - i_31) tFact.k))]) (σ' := [.box [(sl tRelation d0.relations), (sl tFact d0.facts)], .box [(intA f1.relation), (sl tInt f1.values)], .box [.n, .n], .row (flat tRelation.enc r_1.relations), .row (flat tFact.enc r_1.facts), .box [(.m [3] 0 r_1.relations.length tRelation.k), (.m [4] 0 r_1.facts.length tFact.k)], .dead, .row (flat tInt.enc ([] : (List Int))), .dead]) (Ghost.move 7 9 (by decide) (Nat.le_of_ble_eq_true rfl) rfl rfl (Nat.le_of_ble_eq_true rfl) (Ghost.weak (WeakL.to 9 (Nat.le_of_ble_eq_true rfl) rfl rfl rfl rfl ⟨leR rfl, leR rfl, leR rfl, leR rfl, leR rfl, leR rfl, leR rfl, trivial⟩))) ?_
            refine TA_ghost (E' := [(4, (.b 2 0)), (6, (.b 5 0)), (7, (intA k7)), (51, (intA f1.relation)), (52, (.m [7] 0 ([] : (List Int)).length tInt.k)), (54, (sl tInt f1.values)), (61, (.m [4] (i_31 * tFact.k) (j_32 - i_31) tFact.k))]) (σ' := [.box [(sl tRelation d0.relations), (sl tFact d0.facts)], .box [(intA f1.relation), (sl tInt f1.values)], .box [.n, .n], .row (flat tRelation.enc r_1.relations), .row (flat tFact.enc r_1.facts), .box [(.m [3] 0 r_1.relations.length tRelation.k), (.m [4] 0 r_1.facts.length tFact.k)], .dead, .row (flat tInt.enc ([] : (List Int))), .dead]) (Ghost.weak (WeakL.to 9 (Nat.le_of_ble_eq_true rfl) rfl rfl rfl rfl ⟨leR rfl, leR rfl, leR rfl, leR rfl, leR rfl, leR rfl, leR rfl, trivial⟩)) ?_
            exact hj4_7
          refine TA_have 6 #[true, true, true, true, false, false, false, false, true, true, true, true, false, false] [(4, (.b 2 0)), (6, (.b 5 0)), (7, (intA k7)), (51, (intA f1.relation)), (52, (.m [7] 0 ([] : (List Int)).length tInt.k)), (53, (.b 1 1)), (61, (.m [4] (i_31 * tFact.k) (j_32 - i_31) tFact.k))] [.box [(sl tRelation d0.relations), (sl tFact d0.facts)], .box [(intA f1.relation), (sl tInt f1.values)], .box [.n, .n], .row (flat tRelation.enc r_1.relations), .row (flat tFact.enc r_1.facts), .box [(.m [3] 0 r_1.relations.length tRelation.k), (.m [4] 0 r_1.facts.length tFact.k)], .dead, .row (flat tInt.enc ([] : (List Int))), .dead] ?_ (fun hj7_7 => ?_)
          · skip
            refine TA_all [4] (by kernel_rfl) (by decide) ⟨⟨_, rfl, rfl, (TOp_pure (pur_ld_b one33 rfl rfl rfl rfl) rfl ?_)⟩, trivial⟩
            refine TA_listed #[true, true, true, true, true, false, false, false, true, true, true, true, false, false] rfl ?_
            refine TA_ghost (E' := [(4, (.b 2 0)), (6, (.b 5 0)), (7, (intA k7)), (51, (intA f1.relation)), (52, (.m [7] 0 ([] : (List Int)).length tInt.k)), (54, (sl tInt f1.values)), (61, (.m [4] (i_31 * tFact.k) (j_32 - i_31) tFact.k))]) (σ' := [.box [(sl tRelation d0.relations), (sl tFact d0.facts)], .box [(intA f1.relation), (sl tInt f1.values)], .box [.n, .n], .row (flat tRelation.enc r_1.relations), .row (flat tFact.enc r_1.facts), .box [(.m [3] 0 r_1.relations.length tRelation.k), (.m [4] 0 r_1.facts.length tFact.k)], .dead, .row (flat tInt.enc ([] : (List Int))), .dead]) (Ghost.weak (WeakL.to 9 (Nat.le_of_ble_eq_true rfl) rfl rfl rfl rfl ⟨leR rfl, leR rfl, leR rfl, leR rfl, leR rfl, leR rfl, leR rfl, trivial⟩)) ?_
            exact hj4_7
          refine TA_have 6 #[true, true, true, true, true, true, false, false, true, false, true, false, false, false] [(4, (.b 2 0)), (6, (.b 5 0)), (7, (intA k7)), (51, (intA f1.relation)), (55, (.m [7] 0 us_27.length tInt.k)), (58, (.b 5 1)), (60, (intA k7))] [.box [(sl tRelation d0.relations), (sl tFact d0.facts)], .box [(intA f1.relation), (sl tInt f1.values)], .box [.n, .n], .row (flat tRelation.enc r_1.relations), .row (flat tFact.enc r_1.facts), .box [(.m [3] 0 r_1.relations.length tRelation.k), (.m [4] 0 r_1.facts.length tFact.k)], .dead, .row (flat tInt.enc us_27), .dead] ?_ (fun hj8_7 => ?_)
          · skip
            refine TA_first 6 #[true, true, true, true, true, true, true, false, true, false, true, false, false, false] rfl (purI_build bld60 rfl rfl) rfl rfl rfl (by kernel_rfl) (by kernel_rfl) (by kernel_rfl) ?_
            refine TA_frz1 7 (E' := [(4, (.b 2 0)), (6, (.b 5 0)), (7, (intA k7)), (51, (intA f1.relation)), (55, (sl tInt us_27)), (56, (.g [(intA f1.relation), (sl tInt us_27)])), (58, (.b 5 1)), (60, (intA k7))]) rfl rfl (Nat.le_of_ble_eq_true rfl) ?_ ?_
            · exact ⟨(.keep rfl), (.keep rfl), (.keep rfl), (.keep rfl), fz1E, (fz1G (fzC (.keep rfl) (fzC fz1E fzN))), (.keep rfl), (.keep rfl), trivial⟩
            refine TA_st (σ' := [.box [(sl tRelation d0.relations), (sl tFact d0.facts)], .box [(intA f1.relation), (sl tInt f1.values)], .box [.n, .n], .row (flat tRelation.enc r_1.relations), .row (flat tFact.enc r_1.facts), .box [(.m [3] 0 r_1.relations.length tRelation.k), (.m [4] 0 r_1.facts.length tFact.k)], .dead, .dead, .dead]) rfl ?_
            refine TA_all [7, 9] (by kernel_rfl) (by decide) ⟨?_, ?_, trivial⟩
            · skip
              refine ⟨_, rfl, rfl, (TOp_lit (nn := 1) (k := 2) sl30 zero60 rfl rfl rfl rfl (by decide) ?_)⟩
              refine TA_listed #[true, true, true, true, true, true, true, true, true, false, true, false, false, false] rfl ?_
              refine TA_st (σ' := [.box [(sl tRelation d0.relations), (sl tFact d0.facts)], .box [(intA f1.relation), (sl tInt f1.values)], .box [.n, .n], .row (flat tRelation.enc r_1.relations), .row (flat tFact.enc r_1.facts), .box [(.m [3] 0 r_1.relations.length tRelation.k), (.m [4] 0 r_1.facts.length tFact.k)], .dead, .dead, .dead, .row (flat tFact.enc ([({ relation := f1.relation, values := us_27 } : Fact)] : (List Fact)))]) rfl ?_
              refine TA_ghost (E' := [(4, (.b 2 0)), (6, (.b 5 0)), (7, (intA k7)), (51, (intA f1.relation)), (55, (sl tInt us_27)), (56, (.g [(intA f1.relation), (sl tInt us_27)])), (57, (.m [8] 0 ([({ relation := f1.relation, values := us_27 } : Fact)] : (List Fact)).length tFact.k)), (58, (.b 5 1)), (60, (intA k7))]) (σ' := [.box [(sl tRelation d0.relations), (sl tFact d0.facts)], .box [(intA f1.relation), (sl tInt f1.values)], .box [.n, .n], .row (flat tRelation.enc r_1.relations), .row (flat tFact.enc r_1.facts), .box [(.m [3] 0 r_1.relations.length tRelation.k), (.m [4] 0 r_1.facts.length tFact.k)], .dead, .dead, .row (flat tFact.enc ([({ relation := f1.relation, values := us_27 } : Fact)] : (List Fact)))]) (Ghost.move 8 9 (by decide) (Nat.le_of_ble_eq_true rfl) rfl rfl (Nat.le_of_ble_eq_true rfl) (Ghost.weak (WeakL.to 9 (Nat.le_of_ble_eq_true rfl) rfl rfl rfl rfl ⟨leR rfl, leR rfl, leR rfl, leR rfl, leR rfl, leR rfl, leR rfl, leR rfl, leR rfl, trivial⟩))) ?_
              refine TA_all [9] (by kernel_rfl) (by decide) ⟨⟨_, rfl, rfl, (TOp_pure (pur_ld_b one30 rfl rfl rfl rfl) rfl ?_)⟩, trivial⟩
              refine TA_listed #[true, true, true, true, true, true, true, true, true, true, true, false, false, false] rfl ?_
              refine TA_first 11 #[true, true, true, true, true, true, true, true, true, true, true, true, false, false] rfl (purI_cutM (lo := (some (.tmp 60))) (hi := none) sl30 rfl ⟨_, congrArg (fun z => A.v (.int .i64 z)) hi_33⟩ hj_34.symm hij_35 hjl_36 rfl) rfl rfl rfl (by kernel_rfl) (by kernel_rfl) (by kernel_rfl) ?_
              refine TA_ghost (E' := [(4, (.b 2 0)), (6, (.b 5 0)), (7, (intA k7)), (57, (.m [8] 0 ([({ relation := f1.relation, values := us_27 } : Fact)] : (List Fact)).length tFact.k)), (61, (.m [4] (i_31 * tFact.k) (j_32 - i_31) tFact.k))]) (σ' := [.box [(sl tRelation d0.relations), (sl tFact d0.facts)], .box [(intA f1.relation), (sl tInt f1.values)], .box [.n, .n], .row (flat tRelation.enc r_1.relations), .row (flat tFact.enc r_1.facts), .box [(.m [3] 0 r_1.relations.length tRelation.k), (.m [4] 0 r_1.facts.length tFact.k)], .dead, .dead, .row (flat tFact.enc ([({ relation := f1.relation, values := us_27 } : Fact)] : (List Fact)))]) (Ghost.weak (WeakL.to 9 (Nat.le_of_ble_eq_true rfl) rfl rfl rfl rfl ⟨leR rfl, leR rfl, leR rfl, leR rfl, leR rfl, trivial⟩)) ?_
              exact hj0_7
            · skip
              refine ⟨_, rfl, rfl, (TOp_pure (pur_ld_b one30 rfl rfl rfl rfl) rfl ?_)⟩
              refine TA_listed #[true, true, true, true, true, true, true, false, true, true, true, false, false, false] rfl ?_
              refine TA_first 11 #[true, true, true, true, true, true, true, false, true, true, true, true, false, false] rfl (purI_cutM (lo := (some (.tmp 60))) (hi := none) sl30 rfl ⟨_, congrArg (fun z => A.v (.int .i64 z)) hi_33⟩ hj_34.symm hij_35 hjl_36 rfl) rfl rfl rfl (by kernel_rfl) (by kernel_rfl) (by kernel_rfl) ?_
              refine TA_ghost (E' := [(4, (.b 2 0)), (6, (.b 5 0)), (7, (intA k7)), (56, (.g [(intA f1.relation), (sl tInt us_27)])), (61, (.m [4] (i_31 * tFact.k) (j_32 - i_31) tFact.k))]) (σ' := [.box [(sl tRelation d0.relations), (sl tFact d0.facts)], .box [(intA f1.relation), (sl tInt f1.values)], .box [.n, .n], .row (flat tRelation.enc r_1.relations), .row (flat tFact.enc r_1.facts), .box [(.m [3] 0 r_1.relations.length tRelation.k), (.m [4] 0 r_1.facts.length tFact.k)], .dead, .dead, .dead]) (Ghost.weak (WeakL.to 9 (Nat.le_of_ble_eq_true rfl) rfl rfl rfl rfl ⟨leR rfl, leR rfl, leR rfl, leR rfl, leR rfl, trivial⟩)) ?_
              exact hj1_7
          refine TA_have 7 #[true, false, false, true, true, false, false, false, true, true, true, true, false, false] [(4, (.b 2 0)), (6, (.b 5 0)), (7, (intA k7)), (50, (.b 1 0)), (54, (sl tInt f1.values)), (61, (.m [4] (i_31 * tFact.k) (j_32 - i_31) tFact.k))] [.box [(sl tRelation d0.relations), (sl tFact d0.facts)], .box [(intA f1.relation), (sl tInt f1.values)], .box [.n, .n], .row (flat tRelation.enc r_1.relations), .row (flat tFact.enc r_1.facts), .box [(.m [3] 0 r_1.relations.length tRelation.k), (.m [4] 0 r_1.facts.length tFact.k)], .dead, .dead, .dead] ?_ (fun hj9_7 => ?_)
          · skip
            refine TA_all [1, 2] (by kernel_rfl) (by decide) ⟨?_, ?_, trivial⟩
            · skip
              refine ⟨_, rfl, rfl, (TOp_pure (pur_ld_b one3 rfl rfl rfl rfl) rfl ?_)⟩
              refine TA_listed #[true, true, false, true, true, false, false, false, true, true, true, true, false, false] rfl ?_
              refine TA_ghost (E' := [(4, (.b 2 0)), (6, (.b 5 0)), (7, (intA k7)), (51, (intA f1.relation)), (54, (sl tInt f1.values)), (61, (.m [4] (i_31 * tFact.k) (j_32 - i_31) tFact.k))]) (σ' := [.box [(sl tRelation d0.relations), (sl tFact d0.facts)], .box [(intA f1.relation), (sl tInt f1.values)], .box [.n, .n], .row (flat tRelation.enc r_1.relations), .row (flat tFact.enc r_1.facts), .box [(.m [3] 0 r_1.relations.length tRelation.k), (.m [4] 0 r_1.facts.length tFact.k)], .dead, .dead, .dead]) (Ghost.weak (WeakL.to 9 (Nat.le_of_ble_eq_true rfl) rfl rfl rfl rfl ⟨leR rfl, leR rfl, leR rfl, leR rfl, leR rfl, leR rfl, trivial⟩)) ?_
              exact hj6_7
            · skip
              refine ⟨_, rfl, rfl, (TOp_lit (nn := 0) (k := 1) sl33 zero3 rfl rfl rfl rfl (by decide) ?_)⟩
              refine TA_listed #[true, false, true, true, true, false, false, false, true, true, true, true, false, false] rfl ?_
              refine TA_st (σ' := [.box [(sl tRelation d0.relations), (sl tFact d0.facts)], .box [(intA f1.relation), (sl tInt f1.values)], .box [.n, .n], .row (flat tRelation.enc r_1.relations), .row (flat tFact.enc r_1.facts), .box [(.m [3] 0 r_1.relations.length tRelation.k), (.m [4] 0 r_1.facts.length tFact.k)], .dead, .dead, .dead, .row (flat tInt.enc ([] : (List Int)))]) rfl ?_
              refine TA_ghost (E' := [(4, (.b 2 0)), (6, (.b 5 0)), (7, (intA k7)), (50, (.b 1 0)), (52, (.m [7] 0 ([] : (List Int)).length tInt.k)), (54, (sl tInt f1.values)), (61, (.m [4] (i_31 * tFact.k) (j_32 - i_31) tFact.k))]) (σ' := [.box [(sl tRelation d0.relations), (sl tFact d0.facts)], .box [(intA f1.relation), (sl tInt f1.values)], .box [.n, .n], .row (flat tRelation.enc r_1.relations), .row (flat tFact.enc r_1.facts), .box [(.m [3] 0 r_1.relations.length tRelation.k), (.m [4] 0 r_1.facts.length tFact.k)], .dead, .row (flat tInt.enc ([] : (List Int))), .dead]) (Ghost.move 7 9 (by decide) (Nat.le_of_ble_eq_true rfl) rfl rfl (Nat.le_of_ble_eq_true rfl) (Ghost.weak (WeakL.to 9 (Nat.le_of_ble_eq_true rfl) rfl rfl rfl rfl ⟨leR rfl, leR rfl, leR rfl, leR rfl, leR rfl, leR rfl, leR rfl, trivial⟩))) ?_
              refine TA_ghost (E' := [(4, (.b 2 0)), (6, (.b 5 0)), (7, (intA k7)), (50, (.b 1 0)), (52, (.m [7] 0 ([] : (List Int)).length tInt.k)), (54, (sl tInt f1.values)), (61, (.m [4] (i_31 * tFact.k) (j_32 - i_31) tFact.k))]) (σ' := [.box [(sl tRelation d0.relations), (sl tFact d0.facts)], .box [(intA f1.relation), (sl tInt f1.values)], .box [.n, .n], .row (flat tRelation.enc r_1.relations), .row (flat tFact.enc r_1.facts), .box [(.m [3] 0 r_1.relations.length tRelation.k), (.m [4] 0 r_1.facts.length tFact.k)], .dead, .row (flat tInt.enc ([] : (List Int))), .dead]) (Ghost.weak (WeakL.to 9 (Nat.le_of_ble_eq_true rfl) rfl rfl rfl rfl ⟨leR rfl, leR rfl, leR rfl, leR rfl, leR rfl, leR rfl, leR rfl, trivial⟩)) ?_
              exact hj5_7
          refine TA_have 7 #[true, false, true, true, false, false, false, false, true, true, true, true, false, false] [(4, (.b 2 0)), (6, (.b 5 0)), (7, (intA k7)), (50, (.b 1 0)), (52, (.m [7] 0 ([] : (List Int)).length tInt.k)), (53, (.b 1 1)), (61, (.m [4] (i_31 * tFact.k) (j_32 - i_31) tFact.k))] [.box [(sl tRelation d0.relations), (sl tFact d0.facts)], .box [(intA f1.relation), (sl tInt f1.values)], .box [.n, .n], .row (flat tRelation.enc r_1.relations), .row (flat tFact.enc r_1.facts), .box [(.m [3] 0 r_1.relations.length tRelation.k), (.m [4] 0 r_1.facts.length tFact.k)], .dead, .row (flat tInt.enc ([] : (List Int))), .dead] ?_ (fun hj10_7 => ?_)
          · skip
            refine TA_all [1, 4] (by kernel_rfl) (by decide) ⟨?_, ?_, trivial⟩
            · skip
              refine ⟨_, rfl, rfl, (TOp_pure (pur_ld_b one3 rfl rfl rfl rfl) rfl ?_)⟩
              refine TA_listed #[true, true, true, true, false, false, false, false, true, true, true, true, false, false] rfl ?_
              refine TA_ghost (E' := [(4, (.b 2 0)), (6, (.b 5 0)), (7, (intA k7)), (51, (intA f1.relation)), (52, (.m [7] 0 ([] : (List Int)).length tInt.k)), (53, (.b 1 1)), (61, (.m [4] (i_31 * tFact.k) (j_32 - i_31) tFact.k))]) (σ' := [.box [(sl tRelation d0.relations), (sl tFact d0.facts)], .box [(intA f1.relation), (sl tInt f1.values)], .box [.n, .n], .row (flat tRelation.enc r_1.relations), .row (flat tFact.enc r_1.facts), .box [(.m [3] 0 r_1.relations.length tRelation.k), (.m [4] 0 r_1.facts.length tFact.k)], .dead, .row (flat tInt.enc ([] : (List Int))), .dead]) (Ghost.weak (WeakL.to 9 (Nat.le_of_ble_eq_true rfl) rfl rfl rfl rfl ⟨leR rfl, leR rfl, leR rfl, leR rfl, leR rfl, leR rfl, leR rfl, trivial⟩)) ?_
              exact hj7_7
            · skip
              refine ⟨_, rfl, rfl, (TOp_pure (pur_ld_b one33 rfl rfl rfl rfl) rfl ?_)⟩
              refine TA_listed #[true, false, true, true, true, false, false, false, true, true, true, true, false, false] rfl ?_
              refine TA_ghost (E' := [(4, (.b 2 0)), (6, (.b 5 0)), (7, (intA k7)), (50, (.b 1 0)), (52, (.m [7] 0 ([] : (List Int)).length tInt.k)), (54, (sl tInt f1.values)), (61, (.m [4] (i_31 * tFact.k) (j_32 - i_31) tFact.k))]) (σ' := [.box [(sl tRelation d0.relations), (sl tFact d0.facts)], .box [(intA f1.relation), (sl tInt f1.values)], .box [.n, .n], .row (flat tRelation.enc r_1.relations), .row (flat tFact.enc r_1.facts), .box [(.m [3] 0 r_1.relations.length tRelation.k), (.m [4] 0 r_1.facts.length tFact.k)], .dead, .row (flat tInt.enc ([] : (List Int))), .dead]) (Ghost.weak (WeakL.to 9 (Nat.le_of_ble_eq_true rfl) rfl rfl rfl rfl ⟨leR rfl, leR rfl, leR rfl, leR rfl, leR rfl, leR rfl, leR rfl, trivial⟩)) ?_
              exact hj5_7
          refine TA_have 7 #[true, true, false, true, false, false, false, false, true, true, true, true, false, false] [(4, (.b 2 0)), (6, (.b 5 0)), (7, (intA k7)), (51, (intA f1.relation)), (53, (.b 1 1)), (61, (.m [4] (i_31 * tFact.k) (j_32 - i_31) tFact.k))] [.box [(sl tRelation d0.relations), (sl tFact d0.facts)], .box [(intA f1.relation), (sl tInt f1.values)], .box [.n, .n], .row (flat tRelation.enc r_1.relations), .row (flat tFact.enc r_1.facts), .box [(.m [3] 0 r_1.relations.length tRelation.k), (.m [4] 0 r_1.facts.length tFact.k)], .dead, .dead, .dead] ?_ (fun hj11_7 => ?_)
          · skip
            refine TA_all [2, 4] (by kernel_rfl) (by decide) ⟨?_, ?_, trivial⟩
            · skip
              refine ⟨_, rfl, rfl, (TOp_lit (nn := 0) (k := 1) sl33 zero3 rfl rfl rfl rfl (by decide) ?_)⟩
              refine TA_listed #[true, true, true, true, false, false, false, false, true, true, true, true, false, false] rfl ?_
              refine TA_st (σ' := [.box [(sl tRelation d0.relations), (sl tFact d0.facts)], .box [(intA f1.relation), (sl tInt f1.values)], .box [.n, .n], .row (flat tRelation.enc r_1.relations), .row (flat tFact.enc r_1.facts), .box [(.m [3] 0 r_1.relations.length tRelation.k), (.m [4] 0 r_1.facts.length tFact.k)], .dead, .dead, .dead, .row (flat tInt.enc ([] : (List Int)))]) rfl ?_
              refine TA_ghost (E' := [(4, (.b 2 0)), (6, (.b 5 0)), (7, (intA k7)), (51, (intA f1.relation)), (52, (.m [7] 0 ([] : (List Int)).length tInt.k)), (53, (.b 1 1)), (61, (.m [4] (i_31 * tFact.k) (j_32 - i_31) tFact.k))]) (σ' := [.box [(sl tRelation d0.relations), (sl tFact d0.facts)], .box [(intA f1.relation), (sl tInt f1.values)], .box [.n, .n], .row (flat tRelation.enc r_1.relations), .row (flat tFact.enc r_1.facts), .box [(.m [3] 0 r_1.relations.length tRelation.k), (.m [4] 0 r_1.facts.length tFact.k)], .dead, .row (flat tInt.enc ([] : (List Int))), .dead]) (Ghost.move 7 9 (by decide) (Nat.le_of_ble_eq_true rfl) rfl rfl (Nat.le_of_ble_eq_true rfl) (Ghost.weak (WeakL.to 9 (Nat.le_of_ble_eq_true rfl) rfl rfl rfl rfl ⟨leR rfl, leR rfl, leR rfl, leR rfl, leR rfl, leR rfl, leR rfl, trivial⟩))) ?_
              refine TA_ghost (E' := [(4, (.b 2 0)), (6, (.b 5 0)), (7, (intA k7)), (51, (intA f1.relation)), (52, (.m [7] 0 ([] : (List Int)).length tInt.k)), (53, (.b 1 1)), (61, (.m [4] (i_31 * tFact.k) (j_32 - i_31) tFact.k))]) (σ' := [.box [(sl tRelation d0.relations), (sl tFact d0.facts)], .box [(intA f1.relation), (sl tInt f1.values)], .box [.n, .n], .row (flat tRelation.enc r_1.relations), .row (flat tFact.enc r_1.facts), .box [(.m [3] 0 r_1.relations.length tRelation.k), (.m [4] 0 r_1.facts.length tFact.k)], .dead, .row (flat tInt.enc ([] : (List Int))), .dead]) (Ghost.weak (WeakL.to 9 (Nat.le_of_ble_eq_true rfl) rfl rfl rfl rfl ⟨leR rfl, leR rfl, leR rfl, leR rfl, leR rfl, leR rfl, leR rfl, trivial⟩)) ?_
              exact hj7_7
            · skip
              refine ⟨_, rfl, rfl, (TOp_pure (pur_ld_b one33 rfl rfl rfl rfl) rfl ?_)⟩
              refine TA_listed #[true, true, false, true, true, false, false, false, true, true, true, true, false, false] rfl ?_
              refine TA_ghost (E' := [(4, (.b 2 0)), (6, (.b 5 0)), (7, (intA k7)), (51, (intA f1.relation)), (54, (sl tInt f1.values)), (61, (.m [4] (i_31 * tFact.k) (j_32 - i_31) tFact.k))]) (σ' := [.box [(sl tRelation d0.relations), (sl tFact d0.facts)], .box [(intA f1.relation), (sl tInt f1.values)], .box [.n, .n], .row (flat tRelation.enc r_1.relations), .row (flat tFact.enc r_1.facts), .box [(.m [3] 0 r_1.relations.length tRelation.k), (.m [4] 0 r_1.facts.length tFact.k)], .dead, .dead, .dead]) (Ghost.weak (WeakL.to 9 (Nat.le_of_ble_eq_true rfl) rfl rfl rfl rfl ⟨leR rfl, leR rfl, leR rfl, leR rfl, leR rfl, leR rfl, trivial⟩)) ?_
              exact hj6_7
          refine TA_have 7 #[true, true, true, true, true, false, false, false, true, false, true, false, false, false] [(4, (.b 2 0)), (6, (.b 5 0)), (7, (intA k7)), (51, (intA f1.relation)), (52, (.m [7] 0 ([] : (List Int)).length tInt.k)), (54, (sl tInt f1.values)), (58, (.b 5 1)), (60, (intA k7))] [.box [(sl tRelation d0.relations), (sl tFact d0.facts)], .box [(intA f1.relation), (sl tInt f1.values)], .box [.n, .n], .row (flat tRelation.enc r_1.relations), .row (flat tFact.enc r_1.facts), .box [(.m [3] 0 r_1.relations.length tRelation.k), (.m [4] 0 r_1.facts.length tFact.k)], .dead, .row (flat tInt.enc ([] : (List Int))), .dead] ?_ (fun hj12_7 => ?_)
          · skip
            refine TA_all [5, 9] (by kernel_rfl) (by decide) ⟨?_, ?_, trivial⟩
            · skip
              refine ⟨_, rfl, rfl, (TOp_appY (T := tInt) (f := tInt.enc) (xs := ([] : (List Int))) (ys := f1.values) tInt.len sl33 zero3 rfl bytes3 (by decide) rfl rfl rfl rfl (src_T (T := tInt) rfl) (flat_cell tInt _) h_28 ?_)⟩
              refine TA_listed #[true, true, true, true, true, true, false, false, true, false, true, false, false, false] rfl ?_
              refine TA_ghost (E' := [(4, (.b 2 0)), (6, (.b 5 0)), (7, (intA k7)), (51, (intA f1.relation)), (54, (sl tInt f1.values)), (55, (.m [7] 0 us_27.length tInt.k)), (58, (.b 5 1)), (60, (intA k7))]) (σ' := [.box [(sl tRelation d0.relations), (sl tFact d0.facts)], .box [(intA f1.relation), (sl tInt f1.values)], .box [.n, .n], .row (flat tRelation.enc r_1.relations), .row (flat tFact.enc r_1.facts), .box [(.m [3] 0 r_1.relations.length tRelation.k), (.m [4] 0 r_1.facts.length tFact.k)], .dead, .row (flat tInt.enc us_27), .dead, .dead]) (Ghost.move 7 9 (by decide) (Nat.le_of_ble_eq_true rfl) rfl rfl (Nat.le_of_ble_eq_true rfl) (Ghost.weak (WeakL.to 10 (Nat.le_of_ble_eq_true rfl) rfl rfl rfl rfl ⟨leR rfl, leR rfl, leR rfl, leR rfl, leR rfl, leR rfl, leR rfl, leR rfl, trivial⟩))) ?_
              refine TA_ghost (E' := [(4, (.b 2 0)), (6, (.b 5 0)), (7, (intA k7)), (51, (intA f1.relation)), (55, (.m [7] 0 us_27.length tInt.k)), (58, (.b 5 1)), (60, (intA k7))]) (σ' := [.box [(sl tRelation d0.relations), (sl tFact d0.facts)], .box [(intA f1.relation), (sl tInt f1.values)], .box [.n, .n], .row (flat tRelation.enc r_1.relations), .row (flat tFact.enc r_1.facts), .box [(.m [3] 0 r_1.relations.length tRelation.k), (.m [4] 0 r_1.facts.length tFact.k)], .dead, .row (flat tInt.enc us_27), .dead]) (Ghost.weak (WeakL.to 9 (Nat.le_of_ble_eq_true rfl) rfl rfl rfl rfl ⟨leR rfl, leR rfl, leR rfl, leR rfl, leR rfl, leR rfl, leR rfl, trivial⟩)) ?_
              exact hj8_7
            · skip
              refine ⟨_, rfl, rfl, (TOp_pure (pur_ld_b one30 rfl rfl rfl rfl) rfl ?_)⟩
              refine TA_listed #[true, true, true, true, true, false, false, false, true, true, true, false, false, false] rfl ?_
              refine TA_first 11 #[true, true, true, true, true, false, false, false, true, true, true, true, false, false] rfl (purI_cutM (lo := (some (.tmp 60))) (hi := none) sl30 rfl ⟨_, congrArg (fun z => A.v (.int .i64 z)) hi_33⟩ hj_34.symm hij_35 hjl_36 rfl) rfl rfl rfl (by kernel_rfl) (by kernel_rfl) (by kernel_rfl) ?_
              refine TA_ghost (E' := [(4, (.b 2 0)), (6, (.b 5 0)), (7, (intA k7)), (51, (intA f1.relation)), (52, (.m [7] 0 ([] : (List Int)).length tInt.k)), (54, (sl tInt f1.values)), (61, (.m [4] (i_31 * tFact.k) (j_32 - i_31) tFact.k))]) (σ' := [.box [(sl tRelation d0.relations), (sl tFact d0.facts)], .box [(intA f1.relation), (sl tInt f1.values)], .box [.n, .n], .row (flat tRelation.enc r_1.relations), .row (flat tFact.enc r_1.facts), .box [(.m [3] 0 r_1.relations.length tRelation.k), (.m [4] 0 r_1.facts.length tFact.k)], .dead, .row (flat tInt.enc ([] : (List Int))), .dead]) (Ghost.weak (WeakL.to 9 (Nat.le_of_ble_eq_true rfl) rfl rfl rfl rfl ⟨leR rfl, leR rfl, leR rfl, leR rfl, leR rfl, leR rfl, leR rfl, trivial⟩)) ?_
              exact hj4_7
          refine TA_have 8 #[true, false, true, true, true, false, false, false, true, false, true, false, false, false] [(4, (.b 2 0)), (6, (.b 5 0)), (7, (intA k7)), (50, (.b 1 0)), (52, (.m [7] 0 ([] : (List Int)).length tInt.k)), (54, (sl tInt f1.values)), (58, (.b 5 1)), (60, (intA k7))] [.box [(sl tRelation d0.relations), (sl tFact d0.facts)], .box [(intA f1.relation), (sl tInt f1.values)], .box [.n, .n], .row (flat tRelation.enc r_1.relations), .row (flat tFact.enc r_1.facts), .box [(.m [3] 0 r_1.relations.length tRelation.k), (.m [4] 0 r_1.facts.length tFact.k)], .dead, .row (flat tInt.enc ([] : (List Int))), .dead] ?_ (fun hj13_7 => ?_)
          · skip
            refine TA_all [1, 5, 9] (by kernel_rfl) (by decide) ⟨?_, ?_, ?_, trivial⟩
            · skip
              refine ⟨_, rfl, rfl, (TOp_pure (pur_ld_b one3 rfl rfl rfl rfl) rfl ?_)⟩
              refine TA_listed #[true, true, true, true, true, false, false, false, true, false, true, false, false, false] rfl ?_
              refine TA_ghost (E' := [(4, (.b 2 0)), (6, (.b 5 0)), (7, (intA k7)), (51, (intA f1.relation)), (52, (.m [7] 0 ([] : (List Int)).length tInt.k)), (54, (sl tInt f1.values)), (58, (.b 5 1)), (60, (intA k7))]) (σ' := [.box [(sl tRelation d0.relations), (sl tFact d0.facts)], .box [(intA f1.relation), (sl tInt f1.values)], .box [.n, .n], .row (flat tRelation.enc r_1.relations), .row (flat tFact.enc r_1.facts), .box [(.m [3] 0 r_1.relations.length tRelation.k), (.m [4] 0 r_1.facts.length tFact.k)], .dead, .row (flat tInt.enc ([] : (List Int))), .dead]) (Ghost.weak (WeakL.to 9 (Nat.le_of_ble_eq_true rfl) rfl rfl rfl rfl ⟨leR rfl, leR rfl, leR rfl, leR rfl, leR rfl, leR rfl, leR rfl, leR rfl, trivial⟩)) ?_
              exact hj12_7
            · skip
              refine ⟨_, rfl, rfl, (TOp_appY (T := tInt) (f := tInt.enc) (xs := ([] : (List Int))) (ys := f1.values) tInt.len sl33 zero3 rfl bytes3 (by decide) rfl rfl rfl rfl (src_T (T := tInt) rfl) (flat_cell tInt _) h_28 ?_)⟩
              refine TA_listed #[true, false, true, true, true, true, false, false, true, false, true, false, false, false] rfl ?_
              refine TA_ghost (E' := [(4, (.b 2 0)), (6, (.b 5 0)), (7, (intA k7)), (50, (.b 1 0)), (54, (sl tInt f1.values)), (55, (.m [7] 0 us_27.length tInt.k)), (58, (.b 5 1)), (60, (intA k7))]) (σ' := [.box [(sl tRelation d0.relations), (sl tFact d0.facts)], .box [(intA f1.relation), (sl tInt f1.values)], .box [.n, .n], .row (flat tRelation.enc r_1.relations), .row (flat tFact.enc r_1.facts), .box [(.m [3] 0 r_1.relations.length tRelation.k), (.m [4] 0 r_1.facts.length tFact.k)], .dead, .row (flat tInt.enc us_27), .dead, .dead]) (Ghost.move 7 9 (by decide) (Nat.le_of_ble_eq_true rfl) rfl rfl (Nat.le_of_ble_eq_true rfl) (Ghost.weak (WeakL.to 10 (Nat.le_of_ble_eq_true rfl) rfl rfl rfl rfl ⟨leR rfl, leR rfl, leR rfl, leR rfl, leR rfl, leR rfl, leR rfl, leR rfl, trivial⟩))) ?_
              refine TA_all [1, 9] (by kernel_rfl) (by decide) ⟨?_, ?_, trivial⟩
              · skip
                refine ⟨_, rfl, rfl, (TOp_pure (pur_ld_b one3 rfl rfl rfl rfl) rfl ?_)⟩
                refine TA_listed #[true, true, true, true, true, true, false, false, true, false, true, false, false, false] rfl ?_
                refine TA_ghost (E' := [(4, (.b 2 0)), (6, (.b 5 0)), (7, (intA k7)), (51, (intA f1.relation)), (55, (.m [7] 0 us_27.length tInt.k)), (58, (.b 5 1)), (60, (intA k7))]) (σ' := [.box [(sl tRelation d0.relations), (sl tFact d0.facts)], .box [(intA f1.relation), (sl tInt f1.values)], .box [.n, .n], .row (flat tRelation.enc r_1.relations), .row (flat tFact.enc r_1.facts), .box [(.m [3] 0 r_1.relations.length tRelation.k), (.m [4] 0 r_1.facts.length tFact.k)], .dead, .row (flat tInt.enc us_27), .dead]) (Ghost.weak (WeakL.to 9 (Nat.le_of_ble_eq_true rfl) rfl rfl rfl rfl ⟨leR rfl, leR rfl, leR rfl, leR rfl, leR rfl, leR rfl, leR rfl, trivial⟩)) ?_
                exact hj8_7
              · skip
                refine ⟨_, rfl, rfl, (TOp_pure (pur_ld_b one30 rfl rfl rfl rfl) rfl ?_)⟩
                refine TA_listed #[true, false, true, true, true, true, false, false, true, true, true, false, false, false] rfl ?_
                refine TA_first 11 #[true, false, true, true, true, true, false, false, true, true, true, true, false, false] rfl (purI_cutM (lo := (some (.tmp 60))) (hi := none) sl30 rfl ⟨_, congrArg (fun z => A.v (.int .i64 z)) hi_33⟩ hj_34.symm hij_35 hjl_36 rfl) rfl rfl rfl (by kernel_rfl) (by kernel_rfl) (by kernel_rfl) ?_
                refine TA_ghost (E' := [(4, (.b 2 0)), (6, (.b 5 0)), (7, (intA k7)), (50, (.b 1 0)), (55, (.m [7] 0 us_27.length tInt.k)), (61, (.m [4] (i_31 * tFact.k) (j_32 - i_31) tFact.k))]) (σ' := [.box [(sl tRelation d0.relations), (sl tFact d0.facts)], .box [(intA f1.relation), (sl tInt f1.values)], .box [.n, .n], .row (flat tRelation.enc r_1.relations), .row (flat tFact.enc r_1.facts), .box [(.m [3] 0 r_1.relations.length tRelation.k), (.m [4] 0 r_1.facts.length tFact.k)], .dead, .row (flat tInt.enc us_27), .dead]) (Ghost.weak (WeakL.to 9 (Nat.le_of_ble_eq_true rfl) rfl rfl rfl rfl ⟨leR rfl, leR rfl, leR rfl, leR rfl, leR rfl, leR rfl, trivial⟩)) ?_
                exact hj3_7
            · skip
              refine ⟨_, rfl, rfl, (TOp_pure (pur_ld_b one30 rfl rfl rfl rfl) rfl ?_)⟩
              refine TA_listed #[true, false, true, true, true, false, false, false, true, true, true, false, false, false] rfl ?_
              refine TA_first 11 #[true, false, true, true, true, false, false, false, true, true, true, true, false, false] rfl (purI_cutM (lo := (some (.tmp 60))) (hi := none) sl30 rfl ⟨_, congrArg (fun z => A.v (.int .i64 z)) hi_33⟩ hj_34.symm hij_35 hjl_36 rfl) rfl rfl rfl (by kernel_rfl) (by kernel_rfl) (by kernel_rfl) ?_
              refine TA_ghost (E' := [(4, (.b 2 0)), (6, (.b 5 0)), (7, (intA k7)), (50, (.b 1 0)), (52, (.m [7] 0 ([] : (List Int)).length tInt.k)), (54, (sl tInt f1.values)), (61, (.m [4] (i_31 * tFact.k) (j_32 - i_31) tFact.k))]) (σ' := [.box [(sl tRelation d0.relations), (sl tFact d0.facts)], .box [(intA f1.relation), (sl tInt f1.values)], .box [.n, .n], .row (flat tRelation.enc r_1.relations), .row (flat tFact.enc r_1.facts), .box [(.m [3] 0 r_1.relations.length tRelation.k), (.m [4] 0 r_1.facts.length tFact.k)], .dead, .row (flat tInt.enc ([] : (List Int))), .dead]) (Ghost.weak (WeakL.to 9 (Nat.le_of_ble_eq_true rfl) rfl rfl rfl rfl ⟨leR rfl, leR rfl, leR rfl, leR rfl, leR rfl, leR rfl, leR rfl, trivial⟩)) ?_
              exact hj5_7
          refine TA_have 8 #[true, true, false, true, true, false, false, false, true, false, true, false, false, false] [(4, (.b 2 0)), (6, (.b 5 0)), (7, (intA k7)), (51, (intA f1.relation)), (54, (sl tInt f1.values)), (58, (.b 5 1)), (60, (intA k7))] [.box [(sl tRelation d0.relations), (sl tFact d0.facts)], .box [(intA f1.relation), (sl tInt f1.values)], .box [.n, .n], .row (flat tRelation.enc r_1.relations), .row (flat tFact.enc r_1.facts), .box [(.m [3] 0 r_1.relations.length tRelation.k), (.m [4] 0 r_1.facts.length tFact.k)], .dead, .dead, .dead] ?_ (fun hj14_7 => ?_)
          · skip
            refine TA_all [2, 9] (by kernel_rfl) (by decide) ⟨?_, ?_, trivial⟩
            · skip
              refine ⟨_, rfl, rfl, (TOp_lit (nn := 0) (k := 1) sl33 zero3 rfl rfl rfl rfl (by decide) ?_)⟩
              refine TA_listed #[true, true, true, true, true, false, false, false, true, false, true, false, false, false] rfl ?_
              refine TA_st (σ' := [.box [(sl tRelation d0.relations), (sl tFact d0.facts)], .box [(intA f1.relation), (sl tInt f1.values)], .box [.n, .n], .row (flat tRelation.enc r_1.relations), .row (flat tFact.enc r_1.facts), .box [(.m [3] 0 r_1.relations.length tRelation.k), (.m [4] 0 r_1.facts.length tFact.k)], .dead, .dead, .dead, .row (flat tInt.enc ([] : (List Int)))]) rfl ?_
              refine TA_ghost (E' := [(4, (.b 2 0)), (6, (.b 5 0)), (7, (intA k7)), (51, (intA f1.relation)), (52, (.m [7] 0 ([] : (List Int)).length tInt.k)), (54, (sl tInt f1.values)), (58, (.b 5 1)), (60, (intA k7))]) (σ' := [.box [(sl tRelation d0.relations), (sl tFact d0.facts)], .box [(intA f1.relation), (sl tInt f1.values)], .box [.n, .n], .row (flat tRelation.enc r_1.relations), .row (flat tFact.enc r_1.facts), .box [(.m [3] 0 r_1.relations.length tRelation.k), (.m [4] 0 r_1.facts.length tFact.k)], .dead, .row (flat tInt.enc ([] : (List Int))), .dead]) (Ghost.move 7 9 (by decide) (Nat.le_of_ble_eq_true rfl) rfl rfl (Nat.le_of_ble_eq_true rfl) (Ghost.weak (WeakL.to 9 (Nat.le_of_ble_eq_true rfl) rfl rfl rfl rfl ⟨leR rfl, leR rfl, leR rfl, leR rfl, leR rfl, leR rfl, leR rfl, leR rfl, trivial⟩))) ?_
              refine TA_ghost (E' := [(4, (.b 2 0)), (6, (.b 5 0)), (7, (intA k7)), (51, (intA f1.relation)), (52, (.m [7] 0 ([] : (List Int)).length tInt.k)), (54, (sl tInt f1.values)), (58, (.b 5 1)), (60, (intA k7))]) (σ' := [.box [(sl tRelation d0.relations), (sl tFact d0.facts)], .box [(intA f1.relation), (sl tInt f1.values)], .box [.n, .n], .row (flat tRelation.enc r_1.relations), .row (flat tFact.enc r_1.facts), .box [(.m [3] 0 r_1.relations.length tRelation.k), (.m [4] 0 r_1.facts.length tFact.k)], .dead, .row (flat tInt.enc ([] : (List Int))), .dead]) (Ghost.weak (WeakL.to 9 (Nat.le_of_ble_eq_true rfl) rfl rfl rfl rfl ⟨leR rfl, leR rfl, leR rfl, leR rfl, leR rfl, leR rfl, leR rfl, leR rfl, trivial⟩)) ?_
              exact hj12_7
            · skip
              refine ⟨_, rfl, rfl, (TOp_pure (pur_ld_b one30 rfl rfl rfl rfl) rfl ?_)⟩
              refine TA_listed #[true, true, false, true, true, false, false, false, true, true, true, false, false, false] rfl ?_
              refine TA_first 11 #[true, true, false, true, true, false, false, false, true, true, true, true, false, false] rfl (purI_cutM (lo := (some (.tmp 60))) (hi := none) sl30 rfl ⟨_, congrArg (fun z => A.v (.int .i64 z)) hi_33⟩ hj_34.symm hij_35 hjl_36 rfl) rfl rfl rfl (by kernel_rfl) (by kernel_rfl) (by kernel_rfl) ?_
              refine TA_ghost (E' := [(4, (.b 2 0)), (6, (.b 5 0)), (7, (intA k7)), (51, (intA f1.relation)), (54, (sl tInt f1.values)), (61, (.m [4] (i_31 * tFact.k) (j_32 - i_31) tFact.k))]) (σ' := [.box [(sl tRelation d0.relations), (sl tFact d0.facts)], .box [(intA f1.relation), (sl tInt f1.values)], .box [.n, .n], .row (flat tRelation.enc r_1.relations), .row (flat tFact.enc r_1.facts), .box [(.m [3] 0 r_1.relations.length tRelation.k), (.m [4] 0 r_1.facts.length tFact.k)], .dead, .dead, .dead]) (Ghost.weak (WeakL.to 9 (Nat.le_of_ble_eq_true rfl) rfl rfl rfl rfl ⟨leR rfl, leR rfl, leR rfl, leR rfl, leR rfl, leR rfl, trivial⟩)) ?_
              exact hj6_7
          refine TA_have 8 #[true, true, true, true, false, false, false, false, true, false, true, false, false, false] [(4, (.b 2 0)), (6, (.b 5 0)), (7, (intA k7)), (51, (intA f1.relation)), (52, (.m [7] 0 ([] : (List Int)).length tInt.k)), (53, (.b 1 1)), (58, (.b 5 1)), (60, (intA k7))] [.box [(sl tRelation d0.relations), (sl tFact d0.facts)], .box [(intA f1.relation), (sl tInt f1.values)], .box [.n, .n], .row (flat tRelation.enc r_1.relations), .row (flat tFact.enc r_1.facts), .box [(.m [3] 0 r_1.relations.length tRelation.k), (.m [4] 0 r_1.facts.length tFact.k)], .dead, .row (flat tInt.enc ([] : (List Int))), .dead] ?_ (fun hj15_7 => ?_)
          · skip
            refine TA_all [4, 9] (by kernel_rfl) (by decide) ⟨?_, ?_, trivial⟩
            · skip
              refine ⟨_, rfl, rfl, (TOp_pure (pur_ld_b one33 rfl rfl rfl rfl) rfl ?_)⟩
              refine TA_listed #[true, true, true, true, true, false, false, false, true, false, true, false, false, false] rfl ?_
              refine TA_ghost (E' := [(4, (.b 2 0)), (6, (.b 5 0)), (7, (intA k7)), (51, (intA f1.relation)), (52, (.m [7] 0 ([] : (List Int)).length tInt.k)), (54, (sl tInt f1.values)), (58, (.b 5 1)), (60, (intA k7))]) (σ' := [.box [(sl tRelation d0.relations), (sl tFact d0.facts)], .box [(intA f1.relation), (sl tInt f1.values)], .box [.n, .n], .row (flat tRelation.enc r_1.relations), .row (flat tFact.enc r_1.facts), .box [(.m [3] 0 r_1.relations.length tRelation.k), (.m [4] 0 r_1.facts.length tFact.k)], .dead, .row (flat tInt.enc ([] : (List Int))), .dead]) (Ghost.weak (WeakL.to 9 (Nat.le_of_ble_eq_true rfl) rfl rfl rfl rfl ⟨leR rfl, leR rfl, leR rfl, leR rfl, leR rfl, leR rfl, leR rfl, leR rfl, trivial⟩)) ?_
              exact hj12_7
            · skip
              refine ⟨_, rfl, rfl, (TOp_pure (pur_ld_b one30 rfl rfl rfl rfl) rfl ?_)⟩
              refine TA_listed #[true, true, true, true, false, false, false, false, true, true, true, false, false, false] rfl ?_
              refine TA_first 11 #[true, true, true, true, false, false, false, false, true, true, true, true, false, false] rfl (purI_cutM (lo := (some (.tmp 60))) (hi := none) sl30 rfl ⟨_, congrArg (fun z => A.v (.int .i64 z)) hi_33⟩ hj_34.symm hij_35 hjl_36 rfl) rfl rfl rfl (by kernel_rfl) (by kernel_rfl) (by kernel_rfl) ?_
              refine TA_ghost (E' := [(4, (.b 2 0)), (6, (.b 5 0)), (7, (intA k7)), (51, (intA f1.relation)), (52, (.m [7] 0 ([] : (List Int)).length tInt.k)), (53, (.b 1 1)), (61, (.m [4] (i_31 * tFact.k) (j_32 - i_31) tFact.k))]) (σ' := [.box [(sl tRelation d0.relations), (sl tFact d0.facts)], .box [(intA f1.relation), (sl tInt f1.values)], .box [.n, .n], .row (flat tRelation.enc r_1.relations), .row (flat tFact.enc r_1.facts), .box [(.m [3] 0 r_1.relations.length tRelation.k), (.m [4] 0 r_1.facts.length tFact.k)], .dead, .row (flat tInt.enc ([] : (List Int))), .dead]) (Ghost.weak (WeakL.to 9 (Nat.le_of_ble_eq_true rfl) rfl rfl rfl rfl ⟨leR rfl, leR rfl, leR rfl, leR rfl, leR rfl, leR rfl, leR rfl, trivial⟩)) ?_
              exact hj7_7
          refine TA_first 0 #[true, false, false, false, false, false, false, false, false, false, false, false, false, false] rfl (purI_fa_b fld60_0 rfl rfl) rfl rfl rfl (by kernel_rfl) (by kernel_rfl) (by kernel_rfl) ?_
          refine TA_first 3 #[true, false, false, true, false, false, false, false, false, false, false, false, false, false] rfl (purI_fa_b fld60_1 rfl rfl) rfl rfl rfl (by kernel_rfl) (by kernel_rfl) (by kernel_rfl) ?_
          refine TA_first 8 #[true, false, false, true, false, false, false, false, true, false, false, false, false, false] rfl (purI_fa_b fld32_1 rfl rfl) rfl rfl rfl (by kernel_rfl) (by kernel_rfl) (by kernel_rfl) ?_
          refine TA_first 10 #[true, false, false, true, false, false, false, false, true, false, true, false, false, false] rfl (purI_move rfl) rfl rfl rfl (by kernel_rfl) (by kernel_rfl) (by kernel_rfl) ?_
          refine TA_all [1, 2, 4, 9] (by kernel_rfl) (by decide) ⟨?_, ?_, ?_, ?_, trivial⟩
          · skip
            refine ⟨_, rfl, rfl, (TOp_pure (pur_ld_b one3 rfl rfl rfl rfl) rfl ?_)⟩
            refine TA_listed #[true, true, false, true, false, false, false, false, true, false, true, false, false, false] rfl ?_
            refine TA_all [2, 4, 9] (by kernel_rfl) (by decide) ⟨?_, ?_, ?_, trivial⟩
            · skip
              refine ⟨_, rfl, rfl, (TOp_lit (nn := 0) (k := 1) sl33 zero3 rfl rfl rfl rfl (by decide) ?_)⟩
              refine TA_listed #[true, true, true, true, false, false, false, false, true, false, true, false, false, false] rfl ?_
              refine TA_st (σ' := [.box [(sl tRelation d0.relations), (sl tFact d0.facts)], .box [(intA f1.relation), (sl tInt f1.values)], .box [.n, .n], .row (flat tRelation.enc r_1.relations), .row (flat tFact.enc r_1.facts), .box [(.m [3] 0 r_1.relations.length tRelation.k), (.m [4] 0 r_1.facts.length tFact.k)], .dead, .dead, .dead, .row (flat tInt.enc ([] : (List Int)))]) rfl ?_
              refine TA_ghost (E' := [(3, (.b 1 0)), (4, (.b 2 0)), (6, (.b 5 0)), (7, (intA k7)), (50, (.b 1 0)), (51, (intA f1.relation)), (52, (.m [7] 0 ([] : (List Int)).length tInt.k)), (53, (.b 1 1)), (58, (.b 5 1)), (60, (intA k7))]) (σ' := [.box [(sl tRelation d0.relations), (sl tFact d0.facts)], .box [(intA f1.relation), (sl tInt f1.values)], .box [.n, .n], .row (flat tRelation.enc r_1.relations), .row (flat tFact.enc r_1.facts), .box [(.m [3] 0 r_1.relations.length tRelation.k), (.m [4] 0 r_1.facts.length tFact.k)], .dead, .row (flat tInt.enc ([] : (List Int))), .dead]) (Ghost.move 7 9 (by decide) (Nat.le_of_ble_eq_true rfl) rfl rfl (Nat.le_of_ble_eq_true rfl) (Ghost.weak (WeakL.to 9 (Nat.le_of_ble_eq_true rfl) rfl rfl rfl rfl ⟨leR rfl, leR rfl, leR rfl, leR rfl, leR rfl, leR rfl, leR rfl, leR rfl, leR rfl, leR rfl, trivial⟩))) ?_
              refine TA_ghost (E' := [(4, (.b 2 0)), (6, (.b 5 0)), (7, (intA k7)), (51, (intA f1.relation)), (52, (.m [7] 0 ([] : (List Int)).length tInt.k)), (53, (.b 1 1)), (58, (.b 5 1)), (60, (intA k7))]) (σ' := [.box [(sl tRelation d0.relations), (sl tFact d0.facts)], .box [(intA f1.relation), (sl tInt f1.values)], .box [.n, .n], .row (flat tRelation.enc r_1.relations), .row (flat tFact.enc r_1.facts), .box [(.m [3] 0 r_1.relations.length tRelation.k), (.m [4] 0 r_1.facts.length tFact.k)], .dead, .row (flat tInt.enc ([] : (List Int))), .dead]) (Ghost.weak (WeakL.to 9 (Nat.le_of_ble_eq_true rfl) rfl rfl rfl rfl ⟨leR rfl, leR rfl, leR rfl, leR rfl, leR rfl, leR rfl, leR rfl, leR rfl, trivial⟩)) ?_
              exact hj15_7
            · skip
              refine ⟨_, rfl, rfl, (TOp_pure (pur_ld_b one33 rfl rfl rfl rfl) rfl ?_)⟩
              refine TA_listed #[true, true, false, true, true, false, false, false, true, false, true, false, false, false] rfl ?_
              refine TA_ghost (E' := [(4, (.b 2 0)), (6, (.b 5 0)), (7, (intA k7)), (51, (intA f1.relation)), (54, (sl tInt f1.values)), (58, (.b 5 1)), (60, (intA k7))]) (σ' := [.box [(sl tRelation d0.relations), (sl tFact d0.facts)], .box [(intA f1.relation), (sl tInt f1.values)], .box [.n, .n], .row (flat tRelation.enc r_1.relations), .row (flat tFact.enc r_1.facts), .box [(.m [3] 0 r_1.relations.length tRelation.k), (.m [4] 0 r_1.facts.length tFact.k)], .dead, .dead, .dead]) (Ghost.weak (WeakL.to 9 (Nat.le_of_ble_eq_true rfl) rfl rfl rfl rfl ⟨leR rfl, leR rfl, leR rfl, leR rfl, leR rfl, leR rfl, leR rfl, trivial⟩)) ?_
              exact hj14_7
            · skip
              refine ⟨_, rfl, rfl, (TOp_pure (pur_ld_b one30 rfl rfl rfl rfl) rfl ?_)⟩
              refine TA_listed #[true, true, false, true, false, false, false, false, true, true, true, false, false, false] rfl ?_
              refine TA_first 11 #[true, true, false, true, false, false, false, false, true, true, true, true, false, false] rfl (purI_cutM (lo := (some (.tmp 60))) (hi := none) sl30 rfl ⟨_, congrArg (fun z => A.v (.int .i64 z)) hi_33⟩ hj_34.symm hij_35 hjl_36 rfl) rfl rfl rfl (by kernel_rfl) (by kernel_rfl) (by kernel_rfl) ?_
              refine TA_env (E' := [(4, (.b 2 0)), (6, (.b 5 0)), (7, (intA k7)), (51, (intA f1.relation)), (53, (.b 1 1)), (61, (.m [4] (i_31 * tFact.k) (j_32 - i_31) tFact.k))]) ⟨rfl, rfl, rfl, rfl, rfl, rfl, trivial⟩ ?_
              refine TA_ghost (E' := [(4, (.b 2 0)), (6, (.b 5 0)), (7, (intA k7)), (51, (intA f1.relation)), (53, (.b 1 1)), (61, (.m [4] (i_31 * tFact.k) (j_32 - i_31) tFact.k))]) (σ' := [.box [(sl tRelation d0.relations), (sl tFact d0.facts)], .box [(intA f1.relation), (sl tInt f1.values)], .box [.n, .n], .row (flat tRelation.enc r_1.relations), .row (flat tFact.enc r_1.facts), .box [(.m [3] 0 r_1.relations.length tRelation.k), (.m [4] 0 r_1.facts.length tFact.k)], .dead, .dead, .dead]) (Ghost.weak (WeakL.to 9 (Nat.le_of_ble_eq_true rfl) rfl rfl rfl rfl ⟨leR rfl, leR rfl, leR rfl, leR rfl, leR rfl, leR rfl, trivial⟩)) ?_
              exact hj11_7
          · skip
            refine ⟨_, rfl, rfl, (TOp_lit (nn := 0) (k := 1) sl33 zero3 rfl rfl rfl rfl (by decide) ?_)⟩
            refine TA_listed #[true, false, true, true, false, false, false, false, true, false, true, false, false, false] rfl ?_
            refine TA_st (σ' := [.box [(sl tRelation d0.relations), (sl tFact d0.facts)], .box [(intA f1.relation), (sl tInt f1.values)], .box [.n, .n], .row (flat tRelation.enc r_1.relations), .row (flat tFact.enc r_1.facts), .box [(.m [3] 0 r_1.relations.length tRelation.k), (.m [4] 0 r_1.facts.length tFact.k)], .dead, .dead, .dead, .row (flat tInt.enc ([] : (List Int)))]) rfl ?_
            refine TA_ghost (E' := [(3, (.b 1 0)), (4, (.b 2 0)), (6, (.b 5 0)), (7, (intA k7)), (50, (.b 1 0)), (52, (.m [7] 0 ([] : (List Int)).length tInt.k)), (53, (.b 1 1)), (58, (.b 5 1)), (60, (intA k7))]) (σ' := [.box [(sl tRelation d0.relations), (sl tFact d0.facts)], .box [(intA f1.relation), (sl tInt f1.values)], .box [.n, .n], .row (flat tRelation.enc r_1.relations), .row (flat tFact.enc r_1.facts), .box [(.m [3] 0 r_1.relations.length tRelation.k), (.m [4] 0 r_1.facts.length tFact.k)], .dead, .row (flat tInt.enc ([] : (List Int))), .dead]) (Ghost.move 7 9 (by decide) (Nat.le_of_ble_eq_true rfl) rfl rfl (Nat.le_of_ble_eq_true rfl) (Ghost.weak (WeakL.to 9 (Nat.le_of_ble_eq_true rfl) rfl rfl rfl rfl ⟨leR rfl, leR rfl, leR rfl, leR rfl, leR rfl, leR rfl, leR rfl, leR rfl, leR rfl, trivial⟩))) ?_
            refine TA_all [1, 4, 9] (by kernel_rfl) (by decide) ⟨?_, ?_, ?_, trivial⟩
            · skip
              refine ⟨_, rfl, rfl, (TOp_pure (pur_ld_b one3 rfl rfl rfl rfl) rfl ?_)⟩
              refine TA_listed #[true, true, true, true, false, false, false, false, true, false, true, false, false, false] rfl ?_
              refine TA_ghost (E' := [(4, (.b 2 0)), (6, (.b 5 0)), (7, (intA k7)), (51, (intA f1.relation)), (52, (.m [7] 0 ([] : (List Int)).length tInt.k)), (53, (.b 1 1)), (58, (.b 5 1)), (60, (intA k7))]) (σ' := [.box [(sl tRelation d0.relations), (sl tFact d0.facts)], .box [(intA f1.relation), (sl tInt f1.values)], .box [.n, .n], .row (flat tRelation.enc r_1.relations), .row (flat tFact.enc r_1.facts), .box [(.m [3] 0 r_1.relations.length tRelation.k), (.m [4] 0 r_1.facts.length tFact.k)], .dead, .row (flat tInt.enc ([] : (List Int))), .dead]) (Ghost.weak (WeakL.to 9 (Nat.le_of_ble_eq_true rfl) rfl rfl rfl rfl ⟨leR rfl, leR rfl, leR rfl, leR rfl, leR rfl, leR rfl, leR rfl, leR rfl, trivial⟩)) ?_
              exact hj15_7
            · skip
              refine ⟨_, rfl, rfl, (TOp_pure (pur_ld_b one33 rfl rfl rfl rfl) rfl ?_)⟩
              refine TA_listed #[true, false, true, true, true, false, false, false, true, false, true, false, false, false] rfl ?_
              refine TA_ghost (E' := [(4, (.b 2 0)), (6, (.b 5 0)), (7, (intA k7)), (50, (.b 1 0)), (52, (.m [7] 0 ([] : (List Int)).length tInt.k)), (54, (sl tInt f1.values)), (58, (.b 5 1)), (60, (intA k7))]) (σ' := [.box [(sl tRelation d0.relations), (sl tFact d0.facts)], .box [(intA f1.relation), (sl tInt f1.values)], .box [.n, .n], .row (flat tRelation.enc r_1.relations), .row (flat tFact.enc r_1.facts), .box [(.m [3] 0 r_1.relations.length tRelation.k), (.m [4] 0 r_1.facts.length tFact.k)], .dead, .row (flat tInt.enc ([] : (List Int))), .dead]) (Ghost.weak (WeakL.to 9 (Nat.le_of_ble_eq_true rfl) rfl rfl rfl rfl ⟨leR rfl, leR rfl, leR rfl, leR rfl, leR rfl, leR rfl, leR rfl, leR rfl, trivial⟩)) ?_
              exact hj13_7
            · skip
              refine ⟨_, rfl, rfl, (TOp_pure (pur_ld_b one30 rfl rfl rfl rfl) rfl ?_)⟩
              refine TA_listed #[true, false, true, true, false, false, false, false, true, true, true, false, false, false] rfl ?_
              refine TA_first 11 #[true, false, true, true, false, false, false, false, true, true, true, true, false, false] rfl (purI_cutM (lo := (some (.tmp 60))) (hi := none) sl30 rfl ⟨_, congrArg (fun z => A.v (.int .i64 z)) hi_33⟩ hj_34.symm hij_35 hjl_36 rfl) rfl rfl rfl (by kernel_rfl) (by kernel_rfl) (by kernel_rfl) ?_
              refine TA_env (E' := [(4, (.b 2 0)), (6, (.b 5 0)), (7, (intA k7)), (50, (.b 1 0)), (52, (.m [7] 0 ([] : (List Int)).length tInt.k)), (53, (.b 1 1)), (61, (.m [4] (i_31 * tFact.k) (j_32 - i_31) tFact.k))]) ⟨rfl, rfl, rfl, rfl, rfl, rfl, rfl, trivial⟩ ?_
              refine TA_ghost (E' := [(4, (.b 2 0)), (6, (.b 5 0)), (7, (intA k7)), (50, (.b 1 0)), (52, (.m [7] 0 ([] : (List Int)).length tInt.k)), (53, (.b 1 1)), (61, (.m [4] (i_31 * tFact.k) (j_32 - i_31) tFact.k))]) (σ' := [.box [(sl tRelation d0.relations), (sl tFact d0.facts)], .box [(intA f1.relation), (sl tInt f1.values)], .box [.n, .n], .row (flat tRelation.enc r_1.relations), .row (flat tFact.enc r_1.facts), .box [(.m [3] 0 r_1.relations.length tRelation.k), (.m [4] 0 r_1.facts.length tFact.k)], .dead, .row (flat tInt.enc ([] : (List Int))), .dead]) (Ghost.weak (WeakL.to 9 (Nat.le_of_ble_eq_true rfl) rfl rfl rfl rfl ⟨leR rfl, leR rfl, leR rfl, leR rfl, leR rfl, leR rfl, leR rfl, trivial⟩)) ?_
              exact hj10_7
          · skip
            refine ⟨_, rfl, rfl, (TOp_pure (pur_ld_b one33 rfl rfl rfl rfl) rfl ?_)⟩
            refine TA_listed #[true, false, false, true, true, false, false, false, true, false, true, false, false, false] rfl ?_
            refine TA_all [1, 2, 9] (by kernel_rfl) (by decide) ⟨?_, ?_, ?_, trivial⟩
            · skip
              refine ⟨_, rfl, rfl, (TOp_pure (pur_ld_b one3 rfl rfl rfl rfl) rfl ?_)⟩
              refine TA_listed #[true, true, false, true, true, false, false, false, true, false, true, false, false, false] rfl ?_
              refine TA_ghost (E' := [(4, (.b 2 0)), (6, (.b 5 0)), (7, (intA k7)), (51, (intA f1.relation)), (54, (sl tInt f1.values)), (58, (.b 5 1)), (60, (intA k7))]) (σ' := [.box [(sl tRelation d0.relations), (sl tFact d0.facts)], .box [(intA f1.relation), (sl tInt f1.values)], .box [.n, .n], .row (flat tRelation.enc r_1.relations), .row (flat tFact.enc r_1.facts), .box [(.m [3] 0 r_1.relations.length tRelation.k), (.m [4] 0 r_1.facts.length tFact.k)], .dead, .dead, .dead]) (Ghost.weak (WeakL.to 9 (Nat.le_of_ble_eq_true rfl) rfl rfl rfl rfl ⟨leR rfl, leR rfl, leR rfl, leR rfl, leR rfl, leR rfl, leR rfl, trivial⟩)) ?_
              exact hj14_7
            · skip
              refine ⟨_, rfl, rfl, (TOp_lit (nn := 0) (k := 1) sl33 zero3 rfl rfl rfl rfl (by decide) ?_)⟩
              refine TA_listed #[true, false, true, true, true, false, false, false, true, false, true, false, false, false] rfl ?_
              refine TA_st (σ' := [.box [(sl tRelation d0.relations), (sl tFact d0.facts)], .box [(intA f1.relation), (sl tInt f1.values)], .box [.n, .n], .row (flat tRelation.enc r_1.relations), .row (flat tFact.enc r_1.facts), .box [(.m [3] 0 r_1.relations.length tRelation.k), (.m [4] 0 r_1.facts.length tFact.k)], .dead, .dead, .dead, .row (flat tInt.enc ([] : (List Int)))]) rfl ?_
              refine TA_ghost (E' := [(3, (.b 1 0)), (4, (.b 2 0)), (6, (.b 5 0)), (7, (intA k7)), (50, (.b 1 0)), (52, (.m [7] 0 ([] : (List Int)).length tInt.k)), (53, (.b 1 1)), (54, (sl tInt f1.values)), (58, (.b 5 1)), (60, (intA k7))]) (σ' := [.box [(sl tRelation d0.relations), (sl tFact d0.facts)], .box [(intA f1.relation), (sl tInt f1.values)], .box [.n, .n], .row (flat tRelation.enc r_1.relations), .row (flat tFact.enc r_1.facts), .box [(.m [3] 0 r_1.relations.length tRelation.k), (.m [4] 0 r_1.facts.length tFact.k)], .dead, .row (flat tInt.enc ([] : (List Int))), .dead]) (Ghost.move 7 9 (by decide) (Nat.le_of_ble_eq_true rfl) rfl rfl (Nat.le_of_ble_eq_true rfl) (Ghost.weak (WeakL.to 9 (Nat.le_of_ble_eq_true rfl) rfl rfl rfl rfl ⟨leR rfl, leR rfl, leR rfl, leR rfl, leR rfl, leR rfl, leR rfl, leR rfl, leR rfl, leR rfl, trivial⟩))) ?_
              refine TA_ghost (E' := [(4, (.b 2 0)), (6, (.b 5 0)), (7, (intA k7)), (50, (.b 1 0)), (52, (.m [7] 0 ([] : (List Int)).length tInt.k)), (54, (sl tInt f1.values)), (58, (.b 5 1)), (60, (intA k7))]) (σ' := [.box [(sl tRelation d0.relations), (sl tFact d0.facts)], .box [(intA f1.relation), (sl tInt f1.values)], .box [.n, .n], .row (flat tRelation.enc r_1.relations), .row (flat tFact.enc r_1.facts), .box [(.m [3] 0 r_1.relations.length tRelation.k), (.m [4] 0 r_1.facts.length tFact.k)], .dead, .row (flat tInt.enc ([] : (List Int))), .dead]) (Ghost.weak (WeakL.to 9 (Nat.le_of_ble_eq_true rfl) rfl rfl rfl rfl ⟨leR rfl, leR rfl, leR rfl, leR rfl, leR rfl, leR rfl, leR rfl, leR rfl, trivial⟩)) ?_
              exact hj13_7
            · skip
              refine ⟨_, rfl, rfl, (TOp_pure (pur_ld_b one30 rfl rfl rfl rfl) rfl ?_)⟩
              refine TA_listed #[true, false, false, true, true, false, false, false, true, true, true, false, false, false] rfl ?_
              refine TA_first 11 #[true, false, false, true, true, false, false, false, true, true, true, true, false, false] rfl (purI_cutM (lo := (some (.tmp 60))) (hi := none) sl30 rfl ⟨_, congrArg (fun z => A.v (.int .i64 z)) hi_33⟩ hj_34.symm hij_35 hjl_36 rfl) rfl rfl rfl (by kernel_rfl) (by kernel_rfl) (by kernel_rfl) ?_
              refine TA_env (E' := [(4, (.b 2 0)), (6, (.b 5 0)), (7, (intA k7)), (50, (.b 1 0)), (54, (sl tInt f1.values)), (61, (.m [4] (i_31 * tFact.k) (j_32 - i_31) tFact.k))]) ⟨rfl, rfl, rfl, rfl, rfl, rfl, trivial⟩ ?_
              refine TA_ghost (E' := [(4, (.b 2 0)), (6, (.b 5 0)), (7, (intA k7)), (50, (.b 1 0)), (54, (sl tInt f1.values)), (61, (.m [4] (i_31 * tFact.k) (j_32 - i_31) tFact.k))]) (σ' := [.box [(sl tRelation d0.relations), (sl tFact d0.facts)], .box [(intA f1.relation), (sl tInt f1.values)], .box [.n, .n], .row (flat tRelation.enc r_1.relations), .row (flat tFact.enc r_1.facts), .box [(.m [3] 0 r_1.relations.length tRelation.k), (.m [4] 0 r_1.facts.length tFact.k)], .dead, .dead, .dead]) (Ghost.weak (WeakL.to 9 (Nat.le_of_ble_eq_true rfl) rfl rfl rfl rfl ⟨leR rfl, leR rfl, leR rfl, leR rfl, leR rfl, leR rfl, trivial⟩)) ?_
              exact hj9_7
          · skip
            refine ⟨_, rfl, rfl, (TOp_pure (pur_ld_b one30 rfl rfl rfl rfl) rfl ?_)⟩
            refine TA_listed #[true, false, false, true, false, false, false, false, true, true, true, false, false, false] rfl ?_
            refine TA_first 11 #[true, false, false, true, false, false, false, false, true, true, true, true, false, false] rfl (purI_cutM (lo := (some (.tmp 60))) (hi := none) sl30 rfl ⟨_, congrArg (fun z => A.v (.int .i64 z)) hi_33⟩ hj_34.symm hij_35 hjl_36 rfl) rfl rfl rfl (by kernel_rfl) (by kernel_rfl) (by kernel_rfl) ?_
            refine TA_env (E' := [(4, (.b 2 0)), (6, (.b 5 0)), (7, (intA k7)), (50, (.b 1 0)), (53, (.b 1 1)), (61, (.m [4] (i_31 * tFact.k) (j_32 - i_31) tFact.k))]) ⟨rfl, rfl, rfl, rfl, rfl, rfl, trivial⟩ ?_
            refine TA_all [1, 2, 4] (by kernel_rfl) (by decide) ⟨?_, ?_, ?_, trivial⟩
            · skip
              refine ⟨_, rfl, rfl, (TOp_pure (pur_ld_b one3 rfl rfl rfl rfl) rfl ?_)⟩
              refine TA_listed #[true, true, false, true, false, false, false, false, true, true, true, true, false, false] rfl ?_
              refine TA_ghost (E' := [(4, (.b 2 0)), (6, (.b 5 0)), (7, (intA k7)), (51, (intA f1.relation)), (53, (.b 1 1)), (61, (.m [4] (i_31 * tFact.k) (j_32 - i_31) tFact.k))]) (σ' := [.box [(sl tRelation d0.relations), (sl tFact d0.facts)], .box [(intA f1.relation), (sl tInt f1.values)], .box [.n, .n], .row (flat tRelation.enc r_1.relations), .row (flat tFact.enc r_1.facts), .box [(.m [3] 0 r_1.relations.length tRelation.k), (.m [4] 0 r_1.facts.length tFact.k)], .dead, .dead, .dead]) (Ghost.weak (WeakL.to 9 (Nat.le_of_ble_eq_true rfl) rfl rfl rfl rfl ⟨leR rfl, leR rfl, leR rfl, leR rfl, leR rfl, leR rfl, trivial⟩)) ?_
              exact hj11_7
            · skip
              refine ⟨_, rfl, rfl, (TOp_lit (nn := 0) (k := 1) sl33 zero3 rfl rfl rfl rfl (by decide) ?_)⟩
              refine TA_listed #[true, false, true, true, false, false, false, false, true, true, true, true, false, false] rfl ?_
              refine TA_st (σ' := [.box [(sl tRelation d0.relations), (sl tFact d0.facts)], .box [(intA f1.relation), (sl tInt f1.values)], .box [.n, .n], .row (flat tRelation.enc r_1.relations), .row (flat tFact.enc r_1.facts), .box [(.m [3] 0 r_1.relations.length tRelation.k), (.m [4] 0 r_1.facts.length tFact.k)], .dead, .dead, .dead, .row (flat tInt.enc ([] : (List Int)))]) rfl ?_
              refine TA_ghost (E' := [(4, (.b 2 0)), (6, (.b 5 0)), (7, (intA k7)), (50, (.b 1 0)), (52, (.m [7] 0 ([] : (List Int)).length tInt.k)), (53, (.b 1 1)), (61, (.m [4] (i_31 * tFact.k) (j_32 - i_31) tFact.k))]) (σ' := [.box [(sl tRelation d0.relations), (sl tFact d0.facts)], .box [(intA f1.relation), (sl tInt f1.values)], .box [.n, .n], .row (flat tRelation.enc r_1.relations), .row (flat tFact.enc r_1.facts), .box [(.m [3] 0 r_1.relations.length tRelation.k), (.m [4] 0 r_1.facts.length tFact.k)], .dead, .row (flat tInt.enc ([] : (List Int))), .dead]) (Ghost.move 7 9 (by decide) (Nat.le_of_ble_eq_true rfl) rfl rfl (Nat.le_of_ble_eq_true rfl) (Ghost.weak (WeakL.to 9 (Nat.le_of_ble_eq_true rfl) rfl rfl rfl rfl ⟨leR rfl, leR rfl, leR rfl, leR rfl, leR rfl, leR rfl, leR rfl, trivial⟩))) ?_
              refine TA_ghost (E' := [(4, (.b 2 0)), (6, (.b 5 0)), (7, (intA k7)), (50, (.b 1 0)), (52, (.m [7] 0 ([] : (List Int)).length tInt.k)), (53, (.b 1 1)), (61, (.m [4] (i_31 * tFact.k) (j_32 - i_31) tFact.k))]) (σ' := [.box [(sl tRelation d0.relations), (sl tFact d0.facts)], .box [(intA f1.relation), (sl tInt f1.values)], .box [.n, .n], .row (flat tRelation.enc r_1.relations), .row (flat tFact.enc r_1.facts), .box [(.m [3] 0 r_1.relations.length tRelation.k), (.m [4] 0 r_1.facts.length tFact.k)], .dead, .row (flat tInt.enc ([] : (List Int))), .dead]) (Ghost.weak (WeakL.to 9 (Nat.le_of_ble_eq_true rfl) rfl rfl rfl rfl ⟨leR rfl, leR rfl, leR rfl, leR rfl, leR rfl, leR rfl, leR rfl, trivial⟩)) ?_
              exact hj10_7
            · skip
              refine ⟨_, rfl, rfl, (TOp_pure (pur_ld_b one33 rfl rfl rfl rfl) rfl ?_)⟩
              refine TA_listed #[true, false, false, true, true, false, false, false, true, true, true, true, false, false] rfl ?_
              refine TA_ghost (E' := [(4, (.b 2 0)), (6, (.b 5 0)), (7, (intA k7)), (50, (.b 1 0)), (54, (sl tInt f1.values)), (61, (.m [4] (i_31 * tFact.k) (j_32 - i_31) tFact.k))]) (σ' := [.box [(sl tRelation d0.relations), (sl tFact d0.facts)], .box [(intA f1.relation), (sl tInt f1.values)], .box [.n, .n], .row (flat tRelation.enc r_1.relations), .row (flat tFact.enc r_1.facts), .box [(.m [3] 0 r_1.relations.length tRelation.k), (.m [4] 0 r_1.facts.length tFact.k)], .dead, .dead, .dead]) (Ghost.weak (WeakL.to 9 (Nat.le_of_ble_eq_true rfl) rfl rfl rfl rfl ⟨leR rfl, leR rfl, leR rfl, leR rfl, leR rfl, leR rfl, trivial⟩)) ?_
              exact hj9_7
        · rintro _ _
          refine T_env (E' := [(4, (.b 2 0)), (6, (.b 5 0)), (7, (intA k7)), (8, (.m [6] 0 us_38.length tFact.k))]) ⟨rfl, rfl, rfl, rfl, trivial⟩ ?_
          refine T_seq ?_
          refine T_region ?_
          refine TO_cons rfl (TOp_lit (nn := 0) (k := 2) sl30 zero60 rfl rfl rfl rfl (by decide) ?_)
          refine TO_st (σ' := [.box [(sl tRelation d0.relations), (sl tFact d0.facts)], .box [(intA f1.relation), (sl tInt f1.values)], .box [.n, .n], .row (flat tRelation.enc r_1.relations), .row (flat tFact.enc r_1.facts), .box [(.m [3] 0 r_1.relations.length tRelation.k), (.m [4] 0 r_1.facts.length tFact.k)], .row (flat tFact.enc us_38), .row (flat tFact.enc ([] : (List Fact)))]) rfl ?_
          refine TO_cons rfl (TOp_pure (pur_fa_b fld32_1 rfl rfl) rfl ?_)
          refine TO_cons rfl (TOp_pure (pur_ld_b one30 rfl rfl rfl rfl) rfl ?_)
          refine TO_cons rfl (TOp_pure (pur_move rfl) rfl ?_)
          obtain ⟨ys_40, h_41, H⟩ := bind_inv H
          obtain ⟨i_42, j_43, hi_44, hj_45, hij_46, hjl_47, hys_48, _⟩ := cutI_inv h_41
          refine TO_cons rfl (TOp_pure (pur_cutM (lo := none) (hi := (some (.tmp 66))) sl30 rfl hi_44.symm ⟨_, congrArg (fun z => A.v (.int .i64 z)) hj_45⟩ hij_46 hjl_47 rfl) rfl ?_)
          obtain ⟨us_49, h_50, H⟩ := bind_inv H
          refine TO_cons rfl (TOp_appZ (T := tFact) (f := tFact.enc) (xs := ([] : (List Fact))) (ys := ys_40) tFact.len sl30 zero60 rfl bytes60 (by decide) rfl rfl rfl rfl (src_cut (T := tFact) (xs := r_1.facts) (i := i_42) (j := j_43) rfl rfl hij_46 hjl_47 hys_48) (flat_cell tFact _) h_50 (Nat.le_of_ble_eq_true rfl) ?_)
          refine TO_env (E' := [(4, (.b 2 0)), (6, (.b 5 0)), (7, (intA k7)), (8, (.m [6] 0 us_38.length tFact.k)), (64, (.b 5 1)), (65, (.m [4] 0 r_1.facts.length tFact.k)), (66, (intA k7)), (67, (.m [4] (i_42 * tFact.k) (j_43 - i_42) tFact.k)), (68, (.m [7] 0 us_49.length tFact.k))]) ⟨rfl, rfl, rfl, rfl, rfl, rfl, rfl, rfl, rfl, trivial⟩ ?_
          refine TO_st (σ' := [.box [(sl tRelation d0.relations), (sl tFact d0.facts)], .box [(intA f1.relation), (sl tInt f1.values)], .box [.n, .n], .row (flat tRelation.enc r_1.relations), .row (flat tFact.enc r_1.facts), .box [(.m [3] 0 r_1.relations.length tRelation.k), (.m [4] 0 r_1.facts.length tFact.k)], .row (flat tFact.enc us_38), .row (flat tFact.enc us_49), .dead]) rfl ?_
          refine TO_cons rfl (TOp_pure (pur_move rfl) rfl ?_)
          obtain ⟨us_51, h_52, H⟩ := bind_inv H
          refine TO_cons rfl (TOp_appZ (T := tFact) (f := tFact.enc) (xs := us_49) (ys := us_38) tFact.len sl30 zero60 rfl bytes60 (by decide) rfl rfl rfl rfl (src_mT (f := tFact.enc) tFact.len rfl rfl (flat_cell tFact _)) (flat_cell tFact _) h_52 (Nat.le_of_ble_eq_true rfl) ?_)
          refine TO_env (E' := [(4, (.b 2 0)), (6, (.b 5 0)), (7, (intA k7)), (8, (.m [6] 0 us_38.length tFact.k)), (64, (.b 5 1)), (65, (.m [4] 0 r_1.facts.length tFact.k)), (66, (intA k7)), (67, (.m [4] (i_42 * tFact.k) (j_43 - i_42) tFact.k)), (69, (.m [6] 0 us_38.length tFact.k)), (70, (.m [7] 0 us_51.length tFact.k))]) ⟨rfl, rfl, rfl, rfl, rfl, rfl, rfl, rfl, rfl, rfl, trivial⟩ ?_
          refine TO_st (σ' := [.box [(sl tRelation d0.relations), (sl tFact d0.facts)], .box [(intA f1.relation), (sl tInt f1.values)], .box [.n, .n], .row (flat tRelation.enc r_1.relations), .row (flat tFact.enc r_1.facts), .box [(.m [3] 0 r_1.relations.length tRelation.k), (.m [4] 0 r_1.facts.length tFact.k)], .row (flat tFact.enc us_38), .row (flat tFact.enc us_51), .dead, .dead]) rfl ?_
          refine TO_cons rfl (TOp_pure (pur_fa_b fld32_1 rfl rfl) rfl ?_)
          refine TO_cons rfl (TOp_storeB sz30 rfl rfl rfl rfl rfl rfl rfl (by decide) (Nat.le_of_ble_eq_true rfl) rfl ?_)
          refine TO_st (σ' := [.box [(sl tRelation d0.relations), (sl tFact d0.facts)], .box [(intA f1.relation), (sl tInt f1.values)], .box [.n, .n], .row (flat tRelation.enc r_1.relations), .row (flat tFact.enc r_1.facts), .box [(.m [3] 0 r_1.relations.length tRelation.k), (.m [7] 0 us_51.length tFact.k)], .row (flat tFact.enc us_38), .row (flat tFact.enc us_51), .dead, .dead]) rfl ?_
          refine TO_nil ?_
          refine T_env (E' := [(4, (.b 2 0)), (6, (.b 5 0))]) ⟨rfl, rfl, trivial⟩ ?_
          refine T_seq ?_
          refine T_region ?_
          refine TO_cons rfl (TOp_pure (pur_ldK_b agg32 rfl rfl (Nat.le_of_ble_eq_true rfl) rfl) rfl ?_)
          refine TO_cons rfl (TOp_storeB sz32 rfl rfl rfl rfl rfl rfl rfl (by decide) (Nat.le_of_ble_eq_true rfl) rfl ?_)
          refine TO_st (σ' := [.box [(sl tRelation d0.relations), (sl tFact d0.facts)], .box [(intA f1.relation), (sl tInt f1.values)], .box [(.m [3] 0 r_1.relations.length tRelation.k), (.m [7] 0 us_51.length tFact.k)], .row (flat tRelation.enc r_1.relations), .row (flat tFact.enc r_1.facts), .box [(.m [3] 0 r_1.relations.length tRelation.k), (.m [7] 0 us_51.length tFact.k)], .row (flat tFact.enc us_38), .row (flat tFact.enc us_51), .dead, .dead]) rfl ?_
          refine TO_cons rfl (TOp_pure (pur_assign rfl) rfl ?_)
          refine TO_nil ?_
          refine T_env (E' := [(4, (.b 2 0)), (5, (boolA true))]) ⟨rfl, rfl, trivial⟩ ?_
          refine T_ret ?_
          obtain rfl := some_inj H
          exact end_pick (.cellK rfl agg32 rfl (Nat.le_of_ble_eq_true rfl) (.tmp .nil)) rfl [3, 7] (by decide) rfl rfl rfl rfl rfl rfl
theorem m_spec_InsertFact_ok (u : Nat) (d0 : Database) (f1 : Fact) (r : (Database × Bool)) (H : m_spec_InsertFact u d0 f1 = some r) : FnV prg 127 [(.g (tDatabase.enc d0)), (.g (tFact.enc f1))] (.t [(.g (tDatabase.enc r.1)), (boolA r.2)]) := (m_spec_InsertFact_own u d0 f1 r H).frz (frzOK_t (frz_cons (frzOK_g (frz_cons (frzTE (T := tRelation) rfl) (frz_cons (frzTE (T := tFact) rfl) frz_nil)).1 (frz_cons (frzTE (T := tRelation) rfl) (frz_cons (frzTE (T := tFact) rfl) frz_nil)).2) (frz_cons (frz_loose rfl) frz_nil)).1 (frz_cons (frzOK_g (frz_cons (frzTE (T := tRelation) rfl) (frz_cons (frzTE (T := tFact) rfl) frz_nil)).1 (frz_cons (frzTE (T := tRelation) rfl) (frz_cons (frzTE (T := tFact) rfl) frz_nil)).2) (frz_cons (frz_loose rfl) frz_nil)).2)
end Go.Proofs.Ytlcpdlngbofgcaa

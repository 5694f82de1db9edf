/- Walks. -/
import Derived.Test.YtlcpdlngbofgcaaM1
import Derived.Test.YtlcpdlngbofgcaaM4
import Derived.Test.YtlcpdlngbofgcaaM7
import Derived.Test.YtlcpdlngbofgcaaM8
import Derived.Test.YtlcpdlngbofgcaaM9
set_option linter.unusedVariables false
set_option linter.unusedSimpArgs false
set_option maxRecDepth 4000
namespace Go.Proofs.Ytlcpdlngbofgcaa
open Go Go.Proofs Go.Sep
set_option maxHeartbeats 1000000 in
/-- laws.FnExactColumnSum -/
theorem m_laws_FnExactColumnSum_ok (u : Nat) (aDb0 : Database) (aIndices1 : (List Int)) (aRelation2 : Int) (aColumn3 : Int) (r : Bool) (H : m_laws_FnExactColumnSum u aDb0 aIndices1 aRelation2 aColumn3 = some r) : FnV prg 5 [(.g (tDatabase.enc aDb0)), (sl tInt aIndices1), (intA aRelation2), (intA aColumn3)] (boolA r) := by
  unfold m_laws_FnExactColumnSum at H
  refine fnV_of_T Try.func5 rfl rfl (Nat.le_of_ble_eq_true rfl) ?_
  refine T_env (E' := [(0, (.g (tDatabase.enc aDb0))), (1, (sl tInt aIndices1)), (2, (intA aRelation2)), (3, (intA aColumn3))]) ⟨rfl, rfl, rfl, rfl, trivial⟩ ?_
  refine T_seq ?_
  refine T_region ?_
  refine TO_cons rfl (TOp_box rfl (boxAll rfl) rfl rfl ?_)
  refine TO_cons rfl (TOp_pure (pur_assign rfl) rfl ?_)
  refine TO_nil ?_
  refine T_env (E' := [(1, (sl tInt aIndices1)), (2, (intA aRelation2)), (3, (intA aColumn3)), (4, (.b 0 0))]) ⟨rfl, rfl, rfl, rfl, trivial⟩ ?_
  refine T_seq ?_
  refine T_seq ?_
  refine T_region ?_
  refine TO_cons rfl (TOp_pure (pur_move rfl) rfl ?_)
  refine TO_cons rfl (TOp_pure (pur_lenT (T := tInt) sl33 rfl rfl) rfl ?_)
  refine TO_cons rfl (TOp_pure (pur_gtr rfl rfl rfl) rfl ?_)
  refine TO_nil ?_
  refine T_env (E' := [(1, (sl tInt aIndices1)), (2, (intA aRelation2)), (3, (intA aColumn3)), (4, (.b 0 0)), (16, (boolA (decide (1048576 < (aIndices1.length : Int)))))]) ⟨rfl, rfl, rfl, rfl, rfl, trivial⟩ ?_
  refine T_cond (t := decide (1048576 < (aIndices1.length : Int))) rfl (fun c_1 => ?_) (fun c_1 => ?_)
  · replace H := cond_t c_1 H
    refine T_seq ?_
    refine T_region ?_
    refine TO_cons rfl (TOp_pure (pur_assign rfl) rfl ?_)
    refine TO_nil ?_
    refine T_env (E' := [(8, (boolA true))]) ⟨rfl, trivial⟩ ?_
    refine T_ret ?_
    refine then_ret ?_
    obtain rfl := some_inj H
    refine end_ret (.tmp .nil) rfl rfl ⟨?_, rfl⟩
    rfl
  · replace H := cond_f c_1 H
    refine T_skip ?_
    refine T_env (E' := [(1, (sl tInt aIndices1)), (2, (intA aRelation2)), (3, (intA aColumn3)), (4, (.b 0 0))]) ⟨rfl, rfl, rfl, rfl, trivial⟩ ?_
    refine T_seq ?_
    refine T_region ?_
    refine TO_cons rfl (TOp_pure (pur_assign rfl) rfl ?_)
    refine TO_nil ?_
    refine T_env (E' := [(1, (sl tInt aIndices1)), (2, (intA aRelation2)), (3, (intA aColumn3)), (4, (.b 0 0)), (9, (intA 1048576))]) ⟨rfl, rfl, rfl, rfl, rfl, trivial⟩ ?_
    refine T_seq ?_
    refine T_region ?_
    refine TO_cons rfl (TOp_pure (pur_ldK_b agg41 rfl rfl (Nat.le_of_ble_eq_true rfl) rfl) rfl ?_)
    refine TO_cons rfl (TOp_pure (pur_move rfl) rfl ?_)
    obtain ⟨r_2, h_3, H⟩ := bind_inv H
    refine TO_cons rfl (TOp_callV (call_static ent26 rfl) (m_laws_szDatabase_ok _ _ _ h_3) rfl rfl rfl ?_)
    refine TO_cons rfl (TOp_pure (pur_assign rfl) rfl ?_)
    refine TO_nil ?_
    refine T_env (E' := [(1, (sl tInt aIndices1)), (2, (intA aRelation2)), (3, (intA aColumn3)), (4, (.b 0 0)), (9, (intA r_2))]) ⟨rfl, rfl, rfl, rfl, rfl, trivial⟩ ?_
    refine T_seq ?_
    refine T_seq ?_
    refine T_region ?_
    refine TO_cons rfl (TOp_pure (pur_move rfl) rfl ?_)
    refine TO_cons rfl (TOp_pure (pur_lss rfl rfl rfl) rfl ?_)
    refine TO_nil ?_
    refine T_env (E' := [(1, (sl tInt aIndices1)), (2, (intA aRelation2)), (3, (intA aColumn3)), (4, (.b 0 0)), (21, (boolA (decide (r_2 < 0))))]) ⟨rfl, rfl, rfl, rfl, rfl, trivial⟩ ?_
    refine T_cond (t := decide (r_2 < 0)) rfl (fun c_4 => ?_) (fun c_4 => ?_)
    · replace H := cond_t c_4 H
      refine T_seq ?_
      refine T_region ?_
      refine TO_cons rfl (TOp_pure (pur_assign rfl) rfl ?_)
      refine TO_nil ?_
      refine T_env (E' := [(8, (boolA true))]) ⟨rfl, trivial⟩ ?_
      refine T_ret ?_
      refine then_ret ?_
      obtain rfl := some_inj H
      refine end_ret (.tmp .nil) rfl rfl ⟨?_, rfl⟩
      rfl
    · replace H := cond_f c_4 H
      refine T_skip ?_
      refine T_env (E' := [(1, (sl tInt aIndices1)), (2, (intA aRelation2)), (3, (intA aColumn3)), (4, (.b 0 0))]) ⟨rfl, rfl, rfl, rfl, trivial⟩ ?_
      refine T_seq ?_
      refine T_region ?_
      refine TO_cons rfl (TOp_pure (pur_ldK_b agg41 rfl rfl (Nat.le_of_ble_eq_true rfl) rfl) rfl ?_)
      obtain ⟨r_5, h_6, H⟩ := bind_inv H
      refine TO_cons rfl (TOp_callV (call_static ent27 rfl) (m_laws_toDatabase_ok _ _ h_6) rfl rfl rfl ?_)
      refine TO_cons rfl (TOp_pure (pur_move rfl) rfl ?_)
      obtain ⟨r_7, h_8, H⟩ := bind_inv H
      refine TO_cons rfl (TOp_callV (call_static ent28 rfl) (m_laws_toIntS_ok _ _ h_8) rfl rfl rfl ?_)
      refine TO_cons rfl (TOp_pure (pur_move rfl) rfl ?_)
      refine TO_cons rfl (TOp_pure (pur_move rfl) rfl ?_)
      obtain ⟨r_9, h_10, H⟩ := bind_inv H
      refine TO_cons rfl (TOp_callV (call_static ent24 rfl) (m_spec_ColumnSum_ok u _ _ _ _ _ h_10) rfl rfl rfl ?_)
      refine TO_cons rfl (TOp_pure (pur_assign rfl) rfl ?_)
      refine TO_nil ?_
      refine T_env (E' := [(1, (sl tInt aIndices1)), (2, (intA aRelation2)), (3, (intA aColumn3)), (4, (.b 0 0)), (10, (intA r_9))]) ⟨rfl, rfl, rfl, rfl, rfl, trivial⟩ ?_
      refine T_seq ?_
      refine T_region ?_
      refine TO_cons rfl (TOp_pure (pur_ldK_b agg41 rfl rfl (Nat.le_of_ble_eq_true rfl) rfl) rfl ?_)
      obtain ⟨r_11, h_12, H⟩ := bind_inv H
      refine TO_cons rfl (TOp_callV (call_static ent27 rfl) (m_laws_toDatabase_ok _ _ h_12) rfl rfl rfl ?_)
      refine TO_cons rfl (TOp_alloc zero32 rfl rfl ?_)
      refine TO_cons rfl (TOp_storeB sz32 rfl rfl rfl rfl rfl rfl rfl (by decide) (Nat.le_of_ble_eq_true rfl) rfl ?_)
      refine TO_st (σ' := [.box [(sl tRelation aDb0.relations), (sl tFact aDb0.facts)], .box [(sl tRelation r_11.relations), (sl tFact r_11.facts)]]) rfl ?_
      refine TO_nil ?_
      refine T_env (E' := [(1, (sl tInt aIndices1)), (2, (intA aRelation2)), (3, (intA aColumn3)), (4, (.b 0 0)), (10, (intA r_9)), (11, (.b 1 0))]) ⟨rfl, rfl, rfl, rfl, rfl, rfl, trivial⟩ ?_
      refine T_seq ?_
      refine T_region ?_
      refine TO_cons rfl (TOp_pure (pur_move rfl) rfl ?_)
      obtain ⟨r_13, h_14, H⟩ := bind_inv H
      refine TO_cons rfl (TOp_callV (call_static ent28 rfl) (m_laws_toIntS_ok _ _ h_14) rfl rfl rfl ?_)
      refine TO_cons rfl (TOp_pure (pur_assign rfl) rfl ?_)
      refine TO_nil ?_
      refine T_env (E' := [(1, (sl tInt aIndices1)), (2, (intA aRelation2)), (3, (intA aColumn3)), (4, (.b 0 0)), (10, (intA r_9)), (11, (.b 1 0)), (12, (sl tInt r_13))]) ⟨rfl, rfl, rfl, rfl, rfl, rfl, rfl, trivial⟩ ?_
      refine T_seq ?_
      refine T_region ?_
      refine TO_cons rfl (TOp_pure (pur_ldK_b agg32 rfl rfl (Nat.le_of_ble_eq_true rfl) rfl) rfl ?_)
      refine TO_cons rfl (TOp_pure (pur_move rfl) rfl ?_)
      refine TO_cons rfl (TOp_pure (pur_move rfl) rfl ?_)
      refine TO_cons rfl (TOp_pure (pur_move rfl) rfl ?_)
      obtain ⟨r_15, h_16, H⟩ := bind_inv H
      refine TO_cons rfl (TOp_callV (call_static ent23 rfl) (m_impl_ColumnSum_ok _ _ _ _ _ h_16) rfl rfl rfl ?_)
      refine TO_cons rfl (TOp_pure (pur_assign rfl) rfl ?_)
      refine TO_nil ?_
      refine T_env (E' := [(1, (sl tInt aIndices1)), (4, (.b 0 0)), (10, (intA r_9)), (11, (.b 1 0)), (12, (sl tInt r_13)), (13, (intA r_15))]) ⟨rfl, rfl, rfl, rfl, rfl, rfl, trivial⟩ ?_
      refine T_seq ?_
      refine T_seq ?_
      refine T_region ?_
      refine TO_cons rfl (TOp_pure (pur_move rfl) rfl ?_)
      refine TO_cons rfl (TOp_pure (pur_move rfl) rfl ?_)
      refine TO_cons rfl (TOp_pure (pur_neq rfl rfl rfl) rfl ?_)
      refine TO_nil ?_
      refine T_env (E' := [(1, (sl tInt aIndices1)), (4, (.b 0 0)), (11, (.b 1 0)), (12, (sl tInt r_13)), (40, (boolA (decide (r_15 ≠ r_9))))]) ⟨rfl, rfl, rfl, rfl, rfl, trivial⟩ ?_
      refine T_cond (t := decide (r_15 ≠ r_9)) rfl (fun c_17 => ?_) (fun c_17 => ?_)
      · replace H := cond_t c_17 H
        refine T_seq ?_
        refine T_region ?_
        refine TO_cons rfl (TOp_pure (pur_assign rfl) rfl ?_)
        refine TO_nil ?_
        refine T_env (E' := [(8, (boolA false))]) ⟨rfl, trivial⟩ ?_
        refine T_ret ?_
        refine then_ret ?_
        obtain rfl := some_inj H
        refine end_ret (.tmp .nil) rfl rfl ⟨?_, rfl⟩
        rfl
      · replace H := cond_f c_17 H
        refine T_skip ?_
        refine T_env (E' := [(1, (sl tInt aIndices1)), (4, (.b 0 0)), (11, (.b 1 0)), (12, (sl tInt r_13))]) ⟨rfl, rfl, rfl, rfl, trivial⟩ ?_
        refine T_seq ?_
        obtain ⟨r_18, h_19, H⟩ := bind_inv H
        obtain ⟨r_20, h_21, H⟩ := bind_inv H
        refine T_cutX (fun (_ : Unit) => True) (fun _ => [(1, (sl tInt aIndices1)), (12, (sl tInt r_13)), (45, (boolA (!r_20)))]) (fun _ => [.box [(sl tRelation aDb0.relations), (sl tFact aDb0.facts)], .box [(sl tRelation r_11.relations), (sl tFact r_11.facts)]]) ?_ ?_
        · skip
          refine T_regionP mixed ?_
          refine TA_all [0, 1] (by kernel_rfl) (by decide) ⟨?_, ?_, trivial⟩
          · skip
            refine ⟨_, rfl, rfl, (TOp_pure (pur_ldK_b agg32 rfl rfl (Nat.le_of_ble_eq_true rfl) rfl) rfl ?_)⟩
            refine TA_listed #[true, false, false, false, false] rfl ?_
            refine TA_all [1] (by kernel_rfl) (by decide) ⟨⟨_, rfl, rfl, (TOp_pure (pur_ldK_b agg41 rfl rfl (Nat.le_of_ble_eq_true rfl) rfl) rfl ?_)⟩, trivial⟩
            refine TA_listed #[true, true, false, false, false] rfl ?_
            refine TA_all [2] (by kernel_rfl) (by decide) ⟨⟨_, rfl, rfl, (TOp_callV (call_static ent27 rfl) (m_laws_toDatabase_ok _ _ h_19) rfl rfl rfl ?_)⟩, trivial⟩
            refine TA_listed #[true, true, true, false, false] rfl ?_
            refine TA_all [3] (by kernel_rfl) (by decide) ⟨⟨_, rfl, rfl, (TOp_callV (call_static ent29 rfl) (m_laws_eqDatabase_ok _ _ _ h_21) rfl rfl rfl ?_)⟩, trivial⟩
            refine TA_listed #[true, true, true, true, false] rfl ?_
            refine TA_first 4 #[true, true, true, true, true] rfl (purI_not rfl rfl) rfl rfl rfl (by kernel_rfl) (by kernel_rfl) (by kernel_rfl) ?_
            exact TA_nil (by kernel_rfl) (joined () (WeakL.to 2 (Nat.le_of_ble_eq_true rfl) rfl rfl rfl rfl ⟨leR rfl, leR rfl, leR rfl, trivial⟩) trivial)
          · skip
            refine ⟨_, rfl, rfl, (TOp_pure (pur_ldK_b agg41 rfl rfl (Nat.le_of_ble_eq_true rfl) rfl) rfl ?_)⟩
            refine TA_listed #[false, true, false, false, false] rfl ?_
            refine TA_all [0, 2] (by kernel_rfl) (by decide) ⟨?_, ?_, trivial⟩
            · skip
              refine ⟨_, rfl, rfl, (TOp_pure (pur_ldK_b agg32 rfl rfl (Nat.le_of_ble_eq_true rfl) rfl) rfl ?_)⟩
              refine TA_listed #[true, true, false, false, false] rfl ?_
              refine TA_all [2] (by kernel_rfl) (by decide) ⟨⟨_, rfl, rfl, (TOp_callV (call_static ent27 rfl) (m_laws_toDatabase_ok _ _ h_19) rfl rfl rfl ?_)⟩, trivial⟩
              refine TA_listed #[true, true, true, false, false] rfl ?_
              refine TA_all [3] (by kernel_rfl) (by decide) ⟨⟨_, rfl, rfl, (TOp_callV (call_static ent29 rfl) (m_laws_eqDatabase_ok _ _ _ h_21) rfl rfl rfl ?_)⟩, trivial⟩
              refine TA_listed #[true, true, true, true, false] rfl ?_
              refine TA_first 4 #[true, true, true, true, true] rfl (purI_not rfl rfl) rfl rfl rfl (by kernel_rfl) (by kernel_rfl) (by kernel_rfl) ?_
              exact TA_nil (by kernel_rfl) (joined () (WeakL.to 2 (Nat.le_of_ble_eq_true rfl) rfl rfl rfl rfl ⟨leR rfl, leR rfl, leR rfl, trivial⟩) trivial)
            · skip
              refine ⟨_, rfl, rfl, (TOp_callV (call_static ent27 rfl) (m_laws_toDatabase_ok _ _ h_19) rfl rfl rfl ?_)⟩
              refine TA_listed #[false, true, true, false, false] rfl ?_
              refine TA_all [0] (by kernel_rfl) (by decide) ⟨⟨_, rfl, rfl, (TOp_pure (pur_ldK_b agg32 rfl rfl (Nat.le_of_ble_eq_true rfl) rfl) rfl ?_)⟩, trivial⟩
              refine TA_listed #[true, true, true, false, false] rfl ?_
              refine TA_all [3] (by kernel_rfl) (by decide) ⟨⟨_, rfl, rfl, (TOp_callV (call_static ent29 rfl) (m_laws_eqDatabase_ok _ _ _ h_21) rfl rfl rfl ?_)⟩, trivial⟩
              refine TA_listed #[true, true, true, true, false] rfl ?_
              refine TA_first 4 #[true, true, true, true, true] rfl (purI_not rfl rfl) rfl rfl rfl (by kernel_rfl) (by kernel_rfl) (by kernel_rfl) ?_
              exact TA_nil (by kernel_rfl) (joined () (WeakL.to 2 (Nat.le_of_ble_eq_true rfl) rfl rfl rfl rfl ⟨leR rfl, leR rfl, leR rfl, trivial⟩) trivial)
        · rintro _ _
          refine T_env (E' := [(1, (sl tInt aIndices1)), (12, (sl tInt r_13)), (45, (boolA (!r_20)))]) ⟨rfl, rfl, rfl, trivial⟩ ?_
          refine T_cond (t := (!r_20)) rfl (fun c_22 => ?_) (fun c_22 => ?_)
          · replace H := cond_t c_22 H
            refine T_seq ?_
            refine T_region ?_
            refine TO_cons rfl (TOp_pure (pur_assign rfl) rfl ?_)
            refine TO_nil ?_
            refine T_env (E' := [(8, (boolA false))]) ⟨rfl, trivial⟩ ?_
            refine T_ret ?_
            refine then_ret ?_
            obtain rfl := some_inj H
            refine end_ret (.tmp .nil) rfl rfl ⟨?_, rfl⟩
            rfl
          · replace H := cond_f c_22 H
            refine T_skip ?_
            refine T_env (E' := [(1, (sl tInt aIndices1)), (12, (sl tInt r_13))]) ⟨rfl, rfl, trivial⟩ ?_
            refine T_seq ?_
            refine T_seq ?_
            refine T_region ?_
            refine TO_cons rfl (TOp_pure (pur_move rfl) rfl ?_)
            refine TO_cons rfl (TOp_pure (pur_move rfl) rfl ?_)
            obtain ⟨r_23, h_24, H⟩ := bind_inv H
            refine TO_cons rfl (TOp_callV (call_static ent28 rfl) (m_laws_toIntS_ok _ _ h_24) rfl rfl rfl ?_)
            obtain ⟨r_25, h_26, H⟩ := bind_inv H
            refine TO_cons rfl (TOp_callV (call_static ent30 rfl) (m_laws_eqIntS_ok _ _ _ h_26) rfl rfl rfl ?_)
            refine TO_cons rfl (TOp_pure (pur_not rfl rfl) rfl ?_)
            refine TO_nil ?_
            refine T_env (E' := [(50, (boolA (!r_25)))]) ⟨rfl, trivial⟩ ?_
            refine T_cond (t := (!r_25)) rfl (fun c_27 => ?_) (fun c_27 => ?_)
            · replace H := cond_t c_27 H
              refine T_seq ?_
              refine T_region ?_
              refine TO_cons rfl (TOp_pure (pur_assign rfl) rfl ?_)
              refine TO_nil ?_
              refine T_env (E' := [(8, (boolA false))]) ⟨rfl, trivial⟩ ?_
              refine T_ret ?_
              refine then_ret ?_
              obtain rfl := some_inj H
              refine end_ret (.tmp .nil) rfl rfl ⟨?_, rfl⟩
              rfl
            · replace H := cond_f c_27 H
              refine T_skip ?_
              refine T_env (E' := []) trivial ?_
              refine T_seq ?_
              refine T_region ?_
              refine TO_cons rfl (TOp_pure (pur_assign rfl) rfl ?_)
              refine TO_nil ?_
              refine T_env (E' := [(8, (boolA true))]) ⟨rfl, trivial⟩ ?_
              refine T_ret ?_
              obtain rfl := some_inj H
              refine end_ret (.tmp .nil) rfl rfl ⟨?_, rfl⟩
              rfl
end Go.Proofs.Ytlcpdlngbofgcaa

/- Walks. -/
import Derived.Test.YtlcpdlngbofgcaaM1
import Derived.Test.YtlcpdlngbofgcaaM2
import Derived.Test.YtlcpdlngbofgcaaM5
import Derived.Test.YtlcpdlngbofgcaaM6
set_option linter.unusedVariables false
set_option linter.unusedSimpArgs false
set_option maxRecDepth 4000
namespace Go.Proofs.Ytlcpdlngbofgcaa
open Go Go.Proofs Go.Sep
set_option maxHeartbeats 1000000 in
/-- impl.columnRange$2 -/
theorem m_impl_columnRange_2_ok (repair0 : (List Int)) (fv1 : ((List Int) → Option Int)) (fv1_g : Nat) (fv1_c : List A) (fv1_E : EnT prg fv1_g) (fv1_l : looseL fv1_c = true) (fv1_m : firmL fv1_c = true ∧ fzL fv1_c = fv1_c) (fv1_H : ∀ (x0 : (List Int)) r, fv1 x0 = some r → FnV prg fv1_g ([(sl tInt x0)] ++ fv1_c) (intA r)) (fv2 : Database) (fv3 : Int) (fv4 : Int) (r : Int) (H : m_impl_columnRange_2 repair0 fv1 fv2 fv3 fv4 = some r) : FnV prg 100 [(sl tInt repair0), (.q [(.f fv1_g fv1_c)] 0), (.q [(sl tRelation fv2.relations), (sl tFact fv2.facts)] 0), (.q [(intA fv3)] 0), (.q [(intA fv4)] 0)] (intA r) := by
  unfold m_impl_columnRange_2 at H
  refine fnV_of_T Try.func100 rfl rfl (Nat.le_of_ble_eq_true rfl) ?_
  refine T_env (E' := [(0, (sl tInt repair0)), (1, (.q [(.f fv1_g fv1_c)] 0)), (2, (.q [(sl tRelation fv2.relations), (sl tFact fv2.facts)] 0)), (3, (.q [(intA fv3)] 0)), (4, (.q [(intA fv4)] 0))]) ⟨rfl, rfl, rfl, rfl, rfl, trivial⟩ ?_
  refine T_seq ?_
  refine T_region ?_
  refine TO_cons rfl (TOp_pure (pur_assign rfl) rfl ?_)
  refine TO_nil ?_
  refine T_env (E' := [(0, (sl tInt repair0)), (1, (.q [(.f fv1_g fv1_c)] 0)), (2, (.q [(sl tRelation fv2.relations), (sl tFact fv2.facts)] 0)), (3, (.q [(intA fv3)] 0)), (4, (.q [(intA fv4)] 0))]) ⟨rfl, rfl, rfl, rfl, rfl, trivial⟩ ?_
  obtain ⟨r_1, h_2, H⟩ := bind_inv H
  obtain ⟨r_3, h_4, H⟩ := bind_inv H
  refine T_cutX (fun (_ : Unit) => True) (fun _ => [(6, (intA r_3))]) (fun _ => []) ?_ ?_
  · skip
    refine T_regionP mixed ?_
    refine TA_first 2 #[false, false, true, false, false, false, false, false] rfl (purI_move rfl) rfl rfl rfl (by kernel_rfl) (by kernel_rfl) (by kernel_rfl) ?_
    refine TA_all [0, 1, 3, 4] (by kernel_rfl) (by decide) ⟨?_, ?_, ?_, ?_, trivial⟩
    · skip
      refine ⟨_, rfl, rfl, (TOp_pure (pur_ld_q one73 rfl rfl rfl) rfl ?_)⟩
      refine TA_listed #[true, false, true, false, false, false, false, false] rfl ?_
      refine TA_all [1, 3, 4] (by kernel_rfl) (by decide) ⟨?_, ?_, ?_, trivial⟩
      · skip
        refine ⟨_, rfl, rfl, (TOp_pure (pur_ldK_q agg32 rfl (Nat.le_of_ble_eq_true rfl) rfl) rfl ?_)⟩
        refine TA_listed #[true, true, true, false, false, false, false, false] rfl ?_
        refine TA_all [3, 4] (by kernel_rfl) (by decide) ⟨?_, ?_, trivial⟩
        · skip
          refine ⟨_, rfl, rfl, (TOp_pure (pur_ld_q one3 rfl rfl rfl) rfl ?_)⟩
          refine TA_listed #[true, true, true, true, false, false, false, false] rfl ?_
          refine TA_all [4] (by kernel_rfl) (by decide) ⟨⟨_, rfl, rfl, (TOp_pure (pur_ld_q one3 rfl rfl rfl) rfl ?_)⟩, trivial⟩
          refine TA_listed #[true, true, true, true, true, false, false, false] rfl ?_
          refine TA_all [5] (by kernel_rfl) (by decide) ⟨⟨_, rfl, rfl, (TOp_callV (call_static ent58 rfl) (m_impl_columnOf_ok _ _ _ _ _ h_2) rfl rfl rfl ?_)⟩, trivial⟩
          refine TA_listed #[true, true, true, true, true, true, false, false] rfl ?_
          refine TA_all [6] (by kernel_rfl) (by decide) ⟨⟨_, rfl, rfl, (TOp_callV (call_closure fv1_E rfl rfl) (fv1_H _  _ h_4) (looseL_app rfl fv1_l) rfl rfl ?_)⟩, trivial⟩
          refine TA_listed #[true, true, true, true, true, true, true, false] rfl ?_
          refine TA_first 7 #[true, true, true, true, true, true, true, true] rfl (purI_assign rfl) rfl rfl rfl (by kernel_rfl) (by kernel_rfl) (by kernel_rfl) ?_
          refine TA_env (E' := [(6, (intA r_3))]) ⟨rfl, trivial⟩ ?_
          exact TA_nil (by kernel_rfl) (joined () (WeakL.to 0 (Nat.le_of_ble_eq_true rfl) rfl rfl rfl rfl ⟨leR rfl, trivial⟩) trivial)
        · skip
          refine ⟨_, rfl, rfl, (TOp_pure (pur_ld_q one3 rfl rfl rfl) rfl ?_)⟩
          refine TA_listed #[true, true, true, false, true, false, false, false] rfl ?_
          refine TA_all [3] (by kernel_rfl) (by decide) ⟨⟨_, rfl, rfl, (TOp_pure (pur_ld_q one3 rfl rfl rfl) rfl ?_)⟩, trivial⟩
          refine TA_listed #[true, true, true, true, true, false, false, false] rfl ?_
          refine TA_all [5] (by kernel_rfl) (by decide) ⟨⟨_, rfl, rfl, (TOp_callV (call_static ent58 rfl) (m_impl_columnOf_ok _ _ _ _ _ h_2) rfl rfl rfl ?_)⟩, trivial⟩
          refine TA_listed #[true, true, true, true, true, true, false, false] rfl ?_
          refine TA_all [6] (by kernel_rfl) (by decide) ⟨⟨_, rfl, rfl, (TOp_callV (call_closure fv1_E rfl rfl) (fv1_H _  _ h_4) (looseL_app rfl fv1_l) rfl rfl ?_)⟩, trivial⟩
          refine TA_listed #[true, true, true, true, true, true, true, false] rfl ?_
          refine TA_first 7 #[true, true, true, true, true, true, true, true] rfl (purI_assign rfl) rfl rfl rfl (by kernel_rfl) (by kernel_rfl) (by kernel_rfl) ?_
          refine TA_env (E' := [(6, (intA r_3))]) ⟨rfl, trivial⟩ ?_
          exact TA_nil (by kernel_rfl) (joined () (WeakL.to 0 (Nat.le_of_ble_eq_true rfl) rfl rfl rfl rfl ⟨leR rfl, trivial⟩) trivial)
      · skip
        refine ⟨_, rfl, rfl, (TOp_pure (pur_ld_q one3 rfl rfl rfl) rfl ?_)⟩
        refine TA_listed #[true, false, true, true, false, false, false, false] rfl ?_
        refine TA_all [1, 4] (by kernel_rfl) (by decide) ⟨?_, ?_, trivial⟩
        · skip
          refine ⟨_, rfl, rfl, (TOp_pure (pur_ldK_q agg32 rfl (Nat.le_of_ble_eq_true rfl) rfl) rfl ?_)⟩
          refine TA_listed #[true, true, true, true, false, false, false, false] rfl ?_
          refine TA_all [4] (by kernel_rfl) (by decide) ⟨⟨_, rfl, rfl, (TOp_pure (pur_ld_q one3 rfl rfl rfl) rfl ?_)⟩, trivial⟩
          refine TA_listed #[true, true, true, true, true, false, false, false] rfl ?_
          refine TA_all [5] (by kernel_rfl) (by decide) ⟨⟨_, rfl, rfl, (TOp_callV (call_static ent58 rfl) (m_impl_columnOf_ok _ _ _ _ _ h_2) rfl rfl rfl ?_)⟩, trivial⟩
          refine TA_listed #[true, true, true, true, true, true, false, false] rfl ?_
          refine TA_all [6] (by kernel_rfl) (by decide) ⟨⟨_, rfl, rfl, (TOp_callV (call_closure fv1_E rfl rfl) (fv1_H _  _ h_4) (looseL_app rfl fv1_l) rfl rfl ?_)⟩, trivial⟩
          refine TA_listed #[true, true, true, true, true, true, true, false] rfl ?_
          refine TA_first 7 #[true, true, true, true, true, true, true, true] rfl (purI_assign rfl) rfl rfl rfl (by kernel_rfl) (by kernel_rfl) (by kernel_rfl) ?_
          refine TA_env (E' := [(6, (intA r_3))]) ⟨rfl, trivial⟩ ?_
          exact TA_nil (by kernel_rfl) (joined () (WeakL.to 0 (Nat.le_of_ble_eq_true rfl) rfl rfl rfl rfl ⟨leR rfl, trivial⟩) trivial)
        · skip
          refine ⟨_, rfl, rfl, (TOp_pure (pur_ld_q one3 rfl rfl rfl) rfl ?_)⟩
          refine TA_listed #[true, false, true, true, true, false, false, false] rfl ?_
          refine TA_all [1] (by kernel_rfl) (by decide) ⟨⟨_, rfl, rfl, (TOp_pure (pur_ldK_q agg32 rfl (Nat.le_of_ble_eq_true rfl) rfl) rfl ?_)⟩, trivial⟩
          refine TA_listed #[true, true, true, true, true, false, false, false] rfl ?_
          refine TA_all [5] (by kernel_rfl) (by decide) ⟨⟨_, rfl, rfl, (TOp_callV (call_static ent58 rfl) (m_impl_columnOf_ok _ _ _ _ _ h_2) rfl rfl rfl ?_)⟩, trivial⟩
          refine TA_listed #[true, true, true, true, true, true, false, false] rfl ?_
          refine TA_all [6] (by kernel_rfl) (by decide) ⟨⟨_, rfl, rfl, (TOp_callV (call_closure fv1_E rfl rfl) (fv1_H _  _ h_4) (looseL_app rfl fv1_l) rfl rfl ?_)⟩, trivial⟩
          refine TA_listed #[true, true, true, true, true, true, true, false] rfl ?_
          refine TA_first 7 #[true, true, true, true, true, true, true, true] rfl (purI_assign rfl) rfl rfl rfl (by kernel_rfl) (by kernel_rfl) (by kernel_rfl) ?_
          refine TA_env (E' := [(6, (intA r_3))]) ⟨rfl, trivial⟩ ?_
          exact TA_nil (by kernel_rfl) (joined () (WeakL.to 0 (Nat.le_of_ble_eq_true rfl) rfl rfl rfl rfl ⟨leR rfl, trivial⟩) trivial)
      · skip
        refine ⟨_, rfl, rfl, (TOp_pure (pur_ld_q one3 rfl rfl rfl) rfl ?_)⟩
        refine TA_listed #[true, false, true, false, true, false, false, false] rfl ?_
        refine TA_all [1, 3] (by kernel_rfl) (by decide) ⟨?_, ?_, trivial⟩
        · skip
          refine ⟨_, rfl, rfl, (TOp_pure (pur_ldK_q agg32 rfl (Nat.le_of_ble_eq_true rfl) rfl) rfl ?_)⟩
          refine TA_listed #[true, true, true, false, true, false, false, false] rfl ?_
          refine TA_all [3] (by kernel_rfl) (by decide) ⟨⟨_, rfl, rfl, (TOp_pure (pur_ld_q one3 rfl rfl rfl) rfl ?_)⟩, trivial⟩
          refine TA_listed #[true, true, true, true, true, false, false, false] rfl ?_
          refine TA_all [5] (by kernel_rfl) (by decide) ⟨⟨_, rfl, rfl, (TOp_callV (call_static ent58 rfl) (m_impl_columnOf_ok _ _ _ _ _ h_2) rfl rfl rfl ?_)⟩, trivial⟩
          refine TA_listed #[true, true, true, true, true, true, false, false] rfl ?_
          refine TA_all [6] (by kernel_rfl) (by decide) ⟨⟨_, rfl, rfl, (TOp_callV (call_closure fv1_E rfl rfl) (fv1_H _  _ h_4) (looseL_app rfl fv1_l) rfl rfl ?_)⟩, trivial⟩
          refine TA_listed #[true, true, true, true, true, true, true, false] rfl ?_
          refine TA_first 7 #[true, true, true, true, true, true, true, true] rfl (purI_assign rfl) rfl rfl rfl (by kernel_rfl) (by kernel_rfl) (by kernel_rfl) ?_
          refine TA_env (E' := [(6, (intA r_3))]) ⟨rfl, trivial⟩ ?_
          exact TA_nil (by kernel_rfl) (joined () (WeakL.to 0 (Nat.le_of_ble_eq_true rfl) rfl rfl rfl rfl ⟨leR rfl, trivial⟩) trivial)
        · skip
          refine ⟨_, rfl, rfl, (TOp_pure (pur_ld_q one3 rfl rfl rfl) rfl ?_)⟩
          refine TA_listed #[true, false, true, true, true, false, false, false] rfl ?_
          refine TA_all [1] (by kernel_rfl) (by decide) ⟨⟨_, rfl, rfl, (TOp_pure (pur_ldK_q agg32 rfl (Nat.le_of_ble_eq_true rfl) rfl) rfl ?_)⟩, trivial⟩
          refine TA_listed #[true, true, true, true, true, false, false, false] rfl ?_
          refine TA_all [5] (by kernel_rfl) (by decide) ⟨⟨_, rfl, rfl, (TOp_callV (call_static ent58 rfl) (m_impl_columnOf_ok _ _ _ _ _ h_2) rfl rfl rfl ?_)⟩, trivial⟩
          refine TA_listed #[true, true, true, true, true, true, false, false] rfl ?_
          refine TA_all [6] (by kernel_rfl) (by decide) ⟨⟨_, rfl, rfl, (TOp_callV (call_closure fv1_E rfl rfl) (fv1_H _  _ h_4) (looseL_app rfl fv1_l) rfl rfl ?_)⟩, trivial⟩
          refine TA_listed #[true, true, true, true, true, true, true, false] rfl ?_
          refine TA_first 7 #[true, true, true, true, true, true, true, true] rfl (purI_assign rfl) rfl rfl rfl (by kernel_rfl) (by kernel_rfl) (by kernel_rfl) ?_
          refine TA_env (E' := [(6, (intA r_3))]) ⟨rfl, trivial⟩ ?_
          exact TA_nil (by kernel_rfl) (joined () (WeakL.to 0 (Nat.le_of_ble_eq_true rfl) rfl rfl rfl rfl ⟨leR rfl, trivial⟩) trivial)
    · skip
      refine ⟨_, rfl, rfl, (TOp_pure (pur_ldK_q agg32 rfl (Nat.le_of_ble_eq_true rfl) rfl) rfl ?_)⟩
      refine TA_listed #[false, true, true, false, false, false, false, false] rfl ?_
      refine TA_all [0, 3, 4] (by kernel_rfl) (by decide) ⟨?_, ?_, ?_, trivial⟩
      · skip
        refine ⟨_, rfl, rfl, (TOp_pure (pur_ld_q one73 rfl rfl rfl) rfl ?_)⟩
        refine TA_listed #[true, true, true, false, false, false, false, false] rfl ?_
        refine TA_all [3, 4] (by kernel_rfl) (by decide) ⟨?_, ?_, trivial⟩
        · skip
          refine ⟨_, rfl, rfl, (TOp_pure (pur_ld_q one3 rfl rfl rfl) rfl ?_)⟩
          refine TA_listed #[true, true, true, true, false, false, false, false] rfl ?_
          refine TA_all [4] (by kernel_rfl) (by decide) ⟨⟨_, rfl, rfl, (TOp_pure (pur_ld_q one3 rfl rfl rfl) rfl ?_)⟩, trivial⟩
          refine TA_listed #[true, true, true, true, true, false, false, false] rfl ?_
          refine TA_all [5] (by kernel_rfl) (by decide) ⟨⟨_, rfl, rfl, (TOp_callV (call_static ent58 rfl) (m_impl_columnOf_ok _ _ _ _ _ h_2) rfl rfl rfl ?_)⟩, trivial⟩
          refine TA_listed #[true, true, true, true, true, true, false, false] rfl ?_
          refine TA_all [6] (by kernel_rfl) (by decide) ⟨⟨_, rfl, rfl, (TOp_callV (call_closure fv1_E rfl rfl) (fv1_H _  _ h_4) (looseL_app rfl fv1_l) rfl rfl ?_)⟩, trivial⟩
          refine TA_listed #[true, true, true, true, true, true, true, false] rfl ?_
          refine TA_first 7 #[true, true, true, true, true, true, true, true] rfl (purI_assign rfl) rfl rfl rfl (by kernel_rfl) (by kernel_rfl) (by kernel_rfl) ?_
          refine TA_env (E' := [(6, (intA r_3))]) ⟨rfl, trivial⟩ ?_
          exact TA_nil (by kernel_rfl) (joined () (WeakL.to 0 (Nat.le_of_ble_eq_true rfl) rfl rfl rfl rfl ⟨leR rfl, trivial⟩) trivial)
        · skip
          refine ⟨_, rfl, rfl, (TOp_pure (pur_ld_q one3 rfl rfl rfl) rfl ?_)⟩
          refine TA_listed #[true, true, true, false, true, false, false, false] rfl ?_
          refine TA_all [3] (by kernel_rfl) (by decide) ⟨⟨_, rfl, rfl, (TOp_pure (pur_ld_q one3 rfl rfl rfl) rfl ?_)⟩, trivial⟩
          refine TA_listed #[true, true, true, true, true, false, false, false] rfl ?_
          refine TA_all [5] (by kernel_rfl) (by decide) ⟨⟨_, rfl, rfl, (TOp_callV (call_static ent58 rfl) (m_impl_columnOf_ok _ _ _ _ _ h_2) rfl rfl rfl ?_)⟩, trivial⟩
          refine TA_listed #[true, true, true, true, true, true, false, false] rfl ?_
          refine TA_all [6] (by kernel_rfl) (by decide) ⟨⟨_, rfl, rfl, (TOp_callV (call_closure fv1_E rfl rfl) (fv1_H _  _ h_4) (looseL_app rfl fv1_l) rfl rfl ?_)⟩, trivial⟩
          refine TA_listed #[true, true, true, true, true, true, true, false] rfl ?_
          refine TA_first 7 #[true, true, true, true, true, true, true, true] rfl (purI_assign rfl) rfl rfl rfl (by kernel_rfl) (by kernel_rfl) (by kernel_rfl) ?_
          refine TA_env (E' := [(6, (intA r_3))]) ⟨rfl, trivial⟩ ?_
          exact TA_nil (by kernel_rfl) (joined () (WeakL.to 0 (Nat.le_of_ble_eq_true rfl) rfl rfl rfl rfl ⟨leR rfl, trivial⟩) trivial)
      · skip
        refine ⟨_, rfl, rfl, (TOp_pure (pur_ld_q one3 rfl rfl rfl) rfl ?_)⟩
        refine TA_listed #[false, true, true, true, false, false, false, false] rfl ?_
        refine TA_all [0, 4] (by kernel_rfl) (by decide) ⟨?_, ?_, trivial⟩
        · skip
          refine ⟨_, rfl, rfl, (TOp_pure (pur_ld_q one73 rfl rfl rfl) rfl ?_)⟩
          refine TA_listed #[true, true, true, true, false, false, false, false] rfl ?_
          refine TA_all [4] (by kernel_rfl) (by decide) ⟨⟨_, rfl, rfl, (TOp_pure (pur_ld_q one3 rfl rfl rfl) rfl ?_)⟩, trivial⟩
          refine TA_listed #[true, true, true, true, true, false, false, false] rfl ?_
          refine TA_all [5] (by kernel_rfl) (by decide) ⟨⟨_, rfl, rfl, (TOp_callV (call_static ent58 rfl) (m_impl_columnOf_ok _ _ _ _ _ h_2) rfl rfl rfl ?_)⟩, trivial⟩
          refine TA_listed #[true, true, true, true, true, true, false, false] rfl ?_
          refine TA_all [6] (by kernel_rfl) (by decide) ⟨⟨_, rfl, rfl, (TOp_callV (call_closure fv1_E rfl rfl) (fv1_H _  _ h_4) (looseL_app rfl fv1_l) rfl rfl ?_)⟩, trivial⟩
          refine TA_listed #[true, true, true, true, true, true, true, false] rfl ?_
          refine TA_first 7 #[true, true, true, true, true, true, true, true] rfl (purI_assign rfl) rfl rfl rfl (by kernel_rfl) (by kernel_rfl) (by kernel_rfl) ?_
          refine TA_env (E' := [(6, (intA r_3))]) ⟨rfl, trivial⟩ ?_
          exact TA_nil (by kernel_rfl) (joined () (WeakL.to 0 (Nat.le_of_ble_eq_true rfl) rfl rfl rfl rfl ⟨leR rfl, trivial⟩) trivial)
        · skip
          refine ⟨_, rfl, rfl, (TOp_pure (pur_ld_q one3 rfl rfl rfl) rfl ?_)⟩
          refine TA_listed #[false, true, true, true, true, false, false, false] rfl ?_
          refine TA_all [0, 5] (by kernel_rfl) (by decide) ⟨?_, ?_, trivial⟩
          · skip
            refine ⟨_, rfl, rfl, (TOp_pure (pur_ld_q one73 rfl rfl rfl) rfl ?_)⟩
            refine TA_listed #[true, true, true, true, true, false, false, false] rfl ?_
            refine TA_all [5] (by kernel_rfl) (by decide) ⟨⟨_, rfl, rfl, (TOp_callV (call_static ent58 rfl) (m_impl_columnOf_ok _ _ _ _ _ h_2) rfl rfl rfl ?_)⟩, trivial⟩
            refine TA_listed #[true, true, true, true, true, true, false, false] rfl ?_
            refine TA_all [6] (by kernel_rfl) (by decide) ⟨⟨_, rfl, rfl, (TOp_callV (call_closure fv1_E rfl rfl) (fv1_H _  _ h_4) (looseL_app rfl fv1_l) rfl rfl ?_)⟩, trivial⟩
            refine TA_listed #[true, true, true, true, true, true, true, false] rfl ?_
            refine TA_first 7 #[true, true, true, true, true, true, true, true] rfl (purI_assign rfl) rfl rfl rfl (by kernel_rfl) (by kernel_rfl) (by kernel_rfl) ?_
            refine TA_env (E' := [(6, (intA r_3))]) ⟨rfl, trivial⟩ ?_
            exact TA_nil (by kernel_rfl) (joined () (WeakL.to 0 (Nat.le_of_ble_eq_true rfl) rfl rfl rfl rfl ⟨leR rfl, trivial⟩) trivial)
          · skip
            refine ⟨_, rfl, rfl, (TOp_callV (call_static ent58 rfl) (m_impl_columnOf_ok _ _ _ _ _ h_2) rfl rfl rfl ?_)⟩
            refine TA_listed #[false, true, true, true, true, true, false, false] rfl ?_
            refine TA_all [0] (by kernel_rfl) (by decide) ⟨⟨_, rfl, rfl, (TOp_pure (pur_ld_q one73 rfl rfl rfl) rfl ?_)⟩, trivial⟩
            refine TA_listed #[true, true, true, true, true, true, false, false] rfl ?_
            refine TA_all [6] (by kernel_rfl) (by decide) ⟨⟨_, rfl, rfl, (TOp_callV (call_closure fv1_E rfl rfl) (fv1_H _  _ h_4) (looseL_app rfl fv1_l) rfl rfl ?_)⟩, trivial⟩
            refine TA_listed #[true, true, true, true, true, true, true, false] rfl ?_
            refine TA_first 7 #[true, true, true, true, true, true, true, true] rfl (purI_assign rfl) rfl rfl rfl (by kernel_rfl) (by kernel_rfl) (by kernel_rfl) ?_
            refine TA_env (E' := [(6, (intA r_3))]) ⟨rfl, trivial⟩ ?_
            exact TA_nil (by kernel_rfl) (joined () (WeakL.to 0 (Nat.le_of_ble_eq_true rfl) rfl rfl rfl rfl ⟨leR rfl, trivial⟩) trivial)
      · skip
        refine ⟨_, rfl, rfl, (TOp_pure (pur_ld_q one3 rfl rfl rfl) rfl ?_)⟩
        refine TA_listed #[false, true, true, false, true, false, false, false] rfl ?_
        refine TA_all [0, 3] (by kernel_rfl) (by decide) ⟨?_, ?_, trivial⟩
        · skip
          refine ⟨_, rfl, rfl, (TOp_pure (pur_ld_q one73 rfl rfl rfl) rfl ?_)⟩
          refine TA_listed #[true, true, true, false, true, false, false, false] rfl ?_
          refine TA_all [3] (by kernel_rfl) (by decide) ⟨⟨_, rfl, rfl, (TOp_pure (pur_ld_q one3 rfl rfl rfl) rfl ?_)⟩, trivial⟩
          refine TA_listed #[true, true, true, true, true, false, false, false] rfl ?_
          refine TA_all [5] (by kernel_rfl) (by decide) ⟨⟨_, rfl, rfl, (TOp_callV (call_static ent58 rfl) (m_impl_columnOf_ok _ _ _ _ _ h_2) rfl rfl rfl ?_)⟩, trivial⟩
          refine TA_listed #[true, true, true, true, true, true, false, false] rfl ?_
          refine TA_all [6] (by kernel_rfl) (by decide) ⟨⟨_, rfl, rfl, (TOp_callV (call_closure fv1_E rfl rfl) (fv1_H _  _ h_4) (looseL_app rfl fv1_l) rfl rfl ?_)⟩, trivial⟩
          refine TA_listed #[true, true, true, true, true, true, true, false] rfl ?_
          refine TA_first 7 #[true, true, true, true, true, true, true, true] rfl (purI_assign rfl) rfl rfl rfl (by kernel_rfl) (by kernel_rfl) (by kernel_rfl) ?_
          refine TA_env (E' := [(6, (intA r_3))]) ⟨rfl, trivial⟩ ?_
          exact TA_nil (by kernel_rfl) (joined () (WeakL.to 0 (Nat.le_of_ble_eq_true rfl) rfl rfl rfl rfl ⟨leR rfl, trivial⟩) trivial)
        · skip
          refine ⟨_, rfl, rfl, (TOp_pure (pur_ld_q one3 rfl rfl rfl) rfl ?_)⟩
          refine TA_listed #[false, true, true, true, true, false, false, false] rfl ?_
          refine TA_all [0, 5] (by kernel_rfl) (by decide) ⟨?_, ?_, trivial⟩
          · skip
            refine ⟨_, rfl, rfl, (TOp_pure (pur_ld_q one73 rfl rfl rfl) rfl ?_)⟩
            refine TA_listed #[true, true, true, true, true, false, false, false] rfl ?_
            refine TA_all [5] (by kernel_rfl) (by decide) ⟨⟨_, rfl, rfl, (TOp_callV (call_static ent58 rfl) (m_impl_columnOf_ok _ _ _ _ _ h_2) rfl rfl rfl ?_)⟩, trivial⟩
            refine TA_listed #[true, true, true, true, true, true, false, false] rfl ?_
            refine TA_all [6] (by kernel_rfl) (by decide) ⟨⟨_, rfl, rfl, (TOp_callV (call_closure fv1_E rfl rfl) (fv1_H _  _ h_4) (looseL_app rfl fv1_l) rfl rfl ?_)⟩, trivial⟩
            refine TA_listed #[true, true, true, true, true, true, true, false] rfl ?_
            refine TA_first 7 #[true, true, true, true, true, true, true, true] rfl (purI_assign rfl) rfl rfl rfl (by kernel_rfl) (by kernel_rfl) (by kernel_rfl) ?_
            refine TA_env (E' := [(6, (intA r_3))]) ⟨rfl, trivial⟩ ?_
            exact TA_nil (by kernel_rfl) (joined () (WeakL.to 0 (Nat.le_of_ble_eq_true rfl) rfl rfl rfl rfl ⟨leR rfl, trivial⟩) trivial)
          · skip
            refine ⟨_, rfl, rfl, (TOp_callV (call_static ent58 rfl) (m_impl_columnOf_ok _ _ _ _ _ h_2) rfl rfl rfl ?_)⟩
            refine TA_listed #[false, true, true, true, true, true, false, false] rfl ?_
            refine TA_all [0] (by kernel_rfl) (by decide) ⟨⟨_, rfl, rfl, (TOp_pure (pur_ld_q one73 rfl rfl rfl) rfl ?_)⟩, trivial⟩
            refine TA_listed #[true, true, true, true, true, true, false, false] rfl ?_
            refine TA_all [6] (by kernel_rfl) (by decide) ⟨⟨_, rfl, rfl, (TOp_callV (call_closure fv1_E rfl rfl) (fv1_H _  _ h_4) (looseL_app rfl fv1_l) rfl rfl ?_)⟩, trivial⟩
            refine TA_listed #[true, true, true, true, true, true, true, false] rfl ?_
            refine TA_first 7 #[true, true, true, true, true, true, true, true] rfl (purI_assign rfl) rfl rfl rfl (by kernel_rfl) (by kernel_rfl) (by kernel_rfl) ?_
            refine TA_env (E' := [(6, (intA r_3))]) ⟨rfl, trivial⟩ ?_
            exact TA_nil (by kernel_rfl) (joined () (WeakL.to 0 (Nat.le_of_ble_eq_true rfl) rfl rfl rfl rfl ⟨leR rfl, trivial⟩) trivial)
    · skip
      refine ⟨_, rfl, rfl, (TOp_pure (pur_ld_q one3 rfl rfl rfl) rfl ?_)⟩
      refine TA_listed #[false, false, true, true, false, false, false, false] rfl ?_
      refine TA_all [0, 1, 4] (by kernel_rfl) (by decide) ⟨?_, ?_, ?_, trivial⟩
      · skip
        refine ⟨_, rfl, rfl, (TOp_pure (pur_ld_q one73 rfl rfl rfl) rfl ?_)⟩
        refine TA_listed #[true, false, true, true, false, false, false, false] rfl ?_
        refine TA_all [1, 4] (by kernel_rfl) (by decide) ⟨?_, ?_, trivial⟩
        · skip
          refine ⟨_, rfl, rfl, (TOp_pure (pur_ldK_q agg32 rfl (Nat.le_of_ble_eq_true rfl) rfl) rfl ?_)⟩
          refine TA_listed #[true, true, true, true, false, false, false, false] rfl ?_
          refine TA_all [4] (by kernel_rfl) (by decide) ⟨⟨_, rfl, rfl, (TOp_pure (pur_ld_q one3 rfl rfl rfl) rfl ?_)⟩, trivial⟩
          refine TA_listed #[true, true, true, true, true, false, false, false] rfl ?_
          refine TA_all [5] (by kernel_rfl) (by decide) ⟨⟨_, rfl, rfl, (TOp_callV (call_static ent58 rfl) (m_impl_columnOf_ok _ _ _ _ _ h_2) rfl rfl rfl ?_)⟩, trivial⟩
          refine TA_listed #[true, true, true, true, true, true, false, false] rfl ?_
          refine TA_all [6] (by kernel_rfl) (by decide) ⟨⟨_, rfl, rfl, (TOp_callV (call_closure fv1_E rfl rfl) (fv1_H _  _ h_4) (looseL_app rfl fv1_l) rfl rfl ?_)⟩, trivial⟩
          refine TA_listed #[true, true, true, true, true, true, true, false] rfl ?_
          refine TA_first 7 #[true, true, true, true, true, true, true, true] rfl (purI_assign rfl) rfl rfl rfl (by kernel_rfl) (by kernel_rfl) (by kernel_rfl) ?_
          refine TA_env (E' := [(6, (intA r_3))]) ⟨rfl, trivial⟩ ?_
          exact TA_nil (by kernel_rfl) (joined () (WeakL.to 0 (Nat.le_of_ble_eq_true rfl) rfl rfl rfl rfl ⟨leR rfl, trivial⟩) trivial)
        · skip
          refine ⟨_, rfl, rfl, (TOp_pure (pur_ld_q one3 rfl rfl rfl) rfl ?_)⟩
          refine TA_listed #[true, false, true, true, true, false, false, false] rfl ?_
          refine TA_all [1] (by kernel_rfl) (by decide) ⟨⟨_, rfl, rfl, (TOp_pure (pur_ldK_q agg32 rfl (Nat.le_of_ble_eq_true rfl) rfl) rfl ?_)⟩, trivial⟩
          refine TA_listed #[true, true, true, true, true, false, false, false] rfl ?_
          refine TA_all [5] (by kernel_rfl) (by decide) ⟨⟨_, rfl, rfl, (TOp_callV (call_static ent58 rfl) (m_impl_columnOf_ok _ _ _ _ _ h_2) rfl rfl rfl ?_)⟩, trivial⟩
          refine TA_listed #[true, true, true, true, true, true, false, false] rfl ?_
          refine TA_all [6] (by kernel_rfl) (by decide) ⟨⟨_, rfl, rfl, (TOp_callV (call_closure fv1_E rfl rfl) (fv1_H _  _ h_4) (looseL_app rfl fv1_l) rfl rfl ?_)⟩, trivial⟩
          refine TA_listed #[true, true, true, true, true, true, true, false] rfl ?_
          refine TA_first 7 #[true, true, true, true, true, true, true, true] rfl (purI_assign rfl) rfl rfl rfl (by kernel_rfl) (by kernel_rfl) (by kernel_rfl) ?_
          refine TA_env (E' := [(6, (intA r_3))]) ⟨rfl, trivial⟩ ?_
          exact TA_nil (by kernel_rfl) (joined () (WeakL.to 0 (Nat.le_of_ble_eq_true rfl) rfl rfl rfl rfl ⟨leR rfl, trivial⟩) trivial)
      · skip
        refine ⟨_, rfl, rfl, (TOp_pure (pur_ldK_q agg32 rfl (Nat.le_of_ble_eq_true rfl) rfl) rfl ?_)⟩
        refine TA_listed #[false, true, true, true, false, false, false, false] rfl ?_
        refine TA_all [0, 4] (by kernel_rfl) (by decide) ⟨?_, ?_, trivial⟩
        · skip
          refine ⟨_, rfl, rfl, (TOp_pure (pur_ld_q one73 rfl rfl rfl) rfl ?_)⟩
          refine TA_listed #[true, true, true, true, false, false, false, false] rfl ?_
          refine TA_all [4] (by kernel_rfl) (by decide) ⟨⟨_, rfl, rfl, (TOp_pure (pur_ld_q one3 rfl rfl rfl) rfl ?_)⟩, trivial⟩
          refine TA_listed #[true, true, true, true, true, false, false, false] rfl ?_
          refine TA_all [5] (by kernel_rfl) (by decide) ⟨⟨_, rfl, rfl, (TOp_callV (call_static ent58 rfl) (m_impl_columnOf_ok _ _ _ _ _ h_2) rfl rfl rfl ?_)⟩, trivial⟩
          refine TA_listed #[true, true, true, true, true, true, false, false] rfl ?_
          refine TA_all [6] (by kernel_rfl) (by decide) ⟨⟨_, rfl, rfl, (TOp_callV (call_closure fv1_E rfl rfl) (fv1_H _  _ h_4) (looseL_app rfl fv1_l) rfl rfl ?_)⟩, trivial⟩
          refine TA_listed #[true, true, true, true, true, true, true, false] rfl ?_
          refine TA_first 7 #[true, true, true, true, true, true, true, true] rfl (purI_assign rfl) rfl rfl rfl (by kernel_rfl) (by kernel_rfl) (by kernel_rfl) ?_
          refine TA_env (E' := [(6, (intA r_3))]) ⟨rfl, trivial⟩ ?_
          exact TA_nil (by kernel_rfl) (joined () (WeakL.to 0 (Nat.le_of_ble_eq_true rfl) rfl rfl rfl rfl ⟨leR rfl, trivial⟩) trivial)
        · skip
          refine ⟨_, rfl, rfl, (TOp_pure (pur_ld_q one3 rfl rfl rfl) rfl ?_)⟩
          refine TA_listed #[false, true, true, true, true, false, false, false] rfl ?_
          refine TA_all [0, 5] (by kernel_rfl) (by decide) ⟨?_, ?_, trivial⟩
          · skip
            refine ⟨_, rfl, rfl, (TOp_pure (pur_ld_q one73 rfl rfl rfl) rfl ?_)⟩
            refine TA_listed #[true, true, true, true, true, false, false, false] rfl ?_
            refine TA_all [5] (by kernel_rfl) (by decide) ⟨⟨_, rfl, rfl, (TOp_callV (call_static ent58 rfl) (m_impl_columnOf_ok _ _ _ _ _ h_2) rfl rfl rfl ?_)⟩, trivial⟩
            refine TA_listed #[true, true, true, true, true, true, false, false] rfl ?_
            refine TA_all [6] (by kernel_rfl) (by decide) ⟨⟨_, rfl, rfl, (TOp_callV (call_closure fv1_E rfl rfl) (fv1_H _  _ h_4) (looseL_app rfl fv1_l) rfl rfl ?_)⟩, trivial⟩
            refine TA_listed #[true, true, true, true, true, true, true, false] rfl ?_
            refine TA_first 7 #[true, true, true, true, true, true, true, true] rfl (purI_assign rfl) rfl rfl rfl (by kernel_rfl) (by kernel_rfl) (by kernel_rfl) ?_
            refine TA_env (E' := [(6, (intA r_3))]) ⟨rfl, trivial⟩ ?_
            exact TA_nil (by kernel_rfl) (joined () (WeakL.to 0 (Nat.le_of_ble_eq_true rfl) rfl rfl rfl rfl ⟨leR rfl, trivial⟩) trivial)
          · skip
            refine ⟨_, rfl, rfl, (TOp_callV (call_static ent58 rfl) (m_impl_columnOf_ok _ _ _ _ _ h_2) rfl rfl rfl ?_)⟩
            refine TA_listed #[false, true, true, true, true, true, false, false] rfl ?_
            refine TA_all [0] (by kernel_rfl) (by decide) ⟨⟨_, rfl, rfl, (TOp_pure (pur_ld_q one73 rfl rfl rfl) rfl ?_)⟩, trivial⟩
            refine TA_listed #[true, true, true, true, true, true, false, false] rfl ?_
            refine TA_all [6] (by kernel_rfl) (by decide) ⟨⟨_, rfl, rfl, (TOp_callV (call_closure fv1_E rfl rfl) (fv1_H _  _ h_4) (looseL_app rfl fv1_l) rfl rfl ?_)⟩, trivial⟩
            refine TA_listed #[true, true, true, true, true, true, true, false] rfl ?_
            refine TA_first 7 #[true, true, true, true, true, true, true, true] rfl (purI_assign rfl) rfl rfl rfl (by kernel_rfl) (by kernel_rfl) (by kernel_rfl) ?_
            refine TA_env (E' := [(6, (intA r_3))]) ⟨rfl, trivial⟩ ?_
            exact TA_nil (by kernel_rfl) (joined () (WeakL.to 0 (Nat.le_of_ble_eq_true rfl) rfl rfl rfl rfl ⟨leR rfl, trivial⟩) trivial)
      · skip
        refine ⟨_, rfl, rfl, (TOp_pure (pur_ld_q one3 rfl rfl rfl) rfl ?_)⟩
        refine TA_listed #[false, false, true, true, true, false, false, false] rfl ?_
        refine TA_all [0, 1] (by kernel_rfl) (by decide) ⟨?_, ?_, trivial⟩
        · skip
          refine ⟨_, rfl, rfl, (TOp_pure (pur_ld_q one73 rfl rfl rfl) rfl ?_)⟩
          refine TA_listed #[true, false, true, true, true, false, false, false] rfl ?_
          refine TA_all [1] (by kernel_rfl) (by decide) ⟨⟨_, rfl, rfl, (TOp_pure (pur_ldK_q agg32 rfl (Nat.le_of_ble_eq_true rfl) rfl) rfl ?_)⟩, trivial⟩
          refine TA_listed #[true, true, true, true, true, false, false, false] rfl ?_
          refine TA_all [5] (by kernel_rfl) (by decide) ⟨⟨_, rfl, rfl, (TOp_callV (call_static ent58 rfl) (m_impl_columnOf_ok _ _ _ _ _ h_2) rfl rfl rfl ?_)⟩, trivial⟩
          refine TA_listed #[true, true, true, true, true, true, false, false] rfl ?_
          refine TA_all [6] (by kernel_rfl) (by decide) ⟨⟨_, rfl, rfl, (TOp_callV (call_closure fv1_E rfl rfl) (fv1_H _  _ h_4) (looseL_app rfl fv1_l) rfl rfl ?_)⟩, trivial⟩
          refine TA_listed #[true, true, true, true, true, true, true, false] rfl ?_
          refine TA_first 7 #[true, true, true, true, true, true, true, true] rfl (purI_assign rfl) rfl rfl rfl (by kernel_rfl) (by kernel_rfl) (by kernel_rfl) ?_
          refine TA_env (E' := [(6, (intA r_3))]) ⟨rfl, trivial⟩ ?_
          exact TA_nil (by kernel_rfl) (joined () (WeakL.to 0 (Nat.le_of_ble_eq_true rfl) rfl rfl rfl rfl ⟨leR rfl, trivial⟩) trivial)
        · skip
          refine ⟨_, rfl, rfl, (TOp_pure (pur_ldK_q agg32 rfl (Nat.le_of_ble_eq_true rfl) rfl) rfl ?_)⟩
          refine TA_listed #[false, true, true, true, true, false, false, false] rfl ?_
          refine TA_all [0, 5] (by kernel_rfl) (by decide) ⟨?_, ?_, trivial⟩
          · skip
            refine ⟨_, rfl, rfl, (TOp_pure (pur_ld_q one73 rfl rfl rfl) rfl ?_)⟩
            refine TA_listed #[true, true, true, true, true, false, false, false] rfl ?_
            refine TA_all [5] (by kernel_rfl) (by decide) ⟨⟨_, rfl, rfl, (TOp_callV (call_static ent58 rfl) (m_impl_columnOf_ok _ _ _ _ _ h_2) rfl rfl rfl ?_)⟩, trivial⟩
            refine TA_listed #[true, true, true, true, true, true, false, false] rfl ?_
            refine TA_all [6] (by kernel_rfl) (by decide) ⟨⟨_, rfl, rfl, (TOp_callV (call_closure fv1_E rfl rfl) (fv1_H _  _ h_4) (looseL_app rfl fv1_l) rfl rfl ?_)⟩, trivial⟩
            refine TA_listed #[true, true, true, true, true, true, true, false] rfl ?_
            refine TA_first 7 #[true, true, true, true, true, true, true, true] rfl (purI_assign rfl) rfl rfl rfl (by kernel_rfl) (by kernel_rfl) (by kernel_rfl) ?_
            refine TA_env (E' := [(6, (intA r_3))]) ⟨rfl, trivial⟩ ?_
            exact TA_nil (by kernel_rfl) (joined () (WeakL.to 0 (Nat.le_of_ble_eq_true rfl) rfl rfl rfl rfl ⟨leR rfl, trivial⟩) trivial)
          · skip
            refine ⟨_, rfl, rfl, (TOp_callV (call_static ent58 rfl) (m_impl_columnOf_ok _ _ _ _ _ h_2) rfl rfl rfl ?_)⟩
            refine TA_listed #[false, true, true, true, true, true, false, false] rfl ?_
            refine TA_all [0] (by kernel_rfl) (by decide) ⟨⟨_, rfl, rfl, (TOp_pure (pur_ld_q one73 rfl rfl rfl) rfl ?_)⟩, trivial⟩
            refine TA_listed #[true, true, true, true, true, true, false, false] rfl ?_
            refine TA_all [6] (by kernel_rfl) (by decide) ⟨⟨_, rfl, rfl, (TOp_callV (call_closure fv1_E rfl rfl) (fv1_H _  _ h_4) (looseL_app rfl fv1_l) rfl rfl ?_)⟩, trivial⟩
            refine TA_listed #[true, true, true, true, true, true, true, false] rfl ?_
            refine TA_first 7 #[true, true, true, true, true, true, true, true] rfl (purI_assign rfl) rfl rfl rfl (by kernel_rfl) (by kernel_rfl) (by kernel_rfl) ?_
            refine TA_env (E' := [(6, (intA r_3))]) ⟨rfl, trivial⟩ ?_
            exact TA_nil (by kernel_rfl) (joined () (WeakL.to 0 (Nat.le_of_ble_eq_true rfl) rfl rfl rfl rfl ⟨leR rfl, trivial⟩) trivial)
    · skip
      refine ⟨_, rfl, rfl, (TOp_pure (pur_ld_q one3 rfl rfl rfl) rfl ?_)⟩
      refine TA_listed #[false, false, true, false, true, false, false, false] rfl ?_
      refine TA_all [0, 1, 3] (by kernel_rfl) (by decide) ⟨?_, ?_, ?_, trivial⟩
      · skip
        refine ⟨_, rfl, rfl, (TOp_pure (pur_ld_q one73 rfl rfl rfl) rfl ?_)⟩
        refine TA_listed #[true, false, true, false, true, false, false, false] rfl ?_
        refine TA_all [1, 3] (by kernel_rfl) (by decide) ⟨?_, ?_, trivial⟩
        · skip
          refine ⟨_, rfl, rfl, (TOp_pure (pur_ldK_q agg32 rfl (Nat.le_of_ble_eq_true rfl) rfl) rfl ?_)⟩
          refine TA_listed #[true, true, true, false, true, false, false, false] rfl ?_
          refine TA_all [3] (by kernel_rfl) (by decide) ⟨⟨_, rfl, rfl, (TOp_pure (pur_ld_q one3 rfl rfl rfl) rfl ?_)⟩, trivial⟩
          refine TA_listed #[true, true, true, true, true, false, false, false] rfl ?_
          refine TA_all [5] (by kernel_rfl) (by decide) ⟨⟨_, rfl, rfl, (TOp_callV (call_static ent58 rfl) (m_impl_columnOf_ok _ _ _ _ _ h_2) rfl rfl rfl ?_)⟩, trivial⟩
          refine TA_listed #[true, true, true, true, true, true, false, false] rfl ?_
          refine TA_all [6] (by kernel_rfl) (by decide) ⟨⟨_, rfl, rfl, (TOp_callV (call_closure fv1_E rfl rfl) (fv1_H _  _ h_4) (looseL_app rfl fv1_l) rfl rfl ?_)⟩, trivial⟩
          refine TA_listed #[true, true, true, true, true, true, true, false] rfl ?_
          refine TA_first 7 #[true, true, true, true, true, true, true, true] rfl (purI_assign rfl) rfl rfl rfl (by kernel_rfl) (by kernel_rfl) (by kernel_rfl) ?_
          refine TA_env (E' := [(6, (intA r_3))]) ⟨rfl, trivial⟩ ?_
          exact TA_nil (by kernel_rfl) (joined () (WeakL.to 0 (Nat.le_of_ble_eq_true rfl) rfl rfl rfl rfl ⟨leR rfl, trivial⟩) trivial)
        · skip
          refine ⟨_, rfl, rfl, (TOp_pure (pur_ld_q one3 rfl rfl rfl) rfl ?_)⟩
          refine TA_listed #[true, false, true, true, true, false, false, false] rfl ?_
          refine TA_all [1] (by kernel_rfl) (by decide) ⟨⟨_, rfl, rfl, (TOp_pure (pur_ldK_q agg32 rfl (Nat.le_of_ble_eq_true rfl) rfl) rfl ?_)⟩, trivial⟩
          refine TA_listed #[true, true, true, true, true, false, false, false] rfl ?_
          refine TA_all [5] (by kernel_rfl) (by decide) ⟨⟨_, rfl, rfl, (TOp_callV (call_static ent58 rfl) (m_impl_columnOf_ok _ _ _ _ _ h_2) rfl rfl rfl ?_)⟩, trivial⟩
          refine TA_listed #[true, true, true, true, true, true, false, false] rfl ?_
          refine TA_all [6] (by kernel_rfl) (by decide) ⟨⟨_, rfl, rfl, (TOp_callV (call_closure fv1_E rfl rfl) (fv1_H _  _ h_4) (looseL_app rfl fv1_l) rfl rfl ?_)⟩, trivial⟩
          refine TA_listed #[true, true, true, true, true, true, true, false] rfl ?_
          refine TA_first 7 #[true, true, true, true, true, true, true, true] rfl (purI_assign rfl) rfl rfl rfl (by kernel_rfl) (by kernel_rfl) (by kernel_rfl) ?_
          refine TA_env (E' := [(6, (intA r_3))]) ⟨rfl, trivial⟩ ?_
          exact TA_nil (by kernel_rfl) (joined () (WeakL.to 0 (Nat.le_of_ble_eq_true rfl) rfl rfl rfl rfl ⟨leR rfl, trivial⟩) trivial)
      · skip
        refine ⟨_, rfl, rfl, (TOp_pure (pur_ldK_q agg32 rfl (Nat.le_of_ble_eq_true rfl) rfl) rfl ?_)⟩
        refine TA_listed #[false, true, true, false, true, false, false, false] rfl ?_
        refine TA_all [0, 3] (by kernel_rfl) (by decide) ⟨?_, ?_, trivial⟩
        · skip
          refine ⟨_, rfl, rfl, (TOp_pure (pur_ld_q one73 rfl rfl rfl) rfl ?_)⟩
          refine TA_listed #[true, true, true, false, true, false, false, false] rfl ?_
          refine TA_all [3] (by kernel_rfl) (by decide) ⟨⟨_, rfl, rfl, (TOp_pure (pur_ld_q one3 rfl rfl rfl) rfl ?_)⟩, trivial⟩
          refine TA_listed #[true, true, true, true, true, false, false, false] rfl ?_
          refine TA_all [5] (by kernel_rfl) (by decide) ⟨⟨_, rfl, rfl, (TOp_callV (call_static ent58 rfl) (m_impl_columnOf_ok _ _ _ _ _ h_2) rfl rfl rfl ?_)⟩, trivial⟩
          refine TA_listed #[true, true, true, true, true, true, false, false] rfl ?_
          refine TA_all [6] (by kernel_rfl) (by decide) ⟨⟨_, rfl, rfl, (TOp_callV (call_closure fv1_E rfl rfl) (fv1_H _  _ h_4) (looseL_app rfl fv1_l) rfl rfl ?_)⟩, trivial⟩
          refine TA_listed #[true, true, true, true, true, true, true, false] rfl ?_
          refine TA_first 7 #[true, true, true, true, true, true, true, true] rfl (purI_assign rfl) rfl rfl rfl (by kernel_rfl) (by kernel_rfl) (by kernel_rfl) ?_
          refine TA_env (E' := [(6, (intA r_3))]) ⟨rfl, trivial⟩ ?_
          exact TA_nil (by kernel_rfl) (joined () (WeakL.to 0 (Nat.le_of_ble_eq_true rfl) rfl rfl rfl rfl ⟨leR rfl, trivial⟩) trivial)
        · skip
          refine ⟨_, rfl, rfl, (TOp_pure (pur_ld_q one3 rfl rfl rfl) rfl ?_)⟩
          refine TA_listed #[false, true, true, true, true, false, false, false] rfl ?_
          refine TA_all [0, 5] (by kernel_rfl) (by decide) ⟨?_, ?_, trivial⟩
          · skip
            refine ⟨_, rfl, rfl, (TOp_pure (pur_ld_q one73 rfl rfl rfl) rfl ?_)⟩
            refine TA_listed #[true, true, true, true, true, false, false, false] rfl ?_
            refine TA_all [5] (by kernel_rfl) (by decide) ⟨⟨_, rfl, rfl, (TOp_callV (call_static ent58 rfl) (m_impl_columnOf_ok _ _ _ _ _ h_2) rfl rfl rfl ?_)⟩, trivial⟩
            refine TA_listed #[true, true, true, true, true, true, false, false] rfl ?_
            refine TA_all [6] (by kernel_rfl) (by decide) ⟨⟨_, rfl, rfl, (TOp_callV (call_closure fv1_E rfl rfl) (fv1_H _  _ h_4) (looseL_app rfl fv1_l) rfl rfl ?_)⟩, trivial⟩
            refine TA_listed #[true, true, true, true, true, true, true, false] rfl ?_
            refine TA_first 7 #[true, true, true, true, true, true, true, true] rfl (purI_assign rfl) rfl rfl rfl (by kernel_rfl) (by kernel_rfl) (by kernel_rfl) ?_
            refine TA_env (E' := [(6, (intA r_3))]) ⟨rfl, trivial⟩ ?_
            exact TA_nil (by kernel_rfl) (joined () (WeakL.to 0 (Nat.le_of_ble_eq_true rfl) rfl rfl rfl rfl ⟨leR rfl, trivial⟩) trivial)
          · skip
            refine ⟨_, rfl, rfl, (TOp_callV (call_static ent58 rfl) (m_impl_columnOf_ok _ _ _ _ _ h_2) rfl rfl rfl ?_)⟩
            refine TA_listed #[false, true, true, true, true, true, false, false] rfl ?_
            refine TA_all [0] (by kernel_rfl) (by decide) ⟨⟨_, rfl, rfl, (TOp_pure (pur_ld_q one73 rfl rfl rfl) rfl ?_)⟩, trivial⟩
            refine TA_listed #[true, true, true, true, true, true, false, false] rfl ?_
            refine TA_all [6] (by kernel_rfl) (by decide) ⟨⟨_, rfl, rfl, (TOp_callV (call_closure fv1_E rfl rfl) (fv1_H _  _ h_4) (looseL_app rfl fv1_l) rfl rfl ?_)⟩, trivial⟩
            refine TA_listed #[true, true, true, true, true, true, true, false] rfl ?_
            refine TA_first 7 #[true, true, true, true, true, true, true, true] rfl (purI_assign rfl) rfl rfl rfl (by kernel_rfl) (by kernel_rfl) (by kernel_rfl) ?_
            refine TA_env (E' := [(6, (intA r_3))]) ⟨rfl, trivial⟩ ?_
            exact TA_nil (by kernel_rfl) (joined () (WeakL.to 0 (Nat.le_of_ble_eq_true rfl) rfl rfl rfl rfl ⟨leR rfl, trivial⟩) trivial)
      · skip
        refine ⟨_, rfl, rfl, (TOp_pure (pur_ld_q one3 rfl rfl rfl) rfl ?_)⟩
        refine TA_listed #[false, false, true, true, true, false, false, false] rfl ?_
        refine TA_all [0, 1] (by kernel_rfl) (by decide) ⟨?_, ?_, trivial⟩
        · skip
          refine ⟨_, rfl, rfl, (TOp_pure (pur_ld_q one73 rfl rfl rfl) rfl ?_)⟩
          refine TA_listed #[true, false, true, true, true, false, false, false] rfl ?_
          refine TA_all [1] (by kernel_rfl) (by decide) ⟨⟨_, rfl, rfl, (TOp_pure (pur_ldK_q agg32 rfl (Nat.le_of_ble_eq_true rfl) rfl) rfl ?_)⟩, trivial⟩
          refine TA_listed #[true, true, true, true, true, false, false, false] rfl ?_
          refine TA_all [5] (by kernel_rfl) (by decide) ⟨⟨_, rfl, rfl, (TOp_callV (call_static ent58 rfl) (m_impl_columnOf_ok _ _ _ _ _ h_2) rfl rfl rfl ?_)⟩, trivial⟩
          refine TA_listed #[true, true, true, true, true, true, false, false] rfl ?_
          refine TA_all [6] (by kernel_rfl) (by decide) ⟨⟨_, rfl, rfl, (TOp_callV (call_closure fv1_E rfl rfl) (fv1_H _  _ h_4) (looseL_app rfl fv1_l) rfl rfl ?_)⟩, trivial⟩
          refine TA_listed #[true, true, true, true, true, true, true, false] rfl ?_
          refine TA_first 7 #[true, true, true, true, true, true, true, true] rfl (purI_assign rfl) rfl rfl rfl (by kernel_rfl) (by kernel_rfl) (by kernel_rfl) ?_
          refine TA_env (E' := [(6, (intA r_3))]) ⟨rfl, trivial⟩ ?_
          exact TA_nil (by kernel_rfl) (joined () (WeakL.to 0 (Nat.le_of_ble_eq_true rfl) rfl rfl rfl rfl ⟨leR rfl, trivial⟩) trivial)
        · skip
          refine ⟨_, rfl, rfl, (TOp_pure (pur_ldK_q agg32 rfl (Nat.le_of_ble_eq_true rfl) rfl) rfl ?_)⟩
          refine TA_listed #[false, true, true, true, true, false, false, false] rfl ?_
          refine TA_all [0, 5] (by kernel_rfl) (by decide) ⟨?_, ?_, trivial⟩
          · skip
            refine ⟨_, rfl, rfl, (TOp_pure (pur_ld_q one73 rfl rfl rfl) rfl ?_)⟩
            refine TA_listed #[true, true, true, true, true, false, false, false] rfl ?_
            refine TA_all [5] (by kernel_rfl) (by decide) ⟨⟨_, rfl, rfl, (TOp_callV (call_static ent58 rfl) (m_impl_columnOf_ok _ _ _ _ _ h_2) rfl rfl rfl ?_)⟩, trivial⟩
            refine TA_listed #[true, true, true, true, true, true, false, false] rfl ?_
            refine TA_all [6] (by kernel_rfl) (by decide) ⟨⟨_, rfl, rfl, (TOp_callV (call_closure fv1_E rfl rfl) (fv1_H _  _ h_4) (looseL_app rfl fv1_l) rfl rfl ?_)⟩, trivial⟩
            refine TA_listed #[true, true, true, true, true, true, true, false] rfl ?_
            refine TA_first 7 #[true, true, true, true, true, true, true, true] rfl (purI_assign rfl) rfl rfl rfl (by kernel_rfl) (by kernel_rfl) (by kernel_rfl) ?_
            refine TA_env (E' := [(6, (intA r_3))]) ⟨rfl, trivial⟩ ?_
            exact TA_nil (by kernel_rfl) (joined () (WeakL.to 0 (Nat.le_of_ble_eq_true rfl) rfl rfl rfl rfl ⟨leR rfl, trivial⟩) trivial)
          · skip
            refine ⟨_, rfl, rfl, (TOp_callV (call_static ent58 rfl) (m_impl_columnOf_ok _ _ _ _ _ h_2) rfl rfl rfl ?_)⟩
            refine TA_listed #[false, true, true, true, true, true, false, false] rfl ?_
            refine TA_all [0] (by kernel_rfl) (by decide) ⟨⟨_, rfl, rfl, (TOp_pure (pur_ld_q one73 rfl rfl rfl) rfl ?_)⟩, trivial⟩
            refine TA_listed #[true, true, true, true, true, true, false, false] rfl ?_
            refine TA_all [6] (by kernel_rfl) (by decide) ⟨⟨_, rfl, rfl, (TOp_callV (call_closure fv1_E rfl rfl) (fv1_H _  _ h_4) (looseL_app rfl fv1_l) rfl rfl ?_)⟩, trivial⟩
            refine TA_listed #[true, true, true, true, true, true, true, false] rfl ?_
            refine TA_first 7 #[true, true, true, true, true, true, true, true] rfl (purI_assign rfl) rfl rfl rfl (by kernel_rfl) (by kernel_rfl) (by kernel_rfl) ?_
            refine TA_env (E' := [(6, (intA r_3))]) ⟨rfl, trivial⟩ ?_
            exact TA_nil (by kernel_rfl) (joined () (WeakL.to 0 (Nat.le_of_ble_eq_true rfl) rfl rfl rfl rfl ⟨leR rfl, trivial⟩) trivial)
  · rintro _ _
    refine T_env (E' := [(6, (intA r_3))]) ⟨rfl, trivial⟩ ?_
    refine T_ret ?_
    obtain rfl := some_inj H
    refine end_ret (.tmp .nil) rfl rfl ⟨?_, rfl⟩
    rfl

set_option maxHeartbeats 1000000 in
/-- impl.columnRange -/
theorem m_impl_columnRange_ok (u : Nat) (db0 : Database) (relation1 : Int) (column2 : Int) (nonEmpty3 : Bool) (aggregate4 : ((List Int) → Option Int)) (aggregate4_g : Nat) (aggregate4_c : List A) (aggregate4_E : EnT prg aggregate4_g) (aggregate4_l : looseL aggregate4_c = true) (aggregate4_m : firmL aggregate4_c = true ∧ fzL aggregate4_c = aggregate4_c) (aggregate4_H : ∀ (x0 : (List Int)) r, aggregate4 x0 = some r → FnV prg aggregate4_g ([(sl tInt x0)] ++ aggregate4_c) (intA r)) (r : (Int × Int × Bool)) (H : m_impl_columnRange u db0 relation1 column2 nonEmpty3 aggregate4 = some r) : FnV prg 71 [(.g (tDatabase.enc db0)), (intA relation1), (intA column2), (boolA nonEmpty3), (.f aggregate4_g aggregate4_c)] (.t [(intA r.1), (intA r.2.1), (boolA r.2.2)]) := by
  unfold m_impl_columnRange at H
  refine fnV_of_T Try.func71 rfl rfl (Nat.le_of_ble_eq_true rfl) ?_
  refine T_env (E' := [(0, (.g (tDatabase.enc db0))), (1, (intA relation1)), (2, (intA column2)), (3, (boolA nonEmpty3)), (4, (.f aggregate4_g aggregate4_c))]) ⟨rfl, rfl, rfl, rfl, rfl, trivial⟩ ?_
  refine T_seq ?_
  refine T_region ?_
  refine TO_cons rfl (TOp_box rfl (boxAll rfl) rfl rfl ?_)
  refine TO_cons rfl (TOp_box rfl (boxAll rfl) rfl rfl ?_)
  refine TO_cons rfl (TOp_box rfl (boxAll rfl) rfl rfl ?_)
  refine TO_cons rfl (TOp_box rfl (boxAll rfl) rfl rfl ?_)
  refine TO_cons rfl (TOp_pure (pur_assign rfl) rfl ?_)
  refine TO_cons rfl (TOp_pure (pur_assign rfl) rfl ?_)
  refine TO_cons rfl (TOp_pure (pur_assign rfl) rfl ?_)
  refine TO_nil ?_
  refine T_env (E' := [(3, (boolA nonEmpty3)), (5, (.b 0 0)), (6, (.b 1 0)), (7, (.b 2 0)), (9, (.b 3 0))]) ⟨rfl, rfl, rfl, rfl, rfl, trivial⟩ ?_
  refine T_seq ?_
  obtain ⟨t29, J_1, H_2⟩ := bind_inv H
  refine T_cutX (fun x => t29 = x) (fun (t29 : Bool) => [(5, (.b 0 0)), (6, (.b 1 0)), (7, (.b 2 0)), (9, (.b 3 0)), (29, (boolA t29))]) (fun (t29 : Bool) => [.box [(sl tRelation db0.relations), (sl tFact db0.facts)], .box [(intA relation1)], .box [(intA column2)], .box [(.f aggregate4_g aggregate4_c)]]) ?_ ?_
  · replace H := J_1
    refine T_region ?_
    refine TO_cons rfl (TOp_pure (pur_ldK_b agg32 rfl rfl (Nat.le_of_ble_eq_true rfl) rfl) rfl ?_)
    refine TO_cons rfl (TOp_pure (pur_ld_b one3 rfl rfl rfl rfl) rfl ?_)
    refine TO_cons rfl (TOp_pure (pur_ld_b one3 rfl rfl rfl rfl) rfl ?_)
    obtain ⟨r_3, h_4, H⟩ := bind_inv H
    refine TO_cons rfl (TOp_callV (call_static ent55 rfl) (m_impl_isColumn_ok _ _ _ _ h_4) rfl rfl rfl ?_)
    refine TO_cons rfl (TOp_pure (pur_not rfl rfl) rfl ?_)
    refine TO_cons rfl (TOp_pure (pur_move rfl) rfl ?_)
    refine TO_split (t := (!r_3)) 20 rfl (fun g_5 => ?_) (fun g_5 => ?_)
    · replace H := cond_t g_5 H
      refine TO_off rfl rfl (by decide) rfl rfl rfl ?_
      refine TO_off rfl rfl (by decide) rfl rfl rfl ?_
      refine TO_off rfl rfl (by decide) rfl rfl rfl ?_
      refine TO_off rfl rfl (by decide) rfl rfl rfl ?_
      refine TO_off rfl rfl (by decide) rfl rfl rfl ?_
      refine TO_off rfl rfl (by decide) rfl rfl rfl ?_
      refine TO_off rfl rfl (by decide) rfl rfl rfl ?_
      refine TO_off rfl rfl (by decide) rfl rfl rfl ?_
      refine TO_cons rfl (TOp_pure (pur_pick (t := true) rfl rfl rfl) rfl ?_)
      refine TO_nil ?_
      exact joined true (WeakL.to 4 (Nat.le_of_ble_eq_true rfl) rfl rfl rfl (by simp [boxesE, boxNames, namesL, A.names, looseL_names aggregate4_l]) ⟨leR rfl, leR rfl, leR rfl, leR rfl, leR rfl, trivial⟩) (some_inj H).symm
    · replace H := cond_f g_5 H
      refine TO_on rfl rfl (by decide) rfl rfl (TOp_pure (pur_move rfl) rfl ?_)
      refine TO_on rfl rfl (by decide) rfl rfl (TOp_pure (pur_move rfl) rfl ?_)
      refine TO_split (t := nonEmpty3) 22 rfl (fun g_6 => ?_) (fun g_6 => ?_)
      · replace H := cond_t g_6 H
        refine TO_on rfl rfl (by decide) rfl rfl (TOp_pure (pur_fa_b fld32_1 rfl rfl) rfl ?_)
        refine TO_on rfl rfl (by decide) rfl rfl (TOp_pure (pur_ld_b one30 rfl rfl rfl rfl) rfl ?_)
        refine TO_on rfl rfl (by decide) rfl rfl (TOp_pure (pur_makeFunc rfl) rfl ?_)
        obtain ⟨r_7, h_8, H⟩ := bind_inv H
        refine TO_on rfl rfl (by decide) rfl rfl (TOp_callB (call_static ent97 rfl) (frz_cons (frz_loose rfl) (frz_cons (frzOK_f (frz_cons (frzOK_b (xs := [(intA relation1)]) (ys := [(intA relation1)]) rfl rfl rfl) frz_nil).1 (frz_cons (frzOK_b (xs := [(intA relation1)]) (ys := [(intA relation1)]) rfl rfl rfl) frz_nil).2) frz_nil)).1 (frz_cons (frz_loose rfl) (frz_cons (frzOK_f (frz_cons (frzOK_b (xs := [(intA relation1)]) (ys := [(intA relation1)]) rfl rfl rfl) frz_nil).1 (frz_cons (frzOK_b (xs := [(intA relation1)]) (ys := [(intA relation1)]) rfl rfl rfl) frz_nil).2) frz_nil)).2 (m_slices_ContainsFunc_Simpl_Fact_impl_Fact_ok _ (fun x0 => m_impl_columnRange_1 x0 relation1) 98 [(.q [(intA relation1)] 0)] ent98 rfl ⟨rfl, rfl⟩ (fun x0 r h => m_impl_columnRange_1_ok x0 relation1 r h) _ h_8) rfl ?_)
        refine TO_on rfl rfl (by decide) rfl rfl (TOp_pure (pur_not rfl rfl) rfl ?_)
        refine TO_on rfl rfl (by decide) rfl rfl (TOp_pure (pur_pick (t := true) rfl rfl rfl) rfl ?_)
        refine TO_cons rfl (TOp_pure (pur_pick (t := false) rfl rfl rfl) rfl ?_)
        refine TO_nil ?_
        exact joined (!r_7) (WeakL.to 4 (Nat.le_of_ble_eq_true rfl) rfl rfl rfl (by simp [boxesE, boxNames, namesL, A.names, looseL_names aggregate4_l]) ⟨leR rfl, leR rfl, leR rfl, leR rfl, leR rfl, trivial⟩) (some_inj H).symm
      · replace H := cond_f g_6 H
        refine TO_off rfl rfl (by decide) rfl rfl rfl ?_
        refine TO_off rfl rfl (by decide) rfl rfl rfl ?_
        refine TO_off rfl rfl (by decide) rfl rfl rfl ?_
        refine TO_off rfl rfl (by decide) rfl rfl rfl ?_
        refine TO_off rfl rfl (by decide) rfl rfl rfl ?_
        refine TO_on rfl rfl (by decide) rfl rfl (TOp_pure (pur_pick (t := false) rfl rfl rfl) rfl ?_)
        refine TO_cons rfl (TOp_pure (pur_pick (t := false) rfl rfl rfl) rfl ?_)
        refine TO_nil ?_
        exact joined false (WeakL.to 4 (Nat.le_of_ble_eq_true rfl) rfl rfl rfl (by simp [boxesE, boxNames, namesL, A.names, looseL_names aggregate4_l]) ⟨leR rfl, leR rfl, leR rfl, leR rfl, leR rfl, trivial⟩) (some_inj H).symm
  · rintro _ rfl
    replace H := H_2
    refine T_env (E' := [(5, (.b 0 0)), (6, (.b 1 0)), (7, (.b 2 0)), (9, (.b 3 0)), (29, (boolA t29))]) ⟨rfl, rfl, rfl, rfl, rfl, trivial⟩ ?_
    refine T_cond (t := t29) rfl (fun c_9 => ?_) (fun c_9 => ?_)
    · replace H := cond_t c_9 H
      refine T_seq ?_
      refine T_region ?_
      refine TO_cons rfl (TOp_pure (pur_assign rfl) rfl ?_)
      refine TO_cons rfl (TOp_pure (pur_assign rfl) rfl ?_)
      refine TO_cons rfl (TOp_pure (pur_assign rfl) rfl ?_)
      refine TO_nil ?_
      refine T_env (E' := [(10, (intA 0)), (11, (intA 0)), (12, (boolA false))]) ⟨rfl, rfl, rfl, trivial⟩ ?_
      refine T_ret ?_
      refine then_ret ?_
      obtain rfl := some_inj H
      refine end_ret (.tmp (.tmp (.tmp .nil))) rfl rfl ⟨?_, rfl⟩
      rfl
    · replace H := cond_f c_9 H
      refine T_skip ?_
      refine T_env (E' := [(5, (.b 0 0)), (6, (.b 1 0)), (7, (.b 2 0)), (9, (.b 3 0))]) ⟨rfl, rfl, rfl, rfl, trivial⟩ ?_
      refine T_seq ?_
      refine T_region ?_
      refine TO_cons rfl (TOp_pure (pur_ldK_b agg32 rfl rfl (Nat.le_of_ble_eq_true rfl) rfl) rfl ?_)
      refine TO_cons rfl (TOp_pure (pur_makeFunc rfl) rfl ?_)
      obtain ⟨r_10, h_11, H⟩ := bind_inv H
      refine TO_cons rfl (TOp_callOG (call_static ent99 rfl) (frz_cons (frz_loose rfl) (frz_cons (frzOK_f (frz_cons (frzOK_b (xs := [(.f aggregate4_g aggregate4_c)]) (ys := [(.f aggregate4_g aggregate4_c)]) rfl (by simp [firmL, firm, aggregate4_m.1]) (by simp [fzL, fz, aggregate4_m.2])) (frz_cons (frzOK_b (xs := [(sl tRelation db0.relations), (sl tFact db0.facts)]) (ys := [(sl tRelation db0.relations), (sl tFact db0.facts)]) rfl rfl rfl) (frz_cons (frzOK_b (xs := [(intA relation1)]) (ys := [(intA relation1)]) rfl rfl rfl) (frz_cons (frzOK_b (xs := [(intA column2)]) (ys := [(intA column2)]) rfl rfl rfl) frz_nil)))).1 (frz_cons (frzOK_b (xs := [(.f aggregate4_g aggregate4_c)]) (ys := [(.f aggregate4_g aggregate4_c)]) rfl (by simp [firmL, firm, aggregate4_m.1]) (by simp [fzL, fz, aggregate4_m.2])) (frz_cons (frzOK_b (xs := [(sl tRelation db0.relations), (sl tFact db0.facts)]) (ys := [(sl tRelation db0.relations), (sl tFact db0.facts)]) rfl rfl rfl) (frz_cons (frzOK_b (xs := [(intA relation1)]) (ys := [(intA relation1)]) rfl rfl rfl) (frz_cons (frzOK_b (xs := [(intA column2)]) (ys := [(intA column2)]) rfl rfl rfl) frz_nil)))).2) frz_nil)).1 (frz_cons (frz_loose rfl) (frz_cons (frzOK_f (frz_cons (frzOK_b (xs := [(.f aggregate4_g aggregate4_c)]) (ys := [(.f aggregate4_g aggregate4_c)]) rfl (by simp [firmL, firm, aggregate4_m.1]) (by simp [fzL, fz, aggregate4_m.2])) (frz_cons (frzOK_b (xs := [(sl tRelation db0.relations), (sl tFact db0.facts)]) (ys := [(sl tRelation db0.relations), (sl tFact db0.facts)]) rfl rfl rfl) (frz_cons (frzOK_b (xs := [(intA relation1)]) (ys := [(intA relation1)]) rfl rfl rfl) (frz_cons (frzOK_b (xs := [(intA column2)]) (ys := [(intA column2)]) rfl rfl rfl) frz_nil)))).1 (frz_cons (frzOK_b (xs := [(.f aggregate4_g aggregate4_c)]) (ys := [(.f aggregate4_g aggregate4_c)]) rfl (by simp [firmL, firm, aggregate4_m.1]) (by simp [fzL, fz, aggregate4_m.2])) (frz_cons (frzOK_b (xs := [(sl tRelation db0.relations), (sl tFact db0.facts)]) (ys := [(sl tRelation db0.relations), (sl tFact db0.facts)]) rfl rfl rfl) (frz_cons (frzOK_b (xs := [(intA relation1)]) (ys := [(intA relation1)]) rfl rfl rfl) (frz_cons (frzOK_b (xs := [(intA column2)]) (ys := [(intA column2)]) rfl rfl rfl) frz_nil)))).2) frz_nil)).2 (m_impl_rangeOf_ok u _ (fun x0 => m_impl_columnRange_2 x0 aggregate4 db0 relation1 column2) 100 [(.q [(.f aggregate4_g aggregate4_c)] 0), (.q [(sl tRelation db0.relations), (sl tFact db0.facts)] 0), (.q [(intA relation1)] 0), (.q [(intA column2)] 0)] ent100 (by simp only [looseL, A.loose, Bool.true_and, Bool.and_true, Bool.and_self]) ⟨rfl, rfl⟩ (fun x0 r h => m_impl_columnRange_2_ok x0 aggregate4 aggregate4_g aggregate4_c aggregate4_E aggregate4_l aggregate4_m aggregate4_H db0 relation1 column2 r h) _ h_11) rfl (ownC_of ownSB_nil) rfl rfl rfl ?_)
      refine TO_env (E' := [(5, (.b 0 0)), (6, (.b 1 0)), (7, (.b 2 0)), (9, (.b 3 0)), (31, (.g (tDatabase.enc db0))), (32, (.f 100 [(.b 3 0), (.b 0 0), (.b 1 0), (.b 2 0)])), (33, (.t [(intA r_10.1), (intA r_10.2)]))]) ⟨rfl, rfl, rfl, rfl, rfl, rfl, rfl, trivial⟩ ?_
      refine TO_st (σ' := [.box [(sl tRelation db0.relations), (sl tFact db0.facts)], .box [(intA relation1)], .box [(intA column2)], .box [(.f aggregate4_g aggregate4_c)]]) rfl ?_
      refine TO_cons rfl (TOp_pure (pur_move rfl) rfl ?_)
      refine TO_cons rfl (TOp_pure (pur_extract rfl rfl rfl) rfl ?_)
      refine TO_cons rfl (TOp_pure (pur_extract rfl rfl rfl) rfl ?_)
      refine TO_cons rfl (TOp_pure (pur_assign rfl) rfl ?_)
      refine TO_cons rfl (TOp_pure (pur_assign rfl) rfl ?_)
      refine TO_nil ?_
      refine T_env (E' := [(13, (intA r_10.1)), (14, (intA r_10.2))]) ⟨rfl, rfl, trivial⟩ ?_
      refine T_seq ?_
      refine T_region ?_
      refine TO_cons rfl (TOp_pure (pur_move rfl) rfl ?_)
      refine TO_cons rfl (TOp_pure (pur_move rfl) rfl ?_)
      refine TO_cons rfl (TOp_pure (pur_assign rfl) rfl ?_)
      refine TO_cons rfl (TOp_pure (pur_assign rfl) rfl ?_)
      refine TO_cons rfl (TOp_pure (pur_assign rfl) rfl ?_)
      refine TO_nil ?_
      refine T_env (E' := [(10, (intA r_10.1)), (11, (intA r_10.2)), (12, (boolA true))]) ⟨rfl, rfl, rfl, trivial⟩ ?_
      refine T_ret ?_
      obtain rfl := some_inj H
      refine end_ret (.tmp (.tmp (.tmp .nil))) rfl rfl ⟨?_, rfl⟩
      rfl

set_option maxHeartbeats 1000000 in
/-- slices.Index[[]int,int] -/
theorem m_slices_Index_Sint_int_ok (s0 : (List Int)) (v1 : Int) (r : Int) (H : m_slices_Index_Sint_int s0 v1 = some r) : FnV prg 120 [(sl tInt s0), (intA v1)] (intA r) := by
  unfold m_slices_Index_Sint_int at H
  refine fnV_of_T Try.func120 rfl rfl (Nat.le_of_ble_eq_true rfl) ?_
  refine T_env (E' := [(0, (sl tInt s0)), (1, (intA v1))]) ⟨rfl, rfl, trivial⟩ ?_
  refine T_seq ?_
  refine T_region ?_
  refine TO_cons rfl (TOp_pure (pur_assign rfl) rfl ?_)
  refine TO_nil ?_
  refine T_env (E' := [(0, (sl tInt s0)), (1, (intA v1))]) ⟨rfl, rfl, trivial⟩ ?_
  refine T_seq ?_
  refine T_seq ?_
  refine T_region ?_
  refine TO_cons rfl (TOp_pure (pur_move rfl) rfl ?_)
  refine TO_cons rfl (TOp_pure (pur_lenT (T := tInt) sl33 rfl rfl) rfl ?_)
  refine TO_cons rfl (TOp_pure (pur_move rfl) rfl ?_)
  refine TO_nil ?_
  refine T_env (E' := [(0, (sl tInt s0)), (1, (intA v1)), (7, (intA (s0.length : Int))), (8, (intA 0))]) ⟨rfl, rfl, rfl, rfl, trivial⟩ ?_
  obtain ⟨O2_, L2_, N2_⟩ := bind_inv H
  clear H
  obtain ⟨B2_, hb2, L2_⟩ := gen_forL L2_
  refine T_block ?_
  refine T_loopX (fun k => fun (t_1 : Nat) => k = s0.length - t_1 ∧ forL B2_ (s0.drop t_1) (t_1 : Int) () = some O2_) (fun (t_1 : Nat) => [(0, (sl tInt s0)), (1, (intA v1)), (7, (intA (s0.length : Int))), (8, (intA (t_1 : Int)))]) (fun (t_1 : Nat) => []) _ (0 : Nat) (WeakL.to 0 (Nat.le_of_ble_eq_true rfl) rfl rfl rfl rfl ⟨leR rfl, leR rfl, leR rfl, leR rfl, trivial⟩) ⟨rfl, L2_⟩ ?_
  rintro _ t_1 ⟨rfl, L2_⟩
  refine T_env (E' := [(0, (sl tInt s0)), (1, (intA v1)), (7, (intA (s0.length : Int))), (8, (intA (t_1 : Int)))]) ⟨rfl, rfl, rfl, rfl, trivial⟩ ?_
  refine T_st (σ' := []) rfl ?_
  refine T_fact (len_sl (T := tInt) (.tmp 0) rfl) (fun hl2 => ?_)
  refine T_seq ?_
  refine T_region ?_
  refine TO_cons rfl (TOp_pure (pur_lss rfl rfl rfl) rfl ?_)
  refine TO_nil ?_
  refine T_env (E' := [(0, (sl tInt s0)), (1, (intA v1)), (7, (intA (s0.length : Int))), (8, (intA (t_1 : Int))), (9, (boolA (decide ((t_1 : Int) < (s0.length : Int)))))]) ⟨rfl, rfl, rfl, rfl, rfl, trivial⟩ ?_
  refine T_seq ?_
  refine T_cond (t := decide ((t_1 : Int) < (s0.length : Int))) rfl (fun d2 => ?_) (fun d2 => ?_)
  · replace d2 := of_decide_eq_true d2
    obtain ⟨x_t_1, hx_t_1⟩ : ∃ v, (s0)[t_1]? = some v := ⟨_, List.getElem?_eq_getElem (by omega)⟩
    obtain ⟨C2_, H, K2_⟩ := forL_step L2_ hx_t_1
    rw [hb2] at H
    refine T_skip ?_
    refine T_env (E' := [(0, (sl tInt s0)), (1, (intA v1)), (7, (intA (s0.length : Int))), (8, (intA (t_1 : Int)))]) ⟨rfl, rfl, rfl, rfl, trivial⟩ ?_
    refine T_seq ?_
    refine T_block ?_
    refine T_seq ?_
    refine T_region ?_
    refine TO_cons rfl (TOp_pure (pur_move rfl) rfl ?_)
    refine TO_cons rfl (TOp_pure (pur_assign rfl) rfl ?_)
    refine TO_nil ?_
    refine T_env (E' := [(0, (sl tInt s0)), (1, (intA v1)), (5, (intA (t_1 : Int))), (7, (intA (s0.length : Int))), (8, (intA (t_1 : Int)))]) ⟨rfl, rfl, rfl, rfl, rfl, trivial⟩ ?_
    refine T_seq ?_
    refine T_region ?_
    refine TO_cons rfl (TOp_pure (pur_move rfl) rfl ?_)
    refine TO_cons rfl (TOp_pure (pur_move rfl) rfl ?_)
    refine TO_cons rfl (TOp_pure (pur_move rfl) rfl ?_)
    refine TO_cons rfl (TOp_pure (pur_ixT (T := tInt) sl33 rfl rfl rfl hx_t_1 rfl) rfl ?_)
    refine TO_cons rfl (TOp_pure (pur_ldT (T := tInt) (i := t_1) (off := 0) rfl one3 rfl rfl hx_t_1 rfl) rfl ?_)
    refine TO_cons rfl (TOp_pure (pur_eql rfl rfl rfl) rfl ?_)
    refine TO_nil ?_
    refine T_env (E' := [(0, (sl tInt s0)), (1, (intA v1)), (5, (intA (t_1 : Int))), (7, (intA (s0.length : Int))), (8, (intA (t_1 : Int))), (16, (boolA (decide (v1 = x_t_1))))]) ⟨rfl, rfl, rfl, rfl, rfl, rfl, trivial⟩ ?_
    refine T_cond (t := decide (v1 = x_t_1)) rfl (fun c_3 => ?_) (fun c_3 => ?_)
    · replace H := cond_t c_3 H
      refine T_seq ?_
      refine T_region ?_
      refine TO_cons rfl (TOp_pure (pur_move rfl) rfl ?_)
      refine TO_cons rfl (TOp_pure (pur_assign rfl) rfl ?_)
      refine TO_nil ?_
      refine T_env (E' := [(4, (intA (t_1 : Int)))]) ⟨rfl, trivial⟩ ?_
      refine T_ret ?_
      refine block_ret ?_
      refine then_ret ?_
      refine then_ret ?_
      refine block_ret ?_
      refine then_ret ?_
      obtain rfl := some_inj H
      obtain rfl := some_inj K2_
      replace H := onS_r N2_
      obtain rfl := some_inj H
      refine end_ret (.tmp .nil) rfl rfl ⟨?_, rfl⟩
      rfl
    · replace H := cond_f c_3 H
      refine T_skip ?_
      refine T_env (E' := [(0, (sl tInt s0)), (1, (intA v1)), (7, (intA (s0.length : Int))), (8, (intA (t_1 : Int)))]) ⟨rfl, rfl, rfl, rfl, trivial⟩ ?_
      refine T_region ?_
      refine TO_cons rfl (TOp_pure (pur_add rfl rfl rfl (fits64 (by omega) (by omega))) rfl ?_)
      refine TO_cons rfl (TOp_pure (pur_move rfl) rfl ?_)
      refine TO_nil ?_
      obtain rfl := some_inj H
      exact again (s0.length - (t_1 + 1)) (t_1 + 1) (by omega) (WeakL.to 0 (Nat.le_of_ble_eq_true rfl) rfl rfl rfl rfl ⟨leR rfl, leR rfl, leR rfl, leR rfl, trivial⟩) ⟨rfl, K2_⟩
  · replace d2 := of_decide_eq_false d2
    obtain rfl := forL_end L2_ (by omega)
    refine T_exit ?_
    refine then_exit ?_
    refine then_exit ?_
    refine block_exit ?_
    replace H := onS_l N2_
    refine T_env (E' := []) trivial ?_
    refine T_seq ?_
    refine T_region ?_
    refine TO_cons rfl (TOp_pure (pur_assign rfl) rfl ?_)
    refine TO_nil ?_
    refine T_env (E' := [(4, (intA (-1)))]) ⟨rfl, trivial⟩ ?_
    refine T_ret ?_
    obtain rfl := some_inj H
    refine end_ret (.tmp .nil) rfl rfl ⟨?_, rfl⟩
    rfl

set_option maxHeartbeats 1000000 in
/-- slices.Contains[[]int,int] -/
theorem m_slices_Contains_Sint_int_ok (s0 : (List Int)) (v1 : Int) (r : Bool) (H : m_slices_Contains_Sint_int s0 v1 = some r) : FnV prg 101 [(sl tInt s0), (intA v1)] (boolA r) := by
  unfold m_slices_Contains_Sint_int at H
  refine fnV_of_T Try.func101 rfl rfl (Nat.le_of_ble_eq_true rfl) ?_
  refine T_env (E' := [(0, (sl tInt s0)), (1, (intA v1))]) ⟨rfl, rfl, trivial⟩ ?_
  refine T_seq ?_
  refine T_region ?_
  refine TO_cons rfl (TOp_pure (pur_assign rfl) rfl ?_)
  refine TO_nil ?_
  refine T_env (E' := [(0, (sl tInt s0)), (1, (intA v1))]) ⟨rfl, rfl, trivial⟩ ?_
  refine T_seq ?_
  refine T_region ?_
  refine TO_cons rfl (TOp_pure (pur_move rfl) rfl ?_)
  refine TO_cons rfl (TOp_pure (pur_move rfl) rfl ?_)
  obtain ⟨r_1, h_2, H⟩ := bind_inv H
  refine TO_cons rfl (TOp_callV (call_static ent120 rfl) (m_slices_Index_Sint_int_ok _ _ _ h_2) rfl rfl rfl ?_)
  refine TO_cons rfl (TOp_pure (pur_geq rfl rfl rfl) rfl ?_)
  refine TO_cons rfl (TOp_pure (pur_assign rfl) rfl ?_)
  refine TO_nil ?_
  refine T_env (E' := [(4, (boolA (decide (0 ≤ r_1))))]) ⟨rfl, trivial⟩ ?_
  refine T_ret ?_
  obtain rfl := some_inj H
  refine end_ret (.tmp .nil) rfl rfl ⟨?_, rfl⟩
  rfl

set_option maxHeartbeats 1000000 in
/-- impl.without -/
theorem m_impl_without_own (a0 : (List Int)) (b1 : (List Int)) (r : (List Int)) (H : m_impl_without a0 b1 = some r) : FnO prg 75 [(sl tInt a0), (sl tInt b1)] (.m [0] 0 r.length tInt.k) [.row (flat tInt.own r)] := by
  unfold m_impl_without at H
  refine fnO_of_T Try.func75 rfl rfl (Nat.le_of_ble_eq_true rfl) ?_
  refine T_env (E' := [(0, (sl tInt a0)), (1, (sl tInt b1))]) ⟨rfl, rfl, trivial⟩ ?_
  refine T_seq ?_
  refine T_region ?_
  refine TO_cons rfl (TOp_pure (pur_assign rfl) rfl ?_)
  refine TO_nil ?_
  refine T_env (E' := [(0, (sl tInt a0)), (1, (sl tInt b1))]) ⟨rfl, rfl, trivial⟩ ?_
  refine T_seq ?_
  refine T_region ?_
  refine TO_cons rfl (TOp_lit (nn := 0) (k := 1) sl33 zero3 rfl rfl rfl rfl (by decide) ?_)
  refine TO_st (σ' := [.row (flat tInt.enc ([] : (List Int)))]) rfl ?_
  refine TO_cons rfl (TOp_pure (pur_assign rfl) rfl ?_)
  refine TO_nil ?_
  refine T_env (E' := [(0, (sl tInt a0)), (1, (sl tInt b1)), (5, (.m [0] 0 ([] : (List Int)).length tInt.k))]) ⟨rfl, rfl, rfl, trivial⟩ ?_
  refine T_seq ?_
  refine T_seq ?_
  refine T_region ?_
  refine TO_cons rfl (TOp_pure (pur_move rfl) rfl ?_)
  refine TO_cons rfl (TOp_pure (pur_lenT (T := tInt) sl33 rfl rfl) rfl ?_)
  refine TO_cons rfl (TOp_pure (pur_move rfl) rfl ?_)
  refine TO_nil ?_
  refine T_env (E' := [(1, (sl tInt b1)), (5, (.m [0] 0 ([] : (List Int)).length tInt.k)), (9, (sl tInt a0)), (10, (intA (a0.length : Int))), (11, (intA 0))]) ⟨rfl, rfl, rfl, rfl, rfl, trivial⟩ ?_
  obtain ⟨O2_, L2_, N2_⟩ := bind_inv H
  clear H
  obtain ⟨B2_, hb2, L2_⟩ := gen_forS L2_
  refine T_block ?_
  refine T_loopX (fun k => fun (x_ : Nat × (List Int)) => k = a0.length - x_.1 ∧ forS B2_ (a0.drop x_.1) (x_.1 : Int) x_.2 = some O2_) (fun (x_ : Nat × (List Int)) => [(1, (sl tInt b1)), (5, (.m [0] 0 x_.2.length tInt.k)), (9, (sl tInt a0)), (10, (intA (a0.length : Int))), (11, (intA (x_.1 : Int)))]) (fun (x_ : Nat × (List Int)) => [.row (flat tInt.enc x_.2)]) _ (0, ([] : (List Int))) (WeakL.to 1 (Nat.le_of_ble_eq_true rfl) rfl rfl rfl rfl ⟨leR rfl, leR rfl, leR rfl, leR rfl, leR rfl, trivial⟩) ⟨rfl, L2_⟩ ?_
  rintro _ ⟨t_1, out5⟩ ⟨rfl, L2_⟩
  refine T_env (E' := [(1, (sl tInt b1)), (5, (.m [0] 0 out5.length tInt.k)), (9, (sl tInt a0)), (10, (intA (a0.length : Int))), (11, (intA (t_1 : Int)))]) ⟨rfl, rfl, rfl, rfl, rfl, trivial⟩ ?_
  refine T_st (σ' := [.row (flat tInt.enc out5)]) rfl ?_
  refine T_fact (len_sl (T := tInt) (.tmp 9) rfl) (fun hl2 => ?_)
  refine T_seq ?_
  refine T_region ?_
  refine TO_cons rfl (TOp_pure (pur_lss rfl rfl rfl) rfl ?_)
  refine TO_nil ?_
  refine T_env (E' := [(1, (sl tInt b1)), (5, (.m [0] 0 out5.length tInt.k)), (9, (sl tInt a0)), (10, (intA (a0.length : Int))), (11, (intA (t_1 : Int))), (12, (boolA (decide ((t_1 : Int) < (a0.length : Int)))))]) ⟨rfl, rfl, rfl, rfl, rfl, rfl, trivial⟩ ?_
  refine T_seq ?_
  refine T_cond (t := decide ((t_1 : Int) < (a0.length : Int))) rfl (fun d2 => ?_) (fun d2 => ?_)
  · replace d2 := of_decide_eq_true d2
    obtain ⟨x_t_1, hx_t_1⟩ : ∃ v, (a0)[t_1]? = some v := ⟨_, List.getElem?_eq_getElem (by omega)⟩
    obtain ⟨C2_, H, K2_⟩ := forS_step L2_ hx_t_1
    rw [hb2] at H
    refine T_skip ?_
    refine T_env (E' := [(1, (sl tInt b1)), (5, (.m [0] 0 out5.length tInt.k)), (9, (sl tInt a0)), (10, (intA (a0.length : Int))), (11, (intA (t_1 : Int)))]) ⟨rfl, rfl, rfl, rfl, rfl, trivial⟩ ?_
    refine T_seq ?_
    refine T_block ?_
    refine T_seq ?_
    refine T_region ?_
    refine TO_cons rfl (TOp_pure (pur_ixT (T := tInt) sl33 rfl rfl rfl hx_t_1 rfl) rfl ?_)
    refine TO_cons rfl (TOp_pure (pur_ldT (T := tInt) (i := t_1) (off := 0) rfl one3 rfl rfl hx_t_1 rfl) rfl ?_)
    refine TO_cons rfl (TOp_pure (pur_assign rfl) rfl ?_)
    refine TO_nil ?_
    refine T_env (E' := [(1, (sl tInt b1)), (5, (.m [0] 0 out5.length tInt.k)), (7, (intA x_t_1)), (9, (sl tInt a0)), (10, (intA (a0.length : Int))), (11, (intA (t_1 : Int)))]) ⟨rfl, rfl, rfl, rfl, rfl, rfl, trivial⟩ ?_
    refine T_seq ?_
    refine T_region ?_
    refine TO_cons rfl (TOp_pure (pur_move rfl) rfl ?_)
    refine TO_cons rfl (TOp_pure (pur_move rfl) rfl ?_)
    obtain ⟨r_3, h_4, H⟩ := bind_inv H
    refine TO_cons rfl (TOp_callV (call_static ent101 rfl) (m_slices_Contains_Sint_int_ok _ _ _ h_4) rfl rfl rfl ?_)
    refine TO_cons rfl (TOp_pure (pur_not rfl rfl) rfl ?_)
    refine TO_nil ?_
    refine T_env (E' := [(1, (sl tInt b1)), (5, (.m [0] 0 out5.length tInt.k)), (7, (intA x_t_1)), (9, (sl tInt a0)), (10, (intA (a0.length : Int))), (11, (intA (t_1 : Int))), (18, (boolA (!r_3)))]) ⟨rfl, rfl, rfl, rfl, rfl, rfl, rfl, trivial⟩ ?_
    refine T_cond (t := (!r_3)) rfl (fun c_5 => ?_) (fun c_5 => ?_)
    · replace H := cond_t c_5 H
      refine T_region ?_
      refine TO_cons rfl (TOp_pure (pur_move rfl) rfl ?_)
      refine TO_cons rfl (TOp_pure (pur_move rfl) rfl ?_)
      refine TO_cons rfl (TOp_lit (nn := 1) (k := 1) sl33 zero3 rfl rfl rfl rfl (by decide) ?_)
      refine TO_st (σ' := [.row (flat tInt.enc out5), .row (flat tInt.enc ([x_t_1] : (List Int)))]) rfl ?_
      obtain ⟨us_6, h_7, H⟩ := bind_inv H
      refine TO_cons rfl (TOp_appZ (T := tInt) (f := tInt.enc) (xs := out5) (ys := ([x_t_1] : (List Int))) tInt.len sl33 zero3 rfl bytes3 (by decide) rfl rfl rfl rfl (src_mT (f := tInt.enc) tInt.len rfl rfl (flat_cell tInt _)) (flat_cell tInt _) h_7 (Nat.le_of_ble_eq_true rfl) ?_)
      refine TO_env (E' := [(1, (sl tInt b1)), (7, (intA x_t_1)), (9, (sl tInt a0)), (10, (intA (a0.length : Int))), (11, (intA (t_1 : Int))), (18, (boolA (!r_3))), (20, (intA x_t_1)), (21, (.m [1] 0 ([x_t_1] : (List Int)).length tInt.k)), (22, (.m [0] 0 us_6.length tInt.k))]) ⟨rfl, rfl, rfl, rfl, rfl, rfl, rfl, rfl, rfl, trivial⟩ ?_
      refine TO_st (σ' := [.row (flat tInt.enc us_6), .row (flat tInt.enc ([x_t_1] : (List Int))), .dead]) rfl ?_
      refine TO_cons rfl (TOp_pure (pur_assign rfl) rfl ?_)
      refine TO_nil ?_
      refine T_env (E' := [(1, (sl tInt b1)), (5, (.m [0] 0 us_6.length tInt.k)), (9, (sl tInt a0)), (10, (intA (a0.length : Int))), (11, (intA (t_1 : Int)))]) ⟨rfl, rfl, rfl, rfl, rfl, trivial⟩ ?_
      refine T_region ?_
      refine TO_cons rfl (TOp_pure (pur_add rfl rfl rfl (fits64 (by omega) (by omega))) rfl ?_)
      refine TO_cons rfl (TOp_pure (pur_move rfl) rfl ?_)
      refine TO_nil ?_
      obtain rfl := some_inj H
      exact again (a0.length - (t_1 + 1)) (t_1 + 1, us_6) (by omega) (WeakL.to 1 (Nat.le_of_ble_eq_true rfl) rfl rfl rfl rfl ⟨leR rfl, leR rfl, leR rfl, leR rfl, leR rfl, trivial⟩) ⟨rfl, K2_⟩
    · replace H := cond_f c_5 H
      refine T_skip ?_
      refine T_env (E' := [(1, (sl tInt b1)), (5, (.m [0] 0 out5.length tInt.k)), (9, (sl tInt a0)), (10, (intA (a0.length : Int))), (11, (intA (t_1 : Int)))]) ⟨rfl, rfl, rfl, rfl, rfl, trivial⟩ ?_
      refine T_region ?_
      refine TO_cons rfl (TOp_pure (pur_add rfl rfl rfl (fits64 (by omega) (by omega))) rfl ?_)
      refine TO_cons rfl (TOp_pure (pur_move rfl) rfl ?_)
      refine TO_nil ?_
      obtain rfl := some_inj H
      exact again (a0.length - (t_1 + 1)) (t_1 + 1, out5) (by omega) (WeakL.to 1 (Nat.le_of_ble_eq_true rfl) rfl rfl rfl rfl ⟨leR rfl, leR rfl, leR rfl, leR rfl, leR rfl, trivial⟩) ⟨rfl, K2_⟩
  · replace d2 := of_decide_eq_false d2
    obtain rfl := forS_end L2_ (by omega)
    refine T_exit ?_
    refine then_exit ?_
    refine then_exit ?_
    refine block_exit ?_
    replace H := N2_
    refine T_env (E' := [(5, (.m [0] 0 out5.length tInt.k))]) ⟨rfl, trivial⟩ ?_
    refine T_seq ?_
    refine T_region ?_
    refine TO_cons rfl (TOp_pure (pur_move rfl) rfl ?_)
    refine TO_cons rfl (TOp_pure (pur_assign rfl) rfl ?_)
    refine TO_nil ?_
    refine T_env (E' := [(4, (.m [0] 0 out5.length tInt.k))]) ⟨rfl, trivial⟩ ?_
    refine T_ret ?_
    obtain rfl := some_inj H
    exact end_pick (.tmp .nil) rfl [0] (by decide) rfl rfl rfl rfl rfl rfl
theorem m_impl_without_ok (a0 : (List Int)) (b1 : (List Int)) (r : (List Int)) (H : m_impl_without a0 b1 = some r) : FnV prg 75 [(sl tInt a0), (sl tInt b1)] (sl tInt r) := (m_impl_without_own a0 b1 r H).frz (frzT (T := tInt) rfl)

set_option maxHeartbeats 1000000 in
/-- impl.CountRange$1 -/
theorem m_impl_CountRange_1_ok (values0 : (List Int)) (fv1 : Int) (r : Int) (H : m_impl_CountRange_1 values0 fv1 = some r) : FnV prg 74 [(sl tInt values0), (.q [(intA fv1)] 0)] (intA r) := by
  unfold m_impl_CountRange_1 at H
  refine fnV_of_T Try.func74 rfl rfl (Nat.le_of_ble_eq_true rfl) ?_
  refine T_env (E' := [(0, (sl tInt values0)), (1, (.q [(intA fv1)] 0))]) ⟨rfl, rfl, trivial⟩ ?_
  refine T_seq ?_
  refine T_region ?_
  refine TO_cons rfl (TOp_pure (pur_assign rfl) rfl ?_)
  refine TO_nil ?_
  refine T_env (E' := [(0, (sl tInt values0)), (1, (.q [(intA fv1)] 0))]) ⟨rfl, rfl, trivial⟩ ?_
  refine T_seq ?_
  refine T_region ?_
  refine TO_cons rfl (TOp_pure (pur_move rfl) rfl ?_)
  refine TO_cons rfl (TOp_pure (pur_lenT (T := tInt) sl33 rfl rfl) rfl ?_)
  refine TO_cons rfl (TOp_pure (pur_move rfl) rfl ?_)
  refine TO_cons rfl (TOp_pure (pur_ld_q one3 rfl rfl rfl) rfl ?_)
  refine TO_cons rfl (TOp_lit (nn := 1) (k := 1) sl33 zero3 rfl rfl rfl rfl (by decide) ?_)
  refine TO_st (σ' := [.row (flat tInt.enc ([fv1] : (List Int)))]) rfl ?_
  refine TO_frz1 0 (E' := [(0, (sl tInt values0)), (1, (.q [(intA fv1)] 0)), (4, (sl tInt values0)), (5, (intA (values0.length : Int))), (6, (sl tInt values0)), (7, (intA fv1)), (8, (sl tInt ([fv1] : (List Int))))]) rfl rfl (Nat.le_of_ble_eq_true rfl) ⟨(.keep rfl), (.keep rfl), (.keep rfl), (.keep rfl), (.keep rfl), (.keep rfl), fz1E, trivial⟩ ?_
  refine TO_st (σ' := [.dead]) rfl ?_
  obtain ⟨r_1, h_2, H⟩ := bind_inv H
  refine TO_cons rfl (TOp_callV (call_static ent75 rfl) (m_impl_without_ok _ _ _ h_2) rfl rfl rfl ?_)
  refine TO_cons rfl (TOp_pure (pur_lenT (T := tInt) sl33 rfl rfl) rfl ?_)
  refine TO_cons rfl (TOp_pure (pur_wsub rfl rfl rfl) rfl ?_)
  refine TO_cons rfl (TOp_pure (pur_assign rfl) rfl ?_)
  refine TO_nil ?_
  refine T_env (E' := [(3, (intA (w64 ((values0.length : Int) - (r_1.length : Int)))))]) ⟨rfl, trivial⟩ ?_
  refine T_ret ?_
  obtain rfl := some_inj H
  refine end_ret (.tmp .nil) rfl rfl ⟨?_, rfl⟩
  rfl

set_option maxHeartbeats 1000000 in
/-- impl.CountRange -/
theorem m_impl_CountRange_ok (u : Nat) (db0 : Database) (relation1 : Int) (column2 : Int) (value3 : Int) (r : (Int × Int × Bool)) (H : m_impl_CountRange u db0 relation1 column2 value3 = some r) : FnV prg 38 [(.g (tDatabase.enc db0)), (intA relation1), (intA column2), (intA value3)] (.t [(intA r.1), (intA r.2.1), (boolA r.2.2)]) := by
  unfold m_impl_CountRange at H
  refine fnV_of_T Try.func38 rfl rfl (Nat.le_of_ble_eq_true rfl) ?_
  refine T_env (E' := [(0, (.g (tDatabase.enc db0))), (1, (intA relation1)), (2, (intA column2)), (3, (intA value3))]) ⟨rfl, rfl, rfl, rfl, trivial⟩ ?_
  refine T_seq ?_
  refine T_region ?_
  refine TO_cons rfl (TOp_box rfl (boxAll rfl) rfl rfl ?_)
  refine TO_cons rfl (TOp_box rfl (boxAll rfl) rfl rfl ?_)
  refine TO_cons rfl (TOp_pure (pur_assign rfl) rfl ?_)
  refine TO_cons rfl (TOp_pure (pur_assign rfl) rfl ?_)
  refine TO_cons rfl (TOp_pure (pur_assign rfl) rfl ?_)
  refine TO_nil ?_
  refine T_env (E' := [(1, (intA relation1)), (2, (intA column2)), (4, (.b 0 0)), (7, (.b 1 0))]) ⟨rfl, rfl, rfl, rfl, trivial⟩ ?_
  refine T_seq ?_
  refine T_region ?_
  refine TO_cons rfl (TOp_pure (pur_ldK_b agg32 rfl rfl (Nat.le_of_ble_eq_true rfl) rfl) rfl ?_)
  refine TO_cons rfl (TOp_pure (pur_move rfl) rfl ?_)
  refine TO_cons rfl (TOp_pure (pur_move rfl) rfl ?_)
  refine TO_cons rfl (TOp_pure (pur_makeFunc rfl) rfl ?_)
  obtain ⟨r_1, h_2, H⟩ := bind_inv H
  refine TO_cons rfl (TOp_callOG (call_static ent71 rfl) (frz_cons (frz_loose rfl) (frz_cons (frz_loose rfl) (frz_cons (frz_loose rfl) (frz_cons (frz_loose rfl) (frz_cons (frzOK_f (frz_cons (frzOK_b (xs := [(intA value3)]) (ys := [(intA value3)]) rfl rfl rfl) frz_nil).1 (frz_cons (frzOK_b (xs := [(intA value3)]) (ys := [(intA value3)]) rfl rfl rfl) frz_nil).2) frz_nil))))).1 (frz_cons (frz_loose rfl) (frz_cons (frz_loose rfl) (frz_cons (frz_loose rfl) (frz_cons (frz_loose rfl) (frz_cons (frzOK_f (frz_cons (frzOK_b (xs := [(intA value3)]) (ys := [(intA value3)]) rfl rfl rfl) frz_nil).1 (frz_cons (frzOK_b (xs := [(intA value3)]) (ys := [(intA value3)]) rfl rfl rfl) frz_nil).2) frz_nil))))).2 (m_impl_columnRange_ok u _ _ _ _ (fun x0 => m_impl_CountRange_1 x0 value3) 74 [(.q [(intA value3)] 0)] ent74 rfl ⟨rfl, rfl⟩ (fun x0 r h => m_impl_CountRange_1_ok x0 value3 r h) _ h_2) rfl (ownC_of ownSB_nil) rfl rfl rfl ?_)
  refine TO_env (E' := [(1, (intA relation1)), (2, (intA column2)), (4, (.b 0 0)), (7, (.b 1 0)), (11, (.g (tDatabase.enc db0))), (12, (intA relation1)), (13, (intA column2)), (14, (.f 74 [(.b 1 0)])), (15, (.t [(intA r_1.1), (intA r_1.2.1), (boolA r_1.2.2)]))]) ⟨rfl, rfl, rfl, rfl, rfl, rfl, rfl, rfl, rfl, trivial⟩ ?_
  refine TO_st (σ' := [.box [(sl tRelation db0.relations), (sl tFact db0.facts)], .box [(intA value3)]]) rfl ?_
  refine TO_cons rfl (TOp_pure (pur_extract rfl rfl rfl) rfl ?_)
  refine TO_cons rfl (TOp_pure (pur_extract rfl rfl rfl) rfl ?_)
  refine TO_cons rfl (TOp_pure (pur_extract rfl rfl rfl) rfl ?_)
  refine TO_env (E' := [(16, (intA r_1.1)), (17, (intA r_1.2.1)), (18, (boolA r_1.2.2))]) ⟨rfl, rfl, rfl, trivial⟩ ?_
  refine TO_cons rfl (TOp_pure (pur_assign rfl) rfl ?_)
  refine TO_cons rfl (TOp_pure (pur_assign rfl) rfl ?_)
  refine TO_cons rfl (TOp_pure (pur_assign rfl) rfl ?_)
  refine TO_nil ?_
  refine T_env (E' := [(8, (intA r_1.1)), (9, (intA r_1.2.1)), (10, (boolA r_1.2.2))]) ⟨rfl, rfl, rfl, trivial⟩ ?_
  refine T_ret ?_
  obtain rfl := some_inj H
  refine end_ret (.tmp (.tmp (.tmp .nil))) rfl rfl ⟨?_, rfl⟩
  rfl

set_option maxHeartbeats 1000000 in
/-- laws.FnExactCountRange -/
theorem m_laws_FnExactCountRange_ok (u : Nat) (aDb0 : Database) (aRelation1 : Int) (aColumn2 : Int) (aValue3 : Int) (r : Bool) (H : m_laws_FnExactCountRange u aDb0 aRelation1 aColumn2 aValue3 = some r) : FnV prg 9 [(.g (tDatabase.enc aDb0)), (intA aRelation1), (intA aColumn2), (intA aValue3)] (boolA r) := by
  unfold m_laws_FnExactCountRange at H
  refine fnV_of_T Try.func9 rfl rfl (Nat.le_of_ble_eq_true rfl) ?_
  refine T_env (E' := [(0, (.g (tDatabase.enc aDb0))), (1, (intA aRelation1)), (2, (intA aColumn2)), (3, (intA aValue3))]) ⟨rfl, rfl, rfl, rfl, trivial⟩ ?_
  refine T_seq ?_
  refine T_region ?_
  refine TO_cons rfl (TOp_box rfl (boxAll rfl) rfl rfl ?_)
  refine TO_cons rfl (TOp_pure (pur_assign rfl) rfl ?_)
  refine TO_nil ?_
  refine T_env (E' := [(1, (intA aRelation1)), (2, (intA aColumn2)), (3, (intA aValue3)), (4, (.b 0 0))]) ⟨rfl, rfl, rfl, rfl, trivial⟩ ?_
  refine T_seq ?_
  refine T_region ?_
  refine TO_cons rfl (TOp_pure (pur_assign rfl) rfl ?_)
  refine TO_nil ?_
  refine T_env (E' := [(1, (intA aRelation1)), (2, (intA aColumn2)), (3, (intA aValue3)), (4, (.b 0 0)), (9, (intA 1048576))]) ⟨rfl, rfl, rfl, rfl, rfl, trivial⟩ ?_
  refine T_seq ?_
  refine T_region ?_
  refine TO_cons rfl (TOp_pure (pur_ldK_b agg41 rfl rfl (Nat.le_of_ble_eq_true rfl) rfl) rfl ?_)
  refine TO_cons rfl (TOp_pure (pur_move rfl) rfl ?_)
  obtain ⟨r_1, h_2, H⟩ := bind_inv H
  refine TO_cons rfl (TOp_callV (call_static ent26 rfl) (m_laws_szDatabase_ok _ _ _ h_2) rfl rfl rfl ?_)
  refine TO_cons rfl (TOp_pure (pur_assign rfl) rfl ?_)
  refine TO_nil ?_
  refine T_env (E' := [(1, (intA aRelation1)), (2, (intA aColumn2)), (3, (intA aValue3)), (4, (.b 0 0)), (9, (intA r_1))]) ⟨rfl, rfl, rfl, rfl, rfl, trivial⟩ ?_
  refine T_seq ?_
  refine T_seq ?_
  refine T_region ?_
  refine TO_cons rfl (TOp_pure (pur_move rfl) rfl ?_)
  refine TO_cons rfl (TOp_pure (pur_lss rfl rfl rfl) rfl ?_)
  refine TO_nil ?_
  refine T_env (E' := [(1, (intA aRelation1)), (2, (intA aColumn2)), (3, (intA aValue3)), (4, (.b 0 0)), (21, (boolA (decide (r_1 < 0))))]) ⟨rfl, rfl, rfl, rfl, rfl, trivial⟩ ?_
  refine T_cond (t := decide (r_1 < 0)) rfl (fun c_3 => ?_) (fun c_3 => ?_)
  · replace H := cond_t c_3 H
    refine T_seq ?_
    refine T_region ?_
    refine TO_cons rfl (TOp_pure (pur_assign rfl) rfl ?_)
    refine TO_nil ?_
    refine T_env (E' := [(8, (boolA true))]) ⟨rfl, trivial⟩ ?_
    refine T_ret ?_
    refine then_ret ?_
    obtain rfl := some_inj H
    refine end_ret (.tmp .nil) rfl rfl ⟨?_, rfl⟩
    rfl
  · replace H := cond_f c_3 H
    refine T_skip ?_
    refine T_env (E' := [(1, (intA aRelation1)), (2, (intA aColumn2)), (3, (intA aValue3)), (4, (.b 0 0))]) ⟨rfl, rfl, rfl, rfl, trivial⟩ ?_
    refine T_seq ?_
    refine T_region ?_
    refine TO_cons rfl (TOp_pure (pur_ldK_b agg41 rfl rfl (Nat.le_of_ble_eq_true rfl) rfl) rfl ?_)
    obtain ⟨r_4, h_5, H⟩ := bind_inv H
    refine TO_cons rfl (TOp_callV (call_static ent27 rfl) (m_laws_toDatabase_ok _ _ h_5) rfl rfl rfl ?_)
    refine TO_cons rfl (TOp_pure (pur_move rfl) rfl ?_)
    refine TO_cons rfl (TOp_pure (pur_move rfl) rfl ?_)
    refine TO_cons rfl (TOp_pure (pur_move rfl) rfl ?_)
    obtain ⟨r_6, h_7, H⟩ := bind_inv H
    refine TO_cons rfl (TOp_callV (call_static ent37 rfl) (m_spec_CountRange_ok u _ _ _ _ _ h_7) rfl rfl rfl ?_)
    refine TO_cons rfl (TOp_pure (pur_move rfl) rfl ?_)
    refine TO_cons rfl (TOp_pure (pur_extract rfl rfl rfl) rfl ?_)
    refine TO_env (E' := [(1, (intA aRelation1)), (2, (intA aColumn2)), (3, (intA aValue3)), (4, (.b 0 0)), (22, (.t [(intA r_6.1), (intA r_6.2.1), (boolA r_6.2.2)])), (29, (intA r_6.1))]) ⟨rfl, rfl, rfl, rfl, rfl, rfl, trivial⟩ ?_
    refine TO_cons rfl (TOp_pure (pur_extract rfl rfl rfl) rfl ?_)
    refine TO_cons rfl (TOp_pure (pur_extract rfl rfl rfl) rfl ?_)
    refine TO_cons rfl (TOp_pure (pur_assign rfl) rfl ?_)
    refine TO_cons rfl (TOp_pure (pur_assign rfl) rfl ?_)
    refine TO_cons rfl (TOp_pure (pur_assign rfl) rfl ?_)
    refine TO_nil ?_
    refine T_env (E' := [(1, (intA aRelation1)), (2, (intA aColumn2)), (3, (intA aValue3)), (4, (.b 0 0)), (10, (intA r_6.1)), (11, (intA r_6.2.1)), (12, (boolA r_6.2.2))]) ⟨rfl, rfl, rfl, rfl, rfl, rfl, rfl, trivial⟩ ?_
    refine T_seq ?_
    refine T_region ?_
    refine TO_cons rfl (TOp_pure (pur_ldK_b agg41 rfl rfl (Nat.le_of_ble_eq_true rfl) rfl) rfl ?_)
    obtain ⟨r_8, h_9, H⟩ := bind_inv H
    refine TO_cons rfl (TOp_callV (call_static ent27 rfl) (m_laws_toDatabase_ok _ _ h_9) rfl rfl rfl ?_)
    refine TO_cons rfl (TOp_alloc zero32 rfl rfl ?_)
    refine TO_cons rfl (TOp_storeB sz32 rfl rfl rfl rfl rfl rfl rfl (by decide) (Nat.le_of_ble_eq_true rfl) rfl ?_)
    refine TO_st (σ' := [.box [(sl tRelation aDb0.relations), (sl tFact aDb0.facts)], .box [(sl tRelation r_8.relations), (sl tFact r_8.facts)]]) rfl ?_
    refine TO_nil ?_
    refine T_env (E' := [(1, (intA aRelation1)), (2, (intA aColumn2)), (3, (intA aValue3)), (4, (.b 0 0)), (10, (intA r_6.1)), (11, (intA r_6.2.1)), (12, (boolA r_6.2.2)), (13, (.b 1 0))]) ⟨rfl, rfl, rfl, rfl, rfl, rfl, rfl, rfl, trivial⟩ ?_
    refine T_seq ?_
    refine T_region ?_
    refine TO_cons rfl (TOp_pure (pur_ldK_b agg32 rfl rfl (Nat.le_of_ble_eq_true rfl) rfl) rfl ?_)
    refine TO_cons rfl (TOp_pure (pur_move rfl) rfl ?_)
    refine TO_cons rfl (TOp_pure (pur_move rfl) rfl ?_)
    refine TO_cons rfl (TOp_pure (pur_move rfl) rfl ?_)
    obtain ⟨r_10, h_11, H⟩ := bind_inv H
    refine TO_cons rfl (TOp_callV (call_static ent38 rfl) (m_impl_CountRange_ok u _ _ _ _ _ h_11) rfl rfl rfl ?_)
    refine TO_cons rfl (TOp_pure (pur_move rfl) rfl ?_)
    refine TO_cons rfl (TOp_pure (pur_extract rfl rfl rfl) rfl ?_)
    refine TO_cons rfl (TOp_pure (pur_extract rfl rfl rfl) rfl ?_)
    refine TO_env (E' := [(4, (.b 0 0)), (10, (intA r_6.1)), (11, (intA r_6.2.1)), (12, (boolA r_6.2.2)), (13, (.b 1 0)), (34, (.t [(intA r_10.1), (intA r_10.2.1), (boolA r_10.2.2)])), (40, (intA r_10.1)), (41, (intA r_10.2.1))]) ⟨rfl, rfl, rfl, rfl, rfl, rfl, rfl, rfl, trivial⟩ ?_
    refine TO_cons rfl (TOp_pure (pur_extract rfl rfl rfl) rfl ?_)
    refine TO_cons rfl (TOp_pure (pur_assign rfl) rfl ?_)
    refine TO_cons rfl (TOp_pure (pur_assign rfl) rfl ?_)
    refine TO_cons rfl (TOp_pure (pur_assign rfl) rfl ?_)
    refine TO_nil ?_
    refine T_env (E' := [(4, (.b 0 0)), (10, (intA r_6.1)), (11, (intA r_6.2.1)), (12, (boolA r_6.2.2)), (13, (.b 1 0)), (14, (intA r_10.1)), (15, (intA r_10.2.1)), (16, (boolA r_10.2.2))]) ⟨rfl, rfl, rfl, rfl, rfl, rfl, rfl, rfl, trivial⟩ ?_
    refine T_seq ?_
    refine T_cutX (fun x => ((decide (r_10.1 ≠ r_6.1)) || ((decide (r_10.2.1 ≠ r_6.2.1)) || (r_10.2.2 != r_6.2.2))) = x) (fun (t55 : Bool) => [(4, (.b 0 0)), (13, (.b 1 0)), (55, (boolA t55))]) (fun (t55 : Bool) => [.box [(sl tRelation aDb0.relations), (sl tFact aDb0.facts)], .box [(sl tRelation r_8.relations), (sl tFact r_8.facts)]]) ?_ ?_
    · skip
      refine T_region ?_
      refine TO_cons rfl (TOp_pure (pur_move rfl) rfl ?_)
      refine TO_cons rfl (TOp_pure (pur_move rfl) rfl ?_)
      refine TO_cons rfl (TOp_pure (pur_neq rfl rfl rfl) rfl ?_)
      refine TO_cons rfl (TOp_pure (pur_move rfl) rfl ?_)
      refine TO_split (t := decide (r_10.1 ≠ r_6.1)) 46 rfl (fun g_14 => ?_) (fun g_14 => ?_)
      · skip
        refine TO_off rfl rfl (by decide) rfl rfl rfl ?_
        refine TO_off rfl rfl (by decide) rfl rfl rfl ?_
        refine TO_off rfl rfl (by decide) rfl rfl rfl ?_
        refine TO_cons rfl (TOp_pure (pur_pick (t := true) rfl rfl rfl) rfl ?_)
        refine TO_cons rfl (TOp_pure (pur_move rfl) rfl ?_)
        refine TO_off rfl rfl (by decide) rfl rfl rfl ?_
        refine TO_off rfl rfl (by decide) rfl rfl rfl ?_
        refine TO_off rfl rfl (by decide) rfl rfl rfl ?_
        refine TO_cons rfl (TOp_pure (pur_pick (t := true) rfl rfl rfl) rfl ?_)
        refine TO_nil ?_
        exact joined true (WeakL.to 2 (Nat.le_of_ble_eq_true rfl) rfl rfl rfl rfl ⟨leR rfl, leR rfl, leR rfl, trivial⟩) (by first | exact Eq.symm ((or_T g_14 rfl)))
      · skip
        refine TO_on rfl rfl (by decide) rfl rfl (TOp_pure (pur_move rfl) rfl ?_)
        refine TO_on rfl rfl (by decide) rfl rfl (TOp_pure (pur_move rfl) rfl ?_)
        refine TO_on rfl rfl (by decide) rfl rfl (TOp_pure (pur_neq rfl rfl rfl) rfl ?_)
        refine TO_cons rfl (TOp_pure (pur_pick (t := false) rfl rfl rfl) rfl ?_)
        refine TO_cons rfl (TOp_pure (pur_move rfl) rfl ?_)
        refine TO_split (t := decide (r_10.2.1 ≠ r_6.2.1)) 51 rfl (fun g_15 => ?_) (fun g_15 => ?_)
        · skip
          refine TO_off rfl rfl (by decide) rfl rfl rfl ?_
          refine TO_off rfl rfl (by decide) rfl rfl rfl ?_
          refine TO_off rfl rfl (by decide) rfl rfl rfl ?_
          refine TO_cons rfl (TOp_pure (pur_pick (t := true) rfl rfl rfl) rfl ?_)
          refine TO_nil ?_
          exact joined true (WeakL.to 2 (Nat.le_of_ble_eq_true rfl) rfl rfl rfl rfl ⟨leR rfl, leR rfl, leR rfl, trivial⟩) (by first | exact Eq.symm ((or_F g_14 (or_T g_15 rfl))))
        · skip
          refine TO_on rfl rfl (by decide) rfl rfl (TOp_pure (pur_move rfl) rfl ?_)
          refine TO_on rfl rfl (by decide) rfl rfl (TOp_pure (pur_move rfl) rfl ?_)
          refine TO_on rfl rfl (by decide) rfl rfl (TOp_pure (pur_neqB (by kernel_rfl) rfl rfl rfl) rfl ?_)
          refine TO_cons rfl (TOp_pure (pur_pick (t := false) rfl rfl rfl) rfl ?_)
          refine TO_nil ?_
          exact joined (r_10.2.2 != r_6.2.2) (WeakL.to 2 (Nat.le_of_ble_eq_true rfl) rfl rfl rfl rfl ⟨leR rfl, leR rfl, leR rfl, trivial⟩) (by first | exact Eq.symm ((or_F g_14 (or_F g_15 rfl))))
    · rintro _ rfl
      refine T_env (E' := [(4, (.b 0 0)), (13, (.b 1 0)), (55, (boolA ((decide (r_10.1 ≠ r_6.1)) || ((decide (r_10.2.1 ≠ r_6.2.1)) || (r_10.2.2 != r_6.2.2)))))]) ⟨rfl, rfl, rfl, trivial⟩ ?_
      refine T_cond (t := ((decide (r_10.1 ≠ r_6.1)) || ((decide (r_10.2.1 ≠ r_6.2.1)) || (r_10.2.2 != r_6.2.2)))) rfl (fun c_16 => ?_) (fun c_16 => ?_)
      · replace H := cond_t c_16 H
        refine T_seq ?_
        refine T_region ?_
        refine TO_cons rfl (TOp_pure (pur_assign rfl) rfl ?_)
        refine TO_nil ?_
        refine T_env (E' := [(8, (boolA false))]) ⟨rfl, trivial⟩ ?_
        refine T_ret ?_
        refine then_ret ?_
        obtain rfl := some_inj H
        refine end_ret (.tmp .nil) rfl rfl ⟨?_, rfl⟩
        rfl
      · replace H := cond_f c_16 H
        refine T_skip ?_
        refine T_env (E' := [(4, (.b 0 0)), (13, (.b 1 0))]) ⟨rfl, rfl, trivial⟩ ?_
        refine T_seq ?_
        obtain ⟨r_17, h_18, H⟩ := bind_inv H
        obtain ⟨r_19, h_20, H⟩ := bind_inv H
        refine T_cutX (fun (_ : Unit) => True) (fun _ => [(60, (boolA (!r_19)))]) (fun _ => [.box [(sl tRelation aDb0.relations), (sl tFact aDb0.facts)], .box [(sl tRelation r_8.relations), (sl tFact r_8.facts)]]) ?_ ?_
        · skip
          refine T_regionP mixed ?_
          refine TA_all [0, 1] (by kernel_rfl) (by decide) ⟨?_, ?_, trivial⟩
          · skip
            refine ⟨_, rfl, rfl, (TOp_pure (pur_ldK_b agg32 rfl rfl (Nat.le_of_ble_eq_true rfl) rfl) rfl ?_)⟩
            refine TA_listed #[true, false, false, false, false] rfl ?_
            refine TA_all [1] (by kernel_rfl) (by decide) ⟨⟨_, rfl, rfl, (TOp_pure (pur_ldK_b agg41 rfl rfl (Nat.le_of_ble_eq_true rfl) rfl) rfl ?_)⟩, trivial⟩
            refine TA_listed #[true, true, false, false, false] rfl ?_
            refine TA_all [2] (by kernel_rfl) (by decide) ⟨⟨_, rfl, rfl, (TOp_callV (call_static ent27 rfl) (m_laws_toDatabase_ok _ _ h_18) rfl rfl rfl ?_)⟩, trivial⟩
            refine TA_listed #[true, true, true, false, false] rfl ?_
            refine TA_all [3] (by kernel_rfl) (by decide) ⟨⟨_, rfl, rfl, (TOp_callV (call_static ent29 rfl) (m_laws_eqDatabase_ok _ _ _ h_20) rfl rfl rfl ?_)⟩, trivial⟩
            refine TA_listed #[true, true, true, true, false] rfl ?_
            refine TA_first 4 #[true, true, true, true, true] rfl (purI_not rfl rfl) rfl rfl rfl (by kernel_rfl) (by kernel_rfl) (by kernel_rfl) ?_
            exact TA_nil (by kernel_rfl) (joined () (WeakL.to 2 (Nat.le_of_ble_eq_true rfl) rfl rfl rfl rfl ⟨leR rfl, trivial⟩) trivial)
          · skip
            refine ⟨_, rfl, rfl, (TOp_pure (pur_ldK_b agg41 rfl rfl (Nat.le_of_ble_eq_true rfl) rfl) rfl ?_)⟩
            refine TA_listed #[false, true, false, false, false] rfl ?_
            refine TA_all [0, 2] (by kernel_rfl) (by decide) ⟨?_, ?_, trivial⟩
            · skip
              refine ⟨_, rfl, rfl, (TOp_pure (pur_ldK_b agg32 rfl rfl (Nat.le_of_ble_eq_true rfl) rfl) rfl ?_)⟩
              refine TA_listed #[true, true, false, false, false] rfl ?_
              refine TA_all [2] (by kernel_rfl) (by decide) ⟨⟨_, rfl, rfl, (TOp_callV (call_static ent27 rfl) (m_laws_toDatabase_ok _ _ h_18) rfl rfl rfl ?_)⟩, trivial⟩
              refine TA_listed #[true, true, true, false, false] rfl ?_
              refine TA_all [3] (by kernel_rfl) (by decide) ⟨⟨_, rfl, rfl, (TOp_callV (call_static ent29 rfl) (m_laws_eqDatabase_ok _ _ _ h_20) rfl rfl rfl ?_)⟩, trivial⟩
              refine TA_listed #[true, true, true, true, false] rfl ?_
              refine TA_first 4 #[true, true, true, true, true] rfl (purI_not rfl rfl) rfl rfl rfl (by kernel_rfl) (by kernel_rfl) (by kernel_rfl) ?_
              exact TA_nil (by kernel_rfl) (joined () (WeakL.to 2 (Nat.le_of_ble_eq_true rfl) rfl rfl rfl rfl ⟨leR rfl, trivial⟩) trivial)
            · skip
              refine ⟨_, rfl, rfl, (TOp_callV (call_static ent27 rfl) (m_laws_toDatabase_ok _ _ h_18) rfl rfl rfl ?_)⟩
              refine TA_listed #[false, true, true, false, false] rfl ?_
              refine TA_all [0] (by kernel_rfl) (by decide) ⟨⟨_, rfl, rfl, (TOp_pure (pur_ldK_b agg32 rfl rfl (Nat.le_of_ble_eq_true rfl) rfl) rfl ?_)⟩, trivial⟩
              refine TA_listed #[true, true, true, false, false] rfl ?_
              refine TA_all [3] (by kernel_rfl) (by decide) ⟨⟨_, rfl, rfl, (TOp_callV (call_static ent29 rfl) (m_laws_eqDatabase_ok _ _ _ h_20) rfl rfl rfl ?_)⟩, trivial⟩
              refine TA_listed #[true, true, true, true, false] rfl ?_
              refine TA_first 4 #[true, true, true, true, true] rfl (purI_not rfl rfl) rfl rfl rfl (by kernel_rfl) (by kernel_rfl) (by kernel_rfl) ?_
              exact TA_nil (by kernel_rfl) (joined () (WeakL.to 2 (Nat.le_of_ble_eq_true rfl) rfl rfl rfl rfl ⟨leR rfl, trivial⟩) trivial)
        · rintro _ _
          refine T_env (E' := [(60, (boolA (!r_19)))]) ⟨rfl, trivial⟩ ?_
          refine T_cond (t := (!r_19)) rfl (fun c_21 => ?_) (fun c_21 => ?_)
          · replace H := cond_t c_21 H
            refine T_seq ?_
            refine T_region ?_
            refine TO_cons rfl (TOp_pure (pur_assign rfl) rfl ?_)
            refine TO_nil ?_
            refine T_env (E' := [(8, (boolA false))]) ⟨rfl, trivial⟩ ?_
            refine T_ret ?_
            refine then_ret ?_
            obtain rfl := some_inj H
            refine end_ret (.tmp .nil) rfl rfl ⟨?_, rfl⟩
            rfl
          · replace H := cond_f c_21 H
            refine T_skip ?_
            refine T_env (E' := []) trivial ?_
            refine T_seq ?_
            refine T_region ?_
            refine TO_cons rfl (TOp_pure (pur_assign rfl) rfl ?_)
            refine TO_nil ?_
            refine T_env (E' := [(8, (boolA true))]) ⟨rfl, trivial⟩ ?_
            refine T_ret ?_
            obtain rfl := some_inj H
            refine end_ret (.tmp .nil) rfl rfl ⟨?_, rfl⟩
            rfl

set_option maxHeartbeats 1000000 in
/-- spec.l27Least -/
theorem m_spec_l27Least_ok (l0 : (List Int)) (r : Int) (H : m_spec_l27Least l0 = some r) : FnV prg 69 [(sl tInt l0)] (intA r) := by
  unfold m_spec_l27Least at H
  refine fnV_of_T Try.func69 rfl rfl (Nat.le_of_ble_eq_true rfl) ?_
  refine T_env (E' := [(0, (sl tInt l0))]) ⟨rfl, trivial⟩ ?_
  refine T_seq ?_
  refine T_region ?_
  refine TO_cons rfl (TOp_pure (pur_assign rfl) rfl ?_)
  refine TO_nil ?_
  refine T_env (E' := [(0, (sl tInt l0))]) ⟨rfl, trivial⟩ ?_
  refine T_seq ?_
  refine T_region ?_
  refine TO_cons rfl (TOp_pure (pur_move rfl) rfl ?_)
  obtain ⟨v_1, h_2, H⟩ := bind_inv H
  obtain ⟨n_3, hz_4, hv_5⟩ := getI_inv h_2
  refine TO_cons rfl (TOp_pure (pur_ixT (T := tInt) sl33 rfl rfl hz_4 hv_5 rfl) rfl ?_)
  refine TO_cons rfl (TOp_pure (pur_ldT (T := tInt) (i := n_3) (off := 0) rfl one3 rfl rfl hv_5 rfl) rfl ?_)
  refine TO_cons rfl (TOp_pure (pur_assign rfl) rfl ?_)
  refine TO_nil ?_
  refine T_env (E' := [(0, (sl tInt l0)), (3, (intA v_1))]) ⟨rfl, rfl, trivial⟩ ?_
  refine T_seq ?_
  refine T_seq ?_
  refine T_region ?_
  refine TO_cons rfl (TOp_pure (pur_assign rfl) rfl ?_)
  refine TO_nil ?_
  refine T_env (E' := [(0, (sl tInt l0)), (3, (intA v_1)), (4, (intA 1))]) ⟨rfl, rfl, rfl, trivial⟩ ?_
  obtain ⟨O7_, L7_, N7_⟩ := bind_inv H
  clear H
  obtain ⟨B7_, hb7, L7_⟩ := gen_forS L7_
  refine T_block ?_
  refine T_loopX (fun k => fun (x_ : Nat × Int) => k = l0.length - x_.1 ∧ forS B7_ (l0.drop x_.1) (x_.1 : Int) x_.2 = some O7_) (fun (x_ : Nat × Int) => [(0, (sl tInt l0)), (3, (intA x_.2)), (4, (intA (x_.1 : Int)))]) (fun (x_ : Nat × Int) => []) _ (1, v_1) (WeakL.to 0 (Nat.le_of_ble_eq_true rfl) rfl rfl rfl rfl ⟨leR rfl, leR rfl, leR rfl, trivial⟩) ⟨rfl, L7_⟩ ?_
  rintro _ ⟨i_6, n3⟩ ⟨rfl, L7_⟩
  refine T_env (E' := [(0, (sl tInt l0)), (3, (intA n3)), (4, (intA (i_6 : Int)))]) ⟨rfl, rfl, rfl, trivial⟩ ?_
  refine T_st (σ' := []) rfl ?_
  refine T_fact (len_sl (T := tInt) (.tmp 0) rfl) (fun hl7 => ?_)
  refine T_seq ?_
  refine T_seq ?_
  refine T_region ?_
  refine TO_cons rfl (TOp_pure (pur_move rfl) rfl ?_)
  refine TO_cons rfl (TOp_pure (pur_move rfl) rfl ?_)
  refine TO_cons rfl (TOp_pure (pur_lenT (T := tInt) sl33 rfl rfl) rfl ?_)
  refine TO_cons rfl (TOp_pure (pur_lss rfl rfl rfl) rfl ?_)
  refine TO_nil ?_
  refine T_env (E' := [(0, (sl tInt l0)), (3, (intA n3)), (4, (intA (i_6 : Int))), (11, (boolA (decide ((i_6 : Int) < (l0.length : Int)))))]) ⟨rfl, rfl, rfl, rfl, trivial⟩ ?_
  refine T_cond (t := decide ((i_6 : Int) < (l0.length : Int))) rfl (fun d7 => ?_) (fun d7 => ?_)
  · replace d7 := of_decide_eq_true d7
    obtain ⟨x_i_6, hx_i_6⟩ : ∃ v, (l0)[i_6]? = some v := ⟨_, List.getElem?_eq_getElem (by omega)⟩
    obtain ⟨C7_, H, K7_⟩ := forS_step L7_ hx_i_6
    rw [hb7] at H
    refine T_skip ?_
    refine T_env (E' := [(0, (sl tInt l0)), (3, (intA n3)), (4, (intA (i_6 : Int)))]) ⟨rfl, rfl, rfl, trivial⟩ ?_
    refine T_seq ?_
    refine T_block ?_
    refine T_region ?_
    refine TO_cons rfl (TOp_pure (pur_move rfl) rfl ?_)
    refine TO_cons rfl (TOp_pure (pur_move rfl) rfl ?_)
    refine TO_cons rfl (TOp_pure (pur_move rfl) rfl ?_)
    refine TO_cons rfl (TOp_pure (pur_ixT (T := tInt) sl33 rfl rfl rfl hx_i_6 rfl) rfl ?_)
    refine TO_cons rfl (TOp_pure (pur_ldT (T := tInt) (i := i_6) (off := 0) rfl one3 rfl rfl hx_i_6 rfl) rfl ?_)
    refine TO_cons rfl (TOp_pure (pur_min rfl rfl rfl) rfl ?_)
    refine TO_cons rfl (TOp_pure (pur_assign rfl) rfl ?_)
    refine TO_nil ?_
    refine T_env (E' := [(0, (sl tInt l0)), (3, (intA (if x_i_6 < n3 then x_i_6 else n3))), (4, (intA (i_6 : Int)))]) ⟨rfl, rfl, rfl, trivial⟩ ?_
    refine T_region ?_
    refine TO_cons rfl (TOp_pure (pur_move rfl) rfl ?_)
    refine TO_cons rfl (TOp_pure (pur_add rfl rfl rfl (fits64 (by omega) (by omega))) rfl ?_)
    refine TO_cons rfl (TOp_pure (pur_assign rfl) rfl ?_)
    refine TO_nil ?_
    obtain rfl := some_inj H
    exact again (l0.length - (i_6 + 1)) (i_6 + 1, (if x_i_6 < n3 then x_i_6 else n3)) (by omega) (WeakL.to 0 (Nat.le_of_ble_eq_true rfl) rfl rfl rfl rfl ⟨leR rfl, leR rfl, leR rfl, trivial⟩) ⟨rfl, K7_⟩
  · replace d7 := of_decide_eq_false d7
    obtain rfl := forS_end L7_ (by omega)
    refine T_exit ?_
    refine then_exit ?_
    refine then_exit ?_
    refine block_exit ?_
    replace H := N7_
    refine T_env (E' := [(3, (intA n3))]) ⟨rfl, trivial⟩ ?_
    refine T_seq ?_
    refine T_region ?_
    refine TO_cons rfl (TOp_pure (pur_move rfl) rfl ?_)
    refine TO_cons rfl (TOp_pure (pur_assign rfl) rfl ?_)
    refine TO_nil ?_
    refine T_env (E' := [(2, (intA n3))]) ⟨rfl, trivial⟩ ?_
    refine T_ret ?_
    obtain rfl := some_inj H
    refine end_ret (.tmp .nil) rfl rfl ⟨?_, rfl⟩
    rfl

set_option maxHeartbeats 1000000 in
/-- spec.l27Most -/
theorem m_spec_l27Most_ok (l0 : (List Int)) (r : Int) (H : m_spec_l27Most l0 = some r) : FnV prg 70 [(sl tInt l0)] (intA r) := by
  unfold m_spec_l27Most at H
  refine fnV_of_T Try.func70 rfl rfl (Nat.le_of_ble_eq_true rfl) ?_
  refine T_env (E' := [(0, (sl tInt l0))]) ⟨rfl, trivial⟩ ?_
  refine T_seq ?_
  refine T_region ?_
  refine TO_cons rfl (TOp_pure (pur_assign rfl) rfl ?_)
  refine TO_nil ?_
  refine T_env (E' := [(0, (sl tInt l0))]) ⟨rfl, trivial⟩ ?_
  refine T_seq ?_
  refine T_region ?_
  refine TO_cons rfl (TOp_pure (pur_move rfl) rfl ?_)
  obtain ⟨v_1, h_2, H⟩ := bind_inv H
  obtain ⟨n_3, hz_4, hv_5⟩ := getI_inv h_2
  refine TO_cons rfl (TOp_pure (pur_ixT (T := tInt) sl33 rfl rfl hz_4 hv_5 rfl) rfl ?_)
  refine TO_cons rfl (TOp_pure (pur_ldT (T := tInt) (i := n_3) (off := 0) rfl one3 rfl rfl hv_5 rfl) rfl ?_)
  refine TO_cons rfl (TOp_pure (pur_assign rfl) rfl ?_)
  refine TO_nil ?_
  refine T_env (E' := [(0, (sl tInt l0)), (3, (intA v_1))]) ⟨rfl, rfl, trivial⟩ ?_
  refine T_seq ?_
  refine T_seq ?_
  refine T_region ?_
  refine TO_cons rfl (TOp_pure (pur_assign rfl) rfl ?_)
  refine TO_nil ?_
  refine T_env (E' := [(0, (sl tInt l0)), (3, (intA v_1)), (4, (intA 1))]) ⟨rfl, rfl, rfl, trivial⟩ ?_
  obtain ⟨O7_, L7_, N7_⟩ := bind_inv H
  clear H
  obtain ⟨B7_, hb7, L7_⟩ := gen_forS L7_
  refine T_block ?_
  refine T_loopX (fun k => fun (x_ : Nat × Int) => k = l0.length - x_.1 ∧ forS B7_ (l0.drop x_.1) (x_.1 : Int) x_.2 = some O7_) (fun (x_ : Nat × Int) => [(0, (sl tInt l0)), (3, (intA x_.2)), (4, (intA (x_.1 : Int)))]) (fun (x_ : Nat × Int) => []) _ (1, v_1) (WeakL.to 0 (Nat.le_of_ble_eq_true rfl) rfl rfl rfl rfl ⟨leR rfl, leR rfl, leR rfl, trivial⟩) ⟨rfl, L7_⟩ ?_
  rintro _ ⟨i_6, n3⟩ ⟨rfl, L7_⟩
  refine T_env (E' := [(0, (sl tInt l0)), (3, (intA n3)), (4, (intA (i_6 : Int)))]) ⟨rfl, rfl, rfl, trivial⟩ ?_
  refine T_st (σ' := []) rfl ?_
  refine T_fact (len_sl (T := tInt) (.tmp 0) rfl) (fun hl7 => ?_)
  refine T_seq ?_
  refine T_seq ?_
  refine T_region ?_
  refine TO_cons rfl (TOp_pure (pur_move rfl) rfl ?_)
  refine TO_cons rfl (TOp_pure (pur_move rfl) rfl ?_)
  refine TO_cons rfl (TOp_pure (pur_lenT (T := tInt) sl33 rfl rfl) rfl ?_)
  refine TO_cons rfl (TOp_pure (pur_lss rfl rfl rfl) rfl ?_)
  refine TO_nil ?_
  refine T_env (E' := [(0, (sl tInt l0)), (3, (intA n3)), (4, (intA (i_6 : Int))), (11, (boolA (decide ((i_6 : Int) < (l0.length : Int)))))]) ⟨rfl, rfl, rfl, rfl, trivial⟩ ?_
  refine T_cond (t := decide ((i_6 : Int) < (l0.length : Int))) rfl (fun d7 => ?_) (fun d7 => ?_)
  · replace d7 := of_decide_eq_true d7
    obtain ⟨x_i_6, hx_i_6⟩ : ∃ v, (l0)[i_6]? = some v := ⟨_, List.getElem?_eq_getElem (by omega)⟩
    obtain ⟨C7_, H, K7_⟩ := forS_step L7_ hx_i_6
    rw [hb7] at H
    refine T_skip ?_
    refine T_env (E' := [(0, (sl tInt l0)), (3, (intA n3)), (4, (intA (i_6 : Int)))]) ⟨rfl, rfl, rfl, trivial⟩ ?_
    refine T_seq ?_
    refine T_block ?_
    refine T_region ?_
    refine TO_cons rfl (TOp_pure (pur_move rfl) rfl ?_)
    refine TO_cons rfl (TOp_pure (pur_move rfl) rfl ?_)
    refine TO_cons rfl (TOp_pure (pur_move rfl) rfl ?_)
    refine TO_cons rfl (TOp_pure (pur_ixT (T := tInt) sl33 rfl rfl rfl hx_i_6 rfl) rfl ?_)
    refine TO_cons rfl (TOp_pure (pur_ldT (T := tInt) (i := i_6) (off := 0) rfl one3 rfl rfl hx_i_6 rfl) rfl ?_)
    refine TO_cons rfl (TOp_pure (pur_max rfl rfl rfl) rfl ?_)
    refine TO_cons rfl (TOp_pure (pur_assign rfl) rfl ?_)
    refine TO_nil ?_
    refine T_env (E' := [(0, (sl tInt l0)), (3, (intA (if n3 < x_i_6 then x_i_6 else n3))), (4, (intA (i_6 : Int)))]) ⟨rfl, rfl, rfl, trivial⟩ ?_
    refine T_region ?_
    refine TO_cons rfl (TOp_pure (pur_move rfl) rfl ?_)
    refine TO_cons rfl (TOp_pure (pur_add rfl rfl rfl (fits64 (by omega) (by omega))) rfl ?_)
    refine TO_cons rfl (TOp_pure (pur_assign rfl) rfl ?_)
    refine TO_nil ?_
    obtain rfl := some_inj H
    exact again (l0.length - (i_6 + 1)) (i_6 + 1, (if n3 < x_i_6 then x_i_6 else n3)) (by omega) (WeakL.to 0 (Nat.le_of_ble_eq_true rfl) rfl rfl rfl rfl ⟨leR rfl, leR rfl, leR rfl, trivial⟩) ⟨rfl, K7_⟩
  · replace d7 := of_decide_eq_false d7
    obtain rfl := forS_end L7_ (by omega)
    refine T_exit ?_
    refine then_exit ?_
    refine then_exit ?_
    refine block_exit ?_
    replace H := N7_
    refine T_env (E' := [(3, (intA n3))]) ⟨rfl, trivial⟩ ?_
    refine T_seq ?_
    refine T_region ?_
    refine TO_cons rfl (TOp_pure (pur_move rfl) rfl ?_)
    refine TO_cons rfl (TOp_pure (pur_assign rfl) rfl ?_)
    refine TO_nil ?_
    refine T_env (E' := [(2, (intA n3))]) ⟨rfl, trivial⟩ ?_
    refine T_ret ?_
    obtain rfl := some_inj H
    refine end_ret (.tmp .nil) rfl rfl ⟨?_, rfl⟩
    rfl
end Go.Proofs.Ytlcpdlngbofgcaa

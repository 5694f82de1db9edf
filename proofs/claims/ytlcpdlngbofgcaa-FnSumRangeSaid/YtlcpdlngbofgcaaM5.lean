/- Walks. -/
import Derived.Test.YtlcpdlngbofgcaaM1
import Derived.Test.YtlcpdlngbofgcaaM2
import Derived.Test.YtlcpdlngbofgcaaM4
set_option linter.unusedVariables false
set_option linter.unusedSimpArgs false
set_option maxRecDepth 4000
namespace Go.Proofs.Ytlcpdlngbofgcaa
open Go Go.Proofs Go.Sep
set_option maxHeartbeats 1000000 in
/-- impl.columnRange$2 -/
theorem m_impl_columnRange_2_ok (repair0 : (List Int)) (fv1 : ((List Int) → Option Int)) (fv1_g : Nat) (fv1_c : List A) (fv1_E : EnT prg fv1_g) (fv1_l : looseL fv1_c = true) (fv1_m : firmL fv1_c = true ∧ fzL fv1_c = fv1_c) (fv1_H : ∀ (x0 : (List Int)) r, fv1 x0 = some r → FnV prg fv1_g ([(sl tInt x0)] ++ fv1_c) (intA r)) (fv2 : Database) (fv3 : Int) (fv4 : Int) (r : Int) (H : m_impl_columnRange_2 repair0 fv1 fv2 fv3 fv4 = some r) : FnV prg 100 [(sl tInt repair0), (.q [(.f fv1_g fv1_c)] 0), (.q [(sl tRelation fv2.relations), (sl tFact fv2.facts)] 0), (.q [(intA fv3)] 0), (.q [(intA fv4)] 0)] (intA r) := by
  unfold m_impl_columnRange_2 at H
  refine fnV_of_T Try.func100 rfl rfl (Nat.le_of_ble_eq_true rfl) ?_
  refine T_env (E' := [(0, (sl tInt repair0)), (1, (.q [(.f fv1_g fv1_c)] 0)), (2, (.q [(sl tRelation fv2.relations), (sl tFact fv2.facts)] 0)), (3, (.q [(intA fv3)] 0)), (4, (.q [(intA fv4)] 0))]) ⟨rfl, rfl, rfl, rfl, rfl, trivial⟩ ?_
  refine sr ?_
  refine Tp rfl rfl (pur_assign rfl) rfl ?_
  refine TO_nil ?_
  refine T_env (E' := [(0, (sl tInt repair0)), (1, (.q [(.f fv1_g fv1_c)] 0)), (2, (.q [(sl tRelation fv2.relations), (sl tFact fv2.facts)] 0)), (3, (.q [(intA fv3)] 0)), (4, (.q [(intA fv4)] 0))]) ⟨rfl, rfl, rfl, rfl, rfl, trivial⟩ ?_
  obtain ⟨r_1, h_2, H⟩ := bind_inv H
  obtain ⟨r_3, h_4, H⟩ := bind_inv H
  refine T_cutX (fun (_ : Unit) => True) (fun _ => [(6, (intA r_3))]) (fun _ => []) ?_ ?_
  · skip
    refine T_regionP mixed ?_
    refine TA_have 2 #[true, true, true, true, true, true, false, false] [(7, (.f fv1_g fv1_c)), (12, (sl tInt r_1))] [] ?_ (fun hj0_1 => ?_)
    · skip
      refine t1 6 (by kernel_rfl) rfl rfl (TOp_callV (call_closure fv1_E rfl rfl) (fv1_H _  _ h_4) (looseL_app rfl fv1_l) rfl rfl ?_)
      refine tf 7 rfl (purI_assign rfl) rfl rfl (by kernel_rfl) ?_
      exact TA_nil (by kernel_rfl) (joined () (wp 0 (lb rfl) rfl rfl rfl rfl ⟨rfl, trivial⟩) trivial)
    refine TA_have 3 #[true, true, true, true, true, false, false, false] [(7, (.f fv1_g fv1_c)), (8, (.g (tDatabase.enc fv2))), (9, (sl tInt repair0)), (10, (intA fv3)), (11, (intA fv4))] [] ?_ (fun hj1_1 => ?_)
    · skip
      refine t1 5 (by kernel_rfl) rfl rfl (TOp_callV (call_static ent58 rfl) (m_impl_columnOf_ok _ _ _ _ _ h_2) rfl rfl rfl ?_)
      exact tj hj0_1 rfl (wp 0 (lb rfl) rfl rfl (by simp only [namesE, A.names, namesL_enc, Bool.false_or, Bool.or_false, looseL_names fv1_l]) rfl ⟨rfl, rfl, trivial⟩)
    refine TA_have 4 #[false, true, true, true, true, false, false, false] [(1, (.q [(.f fv1_g fv1_c)] 0)), (8, (.g (tDatabase.enc fv2))), (9, (sl tInt repair0)), (10, (intA fv3)), (11, (intA fv4))] [] ?_ (fun hj2_1 => ?_)
    · skip
      refine TA_all [0, 5] (by kernel_rfl) (by decide) ⟨?_, ?_, trivial⟩
      · skip
        refine ⟨_, rfl, rfl, (TOp_pure (pur_ld_q one73 rfl rfl rfl) rfl ?_)⟩
        exact tj hj1_1 rfl (wp 0 (lb rfl) rfl rfl (by simp only [namesE, A.names, namesL_enc, Bool.false_or, Bool.or_false, looseL_names fv1_l]) rfl ⟨rfl, rfl, rfl, rfl, rfl, trivial⟩)
      · skip
        refine ⟨_, rfl, rfl, (TOp_callV (call_static ent58 rfl) (m_impl_columnOf_ok _ _ _ _ _ h_2) rfl rfl rfl ?_)⟩
        refine t1 0 (by kernel_rfl) rfl rfl (TOp_pure (pur_ld_q one73 rfl rfl rfl) rfl ?_)
        exact tj hj0_1 rfl (wp 0 (lb rfl) rfl rfl (by simp only [namesE, A.names, namesL_enc, Bool.false_or, Bool.or_false, looseL_names fv1_l]) rfl ⟨rfl, rfl, trivial⟩)
    refine TA_have 4 #[true, false, true, true, true, false, false, false] [(2, (.q [(sl tRelation fv2.relations), (sl tFact fv2.facts)] 0)), (7, (.f fv1_g fv1_c)), (9, (sl tInt repair0)), (10, (intA fv3)), (11, (intA fv4))] [] ?_ (fun hj3_1 => ?_)
    · skip
      refine t1 1 (by kernel_rfl) rfl rfl (TOp_pure (pur_ldK_q agg32 rfl (lb rfl) rfl) rfl ?_)
      exact tj hj1_1 rfl (wp 0 (lb rfl) rfl rfl (by simp only [namesE, A.names, namesL_enc, Bool.false_or, Bool.or_false, looseL_names fv1_l]) rfl ⟨rfl, rfl, rfl, rfl, rfl, trivial⟩)
    refine TA_have 4 #[true, true, true, false, true, false, false, false] [(3, (.q [(intA fv3)] 0)), (7, (.f fv1_g fv1_c)), (8, (.g (tDatabase.enc fv2))), (9, (sl tInt repair0)), (11, (intA fv4))] [] ?_ (fun hj4_1 => ?_)
    · skip
      refine t1 3 (by kernel_rfl) rfl rfl (TOp_pure (pur_ld_q one3 rfl rfl rfl) rfl ?_)
      exact tj hj1_1 rfl (wp 0 (lb rfl) rfl rfl (by simp only [namesE, A.names, namesL_enc, Bool.false_or, Bool.or_false, looseL_names fv1_l]) rfl ⟨rfl, rfl, rfl, rfl, rfl, trivial⟩)
    refine TA_have 4 #[true, true, true, true, false, false, false, false] [(4, (.q [(intA fv4)] 0)), (7, (.f fv1_g fv1_c)), (8, (.g (tDatabase.enc fv2))), (9, (sl tInt repair0)), (10, (intA fv3))] [] ?_ (fun hj5_1 => ?_)
    · skip
      refine t1 4 (by kernel_rfl) rfl rfl (TOp_pure (pur_ld_q one3 rfl rfl rfl) rfl ?_)
      exact tj hj1_1 rfl (wp 0 (lb rfl) rfl rfl (by simp only [namesE, A.names, namesL_enc, Bool.false_or, Bool.or_false, looseL_names fv1_l]) rfl ⟨rfl, rfl, rfl, rfl, rfl, trivial⟩)
    refine TA_have 5 #[false, false, true, true, true, false, false, false] [(1, (.q [(.f fv1_g fv1_c)] 0)), (2, (.q [(sl tRelation fv2.relations), (sl tFact fv2.facts)] 0)), (9, (sl tInt repair0)), (10, (intA fv3)), (11, (intA fv4))] [] ?_ (fun hj6_1 => ?_)
    · skip
      refine TA_all [0, 1] (by kernel_rfl) (by decide) ⟨?_, ?_, trivial⟩
      · skip
        refine ⟨_, rfl, rfl, (TOp_pure (pur_ld_q one73 rfl rfl rfl) rfl ?_)⟩
        exact tj hj3_1 rfl (wp 0 (lb rfl) rfl rfl (by simp only [namesE, A.names, namesL_enc, Bool.false_or, Bool.or_false, looseL_names fv1_l]) rfl ⟨rfl, rfl, rfl, rfl, rfl, trivial⟩)
      · skip
        refine ⟨_, rfl, rfl, (TOp_pure (pur_ldK_q agg32 rfl (lb rfl) rfl) rfl ?_)⟩
        exact tj hj2_1 rfl (wp 0 (lb rfl) rfl rfl rfl rfl ⟨rfl, rfl, rfl, rfl, rfl, trivial⟩)
    refine TA_have 5 #[false, true, true, false, true, false, false, false] [(1, (.q [(.f fv1_g fv1_c)] 0)), (3, (.q [(intA fv3)] 0)), (8, (.g (tDatabase.enc fv2))), (9, (sl tInt repair0)), (11, (intA fv4))] [] ?_ (fun hj7_1 => ?_)
    · skip
      refine TA_all [0, 3] (by kernel_rfl) (by decide) ⟨?_, ?_, trivial⟩
      · skip
        refine ⟨_, rfl, rfl, (TOp_pure (pur_ld_q one73 rfl rfl rfl) rfl ?_)⟩
        exact tj hj4_1 rfl (wp 0 (lb rfl) rfl rfl (by simp only [namesE, A.names, namesL_enc, Bool.false_or, Bool.or_false, looseL_names fv1_l]) rfl ⟨rfl, rfl, rfl, rfl, rfl, trivial⟩)
      · skip
        refine ⟨_, rfl, rfl, (TOp_pure (pur_ld_q one3 rfl rfl rfl) rfl ?_)⟩
        exact tj hj2_1 rfl (wp 0 (lb rfl) rfl rfl rfl rfl ⟨rfl, rfl, rfl, rfl, rfl, trivial⟩)
    refine TA_have 5 #[false, true, true, true, false, false, false, false] [(1, (.q [(.f fv1_g fv1_c)] 0)), (4, (.q [(intA fv4)] 0)), (8, (.g (tDatabase.enc fv2))), (9, (sl tInt repair0)), (10, (intA fv3))] [] ?_ (fun hj8_1 => ?_)
    · skip
      refine TA_all [0, 4] (by kernel_rfl) (by decide) ⟨?_, ?_, trivial⟩
      · skip
        refine ⟨_, rfl, rfl, (TOp_pure (pur_ld_q one73 rfl rfl rfl) rfl ?_)⟩
        exact tj hj5_1 rfl (wp 0 (lb rfl) rfl rfl (by simp only [namesE, A.names, namesL_enc, Bool.false_or, Bool.or_false, looseL_names fv1_l]) rfl ⟨rfl, rfl, rfl, rfl, rfl, trivial⟩)
      · skip
        refine ⟨_, rfl, rfl, (TOp_pure (pur_ld_q one3 rfl rfl rfl) rfl ?_)⟩
        exact tj hj2_1 rfl (wp 0 (lb rfl) rfl rfl rfl rfl ⟨rfl, rfl, rfl, rfl, rfl, trivial⟩)
    refine TA_have 5 #[true, false, true, false, true, false, false, false] [(2, (.q [(sl tRelation fv2.relations), (sl tFact fv2.facts)] 0)), (3, (.q [(intA fv3)] 0)), (7, (.f fv1_g fv1_c)), (9, (sl tInt repair0)), (11, (intA fv4))] [] ?_ (fun hj9_1 => ?_)
    · skip
      refine TA_all [1, 3] (by kernel_rfl) (by decide) ⟨?_, ?_, trivial⟩
      · skip
        refine ⟨_, rfl, rfl, (TOp_pure (pur_ldK_q agg32 rfl (lb rfl) rfl) rfl ?_)⟩
        exact tj hj4_1 rfl (wp 0 (lb rfl) rfl rfl (by simp only [namesE, A.names, namesL_enc, Bool.false_or, Bool.or_false, looseL_names fv1_l]) rfl ⟨rfl, rfl, rfl, rfl, rfl, trivial⟩)
      · skip
        refine ⟨_, rfl, rfl, (TOp_pure (pur_ld_q one3 rfl rfl rfl) rfl ?_)⟩
        exact tj hj3_1 rfl (wp 0 (lb rfl) rfl rfl (by simp only [namesE, A.names, namesL_enc, Bool.false_or, Bool.or_false, looseL_names fv1_l]) rfl ⟨rfl, rfl, rfl, rfl, rfl, trivial⟩)
    refine TA_have 5 #[true, false, true, true, false, false, false, false] [(2, (.q [(sl tRelation fv2.relations), (sl tFact fv2.facts)] 0)), (4, (.q [(intA fv4)] 0)), (7, (.f fv1_g fv1_c)), (9, (sl tInt repair0)), (10, (intA fv3))] [] ?_ (fun hj10_1 => ?_)
    · skip
      refine TA_all [1, 4] (by kernel_rfl) (by decide) ⟨?_, ?_, trivial⟩
      · skip
        refine ⟨_, rfl, rfl, (TOp_pure (pur_ldK_q agg32 rfl (lb rfl) rfl) rfl ?_)⟩
        exact tj hj5_1 rfl (wp 0 (lb rfl) rfl rfl (by simp only [namesE, A.names, namesL_enc, Bool.false_or, Bool.or_false, looseL_names fv1_l]) rfl ⟨rfl, rfl, rfl, rfl, rfl, trivial⟩)
      · skip
        refine ⟨_, rfl, rfl, (TOp_pure (pur_ld_q one3 rfl rfl rfl) rfl ?_)⟩
        exact tj hj3_1 rfl (wp 0 (lb rfl) rfl rfl (by simp only [namesE, A.names, namesL_enc, Bool.false_or, Bool.or_false, looseL_names fv1_l]) rfl ⟨rfl, rfl, rfl, rfl, rfl, trivial⟩)
    refine TA_have 5 #[true, true, true, false, false, false, false, false] [(3, (.q [(intA fv3)] 0)), (4, (.q [(intA fv4)] 0)), (7, (.f fv1_g fv1_c)), (8, (.g (tDatabase.enc fv2))), (9, (sl tInt repair0))] [] ?_ (fun hj11_1 => ?_)
    · skip
      refine TA_all [3, 4] (by kernel_rfl) (by decide) ⟨?_, ?_, trivial⟩
      · skip
        refine ⟨_, rfl, rfl, (TOp_pure (pur_ld_q one3 rfl rfl rfl) rfl ?_)⟩
        exact tj hj5_1 rfl (wp 0 (lb rfl) rfl rfl (by simp only [namesE, A.names, namesL_enc, Bool.false_or, Bool.or_false, looseL_names fv1_l]) rfl ⟨rfl, rfl, rfl, rfl, rfl, trivial⟩)
      · skip
        refine ⟨_, rfl, rfl, (TOp_pure (pur_ld_q one3 rfl rfl rfl) rfl ?_)⟩
        exact tj hj4_1 rfl (wp 0 (lb rfl) rfl rfl (by simp only [namesE, A.names, namesL_enc, Bool.false_or, Bool.or_false, looseL_names fv1_l]) rfl ⟨rfl, rfl, rfl, rfl, rfl, trivial⟩)
    refine tf 2 rfl (purI_move rfl) rfl rfl (by kernel_rfl) ?_
    refine TA_all [0, 1, 3, 4] (by kernel_rfl) (by decide) ⟨?_, ?_, ?_, ?_, trivial⟩
    · skip
      refine ⟨_, rfl, rfl, (TOp_pure (pur_ld_q one73 rfl rfl rfl) rfl ?_)⟩
      refine TA_all [1, 3, 4] (by kernel_rfl) (by decide) ⟨?_, ?_, ?_, trivial⟩
      · skip
        refine ⟨_, rfl, rfl, (TOp_pure (pur_ldK_q agg32 rfl (lb rfl) rfl) rfl ?_)⟩
        exact tj hj11_1 rfl (wp 0 (lb rfl) rfl rfl (by simp only [namesE, A.names, namesL_enc, Bool.false_or, Bool.or_false, looseL_names fv1_l]) rfl ⟨rfl, rfl, rfl, rfl, rfl, trivial⟩)
      · skip
        refine ⟨_, rfl, rfl, (TOp_pure (pur_ld_q one3 rfl rfl rfl) rfl ?_)⟩
        exact tj hj10_1 rfl (wp 0 (lb rfl) rfl rfl (by simp only [namesE, A.names, namesL_enc, Bool.false_or, Bool.or_false, looseL_names fv1_l]) rfl ⟨rfl, rfl, rfl, rfl, rfl, trivial⟩)
      · skip
        refine ⟨_, rfl, rfl, (TOp_pure (pur_ld_q one3 rfl rfl rfl) rfl ?_)⟩
        exact tj hj9_1 rfl (wp 0 (lb rfl) rfl rfl (by simp only [namesE, A.names, namesL_enc, Bool.false_or, Bool.or_false, looseL_names fv1_l]) rfl ⟨rfl, rfl, rfl, rfl, rfl, trivial⟩)
    · skip
      refine ⟨_, rfl, rfl, (TOp_pure (pur_ldK_q agg32 rfl (lb rfl) rfl) rfl ?_)⟩
      refine TA_all [0, 3, 4] (by kernel_rfl) (by decide) ⟨?_, ?_, ?_, trivial⟩
      · skip
        refine ⟨_, rfl, rfl, (TOp_pure (pur_ld_q one73 rfl rfl rfl) rfl ?_)⟩
        exact tj hj11_1 rfl (wp 0 (lb rfl) rfl rfl (by simp only [namesE, A.names, namesL_enc, Bool.false_or, Bool.or_false, looseL_names fv1_l]) rfl ⟨rfl, rfl, rfl, rfl, rfl, trivial⟩)
      · skip
        refine ⟨_, rfl, rfl, (TOp_pure (pur_ld_q one3 rfl rfl rfl) rfl ?_)⟩
        exact tj hj8_1 rfl (wp 0 (lb rfl) rfl rfl rfl rfl ⟨rfl, rfl, rfl, rfl, rfl, trivial⟩)
      · skip
        refine ⟨_, rfl, rfl, (TOp_pure (pur_ld_q one3 rfl rfl rfl) rfl ?_)⟩
        exact tj hj7_1 rfl (wp 0 (lb rfl) rfl rfl rfl rfl ⟨rfl, rfl, rfl, rfl, rfl, trivial⟩)
    · skip
      refine ⟨_, rfl, rfl, (TOp_pure (pur_ld_q one3 rfl rfl rfl) rfl ?_)⟩
      refine TA_all [0, 1, 4] (by kernel_rfl) (by decide) ⟨?_, ?_, ?_, trivial⟩
      · skip
        refine ⟨_, rfl, rfl, (TOp_pure (pur_ld_q one73 rfl rfl rfl) rfl ?_)⟩
        exact tj hj10_1 rfl (wp 0 (lb rfl) rfl rfl (by simp only [namesE, A.names, namesL_enc, Bool.false_or, Bool.or_false, looseL_names fv1_l]) rfl ⟨rfl, rfl, rfl, rfl, rfl, trivial⟩)
      · skip
        refine ⟨_, rfl, rfl, (TOp_pure (pur_ldK_q agg32 rfl (lb rfl) rfl) rfl ?_)⟩
        exact tj hj8_1 rfl (wp 0 (lb rfl) rfl rfl rfl rfl ⟨rfl, rfl, rfl, rfl, rfl, trivial⟩)
      · skip
        refine ⟨_, rfl, rfl, (TOp_pure (pur_ld_q one3 rfl rfl rfl) rfl ?_)⟩
        exact tj hj6_1 rfl (wp 0 (lb rfl) rfl rfl rfl rfl ⟨rfl, rfl, rfl, rfl, rfl, trivial⟩)
    · skip
      refine ⟨_, rfl, rfl, (TOp_pure (pur_ld_q one3 rfl rfl rfl) rfl ?_)⟩
      refine TA_all [0, 1, 3] (by kernel_rfl) (by decide) ⟨?_, ?_, ?_, trivial⟩
      · skip
        refine ⟨_, rfl, rfl, (TOp_pure (pur_ld_q one73 rfl rfl rfl) rfl ?_)⟩
        exact tj hj9_1 rfl (wp 0 (lb rfl) rfl rfl (by simp only [namesE, A.names, namesL_enc, Bool.false_or, Bool.or_false, looseL_names fv1_l]) rfl ⟨rfl, rfl, rfl, rfl, rfl, trivial⟩)
      · skip
        refine ⟨_, rfl, rfl, (TOp_pure (pur_ldK_q agg32 rfl (lb rfl) rfl) rfl ?_)⟩
        exact tj hj7_1 rfl (wp 0 (lb rfl) rfl rfl rfl rfl ⟨rfl, rfl, rfl, rfl, rfl, trivial⟩)
      · skip
        refine ⟨_, rfl, rfl, (TOp_pure (pur_ld_q one3 rfl rfl rfl) rfl ?_)⟩
        exact tj hj6_1 rfl (wp 0 (lb rfl) rfl rfl rfl rfl ⟨rfl, rfl, rfl, rfl, rfl, trivial⟩)
  · rintro _ _
    refine T_env (E' := [(6, (intA r_3))]) ⟨rfl, trivial⟩ ?_
    refine T_ret ?_
    obtain rfl := some_inj H
    refine end_ret (.tmp .nil) rfl rfl ⟨?_, rfl⟩
    rfl

set_option maxHeartbeats 1000000 in
/-- impl.columnRange -/
theorem m_impl_columnRange_ok (u : Nat) (db0 : Database) (relation1 : Int) (column2 : Int) (nonEmpty3 : Bool) (aggregate4 : ((List Int) → Option Int)) (aggregate4_g : Nat) (aggregate4_c : List A) (aggregate4_E : EnT prg aggregate4_g) (aggregate4_l : looseL aggregate4_c = true) (aggregate4_m : firmL aggregate4_c = true ∧ fzL aggregate4_c = aggregate4_c) (aggregate4_H : ∀ (x0 : (List Int)) r, aggregate4 x0 = some r → FnV prg aggregate4_g ([(sl tInt x0)] ++ aggregate4_c) (intA r)) (r : (Int × Int × Bool)) (H : m_impl_columnRange u db0 relation1 column2 nonEmpty3 aggregate4 = some r) : FnV prg 71 [(.g (tDatabase.enc db0)), (intA relation1), (intA column2), (boolA nonEmpty3), (.f aggregate4_g aggregate4_c)] (.t [(intA r.1), (intA r.2.1), (boolA r.2.2)]) := by
  unfold m_impl_columnRange at H
  refine fnV_of_T Try.func71 rfl rfl (Nat.le_of_ble_eq_true rfl) ?_
  refine T_env (E' := [(0, (.g (tDatabase.enc db0))), (1, (intA relation1)), (2, (intA column2)), (3, (boolA nonEmpty3)), (4, (.f aggregate4_g aggregate4_c))]) ⟨rfl, rfl, rfl, rfl, rfl, trivial⟩ ?_
  refine sr ?_
  refine TO_cons rfl (TOp_box rfl (boxAll rfl) rfl rfl ?_)
  refine TO_cons rfl (TOp_box rfl (boxAll rfl) rfl rfl ?_)
  refine TO_cons rfl (TOp_box rfl (boxAll rfl) rfl rfl ?_)
  refine TO_cons rfl (TOp_box rfl (boxAll rfl) rfl rfl ?_)
  refine Tp rfl rfl (pur_assign rfl) rfl ?_
  refine Tp rfl rfl (pur_assign rfl) rfl ?_
  refine Tp rfl rfl (pur_assign rfl) rfl ?_
  refine TO_nil ?_
  refine T_env (E' := [(3, (boolA nonEmpty3)), (5, (.b 0 0)), (6, (.b 1 0)), (7, (.b 2 0)), (9, (.b 3 0))]) ⟨rfl, rfl, rfl, rfl, rfl, trivial⟩ ?_
  refine T_seq ?_
  obtain ⟨t29_1, J_1, H_2⟩ := bind_inv H
  refine T_cutX (fun x => t29_1 = x) (fun (t29_1 : Bool) => [(5, (.b 0 0)), (6, (.b 1 0)), (7, (.b 2 0)), (9, (.b 3 0)), (29, (boolA t29_1))]) (fun (t29_1 : Bool) => [.box [(sl tRelation db0.relations), (sl tFact db0.facts)], .box [(intA relation1)], .box [(intA column2)], .box [(.f aggregate4_g aggregate4_c)]]) ?_ ?_
  · replace H := J_1
    refine T_region ?_
    refine Tp rfl rfl (pur_ldK_b agg32 rfl rfl (lb rfl) rfl) rfl ?_
    refine Tp rfl rfl (pur_ld_b one3 rfl rfl rfl rfl) rfl ?_
    refine Tp rfl rfl (pur_ld_b one3 rfl rfl rfl rfl) rfl ?_
    obtain ⟨r_3, h_4, H⟩ := bind_inv H
    refine TO_cons rfl (TOp_callV (call_static ent55 rfl) (m_impl_isColumn_ok _ _ _ _ h_4) rfl rfl rfl ?_)
    refine Tp rfl rfl (pur_not rfl rfl) rfl ?_
    refine Tp rfl rfl (pur_move rfl) rfl ?_
    refine TO_split (t := (!r_3)) 20 rfl (fun g_5 => ?_) (fun g_5 => ?_)
    · replace H := cond_t g_5 H
      refine TO_off rfl rfl (by decide) rfl rfl rfl ?_
      refine TO_off rfl rfl (by decide) rfl rfl rfl ?_
      refine TO_off rfl rfl (by decide) rfl rfl rfl ?_
      refine TO_off rfl rfl (by decide) rfl rfl rfl ?_
      refine TO_off rfl rfl (by decide) rfl rfl rfl ?_
      refine TO_off rfl rfl (by decide) rfl rfl rfl ?_
      refine TO_off rfl rfl (by decide) rfl rfl rfl ?_
      refine TO_off rfl rfl (by decide) rfl rfl rfl ?_
      refine Tp rfl rfl (pur_pick (t := true) rfl rfl rfl) rfl ?_
      refine TO_nil ?_
      exact joined true (wp 4 (lb rfl) rfl rfl rfl (by simp [boxesE, boxNames, namesL, A.names, looseL_names aggregate4_l]) ⟨rfl, rfl, rfl, rfl, rfl, trivial⟩) (some_inj H).symm
    · replace H := cond_f g_5 H
      refine TO_on rfl rfl (by decide) rfl rfl (TOp_pure (pur_move rfl) rfl ?_)
      refine TO_on rfl rfl (by decide) rfl rfl (TOp_pure (pur_move rfl) rfl ?_)
      refine TO_split (t := nonEmpty3) 22 rfl (fun g_6 => ?_) (fun g_6 => ?_)
      · replace H := cond_t g_6 H
        refine TO_on rfl rfl (by decide) rfl rfl (TOp_pure (pur_fa_b fld32_1 rfl rfl) rfl ?_)
        refine TO_on rfl rfl (by decide) rfl rfl (TOp_pure (pur_ld_b one30 rfl rfl rfl rfl) rfl ?_)
        refine TO_on rfl rfl (by decide) rfl rfl (TOp_pure (pur_makeFunc rfl) rfl ?_)
        obtain ⟨r_7, h_8, H⟩ := bind_inv H
        refine TO_on rfl rfl (by decide) rfl rfl (TOp_callB (call_static ent97 rfl) (frz_cons (frz_loose rfl) (frz_cons (frzOK_f (frz_cons (frzOK_b (xs := [(intA relation1)]) (ys := [(intA relation1)]) rfl rfl rfl) frz_nil).1 (frz_cons (frzOK_b (xs := [(intA relation1)]) (ys := [(intA relation1)]) rfl rfl rfl) frz_nil).2) frz_nil)).1 (frz_cons (frz_loose rfl) (frz_cons (frzOK_f (frz_cons (frzOK_b (xs := [(intA relation1)]) (ys := [(intA relation1)]) rfl rfl rfl) frz_nil).1 (frz_cons (frzOK_b (xs := [(intA relation1)]) (ys := [(intA relation1)]) rfl rfl rfl) frz_nil).2) frz_nil)).2 (m_slices_ContainsFunc_Simpl_Fact_impl_Fact_ok _ (fun x0 => m_impl_columnRange_1 x0 relation1) 98 [(.q [(intA relation1)] 0)] ent98 rfl ⟨rfl, rfl⟩ (fun x0 r h => m_impl_columnRange_1_ok x0 relation1 r h) _ h_8) rfl ?_)
        refine TO_on rfl rfl (by decide) rfl rfl (TOp_pure (pur_not rfl rfl) rfl ?_)
        refine TO_on rfl rfl (by decide) rfl rfl (TOp_pure (pur_pick (t := true) rfl rfl rfl) rfl ?_)
        refine Tp rfl rfl (pur_pick (t := false) rfl rfl rfl) rfl ?_
        refine TO_nil ?_
        exact joined (!r_7) (wp 4 (lb rfl) rfl rfl rfl (by simp [boxesE, boxNames, namesL, A.names, looseL_names aggregate4_l]) ⟨rfl, rfl, rfl, rfl, rfl, trivial⟩) (some_inj H).symm
      · replace H := cond_f g_6 H
        refine TO_off rfl rfl (by decide) rfl rfl rfl ?_
        refine TO_off rfl rfl (by decide) rfl rfl rfl ?_
        refine TO_off rfl rfl (by decide) rfl rfl rfl ?_
        refine TO_off rfl rfl (by decide) rfl rfl rfl ?_
        refine TO_off rfl rfl (by decide) rfl rfl rfl ?_
        refine TO_on rfl rfl (by decide) rfl rfl (TOp_pure (pur_pick (t := false) rfl rfl rfl) rfl ?_)
        refine Tp rfl rfl (pur_pick (t := false) rfl rfl rfl) rfl ?_
        refine TO_nil ?_
        exact joined false (wp 4 (lb rfl) rfl rfl rfl (by simp [boxesE, boxNames, namesL, A.names, looseL_names aggregate4_l]) ⟨rfl, rfl, rfl, rfl, rfl, trivial⟩) (some_inj H).symm
  · rintro _ rfl
    replace H := H_2
    refine T_env (E' := [(5, (.b 0 0)), (6, (.b 1 0)), (7, (.b 2 0)), (9, (.b 3 0)), (29, (boolA t29_1))]) ⟨rfl, rfl, rfl, rfl, rfl, trivial⟩ ?_
    refine T_cond (t := t29_1) rfl (fun c_9 => ?_) (fun c_9 => ?_)
    · replace H := cond_t c_9 H
      refine sr ?_
      refine Tp rfl rfl (pur_assign rfl) rfl ?_
      refine Tp rfl rfl (pur_assign rfl) rfl ?_
      refine Tp rfl rfl (pur_assign rfl) rfl ?_
      refine TO_nil ?_
      refine T_env (E' := [(10, (intA 0)), (11, (intA 0)), (12, (boolA false))]) ⟨rfl, rfl, rfl, trivial⟩ ?_
      refine T_ret ?_
      refine then_ret ?_
      obtain rfl := some_inj H
      refine end_ret (.tmp (.tmp (.tmp .nil))) rfl rfl ⟨?_, rfl⟩
      rfl
    · replace H := cond_f c_9 H
      refine T_skip ?_
      refine T_env (E' := [(5, (.b 0 0)), (6, (.b 1 0)), (7, (.b 2 0)), (9, (.b 3 0))]) ⟨rfl, rfl, rfl, rfl, trivial⟩ ?_
      refine sr ?_
      refine Tp rfl rfl (pur_ldK_b agg32 rfl rfl (lb rfl) rfl) rfl ?_
      refine Tp rfl rfl (pur_makeFunc rfl) rfl ?_
      obtain ⟨r_10, h_11, H⟩ := bind_inv H
      refine TO_cons rfl (TOp_callOG (call_static ent99 rfl) (frz_cons (frz_loose rfl) (frz_cons (frzOK_f (frz_cons (frzOK_b (xs := [(.f aggregate4_g aggregate4_c)]) (ys := [(.f aggregate4_g aggregate4_c)]) rfl (by simp [firmL, firm, aggregate4_m.1]) (by simp [fzL, fz, aggregate4_m.2])) (frz_cons (frzOK_b (xs := [(sl tRelation db0.relations), (sl tFact db0.facts)]) (ys := [(sl tRelation db0.relations), (sl tFact db0.facts)]) rfl rfl rfl) (frz_cons (frzOK_b (xs := [(intA relation1)]) (ys := [(intA relation1)]) rfl rfl rfl) (frz_cons (frzOK_b (xs := [(intA column2)]) (ys := [(intA column2)]) rfl rfl rfl) frz_nil)))).1 (frz_cons (frzOK_b (xs := [(.f aggregate4_g aggregate4_c)]) (ys := [(.f aggregate4_g aggregate4_c)]) rfl (by simp [firmL, firm, aggregate4_m.1]) (by simp [fzL, fz, aggregate4_m.2])) (frz_cons (frzOK_b (xs := [(sl tRelation db0.relations), (sl tFact db0.facts)]) (ys := [(sl tRelation db0.relations), (sl tFact db0.facts)]) rfl rfl rfl) (frz_cons (frzOK_b (xs := [(intA relation1)]) (ys := [(intA relation1)]) rfl rfl rfl) (frz_cons (frzOK_b (xs := [(intA column2)]) (ys := [(intA column2)]) rfl rfl rfl) frz_nil)))).2) frz_nil)).1 (frz_cons (frz_loose rfl) (frz_cons (frzOK_f (frz_cons (frzOK_b (xs := [(.f aggregate4_g aggregate4_c)]) (ys := [(.f aggregate4_g aggregate4_c)]) rfl (by simp [firmL, firm, aggregate4_m.1]) (by simp [fzL, fz, aggregate4_m.2])) (frz_cons (frzOK_b (xs := [(sl tRelation db0.relations), (sl tFact db0.facts)]) (ys := [(sl tRelation db0.relations), (sl tFact db0.facts)]) rfl rfl rfl) (frz_cons (frzOK_b (xs := [(intA relation1)]) (ys := [(intA relation1)]) rfl rfl rfl) (frz_cons (frzOK_b (xs := [(intA column2)]) (ys := [(intA column2)]) rfl rfl rfl) frz_nil)))).1 (frz_cons (frzOK_b (xs := [(.f aggregate4_g aggregate4_c)]) (ys := [(.f aggregate4_g aggregate4_c)]) rfl (by simp [firmL, firm, aggregate4_m.1]) (by simp [fzL, fz, aggregate4_m.2])) (frz_cons (frzOK_b (xs := [(sl tRelation db0.relations), (sl tFact db0.facts)]) (ys := [(sl tRelation db0.relations), (sl tFact db0.facts)]) rfl rfl rfl) (frz_cons (frzOK_b (xs := [(intA relation1)]) (ys := [(intA relation1)]) rfl rfl rfl) (frz_cons (frzOK_b (xs := [(intA column2)]) (ys := [(intA column2)]) rfl rfl rfl) frz_nil)))).2) frz_nil)).2 (m_impl_rangeOf_ok u _ (fun x0 => m_impl_columnRange_2 x0 aggregate4 db0 relation1 column2) 100 [(.q [(.f aggregate4_g aggregate4_c)] 0), (.q [(sl tRelation db0.relations), (sl tFact db0.facts)] 0), (.q [(intA relation1)] 0), (.q [(intA column2)] 0)] ent100 (by simp only [looseL, A.loose, Bool.true_and, Bool.and_true, Bool.and_self]) ⟨rfl, rfl⟩ (fun x0 r h => m_impl_columnRange_2_ok x0 aggregate4 aggregate4_g aggregate4_c aggregate4_E aggregate4_l aggregate4_m aggregate4_H db0 relation1 column2 r h) _ h_11) rfl (ownC_of ownSB_nil) rfl rfl rfl ?_)
      refine TO_env (E' := [(5, (.b 0 0)), (6, (.b 1 0)), (7, (.b 2 0)), (9, (.b 3 0)), (31, (.g (tDatabase.enc db0))), (32, (.f 100 [(.b 3 0), (.b 0 0), (.b 1 0), (.b 2 0)])), (33, (.t [(intA r_10.1), (intA r_10.2)]))]) ⟨rfl, rfl, rfl, rfl, rfl, rfl, rfl, trivial⟩ ?_
      refine TO_st (σ' := [.box [(sl tRelation db0.relations), (sl tFact db0.facts)], .box [(intA relation1)], .box [(intA column2)], .box [(.f aggregate4_g aggregate4_c)]]) rfl ?_
      refine Tp rfl rfl (pur_move rfl) rfl ?_
      refine Tp rfl rfl (pur_extract rfl rfl rfl) rfl ?_
      refine Tp rfl rfl (pur_extract rfl rfl rfl) rfl ?_
      refine Tp rfl rfl (pur_assign rfl) rfl ?_
      refine Tp rfl rfl (pur_assign rfl) rfl ?_
      refine TO_nil ?_
      refine T_env (E' := [(13, (intA r_10.1)), (14, (intA r_10.2))]) ⟨rfl, rfl, trivial⟩ ?_
      refine sr ?_
      refine Tp rfl rfl (pur_move rfl) rfl ?_
      refine Tp rfl rfl (pur_move rfl) rfl ?_
      refine Tp rfl rfl (pur_assign rfl) rfl ?_
      refine Tp rfl rfl (pur_assign rfl) rfl ?_
      refine Tp rfl rfl (pur_assign rfl) rfl ?_
      refine TO_nil ?_
      refine T_env (E' := [(10, (intA r_10.1)), (11, (intA r_10.2)), (12, (boolA true))]) ⟨rfl, rfl, rfl, trivial⟩ ?_
      refine T_ret ?_
      obtain rfl := some_inj H
      refine end_ret (.tmp (.tmp (.tmp .nil))) rfl rfl ⟨?_, rfl⟩
      rfl

set_option maxHeartbeats 1000000 in
/-- impl.SumRange -/
theorem m_impl_SumRange_ok (u : Nat) (db0 : Database) (relation1 : Int) (column2 : Int) (r : (Int × Int × Bool)) (H : m_impl_SumRange u db0 relation1 column2 = some r) : FnV prg 32 [(.g (tDatabase.enc db0)), (intA relation1), (intA column2)] (.t [(intA r.1), (intA r.2.1), (boolA r.2.2)]) := by
  unfold m_impl_SumRange at H
  refine fnV_of_T Try.func32 rfl rfl (Nat.le_of_ble_eq_true rfl) ?_
  refine T_env (E' := [(0, (.g (tDatabase.enc db0))), (1, (intA relation1)), (2, (intA column2))]) ⟨rfl, rfl, rfl, trivial⟩ ?_
  refine sr ?_
  refine TO_cons rfl (TOp_box rfl (boxAll rfl) rfl rfl ?_)
  refine Tp rfl rfl (pur_assign rfl) rfl ?_
  refine Tp rfl rfl (pur_assign rfl) rfl ?_
  refine Tp rfl rfl (pur_assign rfl) rfl ?_
  refine TO_nil ?_
  refine T_env (E' := [(1, (intA relation1)), (2, (intA column2)), (3, (.b 0 0))]) ⟨rfl, rfl, rfl, trivial⟩ ?_
  refine sr ?_
  refine Tp rfl rfl (pur_ldK_b agg32 rfl rfl (lb rfl) rfl) rfl ?_
  refine Tp rfl rfl (pur_move rfl) rfl ?_
  refine Tp rfl rfl (pur_move rfl) rfl ?_
  obtain ⟨r_1, h_2, H⟩ := bind_inv H
  refine TO_cons rfl (TOp_callV (call_static ent71 rfl) (m_impl_columnRange_ok u _ _ _ _ (fun x0 => m_impl_sumOf x0) 57 [] ent57 rfl ⟨rfl, rfl⟩ (fun x0 r h => m_impl_sumOf_ok x0  r h) _ h_2) rfl rfl rfl ?_)
  refine Tp rfl rfl (pur_extract rfl rfl rfl) rfl ?_
  refine Tp rfl rfl (pur_extract rfl rfl rfl) rfl ?_
  refine Tp rfl rfl (pur_extract rfl rfl rfl) rfl ?_
  refine Tp rfl rfl (pur_assign rfl) rfl ?_
  refine Tp rfl rfl (pur_assign rfl) rfl ?_
  refine Tp rfl rfl (pur_assign rfl) rfl ?_
  refine TO_nil ?_
  refine T_env (E' := [(6, (intA r_1.1)), (7, (intA r_1.2.1)), (8, (boolA r_1.2.2))]) ⟨rfl, rfl, rfl, trivial⟩ ?_
  refine T_ret ?_
  obtain rfl := some_inj H
  refine end_ret (.tmp (.tmp (.tmp .nil))) rfl rfl ⟨?_, rfl⟩
  rfl

set_option maxHeartbeats 1000000 in
/-- spec.l1Byte -/
theorem m_spec_l1Byte_x (c0 : l1Cur) (r : (Int × l1Cur)) (H : m_spec_l1Byte c0 = some r) : FnS prg 109 [(.b 0 0)] [.box [(sl (tI .u8) c0.b), (intA c0.i), (intA c0.h)]] (intA r.1) [.box [(sl (tI .u8) r.2.b), (intA r.2.i), (intA r.2.h)]] := by
  unfold m_spec_l1Byte at H
  refine fnS_of_T Try.func109 rfl rfl (Nat.le_of_ble_eq_true rfl) ?_
  refine T_env (E' := [(0, (.b 0 0))]) ⟨rfl, trivial⟩ ?_
  refine T_st (σ' := [.box [(sl (tI .u8) c0.b), (intA c0.i), (intA c0.h)]]) rfl ?_
  refine sr ?_
  refine Tp rfl rfl (pur_assign rfl) rfl ?_
  refine TO_nil ?_
  refine T_env (E' := [(0, (.b 0 0))]) ⟨rfl, trivial⟩ ?_
  refine sr ?_
  refine Tp rfl rfl (pur_move rfl) rfl ?_
  refine Tp rfl rfl (pur_move rfl) rfl ?_
  refine Tp rfl rfl (pur_nil_b rfl rfl) rfl ?_
  refine Tp rfl rfl (pur_fa_b fld118_2 rfl rfl) rfl ?_
  refine Tp rfl rfl (pur_ld_b one3 rfl rfl rfl rfl) rfl ?_
  refine Tp rfl rfl (pur_wmul rfl rfl rfl) rfl ?_
  refine Tp rfl rfl (pur_wadd rfl rfl rfl) rfl ?_
  refine Tp rfl rfl (pur_nil_b rfl rfl) rfl ?_
  refine Tp rfl rfl (pur_fa_b fld118_2 rfl rfl) rfl ?_
  refine TO_cons rfl (TOp_storeB sz3 rfl rfl rfl rfl rfl rfl rfl (by decide) (lb rfl) rfl ?_)
  refine TO_st (σ' := [.box [(sl (tI .u8) c0.b), (intA c0.i), (intA (w64 ((w64 (c0.h * 6364136223846793005)) + 1442695040888963407)))]]) rfl ?_
  refine TO_nil ?_
  refine T_env (E' := [(0, (.b 0 0))]) ⟨rfl, trivial⟩ ?_
  refine T_seq ?_
  refine T_regionD mixed (by kernel_rfl) ?_
  refine TQ_pure rfl (pur_move rfl) rfl ?_
  refine TQ_pure rfl (pur_nil_b rfl rfl) rfl ?_
  refine TQ_pure rfl (pur_fa_b fld118_2 rfl rfl) rfl ?_
  refine TQ_pure rfl (pur_ld_b one3 rfl rfl rfl rfl) rfl ?_
  refine TQ_pure rfl (pur_shr rfl rfl rfl (by decide)) rfl ?_
  refine TQ_pure rfl (pur_move rfl) rfl ?_
  refine TQ_pure rfl (pur_nil_b rfl rfl) rfl ?_
  refine TQ_pure rfl (pur_fa_b fld118_2 rfl rfl) rfl ?_
  refine TQ_env (E' := [(0, (.b 0 0)), (17, (intA (shrI .i64 (w64 ((w64 (c0.h * 6364136223846793005)) + 1442695040888963407)) 33))), (20, (.b 0 2))]) ⟨rfl, rfl, rfl, trivial⟩ ?_
  refine TQ_pure rfl (pur_ld_b one3 rfl rfl rfl rfl) rfl ?_
  refine TQ_pure rfl (pur_shr rfl rfl rfl (by decide)) rfl ?_
  refine TQ_pure rfl (pur_xor rfl rfl rfl) rfl ?_
  refine TQ_pure rfl (pur_and rfl rfl rfl) rfl ?_
  refine TQ_pure rfl (pur_assign rfl) rfl ?_
  refine TQ_nil ?_
  refine T_env (E' := [(0, (.b 0 0)), (3, (intA (bitI .and .i64 (bitI .xor .i64 (shrI .i64 (w64 ((w64 (c0.h * 6364136223846793005)) + 1442695040888963407)) 33) (shrI .i64 (w64 ((w64 (c0.h * 6364136223846793005)) + 1442695040888963407)) 45)) 255)))]) ⟨rfl, rfl, trivial⟩ ?_
  refine T_seq ?_
  refine T_seq ?_
  refine T_regionD mixed (by kernel_rfl) ?_
  refine TQ_pure rfl (pur_move rfl) rfl ?_
  refine TQ_pure rfl (pur_nil_b rfl rfl) rfl ?_
  refine TQ_pure rfl (pur_fa_b fld118_1 rfl rfl) rfl ?_
  refine TQ_pure rfl (pur_ld_b one3 rfl rfl rfl rfl) rfl ?_
  refine TQ_pure rfl (pur_move rfl) rfl ?_
  refine TQ_pure rfl (pur_nil_b rfl rfl) rfl ?_
  refine TQ_pure rfl (pur_fa_b fld118_0 rfl rfl) rfl ?_
  refine TQ_pure rfl (pur_ld_b one27 rfl rfl rfl rfl) rfl ?_
  refine TQ_pure rfl (pur_lenT (T := (tI .u8)) sl27 rfl rfl) rfl ?_
  refine TQ_pure rfl (pur_lss rfl rfl rfl) rfl ?_
  refine TQ_nil ?_
  refine T_env (E' := [(0, (.b 0 0)), (3, (intA (bitI .and .i64 (bitI .xor .i64 (shrI .i64 (w64 ((w64 (c0.h * 6364136223846793005)) + 1442695040888963407)) 33) (shrI .i64 (w64 ((w64 (c0.h * 6364136223846793005)) + 1442695040888963407)) 45)) 255))), (34, (boolA (decide (c0.i < (c0.b.length : Int)))))]) ⟨rfl, rfl, rfl, trivial⟩ ?_
  refine T_cond (t := decide (c0.i < (c0.b.length : Int))) rfl (fun c_1 => ?_) (fun c_1 => ?_)
  · replace H := cond_t c_1 H
    refine T_seq ?_
    refine T_regionD mixed (by kernel_rfl) ?_
    refine TQ_pure rfl (pur_move rfl) rfl ?_
    refine TQ_pure rfl (pur_move rfl) rfl ?_
    refine TQ_pure rfl (pur_nil_b rfl rfl) rfl ?_
    refine TQ_pure rfl (pur_fa_b fld118_0 rfl rfl) rfl ?_
    refine TQ_pure rfl (pur_ld_b one27 rfl rfl rfl rfl) rfl ?_
    refine TQ_pure rfl (pur_move rfl) rfl ?_
    refine TQ_pure rfl (pur_nil_b rfl rfl) rfl ?_
    refine TQ_pure rfl (pur_fa_b fld118_1 rfl rfl) rfl ?_
    refine TQ_env (E' := [(0, (.b 0 0)), (3, (intA (bitI .and .i64 (bitI .xor .i64 (shrI .i64 (w64 ((w64 (c0.h * 6364136223846793005)) + 1442695040888963407)) 33) (shrI .i64 (w64 ((w64 (c0.h * 6364136223846793005)) + 1442695040888963407)) 45)) 255))), (35, (intA (bitI .and .i64 (bitI .xor .i64 (shrI .i64 (w64 ((w64 (c0.h * 6364136223846793005)) + 1442695040888963407)) 33) (shrI .i64 (w64 ((w64 (c0.h * 6364136223846793005)) + 1442695040888963407)) 45)) 255))), (39, (sl (tI .u8) c0.b)), (42, (.b 0 1))]) ⟨rfl, rfl, rfl, rfl, rfl, trivial⟩ ?_
    refine TQ_pure rfl (pur_ld_b one3 rfl rfl rfl rfl) rfl ?_
    obtain ⟨v_2, h_3, H⟩ := bind_inv H
    obtain ⟨n_4, hz_5, hv_6⟩ := getI_inv h_3
    refine TQ_pure rfl (pur_ixT (T := (tI .u8)) sl27 rfl rfl hz_5 hv_6 rfl) rfl ?_
    refine TQ_pure rfl (pur_ldT (T := (tI .u8)) (i := n_4) (off := 0) rfl one5 rfl rfl hv_6 rfl) rfl ?_
    refine TQ_pure rfl (pur_convI (k := .i64) (k' := .u8) ⟨_, Try.underlying5⟩ Try.underlying3 rfl rfl) rfl ?_
    refine TQ_pure rfl (pur_wadd rfl rfl rfl) rfl ?_
    refine TQ_pure rfl (pur_and rfl rfl rfl) rfl ?_
    refine TQ_pure rfl (pur_assign rfl) rfl ?_
    refine TQ_nil ?_
    refine T_env (E' := [(0, (.b 0 0)), (3, (intA (bitI .and .i64 (w64 ((bitI .and .i64 (bitI .xor .i64 (shrI .i64 (w64 ((w64 (c0.h * 6364136223846793005)) + 1442695040888963407)) 33) (shrI .i64 (w64 ((w64 (c0.h * 6364136223846793005)) + 1442695040888963407)) 45)) 255) + (w64 v_2))) 255)))]) ⟨rfl, rfl, trivial⟩ ?_
    refine T_region ?_
    refine Tp rfl rfl (pur_move rfl) rfl ?_
    refine Tp rfl rfl (pur_move rfl) rfl ?_
    refine Tp rfl rfl (pur_nil_b rfl rfl) rfl ?_
    refine Tp rfl rfl (pur_fa_b fld118_1 rfl rfl) rfl ?_
    refine Tp rfl rfl (pur_ld_b one3 rfl rfl rfl rfl) rfl ?_
    refine Tp rfl rfl (pur_wadd rfl rfl rfl) rfl ?_
    refine Tp rfl rfl (pur_nil_b rfl rfl) rfl ?_
    refine Tp rfl rfl (pur_fa_b fld118_1 rfl rfl) rfl ?_
    refine TO_cons rfl (TOp_storeB sz3 rfl rfl rfl rfl rfl rfl rfl (by decide) (lb rfl) rfl ?_)
    refine TO_st (σ' := [.box [(sl (tI .u8) c0.b), (intA (w64 (c0.i + 1))), (intA (w64 ((w64 (c0.h * 6364136223846793005)) + 1442695040888963407)))]]) rfl ?_
    refine TO_nil ?_
    refine T_env (E' := [(3, (intA (bitI .and .i64 (w64 ((bitI .and .i64 (bitI .xor .i64 (shrI .i64 (w64 ((w64 (c0.h * 6364136223846793005)) + 1442695040888963407)) 33) (shrI .i64 (w64 ((w64 (c0.h * 6364136223846793005)) + 1442695040888963407)) 45)) 255) + (w64 v_2))) 255)))]) ⟨rfl, trivial⟩ ?_
    refine sr ?_
    refine Tp rfl rfl (pur_move rfl) rfl ?_
    refine Tp rfl rfl (pur_assign rfl) rfl ?_
    refine TO_nil ?_
    refine T_env (E' := [(2, (intA (bitI .and .i64 (w64 ((bitI .and .i64 (bitI .xor .i64 (shrI .i64 (w64 ((w64 (c0.h * 6364136223846793005)) + 1442695040888963407)) 33) (shrI .i64 (w64 ((w64 (c0.h * 6364136223846793005)) + 1442695040888963407)) 45)) 255) + (w64 v_2))) 255)))]) ⟨rfl, trivial⟩ ?_
    refine T_ret ?_
    obtain rfl := some_inj H
    exact end_pickX (.tmp .nil) rfl [0] (by decide) (lb rfl) rfl (lb rfl) rfl rfl rfl rfl rfl rfl
  · replace H := cond_f c_1 H
    refine T_skip ?_
    refine T_env (E' := [(3, (intA (bitI .and .i64 (bitI .xor .i64 (shrI .i64 (w64 ((w64 (c0.h * 6364136223846793005)) + 1442695040888963407)) 33) (shrI .i64 (w64 ((w64 (c0.h * 6364136223846793005)) + 1442695040888963407)) 45)) 255)))]) ⟨rfl, trivial⟩ ?_
    refine sr ?_
    refine Tp rfl rfl (pur_move rfl) rfl ?_
    refine Tp rfl rfl (pur_assign rfl) rfl ?_
    refine TO_nil ?_
    refine T_env (E' := [(2, (intA (bitI .and .i64 (bitI .xor .i64 (shrI .i64 (w64 ((w64 (c0.h * 6364136223846793005)) + 1442695040888963407)) 33) (shrI .i64 (w64 ((w64 (c0.h * 6364136223846793005)) + 1442695040888963407)) 45)) 255)))]) ⟨rfl, trivial⟩ ?_
    refine T_ret ?_
    obtain rfl := some_inj H
    exact end_pickX (.tmp .nil) rfl [0] (by decide) (lb rfl) rfl (lb rfl) rfl rfl rfl rfl rfl rfl

set_option maxHeartbeats 1000000 in
/-- spec.l1Below -/
theorem m_spec_l1Below_x (c0 : l1Cur) (n1 : Int) (r : (Int × l1Cur)) (H : m_spec_l1Below c0 n1 = some r) : FnS prg 83 [(.b 0 0), (intA n1)] [.box [(sl (tI .u8) c0.b), (intA c0.i), (intA c0.h)]] (intA r.1) [.box [(sl (tI .u8) r.2.b), (intA r.2.i), (intA r.2.h)]] := by
  unfold m_spec_l1Below at H
  refine fnS_of_T Try.func83 rfl rfl (Nat.le_of_ble_eq_true rfl) ?_
  refine T_env (E' := [(0, (.b 0 0)), (1, (intA n1))]) ⟨rfl, rfl, trivial⟩ ?_
  refine T_st (σ' := [.box [(sl (tI .u8) c0.b), (intA c0.i), (intA c0.h)]]) rfl ?_
  refine sr ?_
  refine Tp rfl rfl (pur_assign rfl) rfl ?_
  refine TO_nil ?_
  refine T_env (E' := [(0, (.b 0 0)), (1, (intA n1))]) ⟨rfl, rfl, trivial⟩ ?_
  refine T_seq ?_
  refine sr ?_
  refine Tp rfl rfl (pur_move rfl) rfl ?_
  refine Tp rfl rfl (pur_leq rfl rfl rfl) rfl ?_
  refine TO_nil ?_
  refine T_env (E' := [(0, (.b 0 0)), (1, (intA n1)), (10, (boolA (decide (n1 ≤ 0))))]) ⟨rfl, rfl, rfl, trivial⟩ ?_
  refine T_cond (t := decide (n1 ≤ 0)) rfl (fun c_1 => ?_) (fun c_1 => ?_)
  · replace H := cond_t c_1 H
    refine sr ?_
    refine Tp rfl rfl (pur_assign rfl) rfl ?_
    refine TO_nil ?_
    refine T_env (E' := [(4, (intA 0))]) ⟨rfl, trivial⟩ ?_
    refine T_ret ?_
    refine then_ret ?_
    obtain rfl := some_inj H
    exact end_pickX (.tmp .nil) rfl [0] (by decide) (lb rfl) rfl (lb rfl) rfl rfl rfl rfl rfl rfl
  · replace H := cond_f c_1 H
    refine T_skip ?_
    refine T_env (E' := [(0, (.b 0 0)), (1, (intA n1))]) ⟨rfl, rfl, trivial⟩ ?_
    refine T_seq ?_
    refine sr ?_
    refine Tp rfl rfl (pur_move rfl) rfl ?_
    refine Tp rfl rfl (pur_leq rfl rfl rfl) rfl ?_
    refine TO_nil ?_
    refine T_env (E' := [(0, (.b 0 0)), (1, (intA n1)), (12, (boolA (decide (n1 ≤ 256))))]) ⟨rfl, rfl, rfl, trivial⟩ ?_
    refine T_cond (t := decide (n1 ≤ 256)) rfl (fun c_2 => ?_) (fun c_2 => ?_)
    · replace H := cond_t c_2 H
      refine sr ?_
      refine Tp rfl rfl (pur_move rfl) rfl ?_
      obtain ⟨r_3, h_4, H⟩ := bind_inv H
      refine TO_cons rfl (TOp_callS [0] (call_static ent109 rfl) (by decide) rfl rfl rfl rfl rfl rfl (m_spec_l1Byte_x _ _ h_4) rfl rfl ?_)
      refine TO_env (E' := [(0, (.b 0 0)), (1, (intA n1)), (12, (boolA (decide (n1 ≤ 256)))), (13, (.b 0 0)), (14, (intA r_3.1))]) ⟨rfl, rfl, rfl, rfl, rfl, trivial⟩ ?_
      refine TO_st (σ' := [.box [(sl (tI .u8) r_3.2.b), (intA r_3.2.i), (intA r_3.2.h)]]) rfl ?_
      refine Tp rfl rfl (pur_move rfl) rfl ?_
      obtain ⟨_u, h_5, H⟩ := bind_inv H
      refine Tp rfl rfl (pur_rem rfl rfl rfl (gD_inv h_5)) rfl ?_
      refine Tp rfl rfl (pur_assign rfl) rfl ?_
      refine TO_nil ?_
      refine T_env (E' := [(4, (intA (r_3.1.tmod n1)))]) ⟨rfl, trivial⟩ ?_
      refine T_ret ?_
      refine then_ret ?_
      obtain rfl := some_inj H
      exact end_pickX (.tmp .nil) rfl [0] (by decide) (lb rfl) rfl (lb rfl) rfl rfl rfl rfl rfl rfl
    · replace H := cond_f c_2 H
      refine T_skip ?_
      refine T_env (E' := [(0, (.b 0 0)), (1, (intA n1))]) ⟨rfl, rfl, trivial⟩ ?_
      refine sr ?_
      refine Tp rfl rfl (pur_move rfl) rfl ?_
      obtain ⟨r_6, h_7, H⟩ := bind_inv H
      refine TO_cons rfl (TOp_callS [0] (call_static ent109 rfl) (by decide) rfl rfl rfl rfl rfl rfl (m_spec_l1Byte_x _ _ h_7) rfl rfl ?_)
      refine TO_env (E' := [(0, (.b 0 0)), (1, (intA n1)), (17, (.b 0 0)), (18, (intA r_6.1))]) ⟨rfl, rfl, rfl, rfl, trivial⟩ ?_
      refine TO_st (σ' := [.box [(sl (tI .u8) r_6.2.b), (intA r_6.2.i), (intA r_6.2.h)]]) rfl ?_
      refine Tp rfl rfl (pur_assign rfl) rfl ?_
      refine TO_nil ?_
      refine T_env (E' := [(0, (.b 0 0)), (1, (intA n1)), (5, (intA r_6.1))]) ⟨rfl, rfl, rfl, trivial⟩ ?_
      refine sr ?_
      refine Tp rfl rfl (pur_move rfl) rfl ?_
      obtain ⟨r_8, h_9, H⟩ := bind_inv H
      refine TO_cons rfl (TOp_callS [0] (call_static ent109 rfl) (by decide) rfl rfl rfl rfl rfl rfl (m_spec_l1Byte_x _ _ h_9) rfl rfl ?_)
      refine TO_env (E' := [(0, (.b 0 0)), (1, (intA n1)), (5, (intA r_6.1)), (19, (.b 0 0)), (20, (intA r_8.1))]) ⟨rfl, rfl, rfl, rfl, rfl, trivial⟩ ?_
      refine TO_st (σ' := [.box [(sl (tI .u8) r_8.2.b), (intA r_8.2.i), (intA r_8.2.h)]]) rfl ?_
      refine Tp rfl rfl (pur_assign rfl) rfl ?_
      refine TO_nil ?_
      refine T_env (E' := [(0, (.b 0 0)), (1, (intA n1)), (5, (intA r_6.1)), (6, (intA r_8.1))]) ⟨rfl, rfl, rfl, rfl, trivial⟩ ?_
      refine sr ?_
      refine Tp rfl rfl (pur_move rfl) rfl ?_
      obtain ⟨r_10, h_11, H⟩ := bind_inv H
      refine TO_cons rfl (TOp_callS [0] (call_static ent109 rfl) (by decide) rfl rfl rfl rfl rfl rfl (m_spec_l1Byte_x _ _ h_11) rfl rfl ?_)
      refine TO_env (E' := [(0, (.b 0 0)), (1, (intA n1)), (5, (intA r_6.1)), (6, (intA r_8.1)), (21, (.b 0 0)), (22, (intA r_10.1))]) ⟨rfl, rfl, rfl, rfl, rfl, rfl, trivial⟩ ?_
      refine TO_st (σ' := [.box [(sl (tI .u8) r_10.2.b), (intA r_10.2.i), (intA r_10.2.h)]]) rfl ?_
      refine Tp rfl rfl (pur_assign rfl) rfl ?_
      refine TO_nil ?_
      refine T_env (E' := [(0, (.b 0 0)), (1, (intA n1)), (5, (intA r_6.1)), (6, (intA r_8.1)), (7, (intA r_10.1))]) ⟨rfl, rfl, rfl, rfl, rfl, trivial⟩ ?_
      refine sr ?_
      refine Tp rfl rfl (pur_move rfl) rfl ?_
      obtain ⟨r_12, h_13, H⟩ := bind_inv H
      refine TO_cons rfl (TOp_callS [0] (call_static ent109 rfl) (by decide) rfl rfl rfl rfl rfl rfl (m_spec_l1Byte_x _ _ h_13) rfl rfl ?_)
      refine TO_env (E' := [(0, (.b 0 0)), (1, (intA n1)), (5, (intA r_6.1)), (6, (intA r_8.1)), (7, (intA r_10.1)), (23, (.b 0 0)), (24, (intA r_12.1))]) ⟨rfl, rfl, rfl, rfl, rfl, rfl, rfl, trivial⟩ ?_
      refine TO_st (σ' := [.box [(sl (tI .u8) r_12.2.b), (intA r_12.2.i), (intA r_12.2.h)]]) rfl ?_
      refine Tp rfl rfl (pur_assign rfl) rfl ?_
      refine TO_nil ?_
      refine T_env (E' := [(1, (intA n1)), (5, (intA r_6.1)), (6, (intA r_8.1)), (7, (intA r_10.1)), (8, (intA r_12.1))]) ⟨rfl, rfl, rfl, rfl, rfl, trivial⟩ ?_
      refine sr ?_
      refine Tp rfl rfl (pur_move rfl) rfl ?_
      refine Tp rfl rfl (pur_wmul rfl rfl rfl) rfl ?_
      refine Tp rfl rfl (pur_move rfl) rfl ?_
      refine Tp rfl rfl (pur_wmul rfl rfl rfl) rfl ?_
      refine Tp rfl rfl (pur_wadd rfl rfl rfl) rfl ?_
      refine Tp rfl rfl (pur_move rfl) rfl ?_
      refine Tp rfl rfl (pur_wmul rfl rfl rfl) rfl ?_
      refine Tp rfl rfl (pur_wadd rfl rfl rfl) rfl ?_
      refine TO_env (E' := [(1, (intA n1)), (8, (intA r_12.1)), (32, (intA (w64 ((w64 ((w64 (r_6.1 * 16777216)) + (w64 (r_8.1 * 65536)))) + (w64 (r_10.1 * 256))))))]) ⟨rfl, rfl, rfl, trivial⟩ ?_
      refine Tp rfl rfl (pur_move rfl) rfl ?_
      refine Tp rfl rfl (pur_wadd rfl rfl rfl) rfl ?_
      refine Tp rfl rfl (pur_move rfl) rfl ?_
      obtain ⟨_u, h_14, H⟩ := bind_inv H
      refine Tp rfl rfl (pur_rem rfl rfl rfl (gD_inv h_14)) rfl ?_
      refine Tp rfl rfl (pur_assign rfl) rfl ?_
      refine TO_nil ?_
      refine T_env (E' := [(4, (intA ((w64 ((w64 ((w64 ((w64 (r_6.1 * 16777216)) + (w64 (r_8.1 * 65536)))) + (w64 (r_10.1 * 256)))) + r_12.1)).tmod n1)))]) ⟨rfl, trivial⟩ ?_
      refine T_ret ?_
      obtain rfl := some_inj H
      exact end_pickX (.tmp .nil) rfl [0] (by decide) (lb rfl) rfl (lb rfl) rfl rfl rfl rfl rfl rfl

set_option maxHeartbeats 1000000 in
/-- spec.l1New -/
theorem m_spec_l1New_x (u : Nat) (code0 : (List Int)) (r : l1Cur) (H : m_spec_l1New u code0 = some r) : FnS prg 85 [(sl (tI .u8) code0)] [] (.b 0 0) [.box [(sl (tI .u8) r.b), (intA r.i), (intA r.h)]] := by
  unfold m_spec_l1New at H
  refine fnS_of_T Try.func85 rfl rfl (Nat.le_of_ble_eq_true rfl) ?_
  refine T_env (E' := [(0, (sl (tI .u8) code0))]) ⟨rfl, trivial⟩ ?_
  refine T_st (σ' := []) rfl ?_
  refine sr ?_
  refine Tp rfl rfl (pur_assign rfl) rfl ?_
  refine TO_nil ?_
  refine T_env (E' := [(0, (sl (tI .u8) code0))]) ⟨rfl, trivial⟩ ?_
  refine sr ?_
  refine Tp rfl rfl (pur_move rfl) rfl ?_
  refine Tp rfl rfl (pur_lenT (T := (tI .u8)) sl27 rfl rfl) rfl ?_
  refine Tp rfl rfl (pur_wadd rfl rfl rfl) rfl ?_
  refine Tp rfl rfl (pur_assign rfl) rfl ?_
  refine TO_nil ?_
  refine T_env (E' := [(0, (sl (tI .u8) code0)), (3, (intA (w64 (10101 + (code0.length : Int)))))]) ⟨rfl, rfl, trivial⟩ ?_
  refine T_seq ?_
  refine sr ?_
  refine Tp rfl rfl (pur_assign rfl) rfl ?_
  refine TO_nil ?_
  refine T_env (E' := [(0, (sl (tI .u8) code0)), (3, (intA (w64 (10101 + (code0.length : Int))))), (4, (intA 0))]) ⟨rfl, rfl, rfl, trivial⟩ ?_
  obtain ⟨O1_, L1_, N1_⟩ := bind_inv H
  clear H
  obtain ⟨B1_, hb1, L1_⟩ := gen_whileF L1_
  refine T_block ?_
  refine T_loopX (fun k => fun (x_ : Int × Int) => whileF B1_ k (x_.1, x_.2) = some O1_) (fun (x_ : Int × Int) => [(0, (sl (tI .u8) code0)), (3, (intA x_.1)), (4, (intA x_.2))]) (fun (x_ : Int × Int) => []) u ((w64 (10101 + (code0.length : Int))), 0) (wp 0 (lb rfl) rfl rfl rfl rfl ⟨rfl, rfl, rfl, trivial⟩) L1_ ?_
  rintro _ ⟨h3, i4⟩ L1_
  obtain ⟨k1, rfl, C1_, H, K1_⟩ := while_step L1_
  rw [hb1] at H
  refine T_env (E' := [(0, (sl (tI .u8) code0)), (3, (intA h3)), (4, (intA i4))]) ⟨rfl, rfl, rfl, trivial⟩ ?_
  refine T_st (σ' := []) rfl ?_
  refine T_seq ?_
  refine T_cutX (fun x => ((decide (i4 < (code0.length : Int))) && (decide (i4 < 4000))) = x) (fun (t15_2 : Bool) => [(0, (sl (tI .u8) code0)), (3, (intA h3)), (4, (intA i4)), (15, (boolA t15_2))]) (fun (t15_2 : Bool) => []) ?_ ?_
  · skip
    refine T_region ?_
    refine Tp rfl rfl (pur_move rfl) rfl ?_
    refine Tp rfl rfl (pur_move rfl) rfl ?_
    refine Tp rfl rfl (pur_lenT (T := (tI .u8)) sl27 rfl rfl) rfl ?_
    refine Tp rfl rfl (pur_lss rfl rfl rfl) rfl ?_
    refine Tp rfl rfl (pur_move rfl) rfl ?_
    refine TO_split (t := decide (i4 < (code0.length : Int))) 12 rfl (fun g_4 => ?_) (fun g_4 => ?_)
    · skip
      refine TO_on rfl rfl (by decide) rfl rfl (TOp_pure (pur_move rfl) rfl ?_)
      refine TO_on rfl rfl (by decide) rfl rfl (TOp_pure (pur_lss rfl rfl rfl) rfl ?_)
      refine Tp rfl rfl (pur_pick (t := true) rfl rfl rfl) rfl ?_
      refine TO_nil ?_
      exact joined (decide (i4 < 4000)) (wp 0 (lb rfl) rfl rfl rfl rfl ⟨rfl, rfl, rfl, rfl, trivial⟩) (by first | exact Eq.symm ((and_T g_4 rfl)))
    · skip
      refine TO_off rfl rfl (by decide) rfl rfl rfl ?_
      refine TO_off rfl rfl (by decide) rfl rfl rfl ?_
      refine Tp rfl rfl (pur_pick (t := false) rfl rfl rfl) rfl ?_
      refine TO_nil ?_
      exact joined false (wp 0 (lb rfl) rfl rfl rfl rfl ⟨rfl, rfl, rfl, rfl, trivial⟩) (by first | exact Eq.symm ((and_F g_4 rfl)))
  · rintro _ rfl
    refine T_env (E' := [(0, (sl (tI .u8) code0)), (3, (intA h3)), (4, (intA i4)), (15, (boolA ((decide (i4 < (code0.length : Int))) && (decide (i4 < 4000)))))]) ⟨rfl, rfl, rfl, rfl, trivial⟩ ?_
    refine T_cond (t := ((decide (i4 < (code0.length : Int))) && (decide (i4 < 4000)))) rfl (fun c_5 => ?_) (fun c_5 => ?_)
    · replace H := cond_t c_5 H
      refine T_skip ?_
      refine T_env (E' := [(0, (sl (tI .u8) code0)), (3, (intA h3)), (4, (intA i4))]) ⟨rfl, rfl, rfl, trivial⟩ ?_
      refine T_seq ?_
      refine T_block ?_
      refine T_region ?_
      refine Tp rfl rfl (pur_move rfl) rfl ?_
      refine Tp rfl rfl (pur_wmul rfl rfl rfl) rfl ?_
      refine Tp rfl rfl (pur_move rfl) rfl ?_
      refine Tp rfl rfl (pur_move rfl) rfl ?_
      obtain ⟨v_6, h_7, H⟩ := bind_inv H
      obtain ⟨n_8, hz_9, hv_10⟩ := getI_inv h_7
      refine Tp rfl rfl (pur_ixT (T := (tI .u8)) sl27 rfl rfl hz_9 hv_10 rfl) rfl ?_
      refine Tp rfl rfl (pur_ldT (T := (tI .u8)) (i := n_8) (off := 0) rfl one5 rfl rfl hv_10 rfl) rfl ?_
      refine Tp rfl rfl (pur_convI (k := .i64) (k' := .u8) ⟨_, Try.underlying5⟩ Try.underlying3 rfl rfl) rfl ?_
      refine Tp rfl rfl (pur_wadd rfl rfl rfl) rfl ?_
      refine TO_env (E' := [(0, (sl (tI .u8) code0)), (3, (intA h3)), (4, (intA i4)), (25, (intA (w64 ((w64 (h3 * 131)) + (w64 v_6)))))]) ⟨rfl, rfl, rfl, rfl, trivial⟩ ?_
      refine Tp rfl rfl (pur_wadd rfl rfl rfl) rfl ?_
      refine Tp rfl rfl (pur_and rfl rfl rfl) rfl ?_
      refine Tp rfl rfl (pur_assign rfl) rfl ?_
      refine TO_nil ?_
      refine T_env (E' := [(0, (sl (tI .u8) code0)), (3, (intA (bitI .and .i64 (w64 ((w64 ((w64 (h3 * 131)) + (w64 v_6))) + 7)) 1073741823))), (4, (intA i4))]) ⟨rfl, rfl, rfl, trivial⟩ ?_
      refine T_region ?_
      refine Tp rfl rfl (pur_move rfl) rfl ?_
      refine Tp rfl rfl (pur_wadd rfl rfl rfl) rfl ?_
      refine Tp rfl rfl (pur_assign rfl) rfl ?_
      refine TO_nil ?_
      obtain rfl := some_inj H
      exact again k1 ((bitI .and .i64 (w64 ((w64 ((w64 (h3 * 131)) + (w64 v_6))) + 7)) 1073741823), (w64 (i4 + 1))) (Nat.lt_succ_self _) (wp 0 (lb rfl) rfl rfl rfl rfl ⟨rfl, rfl, rfl, trivial⟩) K1_
    · replace H := cond_f c_5 H
      refine T_exit ?_
      refine then_exit ?_
      refine then_exit ?_
      refine block_exit ?_
      obtain rfl := some_inj H
      obtain rfl := some_inj K1_
      replace H := onS_l N1_
      refine T_env (E' := [(0, (sl (tI .u8) code0)), (3, (intA h3))]) ⟨rfl, rfl, trivial⟩ ?_
      refine sr ?_
      refine Tp rfl rfl (pur_move rfl) rfl ?_
      refine Tp rfl rfl (pur_move rfl) rfl ?_
      refine Tp rfl rfl (pur_build bld118 rfl rfl) rfl ?_
      refine TO_cons rfl (TOp_box rfl (boxAll rfl) rfl rfl ?_)
      refine Tp rfl rfl (pur_assign rfl) rfl ?_
      refine TO_nil ?_
      refine T_env (E' := [(2, (.b 0 0))]) ⟨rfl, trivial⟩ ?_
      refine T_ret ?_
      obtain rfl := some_inj H
      exact end_pickX (.tmp .nil) rfl [0] (by decide) (lb rfl) rfl (lb rfl) rfl rfl rfl rfl rfl rfl

set_option maxHeartbeats 1000000 in
/-- spec.l1PickInt -/
theorem m_spec_l1PickInt_x (c0 : l1Cur) (list1 : (List Int)) (r : (Int × l1Cur)) (H : m_spec_l1PickInt c0 list1 = some r) : FnS prg 88 [(.b 0 0), (sl tInt list1)] [.box [(sl (tI .u8) c0.b), (intA c0.i), (intA c0.h)]] (intA r.1) [.box [(sl (tI .u8) r.2.b), (intA r.2.i), (intA r.2.h)]] := by
  unfold m_spec_l1PickInt at H
  refine fnS_of_T Try.func88 rfl rfl (Nat.le_of_ble_eq_true rfl) ?_
  refine T_env (E' := [(0, (.b 0 0)), (1, (sl tInt list1))]) ⟨rfl, rfl, trivial⟩ ?_
  refine T_st (σ' := [.box [(sl (tI .u8) c0.b), (intA c0.i), (intA c0.h)]]) rfl ?_
  refine sr ?_
  refine Tp rfl rfl (pur_assign rfl) rfl ?_
  refine TO_nil ?_
  refine T_env (E' := [(0, (.b 0 0)), (1, (sl tInt list1))]) ⟨rfl, rfl, trivial⟩ ?_
  refine sr ?_
  refine Tp rfl rfl (pur_move rfl) rfl ?_
  refine Tp rfl rfl (pur_move rfl) rfl ?_
  refine Tp rfl rfl (pur_move rfl) rfl ?_
  refine Tp rfl rfl (pur_lenT (T := tInt) sl33 rfl rfl) rfl ?_
  obtain ⟨r_1, h_2, H⟩ := bind_inv H
  refine TO_cons rfl (TOp_callS [0] (call_static ent83 rfl) (by decide) rfl rfl rfl rfl rfl rfl (m_spec_l1Below_x _ _ _ h_2) rfl rfl ?_)
  refine TO_env (E' := [(0, (.b 0 0)), (1, (sl tInt list1)), (5, (sl tInt list1)), (6, (.b 0 0)), (7, (sl tInt list1)), (8, (intA (list1.length : Int))), (9, (intA r_1.1))]) ⟨rfl, rfl, rfl, rfl, rfl, rfl, rfl, trivial⟩ ?_
  refine TO_st (σ' := [.box [(sl (tI .u8) r_1.2.b), (intA r_1.2.i), (intA r_1.2.h)]]) rfl ?_
  obtain ⟨v_3, h_4, H⟩ := bind_inv H
  obtain ⟨n_5, hz_6, hv_7⟩ := getI_inv h_4
  refine Tp rfl rfl (pur_ixT (T := tInt) sl33 rfl rfl hz_6 hv_7 rfl) rfl ?_
  refine Tp rfl rfl (pur_ldT (T := tInt) (i := n_5) (off := 0) rfl one3 rfl rfl hv_7 rfl) rfl ?_
  refine Tp rfl rfl (pur_assign rfl) rfl ?_
  refine TO_nil ?_
  refine T_env (E' := [(4, (intA v_3))]) ⟨rfl, trivial⟩ ?_
  refine T_ret ?_
  obtain rfl := some_inj H
  exact end_pickX (.tmp .nil) rfl [0] (by decide) (lb rfl) rfl (lb rfl) rfl rfl rfl rfl rfl rfl

set_option maxHeartbeats 1000000 in
/-- spec.l2Sigs -/
theorem m_spec_l2Sigs_x (c0 : l1Cur) (r : ((List Relation) × l1Cur)) (H : m_spec_l2Sigs c0 = some r) : FnS prg 126 [(.b 0 0)] [.box [(sl (tI .u8) c0.b), (intA c0.i), (intA c0.h)]] (.m [1] 0 r.1.length tRelation.k) [.box [(sl (tI .u8) r.2.b), (intA r.2.i), (intA r.2.h)], .row (flat tRelation.enc r.1)] := by
  unfold m_spec_l2Sigs at H
  refine fnS_of_T Try.func126 rfl rfl (Nat.le_of_ble_eq_true rfl) ?_
  refine T_env (E' := [(0, (.b 0 0))]) ⟨rfl, trivial⟩ ?_
  refine T_st (σ' := [.box [(sl (tI .u8) c0.b), (intA c0.i), (intA c0.h)]]) rfl ?_
  refine sr ?_
  refine Tp rfl rfl (pur_assign rfl) rfl ?_
  refine TO_nil ?_
  refine T_env (E' := [(0, (.b 0 0))]) ⟨rfl, trivial⟩ ?_
  refine sr ?_
  refine Tp rfl rfl (pur_build bld97 rfl rfl) rfl ?_
  refine Tp rfl rfl (pur_build bld97 rfl rfl) rfl ?_
  refine Tp rfl rfl (pur_move rfl) rfl ?_
  refine TO_cons rfl (TOp_lit (nn := 4) (k := 1) sl33 zero3 rfl rfl rfl rfl (by decide) ?_)
  refine TO_st (σ' := [.box [(sl (tI .u8) c0.b), (intA c0.i), (intA c0.h)], .row (flat tInt.enc ([1, 1, 2, 0] : (List Int)))]) rfl ?_
  refine TO_frz1 1 (E' := [(0, (.b 0 0)), (3, (.g [(strA (⟨#[114]⟩ : ByteArray)), (intA 2), (intA 1)])), (4, (.g [(strA (⟨#[115]⟩ : ByteArray)), (intA 2), (intA 1)])), (5, (.b 0 0)), (6, (sl tInt ([1, 1, 2, 0] : (List Int))))]) rfl rfl (lb rfl) ⟨(.keep rfl), (.keep rfl), (.keep rfl), (.keep rfl), fz1E, trivial⟩ ?_
  refine TO_st (σ' := [.box [(sl (tI .u8) c0.b), (intA c0.i), (intA c0.h)], .dead]) rfl ?_
  obtain ⟨r_1, h_2, H⟩ := bind_inv H
  refine TO_cons rfl (TOp_callS [0] (call_static ent88 rfl) (by decide) rfl rfl rfl rfl rfl rfl (m_spec_l1PickInt_x _ _ _ h_2) rfl rfl ?_)
  refine TO_env (E' := [(0, (.b 0 0)), (3, (.g [(strA (⟨#[114]⟩ : ByteArray)), (intA 2), (intA 1)])), (4, (.g [(strA (⟨#[115]⟩ : ByteArray)), (intA 2), (intA 1)])), (5, (.b 0 0)), (6, (sl tInt ([1, 1, 2, 0] : (List Int)))), (7, (intA r_1.1))]) ⟨rfl, rfl, rfl, rfl, rfl, rfl, trivial⟩ ?_
  refine TO_st (σ' := [.box [(sl (tI .u8) r_1.2.b), (intA r_1.2.i), (intA r_1.2.h)], .dead]) rfl ?_
  refine Tp rfl rfl (pur_build bld97 rfl rfl) rfl ?_
  refine Tp rfl rfl (pur_move rfl) rfl ?_
  obtain ⟨r_3, h_4, H⟩ := bind_inv H
  refine TO_cons rfl (TOp_callS [0] (call_static ent83 rfl) (by decide) rfl rfl rfl rfl rfl rfl (m_spec_l1Below_x _ _ _ h_4) rfl rfl ?_)
  refine TO_env (E' := [(0, (.b 0 0)), (3, (.g [(strA (⟨#[114]⟩ : ByteArray)), (intA 2), (intA 1)])), (4, (.g [(strA (⟨#[115]⟩ : ByteArray)), (intA 2), (intA 1)])), (5, (.b 0 0)), (6, (sl tInt ([1, 1, 2, 0] : (List Int)))), (7, (intA r_1.1)), (8, (.g [(strA (⟨#[116]⟩ : ByteArray)), (intA 2), (intA r_1.1)])), (9, (.b 0 0)), (10, (intA r_3.1))]) ⟨rfl, rfl, rfl, rfl, rfl, rfl, rfl, rfl, rfl, trivial⟩ ?_
  refine TO_st (σ' := [.box [(sl (tI .u8) r_3.2.b), (intA r_3.2.i), (intA r_3.2.h)], .dead]) rfl ?_
  refine TO_env (E' := [(3, (.g [(strA (⟨#[114]⟩ : ByteArray)), (intA 2), (intA 1)])), (4, (.g [(strA (⟨#[115]⟩ : ByteArray)), (intA 2), (intA 1)])), (8, (.g [(strA (⟨#[116]⟩ : ByteArray)), (intA 2), (intA r_1.1)])), (10, (intA r_3.1))]) ⟨rfl, rfl, rfl, rfl, trivial⟩ ?_
  refine Tp rfl rfl (pur_wadd rfl rfl rfl) rfl ?_
  refine Tp rfl rfl (pur_build bld97 rfl rfl) rfl ?_
  refine TO_cons rfl (TOp_lit (nn := 4) (k := 3) sl29 zero97 rfl rfl rfl rfl (by decide) ?_)
  refine TO_st (σ' := [.box [(sl (tI .u8) r_3.2.b), (intA r_3.2.i), (intA r_3.2.h)], .dead, .row (flat tRelation.enc ([({ name := (⟨#[114]⟩ : ByteArray), arity := 2, keyLength := 1 } : Relation), ({ name := (⟨#[115]⟩ : ByteArray), arity := 2, keyLength := 1 } : Relation), ({ name := (⟨#[116]⟩ : ByteArray), arity := 2, keyLength := r_1.1 } : Relation), ({ name := (⟨#[117]⟩ : ByteArray), arity := 3, keyLength := (w64 (1 + r_3.1)) } : Relation)] : (List Relation)))]) rfl ?_
  refine Tp rfl rfl (pur_assign rfl) rfl ?_
  refine TO_nil ?_
  refine T_env (E' := [(2, (.m [2] 0 ([({ name := (⟨#[114]⟩ : ByteArray), arity := 2, keyLength := 1 } : Relation), ({ name := (⟨#[115]⟩ : ByteArray), arity := 2, keyLength := 1 } : Relation), ({ name := (⟨#[116]⟩ : ByteArray), arity := 2, keyLength := r_1.1 } : Relation), ({ name := (⟨#[117]⟩ : ByteArray), arity := 3, keyLength := (w64 (1 + r_3.1)) } : Relation)] : (List Relation)).length tRelation.k))]) ⟨rfl, trivial⟩ ?_
  refine T_ret ?_
  obtain rfl := some_inj H
  exact end_pickX (.tmp .nil) rfl [0, 2] (by decide) (lb rfl) rfl (lb rfl) rfl rfl rfl rfl rfl rfl
end Go.Proofs.Ytlcpdlngbofgcaa

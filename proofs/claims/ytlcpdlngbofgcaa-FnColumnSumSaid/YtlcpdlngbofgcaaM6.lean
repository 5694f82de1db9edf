/- Walks. -/
import Derived.Test.YtlcpdlngbofgcaaM1
import Derived.Test.YtlcpdlngbofgcaaM2
import Derived.Test.YtlcpdlngbofgcaaM5
set_option linter.unusedVariables false
set_option linter.unusedSimpArgs false
set_option maxRecDepth 4000
namespace Go.Proofs.Ytlcpdlngbofgcaa
open Go Go.Proofs Go.Sep
set_option maxHeartbeats 1000000 in
/-- spec.l4Any -/
theorem m_spec_l4Any_x (u : Nat) (c0 : l1Cur) (r : (Database × l1Cur)) (H : m_spec_l4Any u c0 = some r) : FnS prg 86 [(.b 0 0)] [.box [(sl (tI .u8) c0.b), (intA c0.i), (intA c0.h)]] (.g (tDatabase.enc r.1)) [.box [(sl (tI .u8) r.2.b), (intA r.2.i), (intA r.2.h)]] := by
  unfold m_spec_l4Any at H
  refine fnS_of_T Try.func86 rfl rfl (Nat.le_of_ble_eq_true rfl) ?_
  refine T_env (E' := [(0, (.b 0 0))]) ⟨rfl, trivial⟩ ?_
  refine T_st (σ' := [.box [(sl (tI .u8) c0.b), (intA c0.i), (intA c0.h)]]) rfl ?_
  refine T_seq ?_
  refine T_region ?_
  refine TO_cons rfl (TOp_alloc zero32 rfl rfl ?_)
  refine TO_nil ?_
  refine T_env (E' := [(0, (.b 0 0)), (2, (.b 1 0))]) ⟨rfl, rfl, trivial⟩ ?_
  refine T_seq ?_
  refine T_region ?_
  refine TO_cons rfl (TOp_pure (pur_move rfl) rfl ?_)
  obtain ⟨r_1, h_2, H⟩ := bind_inv H
  refine TO_cons rfl (TOp_callS [0] (call_static ent110 rfl) (by decide) rfl rfl rfl rfl rfl rfl (m_spec_l4Db_x u _ _ h_2) rfl rfl ?_)
  refine TO_env (E' := [(0, (.b 0 0)), (2, (.b 1 0)), (4, (.b 0 0)), (5, (.g [(.m [2] 0 r_1.1.relations.length tRelation.k), (.m [3] 0 r_1.1.facts.length tFact.k)]))]) ⟨rfl, rfl, rfl, rfl, trivial⟩ ?_
  refine TO_st (σ' := [.box [(sl (tI .u8) r_1.2.b), (intA r_1.2.i), (intA r_1.2.h)], .box [.n, .n], .row (flat tRelation.enc r_1.1.relations), .row (flat tFact.enc r_1.1.facts)]) rfl ?_
  refine TO_cons rfl (TOp_alloc zero32 rfl rfl ?_)
  refine TO_cons rfl (TOp_storeB sz32 rfl rfl rfl rfl rfl rfl rfl (by decide) (Nat.le_of_ble_eq_true rfl) rfl ?_)
  refine TO_st (σ' := [.box [(sl (tI .u8) r_1.2.b), (intA r_1.2.i), (intA r_1.2.h)], .box [.n, .n], .row (flat tRelation.enc r_1.1.relations), .row (flat tFact.enc r_1.1.facts), .box [(.m [2] 0 r_1.1.relations.length tRelation.k), (.m [3] 0 r_1.1.facts.length tFact.k)]]) rfl ?_
  refine TO_nil ?_
  refine T_env (E' := [(0, (.b 0 0)), (2, (.b 1 0)), (3, (.b 4 0))]) ⟨rfl, rfl, rfl, trivial⟩ ?_
  refine T_seq ?_
  refine T_seq ?_
  refine T_region ?_
  refine TO_cons rfl (TOp_pure (pur_move rfl) rfl ?_)
  obtain ⟨r_3, h_4, H⟩ := bind_inv H
  refine TO_cons rfl (TOp_callS [0] (call_static ent83 rfl) (by decide) rfl rfl rfl rfl rfl rfl (m_spec_l1Below_x _ _ _ h_4) rfl rfl ?_)
  refine TO_env (E' := [(0, (.b 0 0)), (2, (.b 1 0)), (3, (.b 4 0)), (6, (.b 0 0)), (7, (intA r_3.1))]) ⟨rfl, rfl, rfl, rfl, rfl, trivial⟩ ?_
  refine TO_st (σ' := [.box [(sl (tI .u8) r_3.2.b), (intA r_3.2.i), (intA r_3.2.h)], .box [.n, .n], .row (flat tRelation.enc r_1.1.relations), .row (flat tFact.enc r_1.1.facts), .box [(.m [2] 0 r_1.1.relations.length tRelation.k), (.m [3] 0 r_1.1.facts.length tFact.k)]]) rfl ?_
  refine TO_nil ?_
  refine T_env (E' := [(0, (.b 0 0)), (2, (.b 1 0)), (3, (.b 4 0)), (7, (intA r_3.1))]) ⟨rfl, rfl, rfl, rfl, trivial⟩ ?_
  refine T_block ?_
  refine T_seq ?_
  refine T_region ?_
  refine TO_cons rfl (TOp_pure (pur_eql rfl rfl rfl) rfl ?_)
  refine TO_cons rfl (TOp_pure (pur_assign rfl) rfl ?_)
  refine TO_nil ?_
  refine T_env (E' := [(0, (.b 0 0)), (2, (.b 1 0)), (3, (.b 4 0)), (7, (intA r_3.1)), (8, (boolA (decide (r_3.1 = 0))))]) ⟨rfl, rfl, rfl, rfl, rfl, trivial⟩ ?_
  refine T_cond (t := decide (r_3.1 = 0)) rfl (fun c_5 => ?_) (fun c_5 => ?_)
  · replace H := cond_t c_5 H
    obtain ⟨r_6, h_7, H⟩ := bind_inv H
    obtain ⟨us_8, h_9, H⟩ := bind_inv H
    refine T_pad ?_
    refine T_pad ?_
    refine T_regionP mixed ?_
    refine TA_have 3 #[true, true, true, true, true, true, true, false, false, false] [(2, (.b 1 0)), (3, (.b 4 0)), (11, (.m [3] 0 r_1.1.facts.length tFact.k)), (16, (.m [6] 0 ([r_6.1] : (List Fact)).length tFact.k))] [.box [(sl (tI .u8) r_6.2.b), (intA r_6.2.i), (intA r_6.2.h)], .box [.n, .n], .dead, .row (flat tFact.enc r_1.1.facts), .box [(sl tRelation r_1.1.relations), (.m [3] 0 r_1.1.facts.length tFact.k)], .dead, .row (flat tFact.enc ([r_6.1] : (List Fact)))] ?_ (fun hj0_4 => ?_)
    · skip
      refine TA_all [7] (by kernel_rfl) (by decide) ⟨⟨_, rfl, rfl, (TOp_appY (T := tFact) (f := tFact.enc) (xs := r_1.1.facts) (ys := ([r_6.1] : (List Fact))) tFact.len sl30 zero60 rfl bytes60 (by decide) rfl rfl rfl rfl (src_mT (f := tFact.enc) tFact.len rfl rfl (flat_cell tFact _)) (flat_cell tFact _) h_9 ?_)⟩, trivial⟩
      refine TA_listed #[true, true, true, true, true, true, true, true, false, false] rfl ?_
      refine TA_ghost (E' := [(2, (.b 1 0)), (3, (.b 4 0)), (16, (.m [6] 0 ([r_6.1] : (List Fact)).length tFact.k)), (17, (.m [3] 0 us_8.length tFact.k))]) (σ' := [.box [(sl (tI .u8) r_6.2.b), (intA r_6.2.i), (intA r_6.2.h)], .box [.n, .n], .dead, .row (flat tFact.enc us_8), .box [(sl tRelation r_1.1.relations), .j], .dead, .row (flat tFact.enc ([r_6.1] : (List Fact))), .dead]) (Ghost.move 3 7 (by decide) (Nat.le_of_ble_eq_true rfl) rfl rfl (Nat.le_of_ble_eq_true rfl) (Ghost.weak (WeakL.to 8 (Nat.le_of_ble_eq_true rfl) rfl rfl rfl rfl ⟨leR rfl, leR rfl, leR rfl, leR rfl, trivial⟩))) ?_
      refine TA_first 8 #[true, true, true, true, true, true, true, true, true, false] rfl (purI_fa_b fld32_1 rfl rfl) rfl rfl rfl (by kernel_rfl) (by kernel_rfl) (by kernel_rfl) ?_
      refine TA_all [9] (by kernel_rfl) (by decide) ⟨⟨_, rfl, rfl, (TOp_storeB sz30 rfl rfl rfl rfl rfl rfl rfl (by decide) (Nat.le_of_ble_eq_true rfl) rfl ?_)⟩, trivial⟩
      refine TA_listed #[true, true, true, true, true, true, true, true, true, true] rfl ?_
      refine TA_st (σ' := [.box [(sl (tI .u8) r_6.2.b), (intA r_6.2.i), (intA r_6.2.h)], .box [.n, .n], .dead, .row (flat tFact.enc us_8), .box [(sl tRelation r_1.1.relations), (.m [3] 0 us_8.length tFact.k)], .dead, .row (flat tFact.enc ([r_6.1] : (List Fact))), .dead]) rfl ?_
      refine TA_nil (by kernel_rfl) ?_
      refine T_env (E' := [(2, (.b 1 0)), (3, (.b 4 0))]) ⟨rfl, rfl, trivial⟩ ?_
      refine T_seq ?_
      refine T_region ?_
      refine TO_cons rfl (TOp_pure (pur_ldK_b agg32 rfl rfl (Nat.le_of_ble_eq_true rfl) rfl) rfl ?_)
      refine TO_cons rfl (TOp_storeB sz32 rfl rfl rfl rfl rfl rfl rfl (by decide) (Nat.le_of_ble_eq_true rfl) rfl ?_)
      refine TO_st (σ' := [.box [(sl (tI .u8) r_6.2.b), (intA r_6.2.i), (intA r_6.2.h)], .box [(sl tRelation r_1.1.relations), (.m [3] 0 us_8.length tFact.k)], .dead, .row (flat tFact.enc us_8), .box [(sl tRelation r_1.1.relations), (.m [3] 0 us_8.length tFact.k)], .dead, .row (flat tFact.enc ([r_6.1] : (List Fact))), .dead]) rfl ?_
      refine TO_nil ?_
      refine T_env (E' := [(2, (.b 1 0))]) ⟨rfl, trivial⟩ ?_
      refine T_frzB 3 (E' := [(2, (.b 1 0))]) (σ' := [.box [(sl (tI .u8) r_6.2.b), (intA r_6.2.i), (intA r_6.2.h)], .box [(sl tRelation r_1.1.relations), (sl tFact us_8)], .dead, .dead, .box [(sl tRelation r_1.1.relations), (sl tFact us_8)], .dead, .row (flat tFact.enc ([r_6.1] : (List Fact))), .dead]) rfl (Nat.le_of_ble_eq_true rfl) ?_ ?_ ?_
      · exact ⟨(.keep rfl), trivial⟩
      · exact ⟨(fzK rfl), (fzC (.keep rfl) (fzC fz1E fzN)), trivial, trivial, (fzC (.keep rfl) (fzC fz1E fzN)), trivial, rfl, trivial, trivial⟩
      refine T_ret ?_
      obtain rfl := some_inj H
      exact end_pickX (.cellK rfl agg32 rfl (Nat.le_of_ble_eq_true rfl) .nil) rfl [0] (by decide) (Nat.le_of_ble_eq_true rfl) rfl (Nat.le_of_ble_eq_true rfl) rfl rfl rfl rfl rfl rfl
    refine TA_have 4 #[true, true, true, true, true, true, false, false, false, false] [(2, (.b 1 0)), (3, (.b 4 0)), (11, (.m [3] 0 r_1.1.facts.length tFact.k)), (15, (.g [(intA r_6.1.relation), (sl tInt r_6.1.values)]))] [.box [(sl (tI .u8) r_6.2.b), (intA r_6.2.i), (intA r_6.2.h)], .box [.n, .n], .dead, .row (flat tFact.enc r_1.1.facts), .box [(sl tRelation r_1.1.relations), (.m [3] 0 r_1.1.facts.length tFact.k)], .dead, .dead] ?_ (fun hj1_4 => ?_)
    · skip
      refine TA_all [6] (by kernel_rfl) (by decide) ⟨⟨_, rfl, rfl, (TOp_lit (nn := 1) (k := 2) sl30 zero60 rfl rfl rfl rfl (by decide) ?_)⟩, trivial⟩
      refine TA_listed #[true, true, true, true, true, true, true, false, false, false] rfl ?_
      refine TA_st (σ' := [.box [(sl (tI .u8) r_6.2.b), (intA r_6.2.i), (intA r_6.2.h)], .box [.n, .n], .dead, .row (flat tFact.enc r_1.1.facts), .box [(sl tRelation r_1.1.relations), (.m [3] 0 r_1.1.facts.length tFact.k)], .dead, .dead, .row (flat tFact.enc ([r_6.1] : (List Fact)))]) rfl ?_
      refine TA_ghost (E' := [(2, (.b 1 0)), (3, (.b 4 0)), (11, (.m [3] 0 r_1.1.facts.length tFact.k)), (15, (.g [(intA r_6.1.relation), (sl tInt r_6.1.values)])), (16, (.m [6] 0 ([r_6.1] : (List Fact)).length tFact.k))]) (σ' := [.box [(sl (tI .u8) r_6.2.b), (intA r_6.2.i), (intA r_6.2.h)], .box [.n, .n], .dead, .row (flat tFact.enc r_1.1.facts), .box [(sl tRelation r_1.1.relations), (.m [3] 0 r_1.1.facts.length tFact.k)], .dead, .row (flat tFact.enc ([r_6.1] : (List Fact)))]) (Ghost.move 6 7 (by decide) (Nat.le_of_ble_eq_true rfl) rfl rfl (Nat.le_of_ble_eq_true rfl) (Ghost.weak (WeakL.to 7 (Nat.le_of_ble_eq_true rfl) rfl rfl rfl rfl ⟨leR rfl, leR rfl, leR rfl, leR rfl, leR rfl, trivial⟩))) ?_
      refine TA_ghost (E' := [(2, (.b 1 0)), (3, (.b 4 0)), (11, (.m [3] 0 r_1.1.facts.length tFact.k)), (16, (.m [6] 0 ([r_6.1] : (List Fact)).length tFact.k))]) (σ' := [.box [(sl (tI .u8) r_6.2.b), (intA r_6.2.i), (intA r_6.2.h)], .box [.n, .n], .dead, .row (flat tFact.enc r_1.1.facts), .box [(sl tRelation r_1.1.relations), (.m [3] 0 r_1.1.facts.length tFact.k)], .dead, .row (flat tFact.enc ([r_6.1] : (List Fact)))]) (Ghost.weak (WeakL.to 7 (Nat.le_of_ble_eq_true rfl) rfl rfl rfl rfl ⟨leR rfl, leR rfl, leR rfl, leR rfl, trivial⟩)) ?_
      exact hj0_4
    refine TA_have 5 #[true, true, true, true, true, false, false, false, false, false] [(2, (.b 1 0)), (3, (.b 4 0)), (11, (.m [3] 0 r_1.1.facts.length tFact.k)), (12, (.b 0 0)), (14, (sl tRelation r_1.1.relations))] [.box [(sl (tI .u8) r_3.2.b), (intA r_3.2.i), (intA r_3.2.h)], .box [.n, .n], .dead, .row (flat tFact.enc r_1.1.facts), .box [(sl tRelation r_1.1.relations), (.m [3] 0 r_1.1.facts.length tFact.k)], .dead, .dead] ?_ (fun hj2_4 => ?_)
    · skip
      refine TA_all [5] (by kernel_rfl) (by decide) ⟨⟨_, rfl, rfl, (TOp_callS [0] (call_static ent111 rfl) (by decide) rfl rfl rfl rfl rfl rfl (m_spec_l3Any_x u _ _ _ h_7) rfl rfl ?_)⟩, trivial⟩
      refine TA_listed #[true, true, true, true, true, true, false, false, false, false] rfl ?_
      refine TA_env (E' := [(2, (.b 1 0)), (3, (.b 4 0)), (11, (.m [3] 0 r_1.1.facts.length tFact.k)), (12, (.b 0 0)), (14, (sl tRelation r_1.1.relations)), (15, (.g [(intA r_6.1.relation), (.m [7] 0 r_6.1.values.length tInt.k)]))]) ⟨rfl, rfl, rfl, rfl, rfl, rfl, trivial⟩ ?_
      refine TA_st (σ' := [.box [(sl (tI .u8) r_6.2.b), (intA r_6.2.i), (intA r_6.2.h)], .box [.n, .n], .dead, .row (flat tFact.enc r_1.1.facts), .box [(sl tRelation r_1.1.relations), (.m [3] 0 r_1.1.facts.length tFact.k)], .dead, .dead, .row (flat tInt.enc r_6.1.values)]) rfl ?_
      refine TA_ghost (E' := [(2, (.b 1 0)), (3, (.b 4 0)), (11, (.m [3] 0 r_1.1.facts.length tFact.k)), (12, (.b 0 0)), (14, (sl tRelation r_1.1.relations)), (15, (.g [(intA r_6.1.relation), (.m [5] 0 r_6.1.values.length tInt.k)]))]) (σ' := [.box [(sl (tI .u8) r_6.2.b), (intA r_6.2.i), (intA r_6.2.h)], .box [.n, .n], .dead, .row (flat tFact.enc r_1.1.facts), .box [(sl tRelation r_1.1.relations), (.m [3] 0 r_1.1.facts.length tFact.k)], .row (flat tInt.enc r_6.1.values), .dead]) (Ghost.move 5 7 (by decide) (Nat.le_of_ble_eq_true rfl) rfl rfl (Nat.le_of_ble_eq_true rfl) (Ghost.weak (WeakL.to 7 (Nat.le_of_ble_eq_true rfl) rfl rfl rfl rfl ⟨leR rfl, leR rfl, leR rfl, leR rfl, leR rfl, leR rfl, trivial⟩))) ?_
      refine TA_frz1 5 (E' := [(2, (.b 1 0)), (3, (.b 4 0)), (11, (.m [3] 0 r_1.1.facts.length tFact.k)), (12, (.b 0 0)), (14, (sl tRelation r_1.1.relations)), (15, (.g [(intA r_6.1.relation), (sl tInt r_6.1.values)]))]) rfl rfl (Nat.le_of_ble_eq_true rfl) ?_ ?_
      · exact ⟨(.keep rfl), (.keep rfl), (.keep rfl), (.keep rfl), (.keep rfl), (fz1G (fzC (.keep rfl) (fzC fz1E fzN))), trivial⟩
      refine TA_st (σ' := [.box [(sl (tI .u8) r_6.2.b), (intA r_6.2.i), (intA r_6.2.h)], .box [.n, .n], .dead, .row (flat tFact.enc r_1.1.facts), .box [(sl tRelation r_1.1.relations), (.m [3] 0 r_1.1.facts.length tFact.k)], .dead, .dead]) rfl ?_
      refine TA_ghost (E' := [(2, (.b 1 0)), (3, (.b 4 0)), (11, (.m [3] 0 r_1.1.facts.length tFact.k)), (15, (.g [(intA r_6.1.relation), (sl tInt r_6.1.values)]))]) (σ' := [.box [(sl (tI .u8) r_6.2.b), (intA r_6.2.i), (intA r_6.2.h)], .box [.n, .n], .dead, .row (flat tFact.enc r_1.1.facts), .box [(sl tRelation r_1.1.relations), (.m [3] 0 r_1.1.facts.length tFact.k)], .dead, .dead]) (Ghost.weak (WeakL.to 7 (Nat.le_of_ble_eq_true rfl) rfl rfl rfl rfl ⟨leR rfl, leR rfl, leR rfl, leR rfl, trivial⟩)) ?_
      exact hj1_4
    refine TA_first 0 #[true, false, false, false, false, false, false, false, false, false] rfl (purI_fa_b fld32_1 rfl rfl) rfl rfl rfl (by kernel_rfl) (by kernel_rfl) (by kernel_rfl) ?_
    refine TA_first 2 #[true, false, true, false, false, false, false, false, false, false] rfl (purI_move rfl) rfl rfl rfl (by kernel_rfl) (by kernel_rfl) (by kernel_rfl) ?_
    refine TA_first 3 #[true, false, true, true, false, false, false, false, false, false] rfl (purI_fa_b fld32_0 rfl rfl) rfl rfl rfl (by kernel_rfl) (by kernel_rfl) (by kernel_rfl) ?_
    refine TA_all [1, 4] (by kernel_rfl) (by decide) ⟨?_, ?_, trivial⟩
    · skip
      refine ⟨_, rfl, rfl, (TOp_pure (pur_ld_b one30 rfl rfl rfl rfl) rfl ?_)⟩
      refine TA_listed #[true, true, true, true, false, false, false, false, false, false] rfl ?_
      refine TA_all [4] (by kernel_rfl) (by decide) ⟨⟨_, rfl, rfl, (TOp_pure (pur_ld_b one29 rfl rfl rfl rfl) rfl ?_)⟩, trivial⟩
      refine TA_listed #[true, true, true, true, true, false, false, false, false, false] rfl ?_
      refine TA_frzB 2 (E' := [(0, (.b 0 0)), (2, (.b 1 0)), (3, (.b 4 0)), (7, (intA r_3.1)), (8, (boolA (decide (r_3.1 = 0)))), (10, (.b 4 1)), (11, (.m [3] 0 r_1.1.facts.length tFact.k)), (12, (.b 0 0)), (13, (.b 4 0)), (14, (sl tRelation r_1.1.relations))]) (σ' := [.box [(sl (tI .u8) r_3.2.b), (intA r_3.2.i), (intA r_3.2.h)], .box [.n, .n], .dead, .row (flat tFact.enc r_1.1.facts), .box [(sl tRelation r_1.1.relations), (.m [3] 0 r_1.1.facts.length tFact.k)], .dead, .dead]) rfl (Nat.le_of_ble_eq_true rfl) ?_ ?_ ?_
      · exact ⟨(.keep rfl), (.keep rfl), (.keep rfl), (.keep rfl), (.keep rfl), (.keep rfl), (.keep rfl), (.keep rfl), (.keep rfl), fz1E, trivial⟩
      · exact ⟨(fzK rfl), (fzK rfl), trivial, rfl, (fzC fz1E (fzC (.keep rfl) fzN)), trivial, trivial, trivial⟩
      refine TA_ghost (E' := [(2, (.b 1 0)), (3, (.b 4 0)), (11, (.m [3] 0 r_1.1.facts.length tFact.k)), (12, (.b 0 0)), (14, (sl tRelation r_1.1.relations))]) (σ' := [.box [(sl (tI .u8) r_3.2.b), (intA r_3.2.i), (intA r_3.2.h)], .box [.n, .n], .dead, .row (flat tFact.enc r_1.1.facts), .box [(sl tRelation r_1.1.relations), (.m [3] 0 r_1.1.facts.length tFact.k)], .dead, .dead]) (Ghost.weak (WeakL.to 7 (Nat.le_of_ble_eq_true rfl) rfl rfl rfl rfl ⟨leR rfl, leR rfl, leR rfl, leR rfl, leR rfl, trivial⟩)) ?_
      exact hj2_4
    · skip
      refine ⟨_, rfl, rfl, (TOp_pure (pur_ld_b one29 rfl rfl rfl rfl) rfl ?_)⟩
      refine TA_listed #[true, false, true, true, true, false, false, false, false, false] rfl ?_
      refine TA_frzB 2 (E' := [(0, (.b 0 0)), (2, (.b 1 0)), (3, (.b 4 0)), (7, (intA r_3.1)), (8, (boolA (decide (r_3.1 = 0)))), (10, (.b 4 1)), (12, (.b 0 0)), (13, (.b 4 0)), (14, (sl tRelation r_1.1.relations))]) (σ' := [.box [(sl (tI .u8) r_3.2.b), (intA r_3.2.i), (intA r_3.2.h)], .box [.n, .n], .dead, .row (flat tFact.enc r_1.1.facts), .box [(sl tRelation r_1.1.relations), (.m [3] 0 r_1.1.facts.length tFact.k)], .dead, .dead]) rfl (Nat.le_of_ble_eq_true rfl) ?_ ?_ ?_
      · exact ⟨(.keep rfl), (.keep rfl), (.keep rfl), (.keep rfl), (.keep rfl), (.keep rfl), (.keep rfl), (.keep rfl), fz1E, trivial⟩
      · exact ⟨(fzK rfl), (fzK rfl), trivial, rfl, (fzC fz1E (fzC (.keep rfl) fzN)), trivial, trivial, trivial⟩
      refine TA_all [1, 5] (by kernel_rfl) (by decide) ⟨?_, ?_, trivial⟩
      · skip
        refine ⟨_, rfl, rfl, (TOp_pure (pur_ld_b one30 rfl rfl rfl rfl) rfl ?_)⟩
        refine TA_listed #[true, true, true, true, true, false, false, false, false, false] rfl ?_
        refine TA_ghost (E' := [(2, (.b 1 0)), (3, (.b 4 0)), (11, (.m [3] 0 r_1.1.facts.length tFact.k)), (12, (.b 0 0)), (14, (sl tRelation r_1.1.relations))]) (σ' := [.box [(sl (tI .u8) r_3.2.b), (intA r_3.2.i), (intA r_3.2.h)], .box [.n, .n], .dead, .row (flat tFact.enc r_1.1.facts), .box [(sl tRelation r_1.1.relations), (.m [3] 0 r_1.1.facts.length tFact.k)], .dead, .dead]) (Ghost.weak (WeakL.to 7 (Nat.le_of_ble_eq_true rfl) rfl rfl rfl rfl ⟨leR rfl, leR rfl, leR rfl, leR rfl, leR rfl, trivial⟩)) ?_
        exact hj2_4
      · skip
        refine ⟨_, rfl, rfl, (TOp_callS [0] (call_static ent111 rfl) (by decide) rfl rfl rfl rfl rfl rfl (m_spec_l3Any_x u _ _ _ h_7) rfl rfl ?_)⟩
        refine TA_listed #[true, false, true, true, true, true, false, false, false, false] rfl ?_
        refine TA_env (E' := [(0, (.b 0 0)), (2, (.b 1 0)), (3, (.b 4 0)), (7, (intA r_3.1)), (8, (boolA (decide (r_3.1 = 0)))), (10, (.b 4 1)), (12, (.b 0 0)), (13, (.b 4 0)), (14, (sl tRelation r_1.1.relations)), (15, (.g [(intA r_6.1.relation), (.m [7] 0 r_6.1.values.length tInt.k)]))]) ⟨rfl, rfl, rfl, rfl, rfl, rfl, rfl, rfl, rfl, rfl, trivial⟩ ?_
        refine TA_st (σ' := [.box [(sl (tI .u8) r_6.2.b), (intA r_6.2.i), (intA r_6.2.h)], .box [.n, .n], .dead, .row (flat tFact.enc r_1.1.facts), .box [(sl tRelation r_1.1.relations), (.m [3] 0 r_1.1.facts.length tFact.k)], .dead, .dead, .row (flat tInt.enc r_6.1.values)]) rfl ?_
        refine TA_ghost (E' := [(0, (.b 0 0)), (2, (.b 1 0)), (3, (.b 4 0)), (7, (intA r_3.1)), (8, (boolA (decide (r_3.1 = 0)))), (10, (.b 4 1)), (12, (.b 0 0)), (13, (.b 4 0)), (14, (sl tRelation r_1.1.relations)), (15, (.g [(intA r_6.1.relation), (.m [5] 0 r_6.1.values.length tInt.k)]))]) (σ' := [.box [(sl (tI .u8) r_6.2.b), (intA r_6.2.i), (intA r_6.2.h)], .box [.n, .n], .dead, .row (flat tFact.enc r_1.1.facts), .box [(sl tRelation r_1.1.relations), (.m [3] 0 r_1.1.facts.length tFact.k)], .row (flat tInt.enc r_6.1.values), .dead]) (Ghost.move 5 7 (by decide) (Nat.le_of_ble_eq_true rfl) rfl rfl (Nat.le_of_ble_eq_true rfl) (Ghost.weak (WeakL.to 7 (Nat.le_of_ble_eq_true rfl) rfl rfl rfl rfl ⟨leR rfl, leR rfl, leR rfl, leR rfl, leR rfl, leR rfl, leR rfl, leR rfl, leR rfl, leR rfl, trivial⟩))) ?_
        refine TA_frz1 5 (E' := [(0, (.b 0 0)), (2, (.b 1 0)), (3, (.b 4 0)), (7, (intA r_3.1)), (8, (boolA (decide (r_3.1 = 0)))), (10, (.b 4 1)), (12, (.b 0 0)), (13, (.b 4 0)), (14, (sl tRelation r_1.1.relations)), (15, (.g [(intA r_6.1.relation), (sl tInt r_6.1.values)]))]) rfl rfl (Nat.le_of_ble_eq_true rfl) ?_ ?_
        · exact ⟨(.keep rfl), (.keep rfl), (.keep rfl), (.keep rfl), (.keep rfl), (.keep rfl), (.keep rfl), (.keep rfl), (.keep rfl), (fz1G (fzC (.keep rfl) (fzC fz1E fzN))), trivial⟩
        refine TA_st (σ' := [.box [(sl (tI .u8) r_6.2.b), (intA r_6.2.i), (intA r_6.2.h)], .box [.n, .n], .dead, .row (flat tFact.enc r_1.1.facts), .box [(sl tRelation r_1.1.relations), (.m [3] 0 r_1.1.facts.length tFact.k)], .dead, .dead]) rfl ?_
        refine TA_all [1, 6] (by kernel_rfl) (by decide) ⟨?_, ?_, trivial⟩
        · skip
          refine ⟨_, rfl, rfl, (TOp_pure (pur_ld_b one30 rfl rfl rfl rfl) rfl ?_)⟩
          refine TA_listed #[true, true, true, true, true, true, false, false, false, false] rfl ?_
          refine TA_ghost (E' := [(2, (.b 1 0)), (3, (.b 4 0)), (11, (.m [3] 0 r_1.1.facts.length tFact.k)), (15, (.g [(intA r_6.1.relation), (sl tInt r_6.1.values)]))]) (σ' := [.box [(sl (tI .u8) r_6.2.b), (intA r_6.2.i), (intA r_6.2.h)], .box [.n, .n], .dead, .row (flat tFact.enc r_1.1.facts), .box [(sl tRelation r_1.1.relations), (.m [3] 0 r_1.1.facts.length tFact.k)], .dead, .dead]) (Ghost.weak (WeakL.to 7 (Nat.le_of_ble_eq_true rfl) rfl rfl rfl rfl ⟨leR rfl, leR rfl, leR rfl, leR rfl, trivial⟩)) ?_
          exact hj1_4
        · skip
          refine ⟨_, rfl, rfl, (TOp_lit (nn := 1) (k := 2) sl30 zero60 rfl rfl rfl rfl (by decide) ?_)⟩
          refine TA_listed #[true, false, true, true, true, true, true, false, false, false] rfl ?_
          refine TA_st (σ' := [.box [(sl (tI .u8) r_6.2.b), (intA r_6.2.i), (intA r_6.2.h)], .box [.n, .n], .dead, .row (flat tFact.enc r_1.1.facts), .box [(sl tRelation r_1.1.relations), (.m [3] 0 r_1.1.facts.length tFact.k)], .dead, .dead, .row (flat tFact.enc ([r_6.1] : (List Fact)))]) rfl ?_
          refine TA_ghost (E' := [(0, (.b 0 0)), (2, (.b 1 0)), (3, (.b 4 0)), (7, (intA r_3.1)), (8, (boolA (decide (r_3.1 = 0)))), (10, (.b 4 1)), (12, (.b 0 0)), (13, (.b 4 0)), (14, (sl tRelation r_1.1.relations)), (15, (.g [(intA r_6.1.relation), (sl tInt r_6.1.values)])), (16, (.m [6] 0 ([r_6.1] : (List Fact)).length tFact.k))]) (σ' := [.box [(sl (tI .u8) r_6.2.b), (intA r_6.2.i), (intA r_6.2.h)], .box [.n, .n], .dead, .row (flat tFact.enc r_1.1.facts), .box [(sl tRelation r_1.1.relations), (.m [3] 0 r_1.1.facts.length tFact.k)], .dead, .row (flat tFact.enc ([r_6.1] : (List Fact)))]) (Ghost.move 6 7 (by decide) (Nat.le_of_ble_eq_true rfl) rfl rfl (Nat.le_of_ble_eq_true rfl) (Ghost.weak (WeakL.to 7 (Nat.le_of_ble_eq_true rfl) rfl rfl rfl rfl ⟨leR rfl, leR rfl, leR rfl, leR rfl, leR rfl, leR rfl, leR rfl, leR rfl, leR rfl, leR rfl, leR rfl, trivial⟩))) ?_
          refine TA_all [1] (by kernel_rfl) (by decide) ⟨⟨_, rfl, rfl, (TOp_pure (pur_ld_b one30 rfl rfl rfl rfl) rfl ?_)⟩, trivial⟩
          refine TA_listed #[true, true, true, true, true, true, true, false, false, false] rfl ?_
          refine TA_ghost (E' := [(2, (.b 1 0)), (3, (.b 4 0)), (11, (.m [3] 0 r_1.1.facts.length tFact.k)), (16, (.m [6] 0 ([r_6.1] : (List Fact)).length tFact.k))]) (σ' := [.box [(sl (tI .u8) r_6.2.b), (intA r_6.2.i), (intA r_6.2.h)], .box [.n, .n], .dead, .row (flat tFact.enc r_1.1.facts), .box [(sl tRelation r_1.1.relations), (.m [3] 0 r_1.1.facts.length tFact.k)], .dead, .row (flat tFact.enc ([r_6.1] : (List Fact)))]) (Ghost.weak (WeakL.to 7 (Nat.le_of_ble_eq_true rfl) rfl rfl rfl rfl ⟨leR rfl, leR rfl, leR rfl, leR rfl, trivial⟩)) ?_
          exact hj0_4
  · replace H := cond_f c_5 H
    refine T_seq ?_
    refine T_region ?_
    refine TO_cons rfl (TOp_pure (pur_eql rfl rfl rfl) rfl ?_)
    refine TO_cons rfl (TOp_pure (pur_assign rfl) rfl ?_)
    refine TO_nil ?_
    refine T_env (E' := [(0, (.b 0 0)), (2, (.b 1 0)), (3, (.b 4 0)), (7, (intA r_3.1)), (19, (boolA (decide (r_3.1 = 1))))]) ⟨rfl, rfl, rfl, rfl, rfl, trivial⟩ ?_
    refine T_cond (t := decide (r_3.1 = 1)) rfl (fun c_10 => ?_) (fun c_10 => ?_)
    · replace H := cond_t c_10 H
      obtain ⟨r_11, h_12, H⟩ := bind_inv H
      obtain ⟨ys_13, h_14, H⟩ := bind_inv H
      obtain ⟨i_15, j_16, hi_17, hj_18, hij_19, hjl_20, hys_21, _⟩ := cutI_inv h_14
      refine T_regionP mixed ?_
      refine TA_have 3 #[true, true, true, true, false, false, false] [(2, (.b 1 0)), (3, (.b 4 0)), (22, (.m [2] 0 r_1.1.relations.length tRelation.k)), (24, (intA r_11.1))] [.box [(sl (tI .u8) r_11.2.b), (intA r_11.2.i), (intA r_11.2.h)], .box [.n, .n], .row (flat tRelation.enc r_1.1.relations), .row (flat tFact.enc r_1.1.facts), .box [(.m [2] 0 r_1.1.relations.length tRelation.k), (.m [3] 0 r_1.1.facts.length tFact.k)]] ?_ (fun hj0_6 => ?_)
      · skip
        refine TA_first 4 #[true, true, true, true, true, false, false] rfl (purI_cutM (lo := none) (hi := (some (.tmp 24))) sl29 rfl hi_17.symm ⟨_, congrArg (fun z => A.v (.int .i64 z)) hj_18⟩ hij_19 hjl_20 rfl) rfl rfl rfl (by kernel_rfl) (by kernel_rfl) (by kernel_rfl) ?_
        refine TA_first 5 #[true, true, true, true, true, true, false] rfl (purI_fa_b fld32_0 rfl rfl) rfl rfl rfl (by kernel_rfl) (by kernel_rfl) (by kernel_rfl) ?_
        refine TA_all [6] (by kernel_rfl) (by decide) ⟨⟨_, rfl, rfl, (TOp_storeB sz29 rfl rfl rfl rfl rfl rfl rfl (by decide) (Nat.le_of_ble_eq_true rfl) rfl ?_)⟩, trivial⟩
        refine TA_listed #[true, true, true, true, true, true, true] rfl ?_
        refine TA_st (σ' := [.box [(sl (tI .u8) r_11.2.b), (intA r_11.2.i), (intA r_11.2.h)], .box [.n, .n], .row (flat tRelation.enc r_1.1.relations), .row (flat tFact.enc r_1.1.facts), .box [(.m [2] (i_15 * tRelation.k) (j_16 - i_15) tRelation.k), (.m [3] 0 r_1.1.facts.length tFact.k)]]) rfl ?_
        refine TA_nil (by kernel_rfl) ?_
        refine T_env (E' := [(2, (.b 1 0)), (3, (.b 4 0))]) ⟨rfl, rfl, trivial⟩ ?_
        refine T_seq ?_
        refine T_region ?_
        refine TO_cons rfl (TOp_pure (pur_ldK_b agg32 rfl rfl (Nat.le_of_ble_eq_true rfl) rfl) rfl ?_)
        refine TO_cons rfl (TOp_storeB sz32 rfl rfl rfl rfl rfl rfl rfl (by decide) (Nat.le_of_ble_eq_true rfl) rfl ?_)
        refine TO_st (σ' := [.box [(sl (tI .u8) r_11.2.b), (intA r_11.2.i), (intA r_11.2.h)], .box [(.m [2] (i_15 * tRelation.k) (j_16 - i_15) tRelation.k), (.m [3] 0 r_1.1.facts.length tFact.k)], .row (flat tRelation.enc r_1.1.relations), .row (flat tFact.enc r_1.1.facts), .box [(.m [2] (i_15 * tRelation.k) (j_16 - i_15) tRelation.k), (.m [3] 0 r_1.1.facts.length tFact.k)]]) rfl ?_
        refine TO_nil ?_
        refine T_env (E' := [(2, (.b 1 0))]) ⟨rfl, trivial⟩ ?_
        refine T_frzB 2 (E' := [(2, (.b 1 0))]) (σ' := [.box [(sl (tI .u8) r_11.2.b), (intA r_11.2.i), (intA r_11.2.h)], .box [(sl tRelation ys_13), (.m [3] 0 r_1.1.facts.length tFact.k)], .dead, .row (flat tFact.enc r_1.1.facts), .box [(sl tRelation ys_13), (.m [3] 0 r_1.1.facts.length tFact.k)]]) rfl (Nat.le_of_ble_eq_true rfl) ?_ ?_ ?_
        · exact ⟨(.keep rfl), trivial⟩
        · exact ⟨(fzK rfl), (fzC (fz1C hij_19 hjl_20 hys_21) (fzC (.keep rfl) fzN)), trivial, rfl, (fzC (fz1C hij_19 hjl_20 hys_21) (fzC (.keep rfl) fzN)), trivial⟩
        refine T_frzB 3 (E' := [(2, (.b 1 0))]) (σ' := [.box [(sl (tI .u8) r_11.2.b), (intA r_11.2.i), (intA r_11.2.h)], .box [(sl tRelation ys_13), (sl tFact r_1.1.facts)], .dead, .dead, .box [(sl tRelation ys_13), (sl tFact r_1.1.facts)]]) rfl (Nat.le_of_ble_eq_true rfl) ?_ ?_ ?_
        · exact ⟨(.keep rfl), trivial⟩
        · exact ⟨(fzK rfl), (fzC (.keep rfl) (fzC fz1E fzN)), trivial, trivial, (fzC (.keep rfl) (fzC fz1E fzN)), trivial⟩
        refine T_ret ?_
        obtain rfl := some_inj H
        exact end_pickX (.cellK rfl agg32 rfl (Nat.le_of_ble_eq_true rfl) .nil) rfl [0] (by decide) (Nat.le_of_ble_eq_true rfl) rfl (Nat.le_of_ble_eq_true rfl) rfl rfl rfl rfl rfl rfl
      refine TA_first 0 #[true, false, false, false, false, false, false] rfl (purI_fa_b fld32_0 rfl rfl) rfl rfl rfl (by kernel_rfl) (by kernel_rfl) (by kernel_rfl) ?_
      refine TA_first 2 #[true, false, true, false, false, false, false] rfl (purI_move rfl) rfl rfl rfl (by kernel_rfl) (by kernel_rfl) (by kernel_rfl) ?_
      refine TA_all [1, 3] (by kernel_rfl) (by decide) ⟨?_, ?_, trivial⟩
      · skip
        refine ⟨_, rfl, rfl, (TOp_pure (pur_ld_b one29 rfl rfl rfl rfl) rfl ?_)⟩
        refine TA_listed #[true, true, true, false, false, false, false] rfl ?_
        refine TA_all [3] (by kernel_rfl) (by decide) ⟨⟨_, rfl, rfl, (TOp_callS [0] (call_static ent83 rfl) (by decide) rfl rfl rfl rfl rfl rfl (m_spec_l1Below_x _ _ _ h_12) rfl rfl ?_)⟩, trivial⟩
        refine TA_listed #[true, true, true, true, false, false, false] rfl ?_
        refine TA_env (E' := [(0, (.b 0 0)), (2, (.b 1 0)), (3, (.b 4 0)), (7, (intA r_3.1)), (19, (boolA (decide (r_3.1 = 1)))), (21, (.b 4 0)), (22, (.m [2] 0 r_1.1.relations.length tRelation.k)), (23, (.b 0 0)), (24, (intA r_11.1))]) ⟨rfl, rfl, rfl, rfl, rfl, rfl, rfl, rfl, rfl, trivial⟩ ?_
        refine TA_st (σ' := [.box [(sl (tI .u8) r_11.2.b), (intA r_11.2.i), (intA r_11.2.h)], .box [.n, .n], .row (flat tRelation.enc r_1.1.relations), .row (flat tFact.enc r_1.1.facts), .box [(.m [2] 0 r_1.1.relations.length tRelation.k), (.m [3] 0 r_1.1.facts.length tFact.k)]]) rfl ?_
        refine TA_ghost (E' := [(2, (.b 1 0)), (3, (.b 4 0)), (22, (.m [2] 0 r_1.1.relations.length tRelation.k)), (24, (intA r_11.1))]) (σ' := [.box [(sl (tI .u8) r_11.2.b), (intA r_11.2.i), (intA r_11.2.h)], .box [.n, .n], .row (flat tRelation.enc r_1.1.relations), .row (flat tFact.enc r_1.1.facts), .box [(.m [2] 0 r_1.1.relations.length tRelation.k), (.m [3] 0 r_1.1.facts.length tFact.k)]]) (Ghost.weak (WeakL.to 5 (Nat.le_of_ble_eq_true rfl) rfl rfl rfl rfl ⟨leR rfl, leR rfl, leR rfl, leR rfl, trivial⟩)) ?_
        exact hj0_6
      · skip
        refine ⟨_, rfl, rfl, (TOp_callS [0] (call_static ent83 rfl) (by decide) rfl rfl rfl rfl rfl rfl (m_spec_l1Below_x _ _ _ h_12) rfl rfl ?_)⟩
        refine TA_listed #[true, false, true, true, false, false, false] rfl ?_
        refine TA_env (E' := [(0, (.b 0 0)), (2, (.b 1 0)), (3, (.b 4 0)), (7, (intA r_3.1)), (19, (boolA (decide (r_3.1 = 1)))), (21, (.b 4 0)), (23, (.b 0 0)), (24, (intA r_11.1))]) ⟨rfl, rfl, rfl, rfl, rfl, rfl, rfl, rfl, trivial⟩ ?_
        refine TA_st (σ' := [.box [(sl (tI .u8) r_11.2.b), (intA r_11.2.i), (intA r_11.2.h)], .box [.n, .n], .row (flat tRelation.enc r_1.1.relations), .row (flat tFact.enc r_1.1.facts), .box [(.m [2] 0 r_1.1.relations.length tRelation.k), (.m [3] 0 r_1.1.facts.length tFact.k)]]) rfl ?_
        refine TA_all [1] (by kernel_rfl) (by decide) ⟨⟨_, rfl, rfl, (TOp_pure (pur_ld_b one29 rfl rfl rfl rfl) rfl ?_)⟩, trivial⟩
        refine TA_listed #[true, true, true, true, false, false, false] rfl ?_
        refine TA_ghost (E' := [(2, (.b 1 0)), (3, (.b 4 0)), (22, (.m [2] 0 r_1.1.relations.length tRelation.k)), (24, (intA r_11.1))]) (σ' := [.box [(sl (tI .u8) r_11.2.b), (intA r_11.2.i), (intA r_11.2.h)], .box [.n, .n], .row (flat tRelation.enc r_1.1.relations), .row (flat tFact.enc r_1.1.facts), .box [(.m [2] 0 r_1.1.relations.length tRelation.k), (.m [3] 0 r_1.1.facts.length tFact.k)]]) (Ghost.weak (WeakL.to 5 (Nat.le_of_ble_eq_true rfl) rfl rfl rfl rfl ⟨leR rfl, leR rfl, leR rfl, leR rfl, trivial⟩)) ?_
        exact hj0_6
    · replace H := cond_f c_10 H
      refine T_seq ?_
      refine T_region ?_
      refine TO_cons rfl (TOp_pure (pur_eql rfl rfl rfl) rfl ?_)
      refine TO_cons rfl (TOp_pure (pur_assign rfl) rfl ?_)
      refine TO_nil ?_
      refine T_env (E' := [(0, (.b 0 0)), (2, (.b 1 0)), (3, (.b 4 0)), (27, (boolA (decide (r_3.1 = 2))))]) ⟨rfl, rfl, rfl, rfl, trivial⟩ ?_
      refine T_cond (t := decide (r_3.1 = 2)) rfl (fun c_22 => ?_) (fun c_22 => ?_)
      · replace H := cond_t c_22 H
        obtain ⟨r_23, h_24, H⟩ := bind_inv H
        obtain ⟨r_25, h_26, H⟩ := bind_inv H
        obtain ⟨v_27, h_28, H⟩ := bind_inv H
        obtain ⟨n_29, hz_30, hv_31⟩ := getI_inv h_28
        refine T_regionP mixed ?_
        refine TA_have 2 #[true, true, true, true, true, true, false, false] [(2, (.b 1 0)), (3, (.b 4 0)), (30, (.m [2] 0 r_1.1.relations.length tRelation.k)), (32, (intA r_23.1)), (34, (.g (tRelation.enc r_25.1)))] [.box [(sl (tI .u8) r_25.2.b), (intA r_25.2.i), (intA r_25.2.h)], .box [.n, .n], .row (flat tRelation.enc r_1.1.relations), .row (flat tFact.enc r_1.1.facts), .box [(.m [2] 0 r_1.1.relations.length tRelation.k), (.m [3] 0 r_1.1.facts.length tFact.k)]] ?_ (fun hj0_8 => ?_)
        · skip
          refine TA_first 6 #[true, true, true, true, true, true, true, false] rfl (purI_ixM (T := tRelation) sl29 rfl rfl hz_30 hv_31 rfl) rfl rfl rfl (by kernel_rfl) (by kernel_rfl) (by kernel_rfl) ?_
          refine TA_all [7] (by kernel_rfl) (by decide) ⟨⟨_, rfl, rfl, (TOp_setT (f := tRelation.enc) (z := r_23.1) (y := r_25.1) tRelation.len tRelation.pos hz_30 sz97 rfl rfl rfl rfl rfl hv_31 rfl rfl ?_)⟩, trivial⟩
          refine TA_listed #[true, true, true, true, true, true, true, true] rfl ?_
          refine TA_env (E' := [(2, (.b 1 0)), (3, (.b 4 0)), (30, (.m [2] 0 (r_1.1.relations.set (r_23.1).toNat r_25.1).length tRelation.k)), (32, (intA r_23.1)), (34, (.g (tRelation.enc r_25.1)))]) ⟨rfl, rfl, (congrArg (fun q => A.m [2] 0 q tRelation.k) (List.length_set ..).symm), rfl, rfl, trivial⟩ ?_
          refine TA_st (σ' := [.box [(sl (tI .u8) r_25.2.b), (intA r_25.2.i), (intA r_25.2.h)], .box [.n, .n], .row (flat tRelation.enc (r_1.1.relations.set (r_23.1).toNat r_25.1)), .row (flat tFact.enc r_1.1.facts), .box [(.m [2] 0 r_1.1.relations.length tRelation.k), (.m [3] 0 r_1.1.facts.length tFact.k)]]) rfl ?_
          refine TA_st (σ' := [.box [(sl (tI .u8) r_25.2.b), (intA r_25.2.i), (intA r_25.2.h)], .box [.n, .n], .row (flat tRelation.enc (r_1.1.relations.set (r_23.1).toNat r_25.1)), .row (flat tFact.enc r_1.1.facts), .box [(.m [2] 0 (r_1.1.relations.set (r_23.1).toNat r_25.1).length tRelation.k), (.m [3] 0 r_1.1.facts.length tFact.k)]]) (by simp only [List.length_set]) ?_
          refine TA_nil (by kernel_rfl) ?_
          refine T_env (E' := [(2, (.b 1 0)), (3, (.b 4 0))]) ⟨rfl, rfl, trivial⟩ ?_
          refine T_seq ?_
          refine T_region ?_
          refine TO_cons rfl (TOp_pure (pur_ldK_b agg32 rfl rfl (Nat.le_of_ble_eq_true rfl) rfl) rfl ?_)
          refine TO_cons rfl (TOp_storeB sz32 rfl rfl rfl rfl rfl rfl rfl (by decide) (Nat.le_of_ble_eq_true rfl) rfl ?_)
          refine TO_st (σ' := [.box [(sl (tI .u8) r_25.2.b), (intA r_25.2.i), (intA r_25.2.h)], .box [(.m [2] 0 (r_1.1.relations.set (r_23.1).toNat r_25.1).length tRelation.k), (.m [3] 0 r_1.1.facts.length tFact.k)], .row (flat tRelation.enc (r_1.1.relations.set (r_23.1).toNat r_25.1)), .row (flat tFact.enc r_1.1.facts), .box [(.m [2] 0 (r_1.1.relations.set (r_23.1).toNat r_25.1).length tRelation.k), (.m [3] 0 r_1.1.facts.length tFact.k)]]) rfl ?_
          refine TO_nil ?_
          refine T_env (E' := [(2, (.b 1 0))]) ⟨rfl, trivial⟩ ?_
          refine T_frzB 2 (E' := [(2, (.b 1 0))]) (σ' := [.box [(sl (tI .u8) r_25.2.b), (intA r_25.2.i), (intA r_25.2.h)], .box [(sl tRelation (r_1.1.relations.set (r_23.1).toNat r_25.1)), (.m [3] 0 r_1.1.facts.length tFact.k)], .dead, .row (flat tFact.enc r_1.1.facts), .box [(sl tRelation (r_1.1.relations.set (r_23.1).toNat r_25.1)), (.m [3] 0 r_1.1.facts.length tFact.k)]]) rfl (Nat.le_of_ble_eq_true rfl) ?_ ?_ ?_
          · exact ⟨(.keep rfl), trivial⟩
          · exact ⟨(fzK rfl), (fzC fz1E (fzC (.keep rfl) fzN)), trivial, rfl, (fzC fz1E (fzC (.keep rfl) fzN)), trivial⟩
          refine T_frzB 3 (E' := [(2, (.b 1 0))]) (σ' := [.box [(sl (tI .u8) r_25.2.b), (intA r_25.2.i), (intA r_25.2.h)], .box [(sl tRelation (r_1.1.relations.set (r_23.1).toNat r_25.1)), (sl tFact r_1.1.facts)], .dead, .dead, .box [(sl tRelation (r_1.1.relations.set (r_23.1).toNat r_25.1)), (sl tFact r_1.1.facts)]]) rfl (Nat.le_of_ble_eq_true rfl) ?_ ?_ ?_
          · exact ⟨(.keep rfl), trivial⟩
          · exact ⟨(fzK rfl), (fzC (.keep rfl) (fzC fz1E fzN)), trivial, trivial, (fzC (.keep rfl) (fzC fz1E fzN)), trivial⟩
          refine T_ret ?_
          obtain rfl := some_inj H
          exact end_pickX (.cellK rfl agg32 rfl (Nat.le_of_ble_eq_true rfl) .nil) rfl [0] (by decide) (Nat.le_of_ble_eq_true rfl) rfl (Nat.le_of_ble_eq_true rfl) rfl rfl rfl rfl rfl rfl
        refine TA_have 3 #[true, true, true, true, true, false, false, false] [(2, (.b 1 0)), (3, (.b 4 0)), (30, (.m [2] 0 r_1.1.relations.length tRelation.k)), (32, (intA r_23.1)), (33, (.b 0 0))] [.box [(sl (tI .u8) r_23.2.b), (intA r_23.2.i), (intA r_23.2.h)], .box [.n, .n], .row (flat tRelation.enc r_1.1.relations), .row (flat tFact.enc r_1.1.facts), .box [(.m [2] 0 r_1.1.relations.length tRelation.k), (.m [3] 0 r_1.1.facts.length tFact.k)]] ?_ (fun hj1_8 => ?_)
        · skip
          refine TA_all [5] (by kernel_rfl) (by decide) ⟨⟨_, rfl, rfl, (TOp_callS [0] (call_static ent112 rfl) (by decide) rfl rfl rfl rfl rfl rfl (m_spec_l2Any_x _ _ h_26) rfl rfl ?_)⟩, trivial⟩
          refine TA_listed #[true, true, true, true, true, true, false, false] rfl ?_
          refine TA_env (E' := [(2, (.b 1 0)), (3, (.b 4 0)), (30, (.m [2] 0 r_1.1.relations.length tRelation.k)), (32, (intA r_23.1)), (33, (.b 0 0)), (34, (.g (tRelation.enc r_25.1)))]) ⟨rfl, rfl, rfl, rfl, rfl, rfl, trivial⟩ ?_
          refine TA_st (σ' := [.box [(sl (tI .u8) r_25.2.b), (intA r_25.2.i), (intA r_25.2.h)], .box [.n, .n], .row (flat tRelation.enc r_1.1.relations), .row (flat tFact.enc r_1.1.facts), .box [(.m [2] 0 r_1.1.relations.length tRelation.k), (.m [3] 0 r_1.1.facts.length tFact.k)]]) rfl ?_
          refine TA_ghost (E' := [(2, (.b 1 0)), (3, (.b 4 0)), (30, (.m [2] 0 r_1.1.relations.length tRelation.k)), (32, (intA r_23.1)), (34, (.g (tRelation.enc r_25.1)))]) (σ' := [.box [(sl (tI .u8) r_25.2.b), (intA r_25.2.i), (intA r_25.2.h)], .box [.n, .n], .row (flat tRelation.enc r_1.1.relations), .row (flat tFact.enc r_1.1.facts), .box [(.m [2] 0 r_1.1.relations.length tRelation.k), (.m [3] 0 r_1.1.facts.length tFact.k)]]) (Ghost.weak (WeakL.to 5 (Nat.le_of_ble_eq_true rfl) rfl rfl rfl rfl ⟨leR rfl, leR rfl, leR rfl, leR rfl, leR rfl, trivial⟩)) ?_
          exact hj0_8
        refine TA_first 0 #[true, false, false, false, false, false, false, false] rfl (purI_fa_b fld32_0 rfl rfl) rfl rfl rfl (by kernel_rfl) (by kernel_rfl) (by kernel_rfl) ?_
        refine TA_first 2 #[true, false, true, false, false, false, false, false] rfl (purI_move rfl) rfl rfl rfl (by kernel_rfl) (by kernel_rfl) (by kernel_rfl) ?_
        refine TA_first 4 #[true, false, true, false, true, false, false, false] rfl (purI_move rfl) rfl rfl rfl (by kernel_rfl) (by kernel_rfl) (by kernel_rfl) ?_
        refine TA_all [1, 3] (by kernel_rfl) (by decide) ⟨?_, ?_, trivial⟩
        · skip
          refine ⟨_, rfl, rfl, (TOp_pure (pur_ld_b one29 rfl rfl rfl rfl) rfl ?_)⟩
          refine TA_listed #[true, true, true, false, true, false, false, false] rfl ?_
          refine TA_all [3] (by kernel_rfl) (by decide) ⟨⟨_, rfl, rfl, (TOp_callS [0] (call_static ent83 rfl) (by decide) rfl rfl rfl rfl rfl rfl (m_spec_l1Below_x _ _ _ h_24) rfl rfl ?_)⟩, trivial⟩
          refine TA_listed #[true, true, true, true, true, false, false, false] rfl ?_
          refine TA_env (E' := [(0, (.b 0 0)), (2, (.b 1 0)), (3, (.b 4 0)), (27, (boolA (decide (r_3.1 = 2)))), (29, (.b 4 0)), (30, (.m [2] 0 r_1.1.relations.length tRelation.k)), (31, (.b 0 0)), (32, (intA r_23.1)), (33, (.b 0 0))]) ⟨rfl, rfl, rfl, rfl, rfl, rfl, rfl, rfl, rfl, trivial⟩ ?_
          refine TA_st (σ' := [.box [(sl (tI .u8) r_23.2.b), (intA r_23.2.i), (intA r_23.2.h)], .box [.n, .n], .row (flat tRelation.enc r_1.1.relations), .row (flat tFact.enc r_1.1.facts), .box [(.m [2] 0 r_1.1.relations.length tRelation.k), (.m [3] 0 r_1.1.facts.length tFact.k)]]) rfl ?_
          refine TA_ghost (E' := [(2, (.b 1 0)), (3, (.b 4 0)), (30, (.m [2] 0 r_1.1.relations.length tRelation.k)), (32, (intA r_23.1)), (33, (.b 0 0))]) (σ' := [.box [(sl (tI .u8) r_23.2.b), (intA r_23.2.i), (intA r_23.2.h)], .box [.n, .n], .row (flat tRelation.enc r_1.1.relations), .row (flat tFact.enc r_1.1.facts), .box [(.m [2] 0 r_1.1.relations.length tRelation.k), (.m [3] 0 r_1.1.facts.length tFact.k)]]) (Ghost.weak (WeakL.to 5 (Nat.le_of_ble_eq_true rfl) rfl rfl rfl rfl ⟨leR rfl, leR rfl, leR rfl, leR rfl, leR rfl, trivial⟩)) ?_
          exact hj1_8
        · skip
          refine ⟨_, rfl, rfl, (TOp_callS [0] (call_static ent83 rfl) (by decide) rfl rfl rfl rfl rfl rfl (m_spec_l1Below_x _ _ _ h_24) rfl rfl ?_)⟩
          refine TA_listed #[true, false, true, true, true, false, false, false] rfl ?_
          refine TA_env (E' := [(0, (.b 0 0)), (2, (.b 1 0)), (3, (.b 4 0)), (27, (boolA (decide (r_3.1 = 2)))), (29, (.b 4 0)), (31, (.b 0 0)), (32, (intA r_23.1)), (33, (.b 0 0))]) ⟨rfl, rfl, rfl, rfl, rfl, rfl, rfl, rfl, trivial⟩ ?_
          refine TA_st (σ' := [.box [(sl (tI .u8) r_23.2.b), (intA r_23.2.i), (intA r_23.2.h)], .box [.n, .n], .row (flat tRelation.enc r_1.1.relations), .row (flat tFact.enc r_1.1.facts), .box [(.m [2] 0 r_1.1.relations.length tRelation.k), (.m [3] 0 r_1.1.facts.length tFact.k)]]) rfl ?_
          refine TA_all [1, 5] (by kernel_rfl) (by decide) ⟨?_, ?_, trivial⟩
          · skip
            refine ⟨_, rfl, rfl, (TOp_pure (pur_ld_b one29 rfl rfl rfl rfl) rfl ?_)⟩
            refine TA_listed #[true, true, true, true, true, false, false, false] rfl ?_
            refine TA_ghost (E' := [(2, (.b 1 0)), (3, (.b 4 0)), (30, (.m [2] 0 r_1.1.relations.length tRelation.k)), (32, (intA r_23.1)), (33, (.b 0 0))]) (σ' := [.box [(sl (tI .u8) r_23.2.b), (intA r_23.2.i), (intA r_23.2.h)], .box [.n, .n], .row (flat tRelation.enc r_1.1.relations), .row (flat tFact.enc r_1.1.facts), .box [(.m [2] 0 r_1.1.relations.length tRelation.k), (.m [3] 0 r_1.1.facts.length tFact.k)]]) (Ghost.weak (WeakL.to 5 (Nat.le_of_ble_eq_true rfl) rfl rfl rfl rfl ⟨leR rfl, leR rfl, leR rfl, leR rfl, leR rfl, trivial⟩)) ?_
            exact hj1_8
          · skip
            refine ⟨_, rfl, rfl, (TOp_callS [0] (call_static ent112 rfl) (by decide) rfl rfl rfl rfl rfl rfl (m_spec_l2Any_x _ _ h_26) rfl rfl ?_)⟩
            refine TA_listed #[true, false, true, true, true, true, false, false] rfl ?_
            refine TA_env (E' := [(0, (.b 0 0)), (2, (.b 1 0)), (3, (.b 4 0)), (27, (boolA (decide (r_3.1 = 2)))), (29, (.b 4 0)), (31, (.b 0 0)), (32, (intA r_23.1)), (33, (.b 0 0)), (34, (.g (tRelation.enc r_25.1)))]) ⟨rfl, rfl, rfl, rfl, rfl, rfl, rfl, rfl, rfl, trivial⟩ ?_
            refine TA_st (σ' := [.box [(sl (tI .u8) r_25.2.b), (intA r_25.2.i), (intA r_25.2.h)], .box [.n, .n], .row (flat tRelation.enc r_1.1.relations), .row (flat tFact.enc r_1.1.facts), .box [(.m [2] 0 r_1.1.relations.length tRelation.k), (.m [3] 0 r_1.1.facts.length tFact.k)]]) rfl ?_
            refine TA_all [1] (by kernel_rfl) (by decide) ⟨⟨_, rfl, rfl, (TOp_pure (pur_ld_b one29 rfl rfl rfl rfl) rfl ?_)⟩, trivial⟩
            refine TA_listed #[true, true, true, true, true, true, false, false] rfl ?_
            refine TA_ghost (E' := [(2, (.b 1 0)), (3, (.b 4 0)), (30, (.m [2] 0 r_1.1.relations.length tRelation.k)), (32, (intA r_23.1)), (34, (.g (tRelation.enc r_25.1)))]) (σ' := [.box [(sl (tI .u8) r_25.2.b), (intA r_25.2.i), (intA r_25.2.h)], .box [.n, .n], .row (flat tRelation.enc r_1.1.relations), .row (flat tFact.enc r_1.1.facts), .box [(.m [2] 0 r_1.1.relations.length tRelation.k), (.m [3] 0 r_1.1.facts.length tFact.k)]]) (Ghost.weak (WeakL.to 5 (Nat.le_of_ble_eq_true rfl) rfl rfl rfl rfl ⟨leR rfl, leR rfl, leR rfl, leR rfl, leR rfl, trivial⟩)) ?_
            exact hj0_8
      · replace H := cond_f c_22 H
        refine T_skip ?_
        refine T_env (E' := [(2, (.b 1 0)), (3, (.b 4 0))]) ⟨rfl, rfl, trivial⟩ ?_
        refine T_seq ?_
        refine T_region ?_
        refine TO_cons rfl (TOp_pure (pur_ldK_b agg32 rfl rfl (Nat.le_of_ble_eq_true rfl) rfl) rfl ?_)
        refine TO_cons rfl (TOp_storeB sz32 rfl rfl rfl rfl rfl rfl rfl (by decide) (Nat.le_of_ble_eq_true rfl) rfl ?_)
        refine TO_st (σ' := [.box [(sl (tI .u8) r_3.2.b), (intA r_3.2.i), (intA r_3.2.h)], .box [(.m [2] 0 r_1.1.relations.length tRelation.k), (.m [3] 0 r_1.1.facts.length tFact.k)], .row (flat tRelation.enc r_1.1.relations), .row (flat tFact.enc r_1.1.facts), .box [(.m [2] 0 r_1.1.relations.length tRelation.k), (.m [3] 0 r_1.1.facts.length tFact.k)]]) rfl ?_
        refine TO_nil ?_
        refine T_env (E' := [(2, (.b 1 0))]) ⟨rfl, trivial⟩ ?_
        refine T_frzB 2 (E' := [(2, (.b 1 0))]) (σ' := [.box [(sl (tI .u8) r_3.2.b), (intA r_3.2.i), (intA r_3.2.h)], .box [(sl tRelation r_1.1.relations), (.m [3] 0 r_1.1.facts.length tFact.k)], .dead, .row (flat tFact.enc r_1.1.facts), .box [(sl tRelation r_1.1.relations), (.m [3] 0 r_1.1.facts.length tFact.k)]]) rfl (Nat.le_of_ble_eq_true rfl) ?_ ?_ ?_
        · exact ⟨(.keep rfl), trivial⟩
        · exact ⟨(fzK rfl), (fzC fz1E (fzC (.keep rfl) fzN)), trivial, rfl, (fzC fz1E (fzC (.keep rfl) fzN)), trivial⟩
        refine T_frzB 3 (E' := [(2, (.b 1 0))]) (σ' := [.box [(sl (tI .u8) r_3.2.b), (intA r_3.2.i), (intA r_3.2.h)], .box [(sl tRelation r_1.1.relations), (sl tFact r_1.1.facts)], .dead, .dead, .box [(sl tRelation r_1.1.relations), (sl tFact r_1.1.facts)]]) rfl (Nat.le_of_ble_eq_true rfl) ?_ ?_ ?_
        · exact ⟨(.keep rfl), trivial⟩
        · exact ⟨(fzK rfl), (fzC (.keep rfl) (fzC fz1E fzN)), trivial, trivial, (fzC (.keep rfl) (fzC fz1E fzN)), trivial⟩
        refine T_ret ?_
        obtain rfl := some_inj H
        exact end_pickX (.cellK rfl agg32 rfl (Nat.le_of_ble_eq_true rfl) .nil) rfl [0] (by decide) (Nat.le_of_ble_eq_true rfl) rfl (Nat.le_of_ble_eq_true rfl) rfl rfl rfl rfl rfl rfl

set_option maxHeartbeats 1000000 in
/-- spec.l1Once -/
theorem m_spec_l1Once_x (c0 : l1Cur) (n1 : Int) (r : (Bool × l1Cur)) (H : m_spec_l1Once c0 n1 = some r) : FnS prg 87 [(.b 0 0), (intA n1)] [.box [(sl (tI .u8) c0.b), (intA c0.i), (intA c0.h)]] (boolA r.1) [.box [(sl (tI .u8) r.2.b), (intA r.2.i), (intA r.2.h)]] := by
  unfold m_spec_l1Once at H
  refine fnS_of_T Try.func87 rfl rfl (Nat.le_of_ble_eq_true rfl) ?_
  refine T_env (E' := [(0, (.b 0 0)), (1, (intA n1))]) ⟨rfl, rfl, trivial⟩ ?_
  refine T_st (σ' := [.box [(sl (tI .u8) c0.b), (intA c0.i), (intA c0.h)]]) rfl ?_
  refine T_seq ?_
  refine T_region ?_
  refine TO_cons rfl (TOp_pure (pur_assign rfl) rfl ?_)
  refine TO_nil ?_
  refine T_env (E' := [(0, (.b 0 0)), (1, (intA n1))]) ⟨rfl, rfl, trivial⟩ ?_
  refine T_seq ?_
  refine T_region ?_
  refine TO_cons rfl (TOp_pure (pur_move rfl) rfl ?_)
  refine TO_cons rfl (TOp_pure (pur_move rfl) rfl ?_)
  obtain ⟨r_1, h_2, H⟩ := bind_inv H
  refine TO_cons rfl (TOp_callS [0] (call_static ent83 rfl) (by decide) rfl rfl rfl rfl rfl rfl (m_spec_l1Below_x _ _ _ h_2) rfl rfl ?_)
  refine TO_env (E' := [(0, (.b 0 0)), (1, (intA n1)), (5, (.b 0 0)), (6, (intA n1)), (7, (intA r_1.1))]) ⟨rfl, rfl, rfl, rfl, rfl, trivial⟩ ?_
  refine TO_st (σ' := [.box [(sl (tI .u8) r_1.2.b), (intA r_1.2.i), (intA r_1.2.h)]]) rfl ?_
  refine TO_cons rfl (TOp_pure (pur_eql rfl rfl rfl) rfl ?_)
  refine TO_cons rfl (TOp_pure (pur_assign rfl) rfl ?_)
  refine TO_nil ?_
  refine T_env (E' := [(4, (boolA (decide (r_1.1 = 0))))]) ⟨rfl, trivial⟩ ?_
  refine T_ret ?_
  obtain rfl := some_inj H
  exact end_pickX (.tmp .nil) rfl [0] (by decide) (Nat.le_of_ble_eq_true rfl) rfl (Nat.le_of_ble_eq_true rfl) rfl rfl rfl rfl rfl rfl

set_option maxHeartbeats 1000000 in
/-- spec.l27Draw -/
theorem m_spec_l27Draw_x (u : Nat) (code0 : (List Int)) (r : (l1Cur × Database × Int × Int)) (H : m_spec_l27Draw u code0 = some r) : FnS prg 53 [(sl (tI .u8) code0)] [] (.t [(.b 0 0), (.g (tDatabase.enc r.2.1)), (intA r.2.2.1), (intA r.2.2.2)]) [.box [(sl (tI .u8) r.1.b), (intA r.1.i), (intA r.1.h)]] := by
  unfold m_spec_l27Draw at H
  refine fnS_of_T Try.func53 rfl rfl (Nat.le_of_ble_eq_true rfl) ?_
  refine T_env (E' := [(0, (sl (tI .u8) code0))]) ⟨rfl, trivial⟩ ?_
  refine T_st (σ' := []) rfl ?_
  refine T_seq ?_
  refine T_region ?_
  refine TO_cons rfl (TOp_pure (pur_assign rfl) rfl ?_)
  refine TO_cons rfl (TOp_alloc zero32 rfl rfl ?_)
  refine TO_cons rfl (TOp_pure (pur_assign rfl) rfl ?_)
  refine TO_cons rfl (TOp_pure (pur_assign rfl) rfl ?_)
  refine TO_nil ?_
  refine T_env (E' := [(0, (sl (tI .u8) code0)), (3, (.b 0 0))]) ⟨rfl, rfl, trivial⟩ ?_
  refine T_seq ?_
  refine T_region ?_
  refine TO_cons rfl (TOp_pure (pur_move rfl) rfl ?_)
  obtain ⟨r_1, h_2, H⟩ := bind_inv H
  refine TO_cons rfl (TOp_callS [] (call_static ent85 rfl) (by decide) rfl rfl rfl rfl rfl rfl (m_spec_l1New_x u _ _ h_2) rfl rfl ?_)
  refine TO_env (E' := [(0, (sl (tI .u8) code0)), (3, (.b 0 0)), (9, (sl (tI .u8) code0)), (10, (.b 1 0))]) ⟨rfl, rfl, rfl, rfl, trivial⟩ ?_
  refine TO_st (σ' := [.box [.n, .n], .box [(sl (tI .u8) r_1.b), (intA r_1.i), (intA r_1.h)]]) rfl ?_
  refine TO_cons rfl (TOp_pure (pur_assign rfl) rfl ?_)
  refine TO_nil ?_
  refine T_env (E' := [(3, (.b 0 0)), (6, (.b 1 0))]) ⟨rfl, rfl, trivial⟩ ?_
  refine T_seq ?_
  refine T_region ?_
  refine TO_cons rfl (TOp_pure (pur_move rfl) rfl ?_)
  obtain ⟨r_3, h_4, H⟩ := bind_inv H
  refine TO_cons rfl (TOp_callS [1] (call_static ent86 rfl) (by decide) rfl rfl rfl rfl rfl rfl (m_spec_l4Any_x u _ _ h_4) rfl rfl ?_)
  refine TO_env (E' := [(3, (.b 0 0)), (6, (.b 1 0)), (11, (.b 1 0)), (12, (.g (tDatabase.enc r_3.1)))]) ⟨rfl, rfl, rfl, rfl, trivial⟩ ?_
  refine TO_st (σ' := [.box [.n, .n], .box [(sl (tI .u8) r_3.2.b), (intA r_3.2.i), (intA r_3.2.h)]]) rfl ?_
  refine TO_cons rfl (TOp_alloc zero32 rfl rfl ?_)
  refine TO_cons rfl (TOp_storeB sz32 rfl rfl rfl rfl rfl rfl rfl (by decide) (Nat.le_of_ble_eq_true rfl) rfl ?_)
  refine TO_st (σ' := [.box [.n, .n], .box [(sl (tI .u8) r_3.2.b), (intA r_3.2.i), (intA r_3.2.h)], .box [(sl tRelation r_3.1.relations), (sl tFact r_3.1.facts)]]) rfl ?_
  refine TO_nil ?_
  refine T_env (E' := [(3, (.b 0 0)), (6, (.b 1 0)), (7, (.b 2 0))]) ⟨rfl, rfl, rfl, trivial⟩ ?_
  refine T_seq ?_
  refine T_region ?_
  refine TO_cons rfl (TOp_pure (pur_move rfl) rfl ?_)
  obtain ⟨r_5, h_6, H⟩ := bind_inv H
  refine TO_cons rfl (TOp_callS [1] (call_static ent83 rfl) (by decide) rfl rfl rfl rfl rfl rfl (m_spec_l1Below_x _ _ _ h_6) rfl rfl ?_)
  refine TO_env (E' := [(3, (.b 0 0)), (6, (.b 1 0)), (7, (.b 2 0)), (13, (.b 1 0)), (14, (intA r_5.1))]) ⟨rfl, rfl, rfl, rfl, rfl, trivial⟩ ?_
  refine TO_st (σ' := [.box [.n, .n], .box [(sl (tI .u8) r_5.2.b), (intA r_5.2.i), (intA r_5.2.h)], .box [(sl tRelation r_3.1.relations), (sl tFact r_3.1.facts)]]) rfl ?_
  refine TO_cons rfl (TOp_pure (pur_assign rfl) rfl ?_)
  refine TO_nil ?_
  refine T_env (E' := [(3, (.b 0 0)), (6, (.b 1 0)), (7, (.b 2 0)), (8, (intA r_5.1))]) ⟨rfl, rfl, rfl, rfl, trivial⟩ ?_
  refine T_seq ?_
  refine T_seq ?_
  refine T_region ?_
  refine TO_cons rfl (TOp_pure (pur_move rfl) rfl ?_)
  obtain ⟨r_7, h_8, H⟩ := bind_inv H
  refine TO_cons rfl (TOp_callS [1] (call_static ent87 rfl) (by decide) rfl rfl rfl rfl rfl rfl (m_spec_l1Once_x _ _ _ h_8) rfl rfl ?_)
  refine TO_env (E' := [(3, (.b 0 0)), (6, (.b 1 0)), (7, (.b 2 0)), (8, (intA r_5.1)), (15, (.b 1 0)), (16, (boolA r_7.1))]) ⟨rfl, rfl, rfl, rfl, rfl, rfl, trivial⟩ ?_
  refine TO_st (σ' := [.box [.n, .n], .box [(sl (tI .u8) r_7.2.b), (intA r_7.2.i), (intA r_7.2.h)], .box [(sl tRelation r_3.1.relations), (sl tFact r_3.1.facts)]]) rfl ?_
  refine TO_nil ?_
  refine T_env (E' := [(3, (.b 0 0)), (6, (.b 1 0)), (7, (.b 2 0)), (8, (intA r_5.1)), (16, (boolA r_7.1))]) ⟨rfl, rfl, rfl, rfl, rfl, trivial⟩ ?_
  refine T_cond (t := r_7.1) rfl (fun c_9 => ?_) (fun c_9 => ?_)
  · replace H := cond_t c_9 H
    refine T_region ?_
    refine TO_cons rfl (TOp_pure (pur_move rfl) rfl ?_)
    refine TO_cons rfl (TOp_lit (nn := 2) (k := 1) sl33 zero3 rfl rfl rfl rfl (by decide) ?_)
    refine TO_st (σ' := [.box [.n, .n], .box [(sl (tI .u8) r_7.2.b), (intA r_7.2.i), (intA r_7.2.h)], .box [(sl tRelation r_3.1.relations), (sl tFact r_3.1.facts)], .row (flat tInt.enc ([-1, 4] : (List Int)))]) rfl ?_
    refine TO_frz1 3 (E' := [(3, (.b 0 0)), (6, (.b 1 0)), (7, (.b 2 0)), (8, (intA r_5.1)), (16, (boolA r_7.1)), (17, (.b 1 0)), (18, (sl tInt ([-1, 4] : (List Int))))]) rfl rfl (Nat.le_of_ble_eq_true rfl) ⟨(.keep rfl), (.keep rfl), (.keep rfl), (.keep rfl), (.keep rfl), (.keep rfl), fz1E, trivial⟩ ?_
    refine TO_st (σ' := [.box [.n, .n], .box [(sl (tI .u8) r_7.2.b), (intA r_7.2.i), (intA r_7.2.h)], .box [(sl tRelation r_3.1.relations), (sl tFact r_3.1.facts)], .dead]) rfl ?_
    obtain ⟨r_10, h_11, H⟩ := bind_inv H
    refine TO_cons rfl (TOp_callS [1] (call_static ent88 rfl) (by decide) rfl rfl rfl rfl rfl rfl (m_spec_l1PickInt_x _ _ _ h_11) rfl rfl ?_)
    refine TO_env (E' := [(3, (.b 0 0)), (6, (.b 1 0)), (7, (.b 2 0)), (8, (intA r_5.1)), (16, (boolA r_7.1)), (17, (.b 1 0)), (18, (sl tInt ([-1, 4] : (List Int)))), (19, (intA r_10.1))]) ⟨rfl, rfl, rfl, rfl, rfl, rfl, rfl, rfl, trivial⟩ ?_
    refine TO_st (σ' := [.box [.n, .n], .box [(sl (tI .u8) r_10.2.b), (intA r_10.2.i), (intA r_10.2.h)], .box [(sl tRelation r_3.1.relations), (sl tFact r_3.1.facts)], .dead]) rfl ?_
    refine TO_cons rfl (TOp_pure (pur_assign rfl) rfl ?_)
    refine TO_nil ?_
    refine T_env (E' := [(3, (.b 0 0)), (6, (.b 1 0)), (7, (.b 2 0)), (8, (intA r_10.1))]) ⟨rfl, rfl, rfl, rfl, trivial⟩ ?_
    obtain ⟨r_12, h_13, H⟩ := bind_inv H
    obtain ⟨r_14, h_15, H⟩ := bind_inv H
    refine T_cutX (fun (_ : Unit) => True) (fun _ => [(2, (.b 1 0)), (3, (.b 0 0)), (4, (intA r_10.1)), (5, (intA (w64 (r_12.1 - (w64 (r_14.1.tdiv 11))))))]) (fun _ => [.box [(sl tRelation r_3.1.relations), (sl tFact r_3.1.facts)], .box [(sl (tI .u8) r_14.2.b), (intA r_14.2.i), (intA r_14.2.h)], .box [(sl tRelation r_3.1.relations), (sl tFact r_3.1.facts)], .dead]) ?_ ?_
    · skip
      refine T_regionP mixed ?_
      refine TA_have 1 #[true, true, true, true, true, true, true, true, true, true, true, true, false] [(2, (.b 1 0)), (3, (.b 0 0)), (4, (intA r_10.1)), (28, (intA (w64 (r_12.1 - (w64 (r_14.1.tdiv 11))))))] [.box [(sl tRelation r_3.1.relations), (sl tFact r_3.1.facts)], .box [(sl (tI .u8) r_14.2.b), (intA r_14.2.i), (intA r_14.2.h)], .box [(sl tRelation r_3.1.relations), (sl tFact r_3.1.facts)], .dead] ?_ (fun hj0_6 => ?_)
      · skip
        refine TA_first 12 #[true, true, true, true, true, true, true, true, true, true, true, true, true] rfl (purI_assign rfl) rfl rfl rfl (by kernel_rfl) (by kernel_rfl) (by kernel_rfl) ?_
        exact TA_nil (by kernel_rfl) (joined () (WeakL.to 4 (Nat.le_of_ble_eq_true rfl) rfl rfl rfl rfl ⟨leR rfl, leR rfl, leR rfl, leR rfl, trivial⟩) trivial)
      refine TA_have 3 #[true, true, true, true, true, true, true, true, true, true, false, false, false] [(2, (.b 1 0)), (3, (.b 0 0)), (21, (.g (tDatabase.enc r_3.1))), (22, (intA r_10.1)), (28, (intA (w64 (r_12.1 - (w64 (r_14.1.tdiv 11))))))] [.box [.n, .n], .box [(sl (tI .u8) r_14.2.b), (intA r_14.2.i), (intA r_14.2.h)], .box [(sl tRelation r_3.1.relations), (sl tFact r_3.1.facts)], .dead] ?_ (fun hj1_6 => ?_)
      · skip
        refine TA_all [10] (by kernel_rfl) (by decide) ⟨⟨_, rfl, rfl, (TOp_storeB sz32 rfl rfl rfl rfl rfl rfl rfl (by decide) (Nat.le_of_ble_eq_true rfl) rfl ?_)⟩, trivial⟩
        refine TA_listed #[true, true, true, true, true, true, true, true, true, true, true, false, false] rfl ?_
        refine TA_st (σ' := [.box [(sl tRelation r_3.1.relations), (sl tFact r_3.1.facts)], .box [(sl (tI .u8) r_14.2.b), (intA r_14.2.i), (intA r_14.2.h)], .box [(sl tRelation r_3.1.relations), (sl tFact r_3.1.facts)], .dead]) rfl ?_
        refine TA_first 11 #[true, true, true, true, true, true, true, true, true, true, true, true, false] rfl (purI_assign rfl) rfl rfl rfl (by kernel_rfl) (by kernel_rfl) (by kernel_rfl) ?_
        refine TA_ghost (E' := [(2, (.b 1 0)), (3, (.b 0 0)), (4, (intA r_10.1)), (28, (intA (w64 (r_12.1 - (w64 (r_14.1.tdiv 11))))))]) (σ' := [.box [(sl tRelation r_3.1.relations), (sl tFact r_3.1.facts)], .box [(sl (tI .u8) r_14.2.b), (intA r_14.2.i), (intA r_14.2.h)], .box [(sl tRelation r_3.1.relations), (sl tFact r_3.1.facts)], .dead]) (Ghost.weak (WeakL.to 4 (Nat.le_of_ble_eq_true rfl) rfl rfl rfl rfl ⟨leR rfl, leR rfl, leR rfl, leR rfl, trivial⟩)) ?_
        exact hj0_6
      refine TA_have 5 #[true, true, true, true, true, true, true, false, false, true, false, false, false] [(2, (.b 1 0)), (3, (.b 0 0)), (21, (.g (tDatabase.enc r_3.1))), (22, (intA r_10.1)), (24, (intA r_12.1)), (26, (intA r_14.1))] [.box [.n, .n], .box [(sl (tI .u8) r_14.2.b), (intA r_14.2.i), (intA r_14.2.h)], .box [(sl tRelation r_3.1.relations), (sl tFact r_3.1.facts)], .dead] ?_ (fun hj2_6 => ?_)
      · skip
        refine TA_all [7, 10] (by kernel_rfl) (by decide) ⟨?_, ?_, trivial⟩
        · skip
          refine ⟨_, rfl, rfl, (TOp_pure (pur_wquo rfl rfl rfl (by decide)) rfl ?_)⟩
          refine TA_listed #[true, true, true, true, true, true, true, true, false, true, false, false, false] rfl ?_
          refine TA_first 8 #[true, true, true, true, true, true, true, true, true, true, false, false, false] rfl (purI_wsub rfl rfl rfl) rfl rfl rfl (by kernel_rfl) (by kernel_rfl) (by kernel_rfl) ?_
          refine TA_ghost (E' := [(2, (.b 1 0)), (3, (.b 0 0)), (21, (.g (tDatabase.enc r_3.1))), (22, (intA r_10.1)), (28, (intA (w64 (r_12.1 - (w64 (r_14.1.tdiv 11))))))]) (σ' := [.box [.n, .n], .box [(sl (tI .u8) r_14.2.b), (intA r_14.2.i), (intA r_14.2.h)], .box [(sl tRelation r_3.1.relations), (sl tFact r_3.1.facts)], .dead]) (Ghost.weak (WeakL.to 4 (Nat.le_of_ble_eq_true rfl) rfl rfl rfl rfl ⟨leR rfl, leR rfl, leR rfl, leR rfl, leR rfl, trivial⟩)) ?_
          exact hj1_6
        · skip
          refine ⟨_, rfl, rfl, (TOp_storeB sz32 rfl rfl rfl rfl rfl rfl rfl (by decide) (Nat.le_of_ble_eq_true rfl) rfl ?_)⟩
          refine TA_listed #[true, true, true, true, true, true, true, false, false, true, true, false, false] rfl ?_
          refine TA_st (σ' := [.box [(sl tRelation r_3.1.relations), (sl tFact r_3.1.facts)], .box [(sl (tI .u8) r_14.2.b), (intA r_14.2.i), (intA r_14.2.h)], .box [(sl tRelation r_3.1.relations), (sl tFact r_3.1.facts)], .dead]) rfl ?_
          refine TA_first 11 #[true, true, true, true, true, true, true, false, false, true, true, true, false] rfl (purI_assign rfl) rfl rfl rfl (by kernel_rfl) (by kernel_rfl) (by kernel_rfl) ?_
          refine TA_all [7] (by kernel_rfl) (by decide) ⟨⟨_, rfl, rfl, (TOp_pure (pur_wquo rfl rfl rfl (by decide)) rfl ?_)⟩, trivial⟩
          refine TA_listed #[true, true, true, true, true, true, true, true, false, true, true, true, false] rfl ?_
          refine TA_first 8 #[true, true, true, true, true, true, true, true, true, true, true, true, false] rfl (purI_wsub rfl rfl rfl) rfl rfl rfl (by kernel_rfl) (by kernel_rfl) (by kernel_rfl) ?_
          refine TA_ghost (E' := [(2, (.b 1 0)), (3, (.b 0 0)), (4, (intA r_10.1)), (28, (intA (w64 (r_12.1 - (w64 (r_14.1.tdiv 11))))))]) (σ' := [.box [(sl tRelation r_3.1.relations), (sl tFact r_3.1.facts)], .box [(sl (tI .u8) r_14.2.b), (intA r_14.2.i), (intA r_14.2.h)], .box [(sl tRelation r_3.1.relations), (sl tFact r_3.1.facts)], .dead]) (Ghost.weak (WeakL.to 4 (Nat.le_of_ble_eq_true rfl) rfl rfl rfl rfl ⟨leR rfl, leR rfl, leR rfl, leR rfl, trivial⟩)) ?_
          exact hj0_6
      refine TA_have 7 #[true, true, true, true, true, true, false, false, false, false, false, false, false] [(3, (.b 0 0)), (20, (.b 1 0)), (21, (.g (tDatabase.enc r_3.1))), (22, (intA r_10.1)), (24, (intA r_12.1)), (25, (.b 1 0))] [.box [.n, .n], .box [(sl (tI .u8) r_12.2.b), (intA r_12.2.i), (intA r_12.2.h)], .box [(sl tRelation r_3.1.relations), (sl tFact r_3.1.facts)], .dead] ?_ (fun hj3_6 => ?_)
      · skip
        refine TA_all [6] (by kernel_rfl) (by decide) ⟨⟨_, rfl, rfl, (TOp_callS [1] (call_static ent83 rfl) (by decide) rfl rfl rfl rfl rfl rfl (m_spec_l1Below_x _ _ _ h_15) rfl rfl ?_)⟩, trivial⟩
        refine TA_listed #[true, true, true, true, true, true, true, false, false, false, false, false, false] rfl ?_
        refine TA_env (E' := [(3, (.b 0 0)), (20, (.b 1 0)), (21, (.g (tDatabase.enc r_3.1))), (22, (intA r_10.1)), (24, (intA r_12.1)), (25, (.b 1 0)), (26, (intA r_14.1))]) ⟨rfl, rfl, rfl, rfl, rfl, rfl, rfl, trivial⟩ ?_
        refine TA_st (σ' := [.box [.n, .n], .box [(sl (tI .u8) r_14.2.b), (intA r_14.2.i), (intA r_14.2.h)], .box [(sl tRelation r_3.1.relations), (sl tFact r_3.1.facts)], .dead]) rfl ?_
        refine TA_first 9 #[true, true, true, true, true, true, true, false, false, true, false, false, false] rfl (purI_assign rfl) rfl rfl rfl (by kernel_rfl) (by kernel_rfl) (by kernel_rfl) ?_
        refine TA_ghost (E' := [(2, (.b 1 0)), (3, (.b 0 0)), (21, (.g (tDatabase.enc r_3.1))), (22, (intA r_10.1)), (24, (intA r_12.1)), (26, (intA r_14.1))]) (σ' := [.box [.n, .n], .box [(sl (tI .u8) r_14.2.b), (intA r_14.2.i), (intA r_14.2.h)], .box [(sl tRelation r_3.1.relations), (sl tFact r_3.1.facts)], .dead]) (Ghost.weak (WeakL.to 4 (Nat.le_of_ble_eq_true rfl) rfl rfl rfl rfl ⟨leR rfl, leR rfl, leR rfl, leR rfl, leR rfl, leR rfl, trivial⟩)) ?_
        exact hj2_6
      refine TA_first 0 #[true, false, false, false, false, false, false, false, false, false, false, false, false] rfl (purI_move rfl) rfl rfl rfl (by kernel_rfl) (by kernel_rfl) (by kernel_rfl) ?_
      refine TA_first 2 #[true, false, true, false, false, false, false, false, false, false, false, false, false] rfl (purI_move rfl) rfl rfl rfl (by kernel_rfl) (by kernel_rfl) (by kernel_rfl) ?_
      refine TA_first 3 #[true, false, true, true, false, false, false, false, false, false, false, false, false] rfl (purI_move rfl) rfl rfl rfl (by kernel_rfl) (by kernel_rfl) (by kernel_rfl) ?_
      refine TA_first 5 #[true, false, true, true, false, true, false, false, false, false, false, false, false] rfl (purI_move rfl) rfl rfl rfl (by kernel_rfl) (by kernel_rfl) (by kernel_rfl) ?_
      refine TA_all [1, 4] (by kernel_rfl) (by decide) ⟨?_, ?_, trivial⟩
      · skip
        refine ⟨_, rfl, rfl, (TOp_pure (pur_ldK_b agg32 rfl rfl (Nat.le_of_ble_eq_true rfl) rfl) rfl ?_)⟩
        refine TA_listed #[true, true, true, true, false, true, false, false, false, false, false, false, false] rfl ?_
        refine TA_all [4] (by kernel_rfl) (by decide) ⟨⟨_, rfl, rfl, (TOp_callS [1] (call_static ent83 rfl) (by decide) rfl rfl rfl rfl rfl rfl (m_spec_l1Below_x _ _ _ h_13) rfl rfl ?_)⟩, trivial⟩
        refine TA_listed #[true, true, true, true, true, true, false, false, false, false, false, false, false] rfl ?_
        refine TA_env (E' := [(3, (.b 0 0)), (6, (.b 1 0)), (7, (.b 2 0)), (8, (intA r_10.1)), (20, (.b 1 0)), (21, (.g (tDatabase.enc r_3.1))), (22, (intA r_10.1)), (23, (.b 1 0)), (24, (intA r_12.1)), (25, (.b 1 0))]) ⟨rfl, rfl, rfl, rfl, rfl, rfl, rfl, rfl, rfl, rfl, trivial⟩ ?_
        refine TA_st (σ' := [.box [.n, .n], .box [(sl (tI .u8) r_12.2.b), (intA r_12.2.i), (intA r_12.2.h)], .box [(sl tRelation r_3.1.relations), (sl tFact r_3.1.facts)], .dead]) rfl ?_
        refine TA_ghost (E' := [(3, (.b 0 0)), (20, (.b 1 0)), (21, (.g (tDatabase.enc r_3.1))), (22, (intA r_10.1)), (24, (intA r_12.1)), (25, (.b 1 0))]) (σ' := [.box [.n, .n], .box [(sl (tI .u8) r_12.2.b), (intA r_12.2.i), (intA r_12.2.h)], .box [(sl tRelation r_3.1.relations), (sl tFact r_3.1.facts)], .dead]) (Ghost.weak (WeakL.to 4 (Nat.le_of_ble_eq_true rfl) rfl rfl rfl rfl ⟨leR rfl, leR rfl, leR rfl, leR rfl, leR rfl, leR rfl, trivial⟩)) ?_
        exact hj3_6
      · skip
        refine ⟨_, rfl, rfl, (TOp_callS [1] (call_static ent83 rfl) (by decide) rfl rfl rfl rfl rfl rfl (m_spec_l1Below_x _ _ _ h_13) rfl rfl ?_)⟩
        refine TA_listed #[true, false, true, true, true, true, false, false, false, false, false, false, false] rfl ?_
        refine TA_env (E' := [(3, (.b 0 0)), (6, (.b 1 0)), (7, (.b 2 0)), (8, (intA r_10.1)), (20, (.b 1 0)), (22, (intA r_10.1)), (23, (.b 1 0)), (24, (intA r_12.1)), (25, (.b 1 0))]) ⟨rfl, rfl, rfl, rfl, rfl, rfl, rfl, rfl, rfl, trivial⟩ ?_
        refine TA_st (σ' := [.box [.n, .n], .box [(sl (tI .u8) r_12.2.b), (intA r_12.2.i), (intA r_12.2.h)], .box [(sl tRelation r_3.1.relations), (sl tFact r_3.1.facts)], .dead]) rfl ?_
        refine TA_all [1, 6] (by kernel_rfl) (by decide) ⟨?_, ?_, trivial⟩
        · skip
          refine ⟨_, rfl, rfl, (TOp_pure (pur_ldK_b agg32 rfl rfl (Nat.le_of_ble_eq_true rfl) rfl) rfl ?_)⟩
          refine TA_listed #[true, true, true, true, true, true, false, false, false, false, false, false, false] rfl ?_
          refine TA_ghost (E' := [(3, (.b 0 0)), (20, (.b 1 0)), (21, (.g (tDatabase.enc r_3.1))), (22, (intA r_10.1)), (24, (intA r_12.1)), (25, (.b 1 0))]) (σ' := [.box [.n, .n], .box [(sl (tI .u8) r_12.2.b), (intA r_12.2.i), (intA r_12.2.h)], .box [(sl tRelation r_3.1.relations), (sl tFact r_3.1.facts)], .dead]) (Ghost.weak (WeakL.to 4 (Nat.le_of_ble_eq_true rfl) rfl rfl rfl rfl ⟨leR rfl, leR rfl, leR rfl, leR rfl, leR rfl, leR rfl, trivial⟩)) ?_
          exact hj3_6
        · skip
          refine ⟨_, rfl, rfl, (TOp_callS [1] (call_static ent83 rfl) (by decide) rfl rfl rfl rfl rfl rfl (m_spec_l1Below_x _ _ _ h_15) rfl rfl ?_)⟩
          refine TA_listed #[true, false, true, true, true, true, true, false, false, false, false, false, false] rfl ?_
          refine TA_env (E' := [(3, (.b 0 0)), (6, (.b 1 0)), (7, (.b 2 0)), (8, (intA r_10.1)), (20, (.b 1 0)), (22, (intA r_10.1)), (23, (.b 1 0)), (24, (intA r_12.1)), (25, (.b 1 0)), (26, (intA r_14.1))]) ⟨rfl, rfl, rfl, rfl, rfl, rfl, rfl, rfl, rfl, rfl, trivial⟩ ?_
          refine TA_st (σ' := [.box [.n, .n], .box [(sl (tI .u8) r_14.2.b), (intA r_14.2.i), (intA r_14.2.h)], .box [(sl tRelation r_3.1.relations), (sl tFact r_3.1.facts)], .dead]) rfl ?_
          refine TA_first 9 #[true, false, true, true, true, true, true, false, false, true, false, false, false] rfl (purI_assign rfl) rfl rfl rfl (by kernel_rfl) (by kernel_rfl) (by kernel_rfl) ?_
          refine TA_env (E' := [(2, (.b 1 0)), (3, (.b 0 0)), (7, (.b 2 0)), (22, (intA r_10.1)), (24, (intA r_12.1)), (26, (intA r_14.1))]) ⟨rfl, rfl, rfl, rfl, rfl, rfl, trivial⟩ ?_
          refine TA_all [1, 7] (by kernel_rfl) (by decide) ⟨?_, ?_, trivial⟩
          · skip
            refine ⟨_, rfl, rfl, (TOp_pure (pur_ldK_b agg32 rfl rfl (Nat.le_of_ble_eq_true rfl) rfl) rfl ?_)⟩
            refine TA_listed #[true, true, true, true, true, true, true, false, false, true, false, false, false] rfl ?_
            refine TA_ghost (E' := [(2, (.b 1 0)), (3, (.b 0 0)), (21, (.g (tDatabase.enc r_3.1))), (22, (intA r_10.1)), (24, (intA r_12.1)), (26, (intA r_14.1))]) (σ' := [.box [.n, .n], .box [(sl (tI .u8) r_14.2.b), (intA r_14.2.i), (intA r_14.2.h)], .box [(sl tRelation r_3.1.relations), (sl tFact r_3.1.facts)], .dead]) (Ghost.weak (WeakL.to 4 (Nat.le_of_ble_eq_true rfl) rfl rfl rfl rfl ⟨leR rfl, leR rfl, leR rfl, leR rfl, leR rfl, leR rfl, trivial⟩)) ?_
            exact hj2_6
          · skip
            refine ⟨_, rfl, rfl, (TOp_pure (pur_wquo rfl rfl rfl (by decide)) rfl ?_)⟩
            refine TA_listed #[true, false, true, true, true, true, true, true, false, true, false, false, false] rfl ?_
            refine TA_first 8 #[true, false, true, true, true, true, true, true, true, true, false, false, false] rfl (purI_wsub rfl rfl rfl) rfl rfl rfl (by kernel_rfl) (by kernel_rfl) (by kernel_rfl) ?_
            refine TA_all [1] (by kernel_rfl) (by decide) ⟨⟨_, rfl, rfl, (TOp_pure (pur_ldK_b agg32 rfl rfl (Nat.le_of_ble_eq_true rfl) rfl) rfl ?_)⟩, trivial⟩
            refine TA_listed #[true, true, true, true, true, true, true, true, true, true, false, false, false] rfl ?_
            refine TA_ghost (E' := [(2, (.b 1 0)), (3, (.b 0 0)), (21, (.g (tDatabase.enc r_3.1))), (22, (intA r_10.1)), (28, (intA (w64 (r_12.1 - (w64 (r_14.1.tdiv 11))))))]) (σ' := [.box [.n, .n], .box [(sl (tI .u8) r_14.2.b), (intA r_14.2.i), (intA r_14.2.h)], .box [(sl tRelation r_3.1.relations), (sl tFact r_3.1.facts)], .dead]) (Ghost.weak (WeakL.to 4 (Nat.le_of_ble_eq_true rfl) rfl rfl rfl rfl ⟨leR rfl, leR rfl, leR rfl, leR rfl, leR rfl, trivial⟩)) ?_
            exact hj1_6
    · rintro _ _
      refine T_env (E' := [(2, (.b 1 0)), (3, (.b 0 0)), (4, (intA r_10.1)), (5, (intA (w64 (r_12.1 - (w64 (r_14.1.tdiv 11))))))]) ⟨rfl, rfl, rfl, rfl, trivial⟩ ?_
      refine T_ret ?_
      obtain rfl := some_inj H
      exact end_pickX (.tmp (.cellK rfl agg32 rfl (Nat.le_of_ble_eq_true rfl) (.tmp (.tmp .nil)))) rfl [1] (by decide) (Nat.le_of_ble_eq_true rfl) rfl (Nat.le_of_ble_eq_true rfl) rfl rfl rfl rfl rfl rfl
  · replace H := cond_f c_9 H
    refine T_skip ?_
    refine T_env (E' := [(3, (.b 0 0)), (6, (.b 1 0)), (7, (.b 2 0)), (8, (intA r_5.1))]) ⟨rfl, rfl, rfl, rfl, trivial⟩ ?_
    obtain ⟨r_16, h_17, H⟩ := bind_inv H
    obtain ⟨r_18, h_19, H⟩ := bind_inv H
    refine T_cutX (fun (_ : Unit) => True) (fun _ => [(2, (.b 1 0)), (3, (.b 0 0)), (4, (intA r_5.1)), (5, (intA (w64 (r_16.1 - (w64 (r_18.1.tdiv 11))))))]) (fun _ => [.box [(sl tRelation r_3.1.relations), (sl tFact r_3.1.facts)], .box [(sl (tI .u8) r_18.2.b), (intA r_18.2.i), (intA r_18.2.h)], .box [(sl tRelation r_3.1.relations), (sl tFact r_3.1.facts)]]) ?_ ?_
    · skip
      refine T_regionP mixed ?_
      refine TA_have 1 #[true, true, true, true, true, true, true, true, true, true, true, true, false] [(2, (.b 1 0)), (3, (.b 0 0)), (4, (intA r_5.1)), (28, (intA (w64 (r_16.1 - (w64 (r_18.1.tdiv 11))))))] [.box [(sl tRelation r_3.1.relations), (sl tFact r_3.1.facts)], .box [(sl (tI .u8) r_18.2.b), (intA r_18.2.i), (intA r_18.2.h)], .box [(sl tRelation r_3.1.relations), (sl tFact r_3.1.facts)]] ?_ (fun hj0_6 => ?_)
      · skip
        refine TA_first 12 #[true, true, true, true, true, true, true, true, true, true, true, true, true] rfl (purI_assign rfl) rfl rfl rfl (by kernel_rfl) (by kernel_rfl) (by kernel_rfl) ?_
        exact TA_nil (by kernel_rfl) (joined () (WeakL.to 3 (Nat.le_of_ble_eq_true rfl) rfl rfl rfl rfl ⟨leR rfl, leR rfl, leR rfl, leR rfl, trivial⟩) trivial)
      refine TA_have 3 #[true, true, true, true, true, true, true, true, true, true, false, false, false] [(2, (.b 1 0)), (3, (.b 0 0)), (21, (.g (tDatabase.enc r_3.1))), (22, (intA r_5.1)), (28, (intA (w64 (r_16.1 - (w64 (r_18.1.tdiv 11))))))] [.box [.n, .n], .box [(sl (tI .u8) r_18.2.b), (intA r_18.2.i), (intA r_18.2.h)], .box [(sl tRelation r_3.1.relations), (sl tFact r_3.1.facts)]] ?_ (fun hj1_6 => ?_)
      · skip
        refine TA_all [10] (by kernel_rfl) (by decide) ⟨⟨_, rfl, rfl, (TOp_storeB sz32 rfl rfl rfl rfl rfl rfl rfl (by decide) (Nat.le_of_ble_eq_true rfl) rfl ?_)⟩, trivial⟩
        refine TA_listed #[true, true, true, true, true, true, true, true, true, true, true, false, false] rfl ?_
        refine TA_st (σ' := [.box [(sl tRelation r_3.1.relations), (sl tFact r_3.1.facts)], .box [(sl (tI .u8) r_18.2.b), (intA r_18.2.i), (intA r_18.2.h)], .box [(sl tRelation r_3.1.relations), (sl tFact r_3.1.facts)]]) rfl ?_
        refine TA_first 11 #[true, true, true, true, true, true, true, true, true, true, true, true, false] rfl (purI_assign rfl) rfl rfl rfl (by kernel_rfl) (by kernel_rfl) (by kernel_rfl) ?_
        refine TA_ghost (E' := [(2, (.b 1 0)), (3, (.b 0 0)), (4, (intA r_5.1)), (28, (intA (w64 (r_16.1 - (w64 (r_18.1.tdiv 11))))))]) (σ' := [.box [(sl tRelation r_3.1.relations), (sl tFact r_3.1.facts)], .box [(sl (tI .u8) r_18.2.b), (intA r_18.2.i), (intA r_18.2.h)], .box [(sl tRelation r_3.1.relations), (sl tFact r_3.1.facts)]]) (Ghost.weak (WeakL.to 3 (Nat.le_of_ble_eq_true rfl) rfl rfl rfl rfl ⟨leR rfl, leR rfl, leR rfl, leR rfl, trivial⟩)) ?_
        exact hj0_6
      refine TA_have 5 #[true, true, true, true, true, true, true, false, false, true, false, false, false] [(2, (.b 1 0)), (3, (.b 0 0)), (21, (.g (tDatabase.enc r_3.1))), (22, (intA r_5.1)), (24, (intA r_16.1)), (26, (intA r_18.1))] [.box [.n, .n], .box [(sl (tI .u8) r_18.2.b), (intA r_18.2.i), (intA r_18.2.h)], .box [(sl tRelation r_3.1.relations), (sl tFact r_3.1.facts)]] ?_ (fun hj2_6 => ?_)
      · skip
        refine TA_all [7, 10] (by kernel_rfl) (by decide) ⟨?_, ?_, trivial⟩
        · skip
          refine ⟨_, rfl, rfl, (TOp_pure (pur_wquo rfl rfl rfl (by decide)) rfl ?_)⟩
          refine TA_listed #[true, true, true, true, true, true, true, true, false, true, false, false, false] rfl ?_
          refine TA_first 8 #[true, true, true, true, true, true, true, true, true, true, false, false, false] rfl (purI_wsub rfl rfl rfl) rfl rfl rfl (by kernel_rfl) (by kernel_rfl) (by kernel_rfl) ?_
          refine TA_ghost (E' := [(2, (.b 1 0)), (3, (.b 0 0)), (21, (.g (tDatabase.enc r_3.1))), (22, (intA r_5.1)), (28, (intA (w64 (r_16.1 - (w64 (r_18.1.tdiv 11))))))]) (σ' := [.box [.n, .n], .box [(sl (tI .u8) r_18.2.b), (intA r_18.2.i), (intA r_18.2.h)], .box [(sl tRelation r_3.1.relations), (sl tFact r_3.1.facts)]]) (Ghost.weak (WeakL.to 3 (Nat.le_of_ble_eq_true rfl) rfl rfl rfl rfl ⟨leR rfl, leR rfl, leR rfl, leR rfl, leR rfl, trivial⟩)) ?_
          exact hj1_6
        · skip
          refine ⟨_, rfl, rfl, (TOp_storeB sz32 rfl rfl rfl rfl rfl rfl rfl (by decide) (Nat.le_of_ble_eq_true rfl) rfl ?_)⟩
          refine TA_listed #[true, true, true, true, true, true, true, false, false, true, true, false, false] rfl ?_
          refine TA_st (σ' := [.box [(sl tRelation r_3.1.relations), (sl tFact r_3.1.facts)], .box [(sl (tI .u8) r_18.2.b), (intA r_18.2.i), (intA r_18.2.h)], .box [(sl tRelation r_3.1.relations), (sl tFact r_3.1.facts)]]) rfl ?_
          refine TA_first 11 #[true, true, true, true, true, true, true, false, false, true, true, true, false] rfl (purI_assign rfl) rfl rfl rfl (by kernel_rfl) (by kernel_rfl) (by kernel_rfl) ?_
          refine TA_all [7] (by kernel_rfl) (by decide) ⟨⟨_, rfl, rfl, (TOp_pure (pur_wquo rfl rfl rfl (by decide)) rfl ?_)⟩, trivial⟩
          refine TA_listed #[true, true, true, true, true, true, true, true, false, true, true, true, false] rfl ?_
          refine TA_first 8 #[true, true, true, true, true, true, true, true, true, true, true, true, false] rfl (purI_wsub rfl rfl rfl) rfl rfl rfl (by kernel_rfl) (by kernel_rfl) (by kernel_rfl) ?_
          refine TA_ghost (E' := [(2, (.b 1 0)), (3, (.b 0 0)), (4, (intA r_5.1)), (28, (intA (w64 (r_16.1 - (w64 (r_18.1.tdiv 11))))))]) (σ' := [.box [(sl tRelation r_3.1.relations), (sl tFact r_3.1.facts)], .box [(sl (tI .u8) r_18.2.b), (intA r_18.2.i), (intA r_18.2.h)], .box [(sl tRelation r_3.1.relations), (sl tFact r_3.1.facts)]]) (Ghost.weak (WeakL.to 3 (Nat.le_of_ble_eq_true rfl) rfl rfl rfl rfl ⟨leR rfl, leR rfl, leR rfl, leR rfl, trivial⟩)) ?_
          exact hj0_6
      refine TA_have 7 #[true, true, true, true, true, true, false, false, false, false, false, false, false] [(3, (.b 0 0)), (20, (.b 1 0)), (21, (.g (tDatabase.enc r_3.1))), (22, (intA r_5.1)), (24, (intA r_16.1)), (25, (.b 1 0))] [.box [.n, .n], .box [(sl (tI .u8) r_16.2.b), (intA r_16.2.i), (intA r_16.2.h)], .box [(sl tRelation r_3.1.relations), (sl tFact r_3.1.facts)]] ?_ (fun hj3_6 => ?_)
      · skip
        refine TA_all [6] (by kernel_rfl) (by decide) ⟨⟨_, rfl, rfl, (TOp_callS [1] (call_static ent83 rfl) (by decide) rfl rfl rfl rfl rfl rfl (m_spec_l1Below_x _ _ _ h_19) rfl rfl ?_)⟩, trivial⟩
        refine TA_listed #[true, true, true, true, true, true, true, false, false, false, false, false, false] rfl ?_
        refine TA_env (E' := [(3, (.b 0 0)), (20, (.b 1 0)), (21, (.g (tDatabase.enc r_3.1))), (22, (intA r_5.1)), (24, (intA r_16.1)), (25, (.b 1 0)), (26, (intA r_18.1))]) ⟨rfl, rfl, rfl, rfl, rfl, rfl, rfl, trivial⟩ ?_
        refine TA_st (σ' := [.box [.n, .n], .box [(sl (tI .u8) r_18.2.b), (intA r_18.2.i), (intA r_18.2.h)], .box [(sl tRelation r_3.1.relations), (sl tFact r_3.1.facts)]]) rfl ?_
        refine TA_first 9 #[true, true, true, true, true, true, true, false, false, true, false, false, false] rfl (purI_assign rfl) rfl rfl rfl (by kernel_rfl) (by kernel_rfl) (by kernel_rfl) ?_
        refine TA_ghost (E' := [(2, (.b 1 0)), (3, (.b 0 0)), (21, (.g (tDatabase.enc r_3.1))), (22, (intA r_5.1)), (24, (intA r_16.1)), (26, (intA r_18.1))]) (σ' := [.box [.n, .n], .box [(sl (tI .u8) r_18.2.b), (intA r_18.2.i), (intA r_18.2.h)], .box [(sl tRelation r_3.1.relations), (sl tFact r_3.1.facts)]]) (Ghost.weak (WeakL.to 3 (Nat.le_of_ble_eq_true rfl) rfl rfl rfl rfl ⟨leR rfl, leR rfl, leR rfl, leR rfl, leR rfl, leR rfl, trivial⟩)) ?_
        exact hj2_6
      refine TA_first 0 #[true, false, false, false, false, false, false, false, false, false, false, false, false] rfl (purI_move rfl) rfl rfl rfl (by kernel_rfl) (by kernel_rfl) (by kernel_rfl) ?_
      refine TA_first 2 #[true, false, true, false, false, false, false, false, false, false, false, false, false] rfl (purI_move rfl) rfl rfl rfl (by kernel_rfl) (by kernel_rfl) (by kernel_rfl) ?_
      refine TA_first 3 #[true, false, true, true, false, false, false, false, false, false, false, false, false] rfl (purI_move rfl) rfl rfl rfl (by kernel_rfl) (by kernel_rfl) (by kernel_rfl) ?_
      refine TA_first 5 #[true, false, true, true, false, true, false, false, false, false, false, false, false] rfl (purI_move rfl) rfl rfl rfl (by kernel_rfl) (by kernel_rfl) (by kernel_rfl) ?_
      refine TA_all [1, 4] (by kernel_rfl) (by decide) ⟨?_, ?_, trivial⟩
      · skip
        refine ⟨_, rfl, rfl, (TOp_pure (pur_ldK_b agg32 rfl rfl (Nat.le_of_ble_eq_true rfl) rfl) rfl ?_)⟩
        refine TA_listed #[true, true, true, true, false, true, false, false, false, false, false, false, false] rfl ?_
        refine TA_all [4] (by kernel_rfl) (by decide) ⟨⟨_, rfl, rfl, (TOp_callS [1] (call_static ent83 rfl) (by decide) rfl rfl rfl rfl rfl rfl (m_spec_l1Below_x _ _ _ h_17) rfl rfl ?_)⟩, trivial⟩
        refine TA_listed #[true, true, true, true, true, true, false, false, false, false, false, false, false] rfl ?_
        refine TA_env (E' := [(3, (.b 0 0)), (6, (.b 1 0)), (7, (.b 2 0)), (8, (intA r_5.1)), (20, (.b 1 0)), (21, (.g (tDatabase.enc r_3.1))), (22, (intA r_5.1)), (23, (.b 1 0)), (24, (intA r_16.1)), (25, (.b 1 0))]) ⟨rfl, rfl, rfl, rfl, rfl, rfl, rfl, rfl, rfl, rfl, trivial⟩ ?_
        refine TA_st (σ' := [.box [.n, .n], .box [(sl (tI .u8) r_16.2.b), (intA r_16.2.i), (intA r_16.2.h)], .box [(sl tRelation r_3.1.relations), (sl tFact r_3.1.facts)]]) rfl ?_
        refine TA_ghost (E' := [(3, (.b 0 0)), (20, (.b 1 0)), (21, (.g (tDatabase.enc r_3.1))), (22, (intA r_5.1)), (24, (intA r_16.1)), (25, (.b 1 0))]) (σ' := [.box [.n, .n], .box [(sl (tI .u8) r_16.2.b), (intA r_16.2.i), (intA r_16.2.h)], .box [(sl tRelation r_3.1.relations), (sl tFact r_3.1.facts)]]) (Ghost.weak (WeakL.to 3 (Nat.le_of_ble_eq_true rfl) rfl rfl rfl rfl ⟨leR rfl, leR rfl, leR rfl, leR rfl, leR rfl, leR rfl, trivial⟩)) ?_
        exact hj3_6
      · skip
        refine ⟨_, rfl, rfl, (TOp_callS [1] (call_static ent83 rfl) (by decide) rfl rfl rfl rfl rfl rfl (m_spec_l1Below_x _ _ _ h_17) rfl rfl ?_)⟩
        refine TA_listed #[true, false, true, true, true, true, false, false, false, false, false, false, false] rfl ?_
        refine TA_env (E' := [(3, (.b 0 0)), (6, (.b 1 0)), (7, (.b 2 0)), (8, (intA r_5.1)), (20, (.b 1 0)), (22, (intA r_5.1)), (23, (.b 1 0)), (24, (intA r_16.1)), (25, (.b 1 0))]) ⟨rfl, rfl, rfl, rfl, rfl, rfl, rfl, rfl, rfl, trivial⟩ ?_
        refine TA_st (σ' := [.box [.n, .n], .box [(sl (tI .u8) r_16.2.b), (intA r_16.2.i), (intA r_16.2.h)], .box [(sl tRelation r_3.1.relations), (sl tFact r_3.1.facts)]]) rfl ?_
        refine TA_all [1, 6] (by kernel_rfl) (by decide) ⟨?_, ?_, trivial⟩
        · skip
          refine ⟨_, rfl, rfl, (TOp_pure (pur_ldK_b agg32 rfl rfl (Nat.le_of_ble_eq_true rfl) rfl) rfl ?_)⟩
          refine TA_listed #[true, true, true, true, true, true, false, false, false, false, false, false, false] rfl ?_
          refine TA_ghost (E' := [(3, (.b 0 0)), (20, (.b 1 0)), (21, (.g (tDatabase.enc r_3.1))), (22, (intA r_5.1)), (24, (intA r_16.1)), (25, (.b 1 0))]) (σ' := [.box [.n, .n], .box [(sl (tI .u8) r_16.2.b), (intA r_16.2.i), (intA r_16.2.h)], .box [(sl tRelation r_3.1.relations), (sl tFact r_3.1.facts)]]) (Ghost.weak (WeakL.to 3 (Nat.le_of_ble_eq_true rfl) rfl rfl rfl rfl ⟨leR rfl, leR rfl, leR rfl, leR rfl, leR rfl, leR rfl, trivial⟩)) ?_
          exact hj3_6
        · skip
          refine ⟨_, rfl, rfl, (TOp_callS [1] (call_static ent83 rfl) (by decide) rfl rfl rfl rfl rfl rfl (m_spec_l1Below_x _ _ _ h_19) rfl rfl ?_)⟩
          refine TA_listed #[true, false, true, true, true, true, true, false, false, false, false, false, false] rfl ?_
          refine TA_env (E' := [(3, (.b 0 0)), (6, (.b 1 0)), (7, (.b 2 0)), (8, (intA r_5.1)), (20, (.b 1 0)), (22, (intA r_5.1)), (23, (.b 1 0)), (24, (intA r_16.1)), (25, (.b 1 0)), (26, (intA r_18.1))]) ⟨rfl, rfl, rfl, rfl, rfl, rfl, rfl, rfl, rfl, rfl, trivial⟩ ?_
          refine TA_st (σ' := [.box [.n, .n], .box [(sl (tI .u8) r_18.2.b), (intA r_18.2.i), (intA r_18.2.h)], .box [(sl tRelation r_3.1.relations), (sl tFact r_3.1.facts)]]) rfl ?_
          refine TA_first 9 #[true, false, true, true, true, true, true, false, false, true, false, false, false] rfl (purI_assign rfl) rfl rfl rfl (by kernel_rfl) (by kernel_rfl) (by kernel_rfl) ?_
          refine TA_env (E' := [(2, (.b 1 0)), (3, (.b 0 0)), (7, (.b 2 0)), (22, (intA r_5.1)), (24, (intA r_16.1)), (26, (intA r_18.1))]) ⟨rfl, rfl, rfl, rfl, rfl, rfl, trivial⟩ ?_
          refine TA_all [1, 7] (by kernel_rfl) (by decide) ⟨?_, ?_, trivial⟩
          · skip
            refine ⟨_, rfl, rfl, (TOp_pure (pur_ldK_b agg32 rfl rfl (Nat.le_of_ble_eq_true rfl) rfl) rfl ?_)⟩
            refine TA_listed #[true, true, true, true, true, true, true, false, false, true, false, false, false] rfl ?_
            refine TA_ghost (E' := [(2, (.b 1 0)), (3, (.b 0 0)), (21, (.g (tDatabase.enc r_3.1))), (22, (intA r_5.1)), (24, (intA r_16.1)), (26, (intA r_18.1))]) (σ' := [.box [.n, .n], .box [(sl (tI .u8) r_18.2.b), (intA r_18.2.i), (intA r_18.2.h)], .box [(sl tRelation r_3.1.relations), (sl tFact r_3.1.facts)]]) (Ghost.weak (WeakL.to 3 (Nat.le_of_ble_eq_true rfl) rfl rfl rfl rfl ⟨leR rfl, leR rfl, leR rfl, leR rfl, leR rfl, leR rfl, trivial⟩)) ?_
            exact hj2_6
          · skip
            refine ⟨_, rfl, rfl, (TOp_pure (pur_wquo rfl rfl rfl (by decide)) rfl ?_)⟩
            refine TA_listed #[true, false, true, true, true, true, true, true, false, true, false, false, false] rfl ?_
            refine TA_first 8 #[true, false, true, true, true, true, true, true, true, true, false, false, false] rfl (purI_wsub rfl rfl rfl) rfl rfl rfl (by kernel_rfl) (by kernel_rfl) (by kernel_rfl) ?_
            refine TA_all [1] (by kernel_rfl) (by decide) ⟨⟨_, rfl, rfl, (TOp_pure (pur_ldK_b agg32 rfl rfl (Nat.le_of_ble_eq_true rfl) rfl) rfl ?_)⟩, trivial⟩
            refine TA_listed #[true, true, true, true, true, true, true, true, true, true, false, false, false] rfl ?_
            refine TA_ghost (E' := [(2, (.b 1 0)), (3, (.b 0 0)), (21, (.g (tDatabase.enc r_3.1))), (22, (intA r_5.1)), (28, (intA (w64 (r_16.1 - (w64 (r_18.1.tdiv 11))))))]) (σ' := [.box [.n, .n], .box [(sl (tI .u8) r_18.2.b), (intA r_18.2.i), (intA r_18.2.h)], .box [(sl tRelation r_3.1.relations), (sl tFact r_3.1.facts)]]) (Ghost.weak (WeakL.to 3 (Nat.le_of_ble_eq_true rfl) rfl rfl rfl rfl ⟨leR rfl, leR rfl, leR rfl, leR rfl, leR rfl, trivial⟩)) ?_
            exact hj1_6
    · rintro _ _
      refine T_env (E' := [(2, (.b 1 0)), (3, (.b 0 0)), (4, (intA r_5.1)), (5, (intA (w64 (r_16.1 - (w64 (r_18.1.tdiv 11))))))]) ⟨rfl, rfl, rfl, rfl, trivial⟩ ?_
      refine T_ret ?_
      obtain rfl := some_inj H
      exact end_pickX (.tmp (.cellK rfl agg32 rfl (Nat.le_of_ble_eq_true rfl) (.tmp (.tmp .nil)))) rfl [1] (by decide) (Nat.le_of_ble_eq_true rfl) rfl (Nat.le_of_ble_eq_true rfl) rfl rfl rfl rfl rfl rfl

set_option maxHeartbeats 1000000 in
/-- spec.l4Places -/
theorem m_spec_l4Places_x (u : Nat) (c0 : l1Cur) (d1 : Database) (r : ((List Int) × l1Cur)) (H : m_spec_l4Places u c0 d1 = some r) : FnS prg 54 [(.b 0 0), (.g (tDatabase.enc d1))] [.box [(sl (tI .u8) c0.b), (intA c0.i), (intA c0.h)]] (.m [1] 0 r.1.length tInt.k) [.box [(sl (tI .u8) r.2.b), (intA r.2.i), (intA r.2.h)], .row (flat tInt.enc r.1)] := by
  unfold m_spec_l4Places at H
  refine fnS_of_T Try.func54 rfl rfl (Nat.le_of_ble_eq_true rfl) ?_
  refine T_env (E' := [(0, (.b 0 0)), (1, (.g (tDatabase.enc d1)))]) ⟨rfl, rfl, trivial⟩ ?_
  refine T_st (σ' := [.box [(sl (tI .u8) c0.b), (intA c0.i), (intA c0.h)]]) rfl ?_
  refine T_seq ?_
  refine T_region ?_
  refine TO_cons rfl (TOp_box rfl (boxAll rfl) rfl rfl ?_)
  refine TO_cons rfl (TOp_pure (pur_assign rfl) rfl ?_)
  refine TO_nil ?_
  refine T_env (E' := [(0, (.b 0 0)), (3, (.b 1 0))]) ⟨rfl, rfl, trivial⟩ ?_
  refine T_seq ?_
  refine T_region ?_
  refine TO_cons rfl (TOp_lit (nn := 0) (k := 1) sl33 zero3 rfl rfl rfl rfl (by decide) ?_)
  refine TO_st (σ' := [.box [(sl (tI .u8) c0.b), (intA c0.i), (intA c0.h)], .box [(sl tRelation d1.relations), (sl tFact d1.facts)], .row (flat tInt.enc ([] : (List Int)))]) rfl ?_
  refine TO_cons rfl (TOp_pure (pur_assign rfl) rfl ?_)
  refine TO_nil ?_
  refine T_env (E' := [(0, (.b 0 0)), (3, (.b 1 0)), (5, (.m [2] 0 ([] : (List Int)).length tInt.k))]) ⟨rfl, rfl, rfl, trivial⟩ ?_
  refine T_seq ?_
  refine T_seq ?_
  refine T_region ?_
  refine TO_cons rfl (TOp_pure (pur_assign rfl) rfl ?_)
  refine TO_nil ?_
  refine T_env (E' := [(0, (.b 0 0)), (3, (.b 1 0)), (5, (.m [2] 0 ([] : (List Int)).length tInt.k)), (6, (intA 0))]) ⟨rfl, rfl, rfl, rfl, trivial⟩ ?_
  obtain ⟨O1_, L1_, N1_⟩ := bind_inv H
  clear H
  obtain ⟨B1_, hb1, L1_⟩ := gen_whileF L1_
  refine T_block ?_
  refine T_loopX (fun k => fun (x_ : (List Int) × Int × l1Cur) => whileF B1_ k (x_.1, x_.2.1, x_.2.2) = some O1_) (fun (x_ : (List Int) × Int × l1Cur) => [(0, (.b 0 0)), (3, (.b 1 0)), (5, (.m [2] 0 x_.1.length tInt.k)), (6, (intA x_.2.1))]) (fun (x_ : (List Int) × Int × l1Cur) => [.box [(sl (tI .u8) x_.2.2.b), (intA x_.2.2.i), (intA x_.2.2.h)], .box [(sl tRelation d1.relations), (sl tFact d1.facts)], .row (flat tInt.enc x_.1)]) u (([] : (List Int)), 0, c0) (WeakL.to 3 (Nat.le_of_ble_eq_true rfl) rfl rfl rfl rfl ⟨leR rfl, leR rfl, leR rfl, leR rfl, trivial⟩) L1_ ?_
  rintro _ ⟨l5, i6, box0⟩ L1_
  obtain ⟨k1, rfl, C1_, H, K1_⟩ := while_step L1_
  rw [hb1] at H
  refine T_env (E' := [(0, (.b 0 0)), (3, (.b 1 0)), (5, (.m [2] 0 l5.length tInt.k)), (6, (intA i6))]) ⟨rfl, rfl, rfl, rfl, trivial⟩ ?_
  refine T_st (σ' := [.box [(sl (tI .u8) box0.b), (intA box0.i), (intA box0.h)], .box [(sl tRelation d1.relations), (sl tFact d1.facts)], .row (flat tInt.enc l5)]) rfl ?_
  refine T_seq ?_
  refine T_seq ?_
  refine T_region ?_
  refine TO_cons rfl (TOp_pure (pur_move rfl) rfl ?_)
  refine TO_cons rfl (TOp_pure (pur_fa_b fld32_1 rfl rfl) rfl ?_)
  refine TO_cons rfl (TOp_pure (pur_ld_b one30 rfl rfl rfl rfl) rfl ?_)
  refine TO_cons rfl (TOp_pure (pur_lenT (T := tFact) sl30 rfl rfl) rfl ?_)
  refine TO_cons rfl (TOp_pure (pur_lss rfl rfl rfl) rfl ?_)
  refine TO_nil ?_
  refine T_env (E' := [(0, (.b 0 0)), (3, (.b 1 0)), (5, (.m [2] 0 l5.length tInt.k)), (6, (intA i6)), (12, (boolA (decide (i6 < (d1.facts.length : Int)))))]) ⟨rfl, rfl, rfl, rfl, rfl, trivial⟩ ?_
  refine T_cond (t := decide (i6 < (d1.facts.length : Int))) rfl (fun c_2 => ?_) (fun c_2 => ?_)
  · replace H := cond_t c_2 H
    refine T_skip ?_
    refine T_env (E' := [(0, (.b 0 0)), (3, (.b 1 0)), (5, (.m [2] 0 l5.length tInt.k)), (6, (intA i6))]) ⟨rfl, rfl, rfl, rfl, trivial⟩ ?_
    refine T_seq ?_
    refine T_block ?_
    refine T_seq ?_
    refine T_region ?_
    refine TO_cons rfl (TOp_pure (pur_move rfl) rfl ?_)
    obtain ⟨r_3, h_4, H⟩ := bind_inv H
    refine TO_cons rfl (TOp_callS [0] (call_static ent87 rfl) (by decide) rfl rfl rfl rfl rfl rfl (m_spec_l1Once_x _ _ _ h_4) rfl rfl ?_)
    refine TO_env (E' := [(0, (.b 0 0)), (3, (.b 1 0)), (5, (.m [2] 0 l5.length tInt.k)), (6, (intA i6)), (15, (.b 0 0)), (16, (boolA r_3.1))]) ⟨rfl, rfl, rfl, rfl, rfl, rfl, trivial⟩ ?_
    refine TO_st (σ' := [.box [(sl (tI .u8) r_3.2.b), (intA r_3.2.i), (intA r_3.2.h)], .box [(sl tRelation d1.relations), (sl tFact d1.facts)], .row (flat tInt.enc l5)]) rfl ?_
    refine TO_nil ?_
    refine T_env (E' := [(0, (.b 0 0)), (3, (.b 1 0)), (5, (.m [2] 0 l5.length tInt.k)), (6, (intA i6)), (16, (boolA r_3.1))]) ⟨rfl, rfl, rfl, rfl, rfl, trivial⟩ ?_
    refine T_cond (t := r_3.1) rfl (fun c_5 => ?_) (fun c_5 => ?_)
    · replace H := cond_t c_5 H
      refine T_region ?_
      refine TO_cons rfl (TOp_pure (pur_move rfl) rfl ?_)
      refine TO_cons rfl (TOp_pure (pur_move rfl) rfl ?_)
      refine TO_cons rfl (TOp_lit (nn := 1) (k := 1) sl33 zero3 rfl rfl rfl rfl (by decide) ?_)
      refine TO_st (σ' := [.box [(sl (tI .u8) r_3.2.b), (intA r_3.2.i), (intA r_3.2.h)], .box [(sl tRelation d1.relations), (sl tFact d1.facts)], .row (flat tInt.enc l5), .row (flat tInt.enc ([i6] : (List Int)))]) rfl ?_
      obtain ⟨us_6, h_7, H⟩ := bind_inv H
      refine TO_cons rfl (TOp_appZ (T := tInt) (f := tInt.enc) (xs := l5) (ys := ([i6] : (List Int))) tInt.len sl33 zero3 rfl bytes3 (by decide) rfl rfl rfl rfl (src_mT (f := tInt.enc) tInt.len rfl rfl (flat_cell tInt _)) (flat_cell tInt _) h_7 (Nat.le_of_ble_eq_true rfl) ?_)
      refine TO_env (E' := [(0, (.b 0 0)), (3, (.b 1 0)), (6, (intA i6)), (16, (boolA r_3.1)), (18, (intA i6)), (19, (.m [3] 0 ([i6] : (List Int)).length tInt.k)), (20, (.m [2] 0 us_6.length tInt.k))]) ⟨rfl, rfl, rfl, rfl, rfl, rfl, rfl, trivial⟩ ?_
      refine TO_st (σ' := [.box [(sl (tI .u8) r_3.2.b), (intA r_3.2.i), (intA r_3.2.h)], .box [(sl tRelation d1.relations), (sl tFact d1.facts)], .row (flat tInt.enc us_6), .row (flat tInt.enc ([i6] : (List Int))), .dead]) rfl ?_
      refine TO_cons rfl (TOp_pure (pur_assign rfl) rfl ?_)
      refine TO_nil ?_
      refine T_env (E' := [(0, (.b 0 0)), (3, (.b 1 0)), (5, (.m [2] 0 us_6.length tInt.k)), (6, (intA i6))]) ⟨rfl, rfl, rfl, rfl, trivial⟩ ?_
      refine T_region ?_
      refine TO_cons rfl (TOp_pure (pur_move rfl) rfl ?_)
      refine TO_cons rfl (TOp_pure (pur_wadd rfl rfl rfl) rfl ?_)
      refine TO_cons rfl (TOp_pure (pur_assign rfl) rfl ?_)
      refine TO_nil ?_
      obtain rfl := some_inj H
      exact again k1 (us_6, (w64 (i6 + 1)), r_3.2) (Nat.lt_succ_self _) (WeakL.to 3 (Nat.le_of_ble_eq_true rfl) rfl rfl rfl rfl ⟨leR rfl, leR rfl, leR rfl, leR rfl, trivial⟩) K1_
    · replace H := cond_f c_5 H
      refine T_skip ?_
      refine T_env (E' := [(0, (.b 0 0)), (3, (.b 1 0)), (5, (.m [2] 0 l5.length tInt.k)), (6, (intA i6))]) ⟨rfl, rfl, rfl, rfl, trivial⟩ ?_
      refine T_region ?_
      refine TO_cons rfl (TOp_pure (pur_move rfl) rfl ?_)
      refine TO_cons rfl (TOp_pure (pur_wadd rfl rfl rfl) rfl ?_)
      refine TO_cons rfl (TOp_pure (pur_assign rfl) rfl ?_)
      refine TO_nil ?_
      obtain rfl := some_inj H
      exact again k1 (l5, (w64 (i6 + 1)), r_3.2) (Nat.lt_succ_self _) (WeakL.to 3 (Nat.le_of_ble_eq_true rfl) rfl rfl rfl rfl ⟨leR rfl, leR rfl, leR rfl, leR rfl, trivial⟩) K1_
  · replace H := cond_f c_2 H
    refine T_exit ?_
    refine then_exit ?_
    refine then_exit ?_
    refine block_exit ?_
    obtain rfl := some_inj H
    obtain rfl := some_inj K1_
    replace H := onS_l N1_
    refine T_env (E' := [(0, (.b 0 0)), (3, (.b 1 0)), (5, (.m [2] 0 l5.length tInt.k))]) ⟨rfl, rfl, rfl, trivial⟩ ?_
    refine T_seq ?_
    obtain ⟨⟨t27_8, box0_8⟩, J_8, H_9⟩ := bind_inv H
    refine T_cutX (fun x => (t27_8, box0_8) = x) (fun (x_ : Bool × l1Cur) => [(0, (.b 0 0)), (3, (.b 1 0)), (5, (.m [2] 0 l5.length tInt.k)), (27, (boolA x_.1))]) (fun (x_ : Bool × l1Cur) => [.box [(sl (tI .u8) x_.2.b), (intA x_.2.i), (intA x_.2.h)], .box [(sl tRelation d1.relations), (sl tFact d1.facts)], .row (flat tInt.enc l5)]) ?_ ?_
    · replace H := J_8
      refine T_region ?_
      refine TO_cons rfl (TOp_pure (pur_move rfl) rfl ?_)
      refine TO_cons rfl (TOp_pure (pur_len_m sl33 rfl rfl) rfl ?_)
      refine TO_cons rfl (TOp_pure (pur_gtr rfl rfl rfl) rfl ?_)
      refine TO_cons rfl (TOp_pure (pur_move rfl) rfl ?_)
      refine TO_split (t := decide (0 < (l5.length : Int))) 24 rfl (fun g_10 => ?_) (fun g_10 => ?_)
      · replace H := cond_t g_10 H
        refine TO_on rfl rfl (by decide) rfl rfl (TOp_pure (pur_move rfl) rfl ?_)
        obtain ⟨r_11, h_12, H⟩ := bind_inv H
        refine TO_on rfl rfl (by decide) rfl rfl (TOp_callS [0] (call_static ent87 rfl) (by decide) rfl rfl rfl rfl rfl rfl (m_spec_l1Once_x _ _ _ h_12) rfl rfl ?_)
        refine TO_env (E' := [(0, (.b 0 0)), (3, (.b 1 0)), (5, (.m [2] 0 l5.length tInt.k)), (21, (.m [2] 0 l5.length tInt.k)), (22, (intA (l5.length : Int))), (23, (boolA (decide (0 < (l5.length : Int))))), (24, (boolA true)), (25, (.b 0 0)), (26, (boolA r_11.1))]) ⟨rfl, rfl, rfl, rfl, rfl, rfl, rfl, rfl, rfl, trivial⟩ ?_
        refine TO_st (σ' := [.box [(sl (tI .u8) r_11.2.b), (intA r_11.2.i), (intA r_11.2.h)], .box [(sl tRelation d1.relations), (sl tFact d1.facts)], .row (flat tInt.enc l5)]) rfl ?_
        refine TO_cons rfl (TOp_pure (pur_pick (t := true) rfl rfl rfl) rfl ?_)
        refine TO_nil ?_
        exact joined (r_11.1, r_11.2) (WeakL.to 3 (Nat.le_of_ble_eq_true rfl) rfl rfl rfl rfl ⟨leR rfl, leR rfl, leR rfl, leR rfl, trivial⟩) (some_inj H).symm
      · replace H := cond_f g_10 H
        refine TO_off rfl rfl (by decide) rfl rfl rfl ?_
        refine TO_off rfl rfl (by decide) rfl rfl rfl ?_
        refine TO_cons rfl (TOp_pure (pur_pick (t := false) rfl rfl rfl) rfl ?_)
        refine TO_nil ?_
        exact joined (false, box0) (WeakL.to 3 (Nat.le_of_ble_eq_true rfl) rfl rfl rfl rfl ⟨leR rfl, leR rfl, leR rfl, leR rfl, trivial⟩) (some_inj H).symm
    · rintro _ rfl
      replace H := H_9
      refine T_env (E' := [(0, (.b 0 0)), (3, (.b 1 0)), (5, (.m [2] 0 l5.length tInt.k)), (27, (boolA t27_8))]) ⟨rfl, rfl, rfl, rfl, trivial⟩ ?_
      refine T_cond (t := t27_8) rfl (fun c_13 => ?_) (fun c_13 => ?_)
      · replace H := cond_t c_13 H
        refine T_region ?_
        refine TO_cons rfl (TOp_pure (pur_move rfl) rfl ?_)
        refine TO_cons rfl (TOp_pure (pur_move rfl) rfl ?_)
        refine TO_cons rfl (TOp_pure (pur_fa_b fld32_1 rfl rfl) rfl ?_)
        refine TO_cons rfl (TOp_pure (pur_ld_b one30 rfl rfl rfl rfl) rfl ?_)
        refine TO_cons rfl (TOp_pure (pur_lenT (T := tFact) sl30 rfl rfl) rfl ?_)
        refine TO_cons rfl (TOp_lit (nn := 3) (k := 1) sl33 zero3 rfl rfl rfl rfl (by decide) ?_)
        refine TO_st (σ' := [.box [(sl (tI .u8) box0_8.b), (intA box0_8.i), (intA box0_8.h)], .box [(sl tRelation d1.relations), (sl tFact d1.facts)], .row (flat tInt.enc l5), .row (flat tInt.enc ([-1, (d1.facts.length : Int), 3] : (List Int)))]) rfl ?_
        refine TO_frz1 3 (E' := [(0, (.b 0 0)), (3, (.b 1 0)), (5, (.m [2] 0 l5.length tInt.k)), (27, (boolA t27_8)), (28, (.m [2] 0 l5.length tInt.k)), (29, (.b 0 0)), (30, (.b 1 1)), (31, (sl tFact d1.facts)), (32, (intA (d1.facts.length : Int))), (33, (sl tInt ([-1, (d1.facts.length : Int), 3] : (List Int))))]) rfl rfl (Nat.le_of_ble_eq_true rfl) ⟨(.keep rfl), (.keep rfl), (.keep rfl), (.keep rfl), (.keep rfl), (.keep rfl), (.keep rfl), (.keep rfl), (.keep rfl), fz1E, trivial⟩ ?_
        refine TO_st (σ' := [.box [(sl (tI .u8) box0_8.b), (intA box0_8.i), (intA box0_8.h)], .box [(sl tRelation d1.relations), (sl tFact d1.facts)], .row (flat tInt.enc l5), .dead]) rfl ?_
        obtain ⟨r_14, h_15, H⟩ := bind_inv H
        refine TO_cons rfl (TOp_callS [0] (call_static ent88 rfl) (by decide) rfl rfl rfl rfl rfl rfl (m_spec_l1PickInt_x _ _ _ h_15) rfl rfl ?_)
        refine TO_env (E' := [(0, (.b 0 0)), (3, (.b 1 0)), (5, (.m [2] 0 l5.length tInt.k)), (27, (boolA t27_8)), (28, (.m [2] 0 l5.length tInt.k)), (29, (.b 0 0)), (30, (.b 1 1)), (31, (sl tFact d1.facts)), (32, (intA (d1.facts.length : Int))), (33, (sl tInt ([-1, (d1.facts.length : Int), 3] : (List Int)))), (34, (intA r_14.1))]) ⟨rfl, rfl, rfl, rfl, rfl, rfl, rfl, rfl, rfl, rfl, rfl, trivial⟩ ?_
        refine TO_st (σ' := [.box [(sl (tI .u8) r_14.2.b), (intA r_14.2.i), (intA r_14.2.h)], .box [(sl tRelation d1.relations), (sl tFact d1.facts)], .row (flat tInt.enc l5), .dead]) rfl ?_
        obtain ⟨v_16, h_17, H⟩ := bind_inv H
        obtain ⟨n_18, hz_19, hv_20⟩ := getI_inv h_17
        refine TO_cons rfl (TOp_pure (pur_ixM (T := tInt) sl33 rfl rfl hz_19 hv_20 rfl) rfl ?_)
        refine TO_cons rfl (TOp_setT (f := tInt.enc) (z := 0) (y := r_14.1) tInt.len tInt.pos hz_19 sz3 rfl rfl rfl rfl rfl hv_20 rfl rfl ?_)
        refine TO_env (E' := [(0, (.b 0 0)), (3, (.b 1 0)), (5, (.m [2] 0 (l5.set (0 : Int).toNat r_14.1).length tInt.k)), (27, (boolA t27_8)), (28, (.m [2] 0 (l5.set (0 : Int).toNat r_14.1).length tInt.k)), (29, (.b 0 0)), (30, (.b 1 1)), (31, (sl tFact d1.facts)), (32, (intA (d1.facts.length : Int))), (33, (sl tInt ([-1, (d1.facts.length : Int), 3] : (List Int)))), (34, (intA r_14.1))]) ⟨rfl, rfl, (congrArg (fun q => A.m [2] 0 q tInt.k) (List.length_set ..).symm), rfl, (congrArg (fun q => A.m [2] 0 q tInt.k) (List.length_set ..).symm), rfl, rfl, rfl, rfl, rfl, rfl, trivial⟩ ?_
        refine TO_st (σ' := [.box [(sl (tI .u8) r_14.2.b), (intA r_14.2.i), (intA r_14.2.h)], .box [(sl tRelation d1.relations), (sl tFact d1.facts)], .row (flat tInt.enc (l5.set (0 : Int).toNat r_14.1)), .dead]) rfl ?_
        refine TO_nil ?_
        refine T_env (E' := [(5, (.m [2] 0 (l5.set (0 : Int).toNat r_14.1).length tInt.k))]) ⟨rfl, trivial⟩ ?_
        refine T_seq ?_
        refine T_region ?_
        refine TO_cons rfl (TOp_pure (pur_move rfl) rfl ?_)
        refine TO_cons rfl (TOp_pure (pur_assign rfl) rfl ?_)
        refine TO_nil ?_
        refine T_env (E' := [(4, (.m [2] 0 (l5.set (0 : Int).toNat r_14.1).length tInt.k))]) ⟨rfl, trivial⟩ ?_
        refine T_ret ?_
        obtain rfl := some_inj H
        exact end_pickX (.tmp .nil) rfl [0, 2] (by decide) (Nat.le_of_ble_eq_true rfl) rfl (Nat.le_of_ble_eq_true rfl) rfl rfl rfl rfl rfl rfl
      · replace H := cond_f c_13 H
        refine T_skip ?_
        refine T_env (E' := [(5, (.m [2] 0 l5.length tInt.k))]) ⟨rfl, trivial⟩ ?_
        refine T_seq ?_
        refine T_region ?_
        refine TO_cons rfl (TOp_pure (pur_move rfl) rfl ?_)
        refine TO_cons rfl (TOp_pure (pur_assign rfl) rfl ?_)
        refine TO_nil ?_
        refine T_env (E' := [(4, (.m [2] 0 l5.length tInt.k))]) ⟨rfl, trivial⟩ ?_
        refine T_ret ?_
        obtain rfl := some_inj H
        exact end_pickX (.tmp .nil) rfl [0, 2] (by decide) (Nat.le_of_ble_eq_true rfl) rfl (Nat.le_of_ble_eq_true rfl) rfl rfl rfl rfl rfl rfl

set_option maxHeartbeats 1000000 in
/-- spec.DrawColumnSum -/
theorem m_spec_DrawColumnSum_ok (u : Nat) (code0 : (List Int)) (r : (Database × (List Int) × Int × Int)) (H : m_spec_DrawColumnSum u code0 = some r) : FnV prg 22 [(sl (tI .u8) code0)] (.t [(.g (tDatabase.enc r.1)), (sl tInt r.2.1), (intA r.2.2.1), (intA r.2.2.2)]) := by
  unfold m_spec_DrawColumnSum at H
  refine fnV_of_T Try.func22 rfl rfl (Nat.le_of_ble_eq_true rfl) ?_
  refine T_env (E' := [(0, (sl (tI .u8) code0))]) ⟨rfl, trivial⟩ ?_
  refine T_seq ?_
  refine T_region ?_
  refine TO_cons rfl (TOp_alloc zero32 rfl rfl ?_)
  refine TO_cons rfl (TOp_pure (pur_assign rfl) rfl ?_)
  refine TO_cons rfl (TOp_pure (pur_assign rfl) rfl ?_)
  refine TO_cons rfl (TOp_pure (pur_assign rfl) rfl ?_)
  refine TO_nil ?_
  refine T_env (E' := [(0, (sl (tI .u8) code0)), (2, (.b 0 0))]) ⟨rfl, rfl, trivial⟩ ?_
  refine T_seq ?_
  refine T_region ?_
  refine TO_cons rfl (TOp_pure (pur_move rfl) rfl ?_)
  obtain ⟨r_1, h_2, H⟩ := bind_inv H
  refine TO_cons rfl (TOp_callS [] (call_static ent53 rfl) (by decide) rfl rfl rfl rfl rfl rfl (m_spec_l27Draw_x u _ _ h_2) rfl rfl ?_)
  refine TO_env (E' := [(0, (sl (tI .u8) code0)), (2, (.b 0 0)), (11, (sl (tI .u8) code0)), (12, (.t [(.b 1 0), (.g (tDatabase.enc r_1.2.1)), (intA r_1.2.2.1), (intA r_1.2.2.2)]))]) ⟨rfl, rfl, rfl, rfl, trivial⟩ ?_
  refine TO_st (σ' := [.box [.n, .n], .box [(sl (tI .u8) r_1.1.b), (intA r_1.1.i), (intA r_1.1.h)]]) rfl ?_
  refine TO_cons rfl (TOp_pure (pur_move rfl) rfl ?_)
  refine TO_cons rfl (TOp_pure (pur_extract rfl rfl rfl) rfl ?_)
  refine TO_cons rfl (TOp_pure (pur_extract rfl rfl rfl) rfl ?_)
  refine TO_cons rfl (TOp_pure (pur_extract rfl rfl rfl) rfl ?_)
  refine TO_cons rfl (TOp_pure (pur_extract rfl rfl rfl) rfl ?_)
  refine TO_cons rfl (TOp_alloc zero32 rfl rfl ?_)
  refine TO_env (E' := [(2, (.b 0 0)), (7, (.b 2 0)), (13, (.b 1 0)), (14, (.g (tDatabase.enc r_1.2.1))), (15, (intA r_1.2.2.1)), (16, (intA r_1.2.2.2))]) ⟨rfl, rfl, rfl, rfl, rfl, rfl, trivial⟩ ?_
  refine TO_cons rfl (TOp_pure (pur_assign rfl) rfl ?_)
  refine TO_cons rfl (TOp_storeB sz32 rfl rfl rfl rfl rfl rfl rfl (by decide) (Nat.le_of_ble_eq_true rfl) rfl ?_)
  refine TO_st (σ' := [.box [.n, .n], .box [(sl (tI .u8) r_1.1.b), (intA r_1.1.i), (intA r_1.1.h)], .box [(sl tRelation r_1.2.1.relations), (sl tFact r_1.2.1.facts)]]) rfl ?_
  refine TO_cons rfl (TOp_pure (pur_assign rfl) rfl ?_)
  refine TO_cons rfl (TOp_pure (pur_assign rfl) rfl ?_)
  refine TO_nil ?_
  refine T_env (E' := [(2, (.b 0 0)), (6, (.b 1 0)), (7, (.b 2 0)), (8, (intA r_1.2.2.1)), (9, (intA r_1.2.2.2))]) ⟨rfl, rfl, rfl, rfl, rfl, trivial⟩ ?_
  obtain ⟨r_3, h_4, H⟩ := bind_inv H
  refine T_pad ?_
  refine T_pad ?_
  refine T_cutX (fun (_ : Unit) => True) (fun _ => [(2, (.b 0 0)), (3, (.m [3] 0 r_3.1.length tInt.k)), (4, (intA r_1.2.2.1)), (5, (intA r_1.2.2.2))]) (fun _ => [.box [(sl tRelation r_1.2.1.relations), (sl tFact r_1.2.1.facts)], .box [(sl (tI .u8) r_3.2.b), (intA r_3.2.i), (intA r_3.2.h)], .box [(sl tRelation r_1.2.1.relations), (sl tFact r_1.2.1.facts)], .row (flat tInt.enc r_3.1)]) ?_ ?_
  · skip
    refine T_regionP mixed ?_
    refine TA_have 4 #[true, true, true, true, true, true, false, false, false, false] [(2, (.b 0 0)), (17, (.g (tDatabase.enc r_1.2.1))), (20, (.m [4] 0 r_3.1.length tInt.k)), (21, (intA r_1.2.2.1)), (22, (intA r_1.2.2.2))] [.box [.n, .n], .box [(sl (tI .u8) r_3.2.b), (intA r_3.2.i), (intA r_3.2.h)], .box [(sl tRelation r_1.2.1.relations), (sl tFact r_1.2.1.facts)], .dead, .row (flat tInt.enc r_3.1)] ?_ (fun hj0_2 => ?_)
    · skip
      refine TA_all [6] (by kernel_rfl) (by decide) ⟨⟨_, rfl, rfl, (TOp_storeB sz32 rfl rfl rfl rfl rfl rfl rfl (by decide) (Nat.le_of_ble_eq_true rfl) rfl ?_)⟩, trivial⟩
      refine TA_listed #[true, true, true, true, true, true, true, false, false, false] rfl ?_
      refine TA_st (σ' := [.box [(sl tRelation r_1.2.1.relations), (sl tFact r_1.2.1.facts)], .box [(sl (tI .u8) r_3.2.b), (intA r_3.2.i), (intA r_3.2.h)], .box [(sl tRelation r_1.2.1.relations), (sl tFact r_1.2.1.facts)], .dead, .row (flat tInt.enc r_3.1)]) rfl ?_
      refine TA_first 7 #[true, true, true, true, true, true, true, true, false, false] rfl (purI_assign rfl) rfl rfl rfl (by kernel_rfl) (by kernel_rfl) (by kernel_rfl) ?_
      refine TA_first 8 #[true, true, true, true, true, true, true, true, true, false] rfl (purI_assign rfl) rfl rfl rfl (by kernel_rfl) (by kernel_rfl) (by kernel_rfl) ?_
      refine TA_first 9 #[true, true, true, true, true, true, true, true, true, true] rfl (purI_assign rfl) rfl rfl rfl (by kernel_rfl) (by kernel_rfl) (by kernel_rfl) ?_
      refine TA_ghost (E' := [(2, (.b 0 0)), (3, (.m [3] 0 r_3.1.length tInt.k)), (4, (intA r_1.2.2.1)), (5, (intA r_1.2.2.2))]) (σ' := [.box [(sl tRelation r_1.2.1.relations), (sl tFact r_1.2.1.facts)], .box [(sl (tI .u8) r_3.2.b), (intA r_3.2.i), (intA r_3.2.h)], .box [(sl tRelation r_1.2.1.relations), (sl tFact r_1.2.1.facts)], .row (flat tInt.enc r_3.1), .dead]) (Ghost.move 3 4 (by decide) (Nat.le_of_ble_eq_true rfl) rfl rfl (Nat.le_of_ble_eq_true rfl) (Ghost.weak (WeakL.to 5 (Nat.le_of_ble_eq_true rfl) rfl rfl rfl rfl ⟨leR rfl, leR rfl, leR rfl, leR rfl, trivial⟩))) ?_
      exact TA_nil (by kernel_rfl) (joined () (WeakL.to 4 (Nat.le_of_ble_eq_true rfl) rfl rfl rfl rfl ⟨leR rfl, leR rfl, leR rfl, leR rfl, trivial⟩) trivial)
    refine TA_have 5 #[true, true, true, false, true, true, false, false, false, false] [(2, (.b 0 0)), (17, (.g (tDatabase.enc r_1.2.1))), (18, (.b 1 0)), (19, (.g (tDatabase.enc r_1.2.1))), (21, (intA r_1.2.2.1)), (22, (intA r_1.2.2.2))] [.box [.n, .n], .box [(sl (tI .u8) r_1.1.b), (intA r_1.1.i), (intA r_1.1.h)], .box [(sl tRelation r_1.2.1.relations), (sl tFact r_1.2.1.facts)], .dead, .dead] ?_ (fun hj1_2 => ?_)
    · skip
      refine TA_all [3] (by kernel_rfl) (by decide) ⟨⟨_, rfl, rfl, (TOp_callS [1] (call_static ent54 rfl) (by decide) rfl rfl rfl rfl rfl rfl (m_spec_l4Places_x u _ _ _ h_4) rfl rfl ?_)⟩, trivial⟩
      refine TA_listed #[true, true, true, true, true, true, false, false, false, false] rfl ?_
      refine TA_env (E' := [(2, (.b 0 0)), (17, (.g (tDatabase.enc r_1.2.1))), (18, (.b 1 0)), (19, (.g (tDatabase.enc r_1.2.1))), (20, (.m [5] 0 r_3.1.length tInt.k)), (21, (intA r_1.2.2.1)), (22, (intA r_1.2.2.2))]) ⟨rfl, rfl, rfl, rfl, rfl, rfl, rfl, trivial⟩ ?_
      refine TA_st (σ' := [.box [.n, .n], .box [(sl (tI .u8) r_3.2.b), (intA r_3.2.i), (intA r_3.2.h)], .box [(sl tRelation r_1.2.1.relations), (sl tFact r_1.2.1.facts)], .dead, .dead, .row (flat tInt.enc r_3.1)]) rfl ?_
      refine TA_ghost (E' := [(2, (.b 0 0)), (17, (.g (tDatabase.enc r_1.2.1))), (18, (.b 1 0)), (19, (.g (tDatabase.enc r_1.2.1))), (20, (.m [4] 0 r_3.1.length tInt.k)), (21, (intA r_1.2.2.1)), (22, (intA r_1.2.2.2))]) (σ' := [.box [.n, .n], .box [(sl (tI .u8) r_3.2.b), (intA r_3.2.i), (intA r_3.2.h)], .box [(sl tRelation r_1.2.1.relations), (sl tFact r_1.2.1.facts)], .dead, .row (flat tInt.enc r_3.1)]) (Ghost.move 4 5 (by decide) (Nat.le_of_ble_eq_true rfl) rfl rfl (Nat.le_of_ble_eq_true rfl) (Ghost.weak (WeakL.to 5 (Nat.le_of_ble_eq_true rfl) rfl rfl rfl rfl ⟨leR rfl, leR rfl, leR rfl, leR rfl, leR rfl, leR rfl, leR rfl, trivial⟩))) ?_
      refine TA_ghost (E' := [(2, (.b 0 0)), (17, (.g (tDatabase.enc r_1.2.1))), (20, (.m [4] 0 r_3.1.length tInt.k)), (21, (intA r_1.2.2.1)), (22, (intA r_1.2.2.2))]) (σ' := [.box [.n, .n], .box [(sl (tI .u8) r_3.2.b), (intA r_3.2.i), (intA r_3.2.h)], .box [(sl tRelation r_1.2.1.relations), (sl tFact r_1.2.1.facts)], .dead, .row (flat tInt.enc r_3.1)]) (Ghost.weak (WeakL.to 5 (Nat.le_of_ble_eq_true rfl) rfl rfl rfl rfl ⟨leR rfl, leR rfl, leR rfl, leR rfl, leR rfl, trivial⟩)) ?_
      exact hj0_2
    refine TA_first 1 #[false, true, false, false, false, false, false, false, false, false] rfl (purI_move rfl) rfl rfl rfl (by kernel_rfl) (by kernel_rfl) (by kernel_rfl) ?_
    refine TA_first 4 #[false, true, false, false, true, false, false, false, false, false] rfl (purI_move rfl) rfl rfl rfl (by kernel_rfl) (by kernel_rfl) (by kernel_rfl) ?_
    refine TA_first 5 #[false, true, false, false, true, true, false, false, false, false] rfl (purI_move rfl) rfl rfl rfl (by kernel_rfl) (by kernel_rfl) (by kernel_rfl) ?_
    refine TA_all [0, 2] (by kernel_rfl) (by decide) ⟨?_, ?_, trivial⟩
    · skip
      refine ⟨_, rfl, rfl, (TOp_pure (pur_ldK_b agg32 rfl rfl (Nat.le_of_ble_eq_true rfl) rfl) rfl ?_)⟩
      refine TA_listed #[true, true, false, false, true, true, false, false, false, false] rfl ?_
      refine TA_all [2] (by kernel_rfl) (by decide) ⟨⟨_, rfl, rfl, (TOp_pure (pur_ldK_b agg32 rfl rfl (Nat.le_of_ble_eq_true rfl) rfl) rfl ?_)⟩, trivial⟩
      refine TA_listed #[true, true, true, false, true, true, false, false, false, false] rfl ?_
      refine TA_ghost (E' := [(2, (.b 0 0)), (17, (.g (tDatabase.enc r_1.2.1))), (18, (.b 1 0)), (19, (.g (tDatabase.enc r_1.2.1))), (21, (intA r_1.2.2.1)), (22, (intA r_1.2.2.2))]) (σ' := [.box [.n, .n], .box [(sl (tI .u8) r_1.1.b), (intA r_1.1.i), (intA r_1.1.h)], .box [(sl tRelation r_1.2.1.relations), (sl tFact r_1.2.1.facts)], .dead, .dead]) (Ghost.weak (WeakL.to 5 (Nat.le_of_ble_eq_true rfl) rfl rfl rfl rfl ⟨leR rfl, leR rfl, leR rfl, leR rfl, leR rfl, leR rfl, trivial⟩)) ?_
      exact hj1_2
    · skip
      refine ⟨_, rfl, rfl, (TOp_pure (pur_ldK_b agg32 rfl rfl (Nat.le_of_ble_eq_true rfl) rfl) rfl ?_)⟩
      refine TA_listed #[false, true, true, false, true, true, false, false, false, false] rfl ?_
      refine TA_all [0, 3] (by kernel_rfl) (by decide) ⟨?_, ?_, trivial⟩
      · skip
        refine ⟨_, rfl, rfl, (TOp_pure (pur_ldK_b agg32 rfl rfl (Nat.le_of_ble_eq_true rfl) rfl) rfl ?_)⟩
        refine TA_listed #[true, true, true, false, true, true, false, false, false, false] rfl ?_
        refine TA_ghost (E' := [(2, (.b 0 0)), (17, (.g (tDatabase.enc r_1.2.1))), (18, (.b 1 0)), (19, (.g (tDatabase.enc r_1.2.1))), (21, (intA r_1.2.2.1)), (22, (intA r_1.2.2.2))]) (σ' := [.box [.n, .n], .box [(sl (tI .u8) r_1.1.b), (intA r_1.1.i), (intA r_1.1.h)], .box [(sl tRelation r_1.2.1.relations), (sl tFact r_1.2.1.facts)], .dead, .dead]) (Ghost.weak (WeakL.to 5 (Nat.le_of_ble_eq_true rfl) rfl rfl rfl rfl ⟨leR rfl, leR rfl, leR rfl, leR rfl, leR rfl, leR rfl, trivial⟩)) ?_
        exact hj1_2
      · skip
        refine ⟨_, rfl, rfl, (TOp_callS [1] (call_static ent54 rfl) (by decide) rfl rfl rfl rfl rfl rfl (m_spec_l4Places_x u _ _ _ h_4) rfl rfl ?_)⟩
        refine TA_listed #[false, true, true, true, true, true, false, false, false, false] rfl ?_
        refine TA_env (E' := [(2, (.b 0 0)), (6, (.b 1 0)), (7, (.b 2 0)), (8, (intA r_1.2.2.1)), (9, (intA r_1.2.2.2)), (18, (.b 1 0)), (19, (.g (tDatabase.enc r_1.2.1))), (20, (.m [5] 0 r_3.1.length tInt.k)), (21, (intA r_1.2.2.1)), (22, (intA r_1.2.2.2))]) ⟨rfl, rfl, rfl, rfl, rfl, rfl, rfl, rfl, rfl, rfl, trivial⟩ ?_
        refine TA_st (σ' := [.box [.n, .n], .box [(sl (tI .u8) r_3.2.b), (intA r_3.2.i), (intA r_3.2.h)], .box [(sl tRelation r_1.2.1.relations), (sl tFact r_1.2.1.facts)], .dead, .dead, .row (flat tInt.enc r_3.1)]) rfl ?_
        refine TA_ghost (E' := [(2, (.b 0 0)), (6, (.b 1 0)), (7, (.b 2 0)), (8, (intA r_1.2.2.1)), (9, (intA r_1.2.2.2)), (18, (.b 1 0)), (19, (.g (tDatabase.enc r_1.2.1))), (20, (.m [4] 0 r_3.1.length tInt.k)), (21, (intA r_1.2.2.1)), (22, (intA r_1.2.2.2))]) (σ' := [.box [.n, .n], .box [(sl (tI .u8) r_3.2.b), (intA r_3.2.i), (intA r_3.2.h)], .box [(sl tRelation r_1.2.1.relations), (sl tFact r_1.2.1.facts)], .dead, .row (flat tInt.enc r_3.1)]) (Ghost.move 4 5 (by decide) (Nat.le_of_ble_eq_true rfl) rfl rfl (Nat.le_of_ble_eq_true rfl) (Ghost.weak (WeakL.to 5 (Nat.le_of_ble_eq_true rfl) rfl rfl rfl rfl ⟨leR rfl, leR rfl, leR rfl, leR rfl, leR rfl, leR rfl, leR rfl, leR rfl, leR rfl, leR rfl, trivial⟩))) ?_
        refine TA_all [0] (by kernel_rfl) (by decide) ⟨⟨_, rfl, rfl, (TOp_pure (pur_ldK_b agg32 rfl rfl (Nat.le_of_ble_eq_true rfl) rfl) rfl ?_)⟩, trivial⟩
        refine TA_listed #[true, true, true, true, true, true, false, false, false, false] rfl ?_
        refine TA_ghost (E' := [(2, (.b 0 0)), (17, (.g (tDatabase.enc r_1.2.1))), (20, (.m [4] 0 r_3.1.length tInt.k)), (21, (intA r_1.2.2.1)), (22, (intA r_1.2.2.2))]) (σ' := [.box [.n, .n], .box [(sl (tI .u8) r_3.2.b), (intA r_3.2.i), (intA r_3.2.h)], .box [(sl tRelation r_1.2.1.relations), (sl tFact r_1.2.1.facts)], .dead, .row (flat tInt.enc r_3.1)]) (Ghost.weak (WeakL.to 5 (Nat.le_of_ble_eq_true rfl) rfl rfl rfl rfl ⟨leR rfl, leR rfl, leR rfl, leR rfl, leR rfl, trivial⟩)) ?_
        exact hj0_2
  · rintro _ _
    refine T_env (E' := [(2, (.b 0 0)), (3, (.m [3] 0 r_3.1.length tInt.k)), (4, (intA r_1.2.2.1)), (5, (intA r_1.2.2.2))]) ⟨rfl, rfl, rfl, rfl, trivial⟩ ?_
    refine T_frz1 3 (E' := [(2, (.b 0 0)), (3, (sl tInt r_3.1)), (4, (intA r_1.2.2.1)), (5, (intA r_1.2.2.2))]) rfl rfl (Nat.le_of_ble_eq_true rfl) ⟨(.keep rfl), fz1E, (.keep rfl), (.keep rfl), trivial⟩ ?_
    refine T_st (σ' := [.box [(sl tRelation r_1.2.1.relations), (sl tFact r_1.2.1.facts)], .box [(sl (tI .u8) r_3.2.b), (intA r_3.2.i), (intA r_3.2.h)], .box [(sl tRelation r_1.2.1.relations), (sl tFact r_1.2.1.facts)], .dead]) rfl ?_
    refine T_ret ?_
    obtain rfl := some_inj H
    refine end_ret (.cellK rfl agg32 rfl (Nat.le_of_ble_eq_true rfl) (.tmp (.tmp (.tmp .nil)))) rfl rfl ⟨?_, rfl⟩
    rfl

set_option maxHeartbeats 1000000 in
/-- impl.within -/
theorem m_impl_within_ok (n0 : Int) (low1 : Int) (high2 : Int) (r : Bool) (H : m_impl_within n0 low1 high2 = some r) : FnV prg 90 [(intA n0), (intA low1), (intA high2)] (boolA r) := by
  unfold m_impl_within at H
  refine fnV_of_T Try.func90 rfl rfl (Nat.le_of_ble_eq_true rfl) ?_
  refine T_env (E' := [(0, (intA n0)), (1, (intA low1)), (2, (intA high2))]) ⟨rfl, rfl, rfl, trivial⟩ ?_
  refine T_seq ?_
  refine T_region ?_
  refine TO_cons rfl (TOp_pure (pur_assign rfl) rfl ?_)
  refine TO_nil ?_
  refine T_env (E' := [(0, (intA n0)), (1, (intA low1)), (2, (intA high2))]) ⟨rfl, rfl, rfl, trivial⟩ ?_
  refine T_cutX (fun x => ((decide (low1 ≤ n0)) && (decide (n0 ≤ high2))) = x) (fun (t6_1 : Bool) => [(6, (boolA t6_1))]) (fun (t6_1 : Bool) => []) ?_ ?_
  · skip
    refine T_region ?_
    refine TO_cons rfl (TOp_pure (pur_move rfl) rfl ?_)
    refine TO_cons rfl (TOp_pure (pur_move rfl) rfl ?_)
    refine TO_cons rfl (TOp_pure (pur_leq rfl rfl rfl) rfl ?_)
    refine TO_cons rfl (TOp_pure (pur_move rfl) rfl ?_)
    refine TO_split (t := decide (low1 ≤ n0)) 10 rfl (fun g_3 => ?_) (fun g_3 => ?_)
    · skip
      refine TO_on rfl rfl (by decide) rfl rfl (TOp_pure (pur_move rfl) rfl ?_)
      refine TO_on rfl rfl (by decide) rfl rfl (TOp_pure (pur_move rfl) rfl ?_)
      refine TO_on rfl rfl (by decide) rfl rfl (TOp_pure (pur_leq rfl rfl rfl) rfl ?_)
      refine TO_cons rfl (TOp_pure (pur_pick (t := true) rfl rfl rfl) rfl ?_)
      refine TO_cons rfl (TOp_pure (pur_assign rfl) rfl ?_)
      refine TO_nil ?_
      exact joined (decide (n0 ≤ high2)) (WeakL.to 0 (Nat.le_of_ble_eq_true rfl) rfl rfl rfl rfl ⟨leR rfl, trivial⟩) (by first | exact Eq.symm ((and_T g_3 rfl)))
    · skip
      refine TO_off rfl rfl (by decide) rfl rfl rfl ?_
      refine TO_off rfl rfl (by decide) rfl rfl rfl ?_
      refine TO_off rfl rfl (by decide) rfl rfl rfl ?_
      refine TO_cons rfl (TOp_pure (pur_pick (t := false) rfl rfl rfl) rfl ?_)
      refine TO_cons rfl (TOp_pure (pur_assign rfl) rfl ?_)
      refine TO_nil ?_
      exact joined false (WeakL.to 0 (Nat.le_of_ble_eq_true rfl) rfl rfl rfl rfl ⟨leR rfl, trivial⟩) (by first | exact Eq.symm ((and_F g_3 rfl)))
  · rintro _ rfl
    refine T_env (E' := [(6, (boolA ((decide (low1 ≤ n0)) && (decide (n0 ≤ high2)))))]) ⟨rfl, trivial⟩ ?_
    refine T_ret ?_
    obtain rfl := some_inj H
    refine end_ret (.tmp .nil) rfl rfl ⟨?_, rfl⟩
    rfl
end Go.Proofs.Ytlcpdlngbofgcaa

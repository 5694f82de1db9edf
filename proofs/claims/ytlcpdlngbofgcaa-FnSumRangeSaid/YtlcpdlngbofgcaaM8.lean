/- Walks. -/
import Derived.Test.YtlcpdlngbofgcaaM1
import Derived.Test.YtlcpdlngbofgcaaM2
import Derived.Test.YtlcpdlngbofgcaaM3
import Derived.Test.YtlcpdlngbofgcaaM4
import Derived.Test.YtlcpdlngbofgcaaM5
import Derived.Test.YtlcpdlngbofgcaaM7
set_option linter.unusedVariables false
set_option linter.unusedSimpArgs false
set_option maxRecDepth 4000
namespace Go.Proofs.Ytlcpdlngbofgcaa
open Go Go.Proofs Go.Sep
set_option maxHeartbeats 1000000 in
/-- spec.l4Any -/
theorem m_spec_l4Any_x (u : Nat) (c0 : l1Cur) (r : (Database × l1Cur)) (H : m_spec_l4Any u c0 = some r) : FnS prg 86 [(.b 0 0)] [.box [(sl (tI .u8) c0.b), (intA c0.i), (intA c0.h)]] (.g (tDatabase.enc r.1)) [.box [(sl (tI .u8) r.2.b), (intA r.2.i), (intA r.2.h)]] := by
  unfold m_spec_l4Any at H
  refine fnS_of_T Try.func86 rfl rfl (Nat.le_of_ble_eq_true rfl) ?_
  refine T_env (E' := [(0, (.b 0 0))]) ⟨rfl, trivial⟩ ?_
  refine T_st (σ' := [.box [(sl (tI .u8) c0.b), (intA c0.i), (intA c0.h)]]) rfl ?_
  refine sr ?_
  refine TO_cons rfl (TOp_alloc zero32 rfl rfl ?_)
  refine TO_nil ?_
  refine T_env (E' := [(0, (.b 0 0)), (2, (.b 1 0))]) ⟨rfl, rfl, trivial⟩ ?_
  refine sr ?_
  refine Tp rfl rfl (pur_move rfl) rfl ?_
  obtain ⟨r_1, h_2, H⟩ := bind_inv H
  refine TO_cons rfl (TOp_callS [0] (call_static ent110 rfl) (by decide) rfl rfl rfl rfl rfl rfl (m_spec_l4Db_x u _ _ h_2) rfl rfl ?_)
  refine TO_env (E' := [(0, (.b 0 0)), (2, (.b 1 0)), (4, (.b 0 0)), (5, (.g [(.m [2] 0 r_1.1.relations.length tRelation.k), (.m [3] 0 r_1.1.facts.length tFact.k)]))]) ⟨rfl, rfl, rfl, rfl, trivial⟩ ?_
  refine TO_st (σ' := [.box [(sl (tI .u8) r_1.2.b), (intA r_1.2.i), (intA r_1.2.h)], .box [.n, .n], .row (flat tRelation.enc r_1.1.relations), .row (flat tFact.enc r_1.1.facts)]) rfl ?_
  refine TO_cons rfl (TOp_alloc zero32 rfl rfl ?_)
  refine TO_cons rfl (TOp_storeB sz32 rfl rfl rfl rfl rfl rfl rfl (by decide) (lb rfl) rfl ?_)
  refine TO_st (σ' := [.box [(sl (tI .u8) r_1.2.b), (intA r_1.2.i), (intA r_1.2.h)], .box [.n, .n], .row (flat tRelation.enc r_1.1.relations), .row (flat tFact.enc r_1.1.facts), .box [(.m [2] 0 r_1.1.relations.length tRelation.k), (.m [3] 0 r_1.1.facts.length tFact.k)]]) rfl ?_
  refine TO_nil ?_
  refine T_env (E' := [(0, (.b 0 0)), (2, (.b 1 0)), (3, (.b 4 0))]) ⟨rfl, rfl, rfl, trivial⟩ ?_
  refine T_seq ?_
  refine sr ?_
  refine Tp rfl rfl (pur_move rfl) rfl ?_
  obtain ⟨r_3, h_4, H⟩ := bind_inv H
  refine TO_cons rfl (TOp_callS [0] (call_static ent83 rfl) (by decide) rfl rfl rfl rfl rfl rfl (m_spec_l1Below_x _ _ _ h_4) rfl rfl ?_)
  refine TO_env (E' := [(0, (.b 0 0)), (2, (.b 1 0)), (3, (.b 4 0)), (6, (.b 0 0)), (7, (intA r_3.1))]) ⟨rfl, rfl, rfl, rfl, rfl, trivial⟩ ?_
  refine TO_st (σ' := [.box [(sl (tI .u8) r_3.2.b), (intA r_3.2.i), (intA r_3.2.h)], .box [.n, .n], .row (flat tRelation.enc r_1.1.relations), .row (flat tFact.enc r_1.1.facts), .box [(.m [2] 0 r_1.1.relations.length tRelation.k), (.m [3] 0 r_1.1.facts.length tFact.k)]]) rfl ?_
  refine TO_nil ?_
  refine T_env (E' := [(0, (.b 0 0)), (2, (.b 1 0)), (3, (.b 4 0)), (7, (intA r_3.1))]) ⟨rfl, rfl, rfl, rfl, trivial⟩ ?_
  refine T_block ?_
  refine sr ?_
  refine Tp rfl rfl (pur_eql rfl rfl rfl) rfl ?_
  refine Tp rfl rfl (pur_assign rfl) rfl ?_
  refine TO_nil ?_
  refine T_env (E' := [(0, (.b 0 0)), (2, (.b 1 0)), (3, (.b 4 0)), (7, (intA r_3.1)), (8, (boolA (decide (r_3.1 = 0))))]) ⟨rfl, rfl, rfl, rfl, rfl, trivial⟩ ?_
  refine T_cond (t := decide (r_3.1 = 0)) rfl (fun c_5 => ?_) (fun c_5 => ?_)
  · replace H := cond_t c_5 H
    obtain ⟨r_6, h_7, H⟩ := bind_inv H
    obtain ⟨us_8, h_9, H⟩ := bind_inv H
    refine T_pad ?_
    refine T_pad ?_
    refine T_regionP mixed ?_
    refine TA_have 3 #[true, true, true, true, true, true, true, false, false, false] [(2, (.b 1 0)), (3, (.b 4 0)), (11, (.m [3] 0 r_1.1.facts.length tFact.k)), (16, (.m [6] 0 ([r_6.1] : (List Fact)).length tFact.k))] [.box [(sl (tI .u8) r_6.2.b), (intA r_6.2.i), (intA r_6.2.h)], .box [.n, .n], .dead, .row (flat tFact.enc r_1.1.facts), .box [(sl tRelation r_1.1.relations), (.m [3] 0 r_1.1.facts.length tFact.k)], .dead, .row (flat tFact.enc ([r_6.1] : (List Fact)))] ?_ (fun hj0_4 => ?_)
    · skip
      refine t1 7 (by kernel_rfl) rfl rfl (TOp_appY (T := tFact) (f := tFact.enc) (xs := r_1.1.facts) (ys := ([r_6.1] : (List Fact))) tFact.len sl30 zero60 rfl bytes60 (by decide) rfl rfl rfl rfl (src_mT (f := tFact.enc) tFact.len rfl rfl (flat_cell tFact _)) (flat_cell tFact _) h_9 ?_)
      refine tmv 3 7 (by decide) (lb rfl) rfl rfl (lb rfl) ?_
      refine tf 8 rfl (purI_fa_b fld32_1 rfl rfl) rfl rfl (by kernel_rfl) ?_
      refine t1 9 (by kernel_rfl) rfl rfl (TOp_storeB sz30 rfl rfl rfl rfl rfl rfl rfl (by decide) (lb rfl) rfl ?_)
      refine TA_st (σ' := [.box [(sl (tI .u8) r_6.2.b), (intA r_6.2.i), (intA r_6.2.h)], .box [.n, .n], .dead, .row (flat tFact.enc us_8), .box [(sl tRelation r_1.1.relations), (.m [3] 0 us_8.length tFact.k)], .dead, .row (flat tFact.enc ([r_6.1] : (List Fact))), .dead]) rfl ?_
      refine TA_nil (by kernel_rfl) ?_
      refine T_env (E' := [(2, (.b 1 0)), (3, (.b 4 0))]) ⟨rfl, rfl, trivial⟩ ?_
      refine sr ?_
      refine Tp rfl rfl (pur_ldK_b agg32 rfl rfl (lb rfl) rfl) rfl ?_
      refine TO_cons rfl (TOp_storeB sz32 rfl rfl rfl rfl rfl rfl rfl (by decide) (lb rfl) rfl ?_)
      refine TO_st (σ' := [.box [(sl (tI .u8) r_6.2.b), (intA r_6.2.i), (intA r_6.2.h)], .box [(sl tRelation r_1.1.relations), (.m [3] 0 us_8.length tFact.k)], .dead, .row (flat tFact.enc us_8), .box [(sl tRelation r_1.1.relations), (.m [3] 0 us_8.length tFact.k)], .dead, .row (flat tFact.enc ([r_6.1] : (List Fact))), .dead]) rfl ?_
      refine TO_nil ?_
      refine T_env (E' := [(2, (.b 1 0))]) ⟨rfl, trivial⟩ ?_
      refine T_frzB 3 (E' := [(2, (.b 1 0))]) (σ' := [.box [(sl (tI .u8) r_6.2.b), (intA r_6.2.i), (intA r_6.2.h)], .box [(sl tRelation r_1.1.relations), (sl tFact us_8)], .dead, .dead, .box [(sl tRelation r_1.1.relations), (sl tFact us_8)], .dead, .row (flat tFact.enc ([r_6.1] : (List Fact))), .dead]) rfl (lb rfl) ?_ ?_ ?_
      · exact ⟨(.keep rfl), trivial⟩
      · exact ⟨(fzK rfl), (fzC (.keep rfl) (fzC fz1E fzN)), trivial, trivial, (fzC (.keep rfl) (fzC fz1E fzN)), trivial, rfl, trivial, trivial⟩
      refine T_ret ?_
      obtain rfl := some_inj H
      exact end_pickX (.cellK rfl agg32 rfl (lb rfl) .nil) rfl [0] (by decide) (lb rfl) rfl (lb rfl) rfl rfl rfl rfl rfl rfl
    refine TA_have 4 #[true, true, true, true, true, true, false, false, false, false] [(2, (.b 1 0)), (3, (.b 4 0)), (11, (.m [3] 0 r_1.1.facts.length tFact.k)), (15, (.g [(intA r_6.1.relation), (sl tInt r_6.1.values)]))] [.box [(sl (tI .u8) r_6.2.b), (intA r_6.2.i), (intA r_6.2.h)], .box [.n, .n], .dead, .row (flat tFact.enc r_1.1.facts), .box [(sl tRelation r_1.1.relations), (.m [3] 0 r_1.1.facts.length tFact.k)], .dead, .dead] ?_ (fun hj1_4 => ?_)
    · skip
      refine t1 6 (by kernel_rfl) rfl rfl (TOp_lit (nn := 1) (k := 2) sl30 zero60 rfl rfl rfl rfl (by decide) ?_)
      refine tmv 6 7 (by decide) (lb rfl) rfl rfl (lb rfl) ?_
      exact tj hj0_4 rfl (wp 7 (lb rfl) rfl rfl rfl rfl ⟨rfl, rfl, rfl, rfl, trivial⟩)
    refine TA_have 5 #[true, true, true, true, true, false, false, false, false, false] [(2, (.b 1 0)), (3, (.b 4 0)), (11, (.m [3] 0 r_1.1.facts.length tFact.k)), (12, (.b 0 0)), (14, (sl tRelation r_1.1.relations))] [.box [(sl (tI .u8) r_3.2.b), (intA r_3.2.i), (intA r_3.2.h)], .box [.n, .n], .dead, .row (flat tFact.enc r_1.1.facts), .box [(sl tRelation r_1.1.relations), (.m [3] 0 r_1.1.facts.length tFact.k)], .dead, .dead] ?_ (fun hj2_4 => ?_)
    · skip
      refine t1 5 (by kernel_rfl) rfl rfl (TOp_callS [0] (call_static ent111 rfl) (by decide) rfl rfl rfl rfl rfl rfl (m_spec_l3Any_x u _ _ _ h_7) rfl rfl ?_)
      refine TA_env (E' := [(2, (.b 1 0)), (3, (.b 4 0)), (11, (.m [3] 0 r_1.1.facts.length tFact.k)), (12, (.b 0 0)), (14, (sl tRelation r_1.1.relations)), (15, (.g [(intA r_6.1.relation), (.m [7] 0 r_6.1.values.length tInt.k)]))]) ⟨rfl, rfl, rfl, rfl, rfl, rfl, trivial⟩ ?_
      refine TA_st (σ' := [.box [(sl (tI .u8) r_6.2.b), (intA r_6.2.i), (intA r_6.2.h)], .box [.n, .n], .dead, .row (flat tFact.enc r_1.1.facts), .box [(sl tRelation r_1.1.relations), (.m [3] 0 r_1.1.facts.length tFact.k)], .dead, .dead, .row (flat tInt.enc r_6.1.values)]) rfl ?_
      refine tmv 5 7 (by decide) (lb rfl) rfl rfl (lb rfl) ?_
      refine TA_ghost (E' := [(2, (.b 1 0)), (3, (.b 4 0)), (11, (.m [3] 0 r_1.1.facts.length tFact.k)), (12, (.b 0 0)), (14, (sl tRelation r_1.1.relations)), (15, (.g [(intA r_6.1.relation), (.m [5] 0 r_6.1.values.length tInt.k)]))]) (σ' := [.box [(sl (tI .u8) r_6.2.b), (intA r_6.2.i), (intA r_6.2.h)], .box [.n, .n], .dead, .row (flat tFact.enc r_1.1.facts), .box [(sl tRelation r_1.1.relations), (.m [3] 0 r_1.1.facts.length tFact.k)], .row (flat tInt.enc r_6.1.values), .dead, .dead]) (Ghost.weak (WeakL.to 8 (lb rfl) rfl rfl rfl rfl ⟨leR rfl, leR rfl, leR rfl, leR rfl, leR rfl, leR rfl, trivial⟩)) ?_
      refine TA_frz1 5 (E' := [(2, (.b 1 0)), (3, (.b 4 0)), (11, (.m [3] 0 r_1.1.facts.length tFact.k)), (12, (.b 0 0)), (14, (sl tRelation r_1.1.relations)), (15, (.g [(intA r_6.1.relation), (sl tInt r_6.1.values)]))]) rfl rfl (lb rfl) ?_ ?_
      · exact ⟨(.keep rfl), (.keep rfl), (.keep rfl), (.keep rfl), (.keep rfl), (fz1G (fzC (.keep rfl) (fzC fz1E fzN))), trivial⟩
      refine TA_st (σ' := [.box [(sl (tI .u8) r_6.2.b), (intA r_6.2.i), (intA r_6.2.h)], .box [.n, .n], .dead, .row (flat tFact.enc r_1.1.facts), .box [(sl tRelation r_1.1.relations), (.m [3] 0 r_1.1.facts.length tFact.k)], .dead, .dead, .dead]) rfl ?_
      exact tj hj1_4 rfl (wp 7 (lb rfl) rfl rfl rfl rfl ⟨rfl, rfl, rfl, rfl, trivial⟩)
    refine tf 0 rfl (purI_fa_b fld32_1 rfl rfl) rfl rfl (by kernel_rfl) ?_
    refine tf 2 rfl (purI_move rfl) rfl rfl (by kernel_rfl) ?_
    refine tf 3 rfl (purI_fa_b fld32_0 rfl rfl) rfl rfl (by kernel_rfl) ?_
    refine TA_all [1, 4] (by kernel_rfl) (by decide) ⟨?_, ?_, trivial⟩
    · skip
      refine ⟨_, rfl, rfl, (TOp_pure (pur_ld_b one30 rfl rfl rfl rfl) rfl ?_)⟩
      refine t1 4 (by kernel_rfl) rfl rfl (TOp_pure (pur_ld_b one29 rfl rfl rfl rfl) rfl ?_)
      refine TA_ghost (E' := [(0, (.b 0 0)), (2, (.b 1 0)), (3, (.b 4 0)), (7, (intA r_3.1)), (8, (boolA (decide (r_3.1 = 0)))), (10, (.b 4 1)), (11, (.m [3] 0 r_1.1.facts.length tFact.k)), (12, (.b 0 0)), (13, (.b 4 0)), (14, (.m [2] 0 r_1.1.relations.length tRelation.k))]) (σ' := [.box [(sl (tI .u8) r_3.2.b), (intA r_3.2.i), (intA r_3.2.h)], .box [.n, .n], .row (flat tRelation.enc r_1.1.relations), .row (flat tFact.enc r_1.1.facts), .box [(.m [2] 0 r_1.1.relations.length tRelation.k), (.m [3] 0 r_1.1.facts.length tFact.k)], .dead, .dead]) (Ghost.weak (WeakL.to 7 (lb rfl) rfl rfl rfl rfl ⟨leR rfl, leR rfl, leR rfl, leR rfl, leR rfl, leR rfl, leR rfl, leR rfl, leR rfl, leR rfl, trivial⟩)) ?_
      refine TA_frzB 2 (E' := [(0, (.b 0 0)), (2, (.b 1 0)), (3, (.b 4 0)), (7, (intA r_3.1)), (8, (boolA (decide (r_3.1 = 0)))), (10, (.b 4 1)), (11, (.m [3] 0 r_1.1.facts.length tFact.k)), (12, (.b 0 0)), (13, (.b 4 0)), (14, (sl tRelation r_1.1.relations))]) (σ' := [.box [(sl (tI .u8) r_3.2.b), (intA r_3.2.i), (intA r_3.2.h)], .box [.n, .n], .dead, .row (flat tFact.enc r_1.1.facts), .box [(sl tRelation r_1.1.relations), (.m [3] 0 r_1.1.facts.length tFact.k)], .dead, .dead]) rfl (lb rfl) ?_ ?_ ?_
      · exact ⟨(.keep rfl), (.keep rfl), (.keep rfl), (.keep rfl), (.keep rfl), (.keep rfl), (.keep rfl), (.keep rfl), (.keep rfl), fz1E, trivial⟩
      · exact ⟨(fzK rfl), (fzK rfl), trivial, rfl, (fzC fz1E (fzC (.keep rfl) fzN)), trivial, trivial, trivial⟩
      exact tj hj2_4 rfl (wp 7 (lb rfl) rfl rfl rfl rfl ⟨rfl, rfl, rfl, rfl, rfl, trivial⟩)
    · skip
      refine ⟨_, rfl, rfl, (TOp_pure (pur_ld_b one29 rfl rfl rfl rfl) rfl ?_)⟩
      refine TA_ghost (E' := [(0, (.b 0 0)), (2, (.b 1 0)), (3, (.b 4 0)), (7, (intA r_3.1)), (8, (boolA (decide (r_3.1 = 0)))), (10, (.b 4 1)), (12, (.b 0 0)), (13, (.b 4 0)), (14, (.m [2] 0 r_1.1.relations.length tRelation.k))]) (σ' := [.box [(sl (tI .u8) r_3.2.b), (intA r_3.2.i), (intA r_3.2.h)], .box [.n, .n], .row (flat tRelation.enc r_1.1.relations), .row (flat tFact.enc r_1.1.facts), .box [(.m [2] 0 r_1.1.relations.length tRelation.k), (.m [3] 0 r_1.1.facts.length tFact.k)], .dead, .dead]) (Ghost.weak (WeakL.to 7 (lb rfl) rfl rfl rfl rfl ⟨leR rfl, leR rfl, leR rfl, leR rfl, leR rfl, leR rfl, leR rfl, leR rfl, leR rfl, trivial⟩)) ?_
      refine TA_frzB 2 (E' := [(0, (.b 0 0)), (2, (.b 1 0)), (3, (.b 4 0)), (7, (intA r_3.1)), (8, (boolA (decide (r_3.1 = 0)))), (10, (.b 4 1)), (12, (.b 0 0)), (13, (.b 4 0)), (14, (sl tRelation r_1.1.relations))]) (σ' := [.box [(sl (tI .u8) r_3.2.b), (intA r_3.2.i), (intA r_3.2.h)], .box [.n, .n], .dead, .row (flat tFact.enc r_1.1.facts), .box [(sl tRelation r_1.1.relations), (.m [3] 0 r_1.1.facts.length tFact.k)], .dead, .dead]) rfl (lb rfl) ?_ ?_ ?_
      · exact ⟨(.keep rfl), (.keep rfl), (.keep rfl), (.keep rfl), (.keep rfl), (.keep rfl), (.keep rfl), (.keep rfl), fz1E, trivial⟩
      · exact ⟨(fzK rfl), (fzK rfl), trivial, rfl, (fzC fz1E (fzC (.keep rfl) fzN)), trivial, trivial, trivial⟩
      refine TA_all [1, 5] (by kernel_rfl) (by decide) ⟨?_, ?_, trivial⟩
      · skip
        refine ⟨_, rfl, rfl, (TOp_pure (pur_ld_b one30 rfl rfl rfl rfl) rfl ?_)⟩
        exact tj hj2_4 rfl (wp 7 (lb rfl) rfl rfl rfl rfl ⟨rfl, rfl, rfl, rfl, rfl, trivial⟩)
      · skip
        refine ⟨_, rfl, rfl, (TOp_callS [0] (call_static ent111 rfl) (by decide) rfl rfl rfl rfl rfl rfl (m_spec_l3Any_x u _ _ _ h_7) rfl rfl ?_)⟩
        refine TA_env (E' := [(0, (.b 0 0)), (2, (.b 1 0)), (3, (.b 4 0)), (7, (intA r_3.1)), (8, (boolA (decide (r_3.1 = 0)))), (10, (.b 4 1)), (12, (.b 0 0)), (13, (.b 4 0)), (14, (sl tRelation r_1.1.relations)), (15, (.g [(intA r_6.1.relation), (.m [7] 0 r_6.1.values.length tInt.k)]))]) ⟨rfl, rfl, rfl, rfl, rfl, rfl, rfl, rfl, rfl, rfl, trivial⟩ ?_
        refine TA_st (σ' := [.box [(sl (tI .u8) r_6.2.b), (intA r_6.2.i), (intA r_6.2.h)], .box [.n, .n], .dead, .row (flat tFact.enc r_1.1.facts), .box [(sl tRelation r_1.1.relations), (.m [3] 0 r_1.1.facts.length tFact.k)], .dead, .dead, .row (flat tInt.enc r_6.1.values)]) rfl ?_
        refine tmv 5 7 (by decide) (lb rfl) rfl rfl (lb rfl) ?_
        refine TA_ghost (E' := [(0, (.b 0 0)), (2, (.b 1 0)), (3, (.b 4 0)), (7, (intA r_3.1)), (8, (boolA (decide (r_3.1 = 0)))), (10, (.b 4 1)), (12, (.b 0 0)), (13, (.b 4 0)), (14, (sl tRelation r_1.1.relations)), (15, (.g [(intA r_6.1.relation), (.m [5] 0 r_6.1.values.length tInt.k)]))]) (σ' := [.box [(sl (tI .u8) r_6.2.b), (intA r_6.2.i), (intA r_6.2.h)], .box [.n, .n], .dead, .row (flat tFact.enc r_1.1.facts), .box [(sl tRelation r_1.1.relations), (.m [3] 0 r_1.1.facts.length tFact.k)], .row (flat tInt.enc r_6.1.values), .dead, .dead]) (Ghost.weak (WeakL.to 8 (lb rfl) rfl rfl rfl rfl ⟨leR rfl, leR rfl, leR rfl, leR rfl, leR rfl, leR rfl, leR rfl, leR rfl, leR rfl, leR rfl, trivial⟩)) ?_
        refine TA_frz1 5 (E' := [(0, (.b 0 0)), (2, (.b 1 0)), (3, (.b 4 0)), (7, (intA r_3.1)), (8, (boolA (decide (r_3.1 = 0)))), (10, (.b 4 1)), (12, (.b 0 0)), (13, (.b 4 0)), (14, (sl tRelation r_1.1.relations)), (15, (.g [(intA r_6.1.relation), (sl tInt r_6.1.values)]))]) rfl rfl (lb rfl) ?_ ?_
        · exact ⟨(.keep rfl), (.keep rfl), (.keep rfl), (.keep rfl), (.keep rfl), (.keep rfl), (.keep rfl), (.keep rfl), (.keep rfl), (fz1G (fzC (.keep rfl) (fzC fz1E fzN))), trivial⟩
        refine TA_st (σ' := [.box [(sl (tI .u8) r_6.2.b), (intA r_6.2.i), (intA r_6.2.h)], .box [.n, .n], .dead, .row (flat tFact.enc r_1.1.facts), .box [(sl tRelation r_1.1.relations), (.m [3] 0 r_1.1.facts.length tFact.k)], .dead, .dead, .dead]) rfl ?_
        refine TA_all [1, 6] (by kernel_rfl) (by decide) ⟨?_, ?_, trivial⟩
        · skip
          refine ⟨_, rfl, rfl, (TOp_pure (pur_ld_b one30 rfl rfl rfl rfl) rfl ?_)⟩
          exact tj hj1_4 rfl (wp 7 (lb rfl) rfl rfl rfl rfl ⟨rfl, rfl, rfl, rfl, trivial⟩)
        · skip
          refine ⟨_, rfl, rfl, (TOp_lit (nn := 1) (k := 2) sl30 zero60 rfl rfl rfl rfl (by decide) ?_)⟩
          refine tmv 6 8 (by decide) (lb rfl) rfl rfl (lb rfl) ?_
          refine t1 1 (by kernel_rfl) rfl rfl (TOp_pure (pur_ld_b one30 rfl rfl rfl rfl) rfl ?_)
          exact tj hj0_4 rfl (wp 7 (lb rfl) rfl rfl rfl rfl ⟨rfl, rfl, rfl, rfl, trivial⟩)
  · replace H := cond_f c_5 H
    refine sr ?_
    refine Tp rfl rfl (pur_eql rfl rfl rfl) rfl ?_
    refine Tp rfl rfl (pur_assign rfl) rfl ?_
    refine TO_nil ?_
    refine T_env (E' := [(0, (.b 0 0)), (2, (.b 1 0)), (3, (.b 4 0)), (7, (intA r_3.1)), (19, (boolA (decide (r_3.1 = 1))))]) ⟨rfl, rfl, rfl, rfl, rfl, trivial⟩ ?_
    refine T_cond (t := decide (r_3.1 = 1)) rfl (fun c_10 => ?_) (fun c_10 => ?_)
    · replace H := cond_t c_10 H
      obtain ⟨r_11, h_12, H⟩ := bind_inv H
      obtain ⟨ys_13, h_14, H⟩ := bind_inv H
      obtain ⟨i_15, j_16, hi_17, hj_18, hij_19, hjl_20, hys_21, _⟩ := cutI_inv h_14
      refine T_regionP mixed ?_
      refine TA_have 3 #[true, true, true, true, false, false, false] [(2, (.b 1 0)), (3, (.b 4 0)), (22, (.m [2] 0 r_1.1.relations.length tRelation.k)), (24, (intA r_11.1))] [.box [(sl (tI .u8) r_11.2.b), (intA r_11.2.i), (intA r_11.2.h)], .box [.n, .n], .row (flat tRelation.enc r_1.1.relations), .row (flat tFact.enc r_1.1.facts), .box [(.m [2] 0 r_1.1.relations.length tRelation.k), (.m [3] 0 r_1.1.facts.length tFact.k)]] ?_ (fun hj0_6 => ?_)
      · skip
        refine tf 4 rfl (purI_cutM (lo := none) (hi := (some (.tmp 24))) sl29 rfl hi_17.symm ⟨_, congrArg (fun z => A.v (.int .i64 z)) hj_18⟩ hij_19 hjl_20 rfl) rfl rfl (by kernel_rfl) ?_
        refine tf 5 rfl (purI_fa_b fld32_0 rfl rfl) rfl rfl (by kernel_rfl) ?_
        refine t1 6 (by kernel_rfl) rfl rfl (TOp_storeB sz29 rfl rfl rfl rfl rfl rfl rfl (by decide) (lb rfl) rfl ?_)
        refine TA_st (σ' := [.box [(sl (tI .u8) r_11.2.b), (intA r_11.2.i), (intA r_11.2.h)], .box [.n, .n], .row (flat tRelation.enc r_1.1.relations), .row (flat tFact.enc r_1.1.facts), .box [(.m [2] (i_15 * tRelation.k) (j_16 - i_15) tRelation.k), (.m [3] 0 r_1.1.facts.length tFact.k)]]) rfl ?_
        refine TA_nil (by kernel_rfl) ?_
        refine T_env (E' := [(2, (.b 1 0)), (3, (.b 4 0))]) ⟨rfl, rfl, trivial⟩ ?_
        refine sr ?_
        refine Tp rfl rfl (pur_ldK_b agg32 rfl rfl (lb rfl) rfl) rfl ?_
        refine TO_cons rfl (TOp_storeB sz32 rfl rfl rfl rfl rfl rfl rfl (by decide) (lb rfl) rfl ?_)
        refine TO_st (σ' := [.box [(sl (tI .u8) r_11.2.b), (intA r_11.2.i), (intA r_11.2.h)], .box [(.m [2] (i_15 * tRelation.k) (j_16 - i_15) tRelation.k), (.m [3] 0 r_1.1.facts.length tFact.k)], .row (flat tRelation.enc r_1.1.relations), .row (flat tFact.enc r_1.1.facts), .box [(.m [2] (i_15 * tRelation.k) (j_16 - i_15) tRelation.k), (.m [3] 0 r_1.1.facts.length tFact.k)]]) rfl ?_
        refine TO_nil ?_
        refine T_env (E' := [(2, (.b 1 0))]) ⟨rfl, trivial⟩ ?_
        refine T_frzB 2 (E' := [(2, (.b 1 0))]) (σ' := [.box [(sl (tI .u8) r_11.2.b), (intA r_11.2.i), (intA r_11.2.h)], .box [(sl tRelation ys_13), (.m [3] 0 r_1.1.facts.length tFact.k)], .dead, .row (flat tFact.enc r_1.1.facts), .box [(sl tRelation ys_13), (.m [3] 0 r_1.1.facts.length tFact.k)]]) rfl (lb rfl) ?_ ?_ ?_
        · exact ⟨(.keep rfl), trivial⟩
        · exact ⟨(fzK rfl), (fzC (fz1C hij_19 hjl_20 hys_21) (fzC (.keep rfl) fzN)), trivial, rfl, (fzC (fz1C hij_19 hjl_20 hys_21) (fzC (.keep rfl) fzN)), trivial⟩
        refine T_frzB 3 (E' := [(2, (.b 1 0))]) (σ' := [.box [(sl (tI .u8) r_11.2.b), (intA r_11.2.i), (intA r_11.2.h)], .box [(sl tRelation ys_13), (sl tFact r_1.1.facts)], .dead, .dead, .box [(sl tRelation ys_13), (sl tFact r_1.1.facts)]]) rfl (lb rfl) ?_ ?_ ?_
        · exact ⟨(.keep rfl), trivial⟩
        · exact ⟨(fzK rfl), (fzC (.keep rfl) (fzC fz1E fzN)), trivial, trivial, (fzC (.keep rfl) (fzC fz1E fzN)), trivial⟩
        refine T_ret ?_
        obtain rfl := some_inj H
        exact end_pickX (.cellK rfl agg32 rfl (lb rfl) .nil) rfl [0] (by decide) (lb rfl) rfl (lb rfl) rfl rfl rfl rfl rfl rfl
      refine tf 0 rfl (purI_fa_b fld32_0 rfl rfl) rfl rfl (by kernel_rfl) ?_
      refine tf 2 rfl (purI_move rfl) rfl rfl (by kernel_rfl) ?_
      refine TA_all [1, 3] (by kernel_rfl) (by decide) ⟨?_, ?_, trivial⟩
      · skip
        refine ⟨_, rfl, rfl, (TOp_pure (pur_ld_b one29 rfl rfl rfl rfl) rfl ?_)⟩
        refine t1 3 (by kernel_rfl) rfl rfl (TOp_callS [0] (call_static ent83 rfl) (by decide) rfl rfl rfl rfl rfl rfl (m_spec_l1Below_x _ _ _ h_12) rfl rfl ?_)
        refine TA_env (E' := [(0, (.b 0 0)), (2, (.b 1 0)), (3, (.b 4 0)), (7, (intA r_3.1)), (19, (boolA (decide (r_3.1 = 1)))), (21, (.b 4 0)), (22, (.m [2] 0 r_1.1.relations.length tRelation.k)), (23, (.b 0 0)), (24, (intA r_11.1))]) ⟨rfl, rfl, rfl, rfl, rfl, rfl, rfl, rfl, rfl, trivial⟩ ?_
        refine TA_st (σ' := [.box [(sl (tI .u8) r_11.2.b), (intA r_11.2.i), (intA r_11.2.h)], .box [.n, .n], .row (flat tRelation.enc r_1.1.relations), .row (flat tFact.enc r_1.1.facts), .box [(.m [2] 0 r_1.1.relations.length tRelation.k), (.m [3] 0 r_1.1.facts.length tFact.k)]]) rfl ?_
        exact tj hj0_6 rfl (wp 5 (lb rfl) rfl rfl rfl rfl ⟨rfl, rfl, rfl, rfl, trivial⟩)
      · skip
        refine ⟨_, rfl, rfl, (TOp_callS [0] (call_static ent83 rfl) (by decide) rfl rfl rfl rfl rfl rfl (m_spec_l1Below_x _ _ _ h_12) rfl rfl ?_)⟩
        refine TA_env (E' := [(0, (.b 0 0)), (2, (.b 1 0)), (3, (.b 4 0)), (7, (intA r_3.1)), (19, (boolA (decide (r_3.1 = 1)))), (21, (.b 4 0)), (23, (.b 0 0)), (24, (intA r_11.1))]) ⟨rfl, rfl, rfl, rfl, rfl, rfl, rfl, rfl, trivial⟩ ?_
        refine TA_st (σ' := [.box [(sl (tI .u8) r_11.2.b), (intA r_11.2.i), (intA r_11.2.h)], .box [.n, .n], .row (flat tRelation.enc r_1.1.relations), .row (flat tFact.enc r_1.1.facts), .box [(.m [2] 0 r_1.1.relations.length tRelation.k), (.m [3] 0 r_1.1.facts.length tFact.k)]]) rfl ?_
        refine t1 1 (by kernel_rfl) rfl rfl (TOp_pure (pur_ld_b one29 rfl rfl rfl rfl) rfl ?_)
        exact tj hj0_6 rfl (wp 5 (lb rfl) rfl rfl rfl rfl ⟨rfl, rfl, rfl, rfl, trivial⟩)
    · replace H := cond_f c_10 H
      refine sr ?_
      refine Tp rfl rfl (pur_eql rfl rfl rfl) rfl ?_
      refine Tp rfl rfl (pur_assign rfl) rfl ?_
      refine TO_nil ?_
      refine T_env (E' := [(0, (.b 0 0)), (2, (.b 1 0)), (3, (.b 4 0)), (27, (boolA (decide (r_3.1 = 2))))]) ⟨rfl, rfl, rfl, rfl, trivial⟩ ?_
      refine T_cond (t := decide (r_3.1 = 2)) rfl (fun c_22 => ?_) (fun c_22 => ?_)
      · replace H := cond_t c_22 H
        obtain ⟨r_23, h_24, H⟩ := bind_inv H
        obtain ⟨r_25, h_26, H⟩ := bind_inv H
        obtain ⟨v_27, h_28, H⟩ := bind_inv H
        obtain ⟨n_29, hz_30, hv_31⟩ := getI_inv h_28
        refine T_regionP mixed ?_
        refine TA_have 2 #[true, true, true, true, true, true, false, false] [(2, (.b 1 0)), (3, (.b 4 0)), (30, (.m [2] 0 r_1.1.relations.length tRelation.k)), (32, (intA r_23.1)), (34, (.g (tRelation.enc r_25.1)))] [.box [(sl (tI .u8) r_25.2.b), (intA r_25.2.i), (intA r_25.2.h)], .box [.n, .n], .row (flat tRelation.enc r_1.1.relations), .row (flat tFact.enc r_1.1.facts), .box [(.m [2] 0 r_1.1.relations.length tRelation.k), (.m [3] 0 r_1.1.facts.length tFact.k)]] ?_ (fun hj0_8 => ?_)
        · skip
          refine tf 6 rfl (purI_ixM (T := tRelation) sl29 rfl rfl hz_30 hv_31 rfl) rfl rfl (by kernel_rfl) ?_
          refine t1 7 (by kernel_rfl) rfl rfl (TOp_setT (f := tRelation.enc) (z := r_23.1) (y := r_25.1) tRelation.len tRelation.pos hz_30 sz97 rfl rfl rfl rfl rfl hv_31 rfl rfl ?_)
          refine TA_env (E' := [(2, (.b 1 0)), (3, (.b 4 0)), (30, (.m [2] 0 (r_1.1.relations.set (r_23.1).toNat r_25.1).length tRelation.k)), (32, (intA r_23.1)), (34, (.g (tRelation.enc r_25.1)))]) ⟨rfl, rfl, (congrArg (fun q => A.m [2] 0 q tRelation.k) (List.length_set ..).symm), rfl, rfl, trivial⟩ ?_
          refine TA_st (σ' := [.box [(sl (tI .u8) r_25.2.b), (intA r_25.2.i), (intA r_25.2.h)], .box [.n, .n], .row (flat tRelation.enc (r_1.1.relations.set (r_23.1).toNat r_25.1)), .row (flat tFact.enc r_1.1.facts), .box [(.m [2] 0 r_1.1.relations.length tRelation.k), (.m [3] 0 r_1.1.facts.length tFact.k)]]) rfl ?_
          refine TA_st (σ' := [.box [(sl (tI .u8) r_25.2.b), (intA r_25.2.i), (intA r_25.2.h)], .box [.n, .n], .row (flat tRelation.enc (r_1.1.relations.set (r_23.1).toNat r_25.1)), .row (flat tFact.enc r_1.1.facts), .box [(.m [2] 0 (r_1.1.relations.set (r_23.1).toNat r_25.1).length tRelation.k), (.m [3] 0 r_1.1.facts.length tFact.k)]]) (by simp only [List.length_set]) ?_
          refine TA_nil (by kernel_rfl) ?_
          refine T_env (E' := [(2, (.b 1 0)), (3, (.b 4 0))]) ⟨rfl, rfl, trivial⟩ ?_
          refine sr ?_
          refine Tp rfl rfl (pur_ldK_b agg32 rfl rfl (lb rfl) rfl) rfl ?_
          refine TO_cons rfl (TOp_storeB sz32 rfl rfl rfl rfl rfl rfl rfl (by decide) (lb rfl) rfl ?_)
          refine TO_st (σ' := [.box [(sl (tI .u8) r_25.2.b), (intA r_25.2.i), (intA r_25.2.h)], .box [(.m [2] 0 (r_1.1.relations.set (r_23.1).toNat r_25.1).length tRelation.k), (.m [3] 0 r_1.1.facts.length tFact.k)], .row (flat tRelation.enc (r_1.1.relations.set (r_23.1).toNat r_25.1)), .row (flat tFact.enc r_1.1.facts), .box [(.m [2] 0 (r_1.1.relations.set (r_23.1).toNat r_25.1).length tRelation.k), (.m [3] 0 r_1.1.facts.length tFact.k)]]) rfl ?_
          refine TO_nil ?_
          refine T_env (E' := [(2, (.b 1 0))]) ⟨rfl, trivial⟩ ?_
          refine T_frzB 2 (E' := [(2, (.b 1 0))]) (σ' := [.box [(sl (tI .u8) r_25.2.b), (intA r_25.2.i), (intA r_25.2.h)], .box [(sl tRelation (r_1.1.relations.set (r_23.1).toNat r_25.1)), (.m [3] 0 r_1.1.facts.length tFact.k)], .dead, .row (flat tFact.enc r_1.1.facts), .box [(sl tRelation (r_1.1.relations.set (r_23.1).toNat r_25.1)), (.m [3] 0 r_1.1.facts.length tFact.k)]]) rfl (lb rfl) ?_ ?_ ?_
          · exact ⟨(.keep rfl), trivial⟩
          · exact ⟨(fzK rfl), (fzC fz1E (fzC (.keep rfl) fzN)), trivial, rfl, (fzC fz1E (fzC (.keep rfl) fzN)), trivial⟩
          refine T_frzB 3 (E' := [(2, (.b 1 0))]) (σ' := [.box [(sl (tI .u8) r_25.2.b), (intA r_25.2.i), (intA r_25.2.h)], .box [(sl tRelation (r_1.1.relations.set (r_23.1).toNat r_25.1)), (sl tFact r_1.1.facts)], .dead, .dead, .box [(sl tRelation (r_1.1.relations.set (r_23.1).toNat r_25.1)), (sl tFact r_1.1.facts)]]) rfl (lb rfl) ?_ ?_ ?_
          · exact ⟨(.keep rfl), trivial⟩
          · exact ⟨(fzK rfl), (fzC (.keep rfl) (fzC fz1E fzN)), trivial, trivial, (fzC (.keep rfl) (fzC fz1E fzN)), trivial⟩
          refine T_ret ?_
          obtain rfl := some_inj H
          exact end_pickX (.cellK rfl agg32 rfl (lb rfl) .nil) rfl [0] (by decide) (lb rfl) rfl (lb rfl) rfl rfl rfl rfl rfl rfl
        refine TA_have 3 #[true, true, true, true, true, false, false, false] [(2, (.b 1 0)), (3, (.b 4 0)), (30, (.m [2] 0 r_1.1.relations.length tRelation.k)), (32, (intA r_23.1)), (33, (.b 0 0))] [.box [(sl (tI .u8) r_23.2.b), (intA r_23.2.i), (intA r_23.2.h)], .box [.n, .n], .row (flat tRelation.enc r_1.1.relations), .row (flat tFact.enc r_1.1.facts), .box [(.m [2] 0 r_1.1.relations.length tRelation.k), (.m [3] 0 r_1.1.facts.length tFact.k)]] ?_ (fun hj1_8 => ?_)
        · skip
          refine t1 5 (by kernel_rfl) rfl rfl (TOp_callS [0] (call_static ent112 rfl) (by decide) rfl rfl rfl rfl rfl rfl (m_spec_l2Any_x _ _ h_26) rfl rfl ?_)
          refine TA_env (E' := [(2, (.b 1 0)), (3, (.b 4 0)), (30, (.m [2] 0 r_1.1.relations.length tRelation.k)), (32, (intA r_23.1)), (33, (.b 0 0)), (34, (.g (tRelation.enc r_25.1)))]) ⟨rfl, rfl, rfl, rfl, rfl, rfl, trivial⟩ ?_
          refine TA_st (σ' := [.box [(sl (tI .u8) r_25.2.b), (intA r_25.2.i), (intA r_25.2.h)], .box [.n, .n], .row (flat tRelation.enc r_1.1.relations), .row (flat tFact.enc r_1.1.facts), .box [(.m [2] 0 r_1.1.relations.length tRelation.k), (.m [3] 0 r_1.1.facts.length tFact.k)]]) rfl ?_
          exact tj hj0_8 rfl (wp 5 (lb rfl) rfl rfl rfl rfl ⟨rfl, rfl, rfl, rfl, rfl, trivial⟩)
        refine tf 0 rfl (purI_fa_b fld32_0 rfl rfl) rfl rfl (by kernel_rfl) ?_
        refine tf 2 rfl (purI_move rfl) rfl rfl (by kernel_rfl) ?_
        refine tf 4 rfl (purI_move rfl) rfl rfl (by kernel_rfl) ?_
        refine TA_all [1, 3] (by kernel_rfl) (by decide) ⟨?_, ?_, trivial⟩
        · skip
          refine ⟨_, rfl, rfl, (TOp_pure (pur_ld_b one29 rfl rfl rfl rfl) rfl ?_)⟩
          refine t1 3 (by kernel_rfl) rfl rfl (TOp_callS [0] (call_static ent83 rfl) (by decide) rfl rfl rfl rfl rfl rfl (m_spec_l1Below_x _ _ _ h_24) rfl rfl ?_)
          refine TA_env (E' := [(0, (.b 0 0)), (2, (.b 1 0)), (3, (.b 4 0)), (27, (boolA (decide (r_3.1 = 2)))), (29, (.b 4 0)), (30, (.m [2] 0 r_1.1.relations.length tRelation.k)), (31, (.b 0 0)), (32, (intA r_23.1)), (33, (.b 0 0))]) ⟨rfl, rfl, rfl, rfl, rfl, rfl, rfl, rfl, rfl, trivial⟩ ?_
          refine TA_st (σ' := [.box [(sl (tI .u8) r_23.2.b), (intA r_23.2.i), (intA r_23.2.h)], .box [.n, .n], .row (flat tRelation.enc r_1.1.relations), .row (flat tFact.enc r_1.1.facts), .box [(.m [2] 0 r_1.1.relations.length tRelation.k), (.m [3] 0 r_1.1.facts.length tFact.k)]]) rfl ?_
          exact tj hj1_8 rfl (wp 5 (lb rfl) rfl rfl rfl rfl ⟨rfl, rfl, rfl, rfl, rfl, trivial⟩)
        · skip
          refine ⟨_, rfl, rfl, (TOp_callS [0] (call_static ent83 rfl) (by decide) rfl rfl rfl rfl rfl rfl (m_spec_l1Below_x _ _ _ h_24) rfl rfl ?_)⟩
          refine TA_env (E' := [(0, (.b 0 0)), (2, (.b 1 0)), (3, (.b 4 0)), (27, (boolA (decide (r_3.1 = 2)))), (29, (.b 4 0)), (31, (.b 0 0)), (32, (intA r_23.1)), (33, (.b 0 0))]) ⟨rfl, rfl, rfl, rfl, rfl, rfl, rfl, rfl, trivial⟩ ?_
          refine TA_st (σ' := [.box [(sl (tI .u8) r_23.2.b), (intA r_23.2.i), (intA r_23.2.h)], .box [.n, .n], .row (flat tRelation.enc r_1.1.relations), .row (flat tFact.enc r_1.1.facts), .box [(.m [2] 0 r_1.1.relations.length tRelation.k), (.m [3] 0 r_1.1.facts.length tFact.k)]]) rfl ?_
          refine TA_all [1, 5] (by kernel_rfl) (by decide) ⟨?_, ?_, trivial⟩
          · skip
            refine ⟨_, rfl, rfl, (TOp_pure (pur_ld_b one29 rfl rfl rfl rfl) rfl ?_)⟩
            exact tj hj1_8 rfl (wp 5 (lb rfl) rfl rfl rfl rfl ⟨rfl, rfl, rfl, rfl, rfl, trivial⟩)
          · skip
            refine ⟨_, rfl, rfl, (TOp_callS [0] (call_static ent112 rfl) (by decide) rfl rfl rfl rfl rfl rfl (m_spec_l2Any_x _ _ h_26) rfl rfl ?_)⟩
            refine TA_env (E' := [(0, (.b 0 0)), (2, (.b 1 0)), (3, (.b 4 0)), (27, (boolA (decide (r_3.1 = 2)))), (29, (.b 4 0)), (31, (.b 0 0)), (32, (intA r_23.1)), (33, (.b 0 0)), (34, (.g (tRelation.enc r_25.1)))]) ⟨rfl, rfl, rfl, rfl, rfl, rfl, rfl, rfl, rfl, trivial⟩ ?_
            refine TA_st (σ' := [.box [(sl (tI .u8) r_25.2.b), (intA r_25.2.i), (intA r_25.2.h)], .box [.n, .n], .row (flat tRelation.enc r_1.1.relations), .row (flat tFact.enc r_1.1.facts), .box [(.m [2] 0 r_1.1.relations.length tRelation.k), (.m [3] 0 r_1.1.facts.length tFact.k)]]) rfl ?_
            refine t1 1 (by kernel_rfl) rfl rfl (TOp_pure (pur_ld_b one29 rfl rfl rfl rfl) rfl ?_)
            exact tj hj0_8 rfl (wp 5 (lb rfl) rfl rfl rfl rfl ⟨rfl, rfl, rfl, rfl, rfl, trivial⟩)
      · replace H := cond_f c_22 H
        refine T_skip ?_
        refine T_env (E' := [(2, (.b 1 0)), (3, (.b 4 0))]) ⟨rfl, rfl, trivial⟩ ?_
        refine sr ?_
        refine Tp rfl rfl (pur_ldK_b agg32 rfl rfl (lb rfl) rfl) rfl ?_
        refine TO_cons rfl (TOp_storeB sz32 rfl rfl rfl rfl rfl rfl rfl (by decide) (lb rfl) rfl ?_)
        refine TO_st (σ' := [.box [(sl (tI .u8) r_3.2.b), (intA r_3.2.i), (intA r_3.2.h)], .box [(.m [2] 0 r_1.1.relations.length tRelation.k), (.m [3] 0 r_1.1.facts.length tFact.k)], .row (flat tRelation.enc r_1.1.relations), .row (flat tFact.enc r_1.1.facts), .box [(.m [2] 0 r_1.1.relations.length tRelation.k), (.m [3] 0 r_1.1.facts.length tFact.k)]]) rfl ?_
        refine TO_nil ?_
        refine T_env (E' := [(2, (.b 1 0))]) ⟨rfl, trivial⟩ ?_
        refine T_frzB 2 (E' := [(2, (.b 1 0))]) (σ' := [.box [(sl (tI .u8) r_3.2.b), (intA r_3.2.i), (intA r_3.2.h)], .box [(sl tRelation r_1.1.relations), (.m [3] 0 r_1.1.facts.length tFact.k)], .dead, .row (flat tFact.enc r_1.1.facts), .box [(sl tRelation r_1.1.relations), (.m [3] 0 r_1.1.facts.length tFact.k)]]) rfl (lb rfl) ?_ ?_ ?_
        · exact ⟨(.keep rfl), trivial⟩
        · exact ⟨(fzK rfl), (fzC fz1E (fzC (.keep rfl) fzN)), trivial, rfl, (fzC fz1E (fzC (.keep rfl) fzN)), trivial⟩
        refine T_frzB 3 (E' := [(2, (.b 1 0))]) (σ' := [.box [(sl (tI .u8) r_3.2.b), (intA r_3.2.i), (intA r_3.2.h)], .box [(sl tRelation r_1.1.relations), (sl tFact r_1.1.facts)], .dead, .dead, .box [(sl tRelation r_1.1.relations), (sl tFact r_1.1.facts)]]) rfl (lb rfl) ?_ ?_ ?_
        · exact ⟨(.keep rfl), trivial⟩
        · exact ⟨(fzK rfl), (fzC (.keep rfl) (fzC fz1E fzN)), trivial, trivial, (fzC (.keep rfl) (fzC fz1E fzN)), trivial⟩
        refine T_ret ?_
        obtain rfl := some_inj H
        exact end_pickX (.cellK rfl agg32 rfl (lb rfl) .nil) rfl [0] (by decide) (lb rfl) rfl (lb rfl) rfl rfl rfl rfl rfl rfl

set_option maxHeartbeats 1000000 in
/-- spec.l1Once -/
theorem m_spec_l1Once_x (c0 : l1Cur) (n1 : Int) (r : (Bool × l1Cur)) (H : m_spec_l1Once c0 n1 = some r) : FnS prg 87 [(.b 0 0), (intA n1)] [.box [(sl (tI .u8) c0.b), (intA c0.i), (intA c0.h)]] (boolA r.1) [.box [(sl (tI .u8) r.2.b), (intA r.2.i), (intA r.2.h)]] := by
  unfold m_spec_l1Once at H
  refine fnS_of_T Try.func87 rfl rfl (Nat.le_of_ble_eq_true rfl) ?_
  refine T_env (E' := [(0, (.b 0 0)), (1, (intA n1))]) ⟨rfl, rfl, trivial⟩ ?_
  refine T_st (σ' := [.box [(sl (tI .u8) c0.b), (intA c0.i), (intA c0.h)]]) rfl ?_
  refine sr ?_
  refine Tp rfl rfl (pur_assign rfl) rfl ?_
  refine TO_nil ?_
  refine T_env (E' := [(0, (.b 0 0)), (1, (intA n1))]) ⟨rfl, rfl, trivial⟩ ?_
  refine sr ?_
  refine Tp rfl rfl (pur_move rfl) rfl ?_
  refine Tp rfl rfl (pur_move rfl) rfl ?_
  obtain ⟨r_1, h_2, H⟩ := bind_inv H
  refine TO_cons rfl (TOp_callS [0] (call_static ent83 rfl) (by decide) rfl rfl rfl rfl rfl rfl (m_spec_l1Below_x _ _ _ h_2) rfl rfl ?_)
  refine TO_env (E' := [(0, (.b 0 0)), (1, (intA n1)), (5, (.b 0 0)), (6, (intA n1)), (7, (intA r_1.1))]) ⟨rfl, rfl, rfl, rfl, rfl, trivial⟩ ?_
  refine TO_st (σ' := [.box [(sl (tI .u8) r_1.2.b), (intA r_1.2.i), (intA r_1.2.h)]]) rfl ?_
  refine Tp rfl rfl (pur_eql rfl rfl rfl) rfl ?_
  refine Tp rfl rfl (pur_assign rfl) rfl ?_
  refine TO_nil ?_
  refine T_env (E' := [(4, (boolA (decide (r_1.1 = 0))))]) ⟨rfl, trivial⟩ ?_
  refine T_ret ?_
  obtain rfl := some_inj H
  exact end_pickX (.tmp .nil) rfl [0] (by decide) (lb rfl) rfl (lb rfl) rfl rfl rfl rfl rfl rfl

set_option maxHeartbeats 1000000 in
/-- spec.l27Draw -/
theorem m_spec_l27Draw_x (u : Nat) (code0 : (List Int)) (r : (l1Cur × Database × Int × Int)) (H : m_spec_l27Draw u code0 = some r) : FnS prg 53 [(sl (tI .u8) code0)] [] (.t [(.b 0 0), (.g (tDatabase.enc r.2.1)), (intA r.2.2.1), (intA r.2.2.2)]) [.box [(sl (tI .u8) r.1.b), (intA r.1.i), (intA r.1.h)]] := by
  unfold m_spec_l27Draw at H
  refine fnS_of_T Try.func53 rfl rfl (Nat.le_of_ble_eq_true rfl) ?_
  refine T_env (E' := [(0, (sl (tI .u8) code0))]) ⟨rfl, trivial⟩ ?_
  refine T_st (σ' := []) rfl ?_
  refine sr ?_
  refine Tp rfl rfl (pur_assign rfl) rfl ?_
  refine TO_cons rfl (TOp_alloc zero32 rfl rfl ?_)
  refine Tp rfl rfl (pur_assign rfl) rfl ?_
  refine Tp rfl rfl (pur_assign rfl) rfl ?_
  refine TO_nil ?_
  refine T_env (E' := [(0, (sl (tI .u8) code0)), (3, (.b 0 0))]) ⟨rfl, rfl, trivial⟩ ?_
  refine sr ?_
  refine Tp rfl rfl (pur_move rfl) rfl ?_
  obtain ⟨r_1, h_2, H⟩ := bind_inv H
  refine TO_cons rfl (TOp_callS [] (call_static ent85 rfl) (by decide) rfl rfl rfl rfl rfl rfl (m_spec_l1New_x u _ _ h_2) rfl rfl ?_)
  refine TO_env (E' := [(0, (sl (tI .u8) code0)), (3, (.b 0 0)), (9, (sl (tI .u8) code0)), (10, (.b 1 0))]) ⟨rfl, rfl, rfl, rfl, trivial⟩ ?_
  refine TO_st (σ' := [.box [.n, .n], .box [(sl (tI .u8) r_1.b), (intA r_1.i), (intA r_1.h)]]) rfl ?_
  refine Tp rfl rfl (pur_assign rfl) rfl ?_
  refine TO_nil ?_
  refine T_env (E' := [(3, (.b 0 0)), (6, (.b 1 0))]) ⟨rfl, rfl, trivial⟩ ?_
  refine sr ?_
  refine Tp rfl rfl (pur_move rfl) rfl ?_
  obtain ⟨r_3, h_4, H⟩ := bind_inv H
  refine TO_cons rfl (TOp_callS [1] (call_static ent86 rfl) (by decide) rfl rfl rfl rfl rfl rfl (m_spec_l4Any_x u _ _ h_4) rfl rfl ?_)
  refine TO_env (E' := [(3, (.b 0 0)), (6, (.b 1 0)), (11, (.b 1 0)), (12, (.g (tDatabase.enc r_3.1)))]) ⟨rfl, rfl, rfl, rfl, trivial⟩ ?_
  refine TO_st (σ' := [.box [.n, .n], .box [(sl (tI .u8) r_3.2.b), (intA r_3.2.i), (intA r_3.2.h)]]) rfl ?_
  refine TO_cons rfl (TOp_alloc zero32 rfl rfl ?_)
  refine TO_cons rfl (TOp_storeB sz32 rfl rfl rfl rfl rfl rfl rfl (by decide) (lb rfl) rfl ?_)
  refine TO_st (σ' := [.box [.n, .n], .box [(sl (tI .u8) r_3.2.b), (intA r_3.2.i), (intA r_3.2.h)], .box [(sl tRelation r_3.1.relations), (sl tFact r_3.1.facts)]]) rfl ?_
  refine TO_nil ?_
  refine T_env (E' := [(3, (.b 0 0)), (6, (.b 1 0)), (7, (.b 2 0))]) ⟨rfl, rfl, rfl, trivial⟩ ?_
  refine sr ?_
  refine Tp rfl rfl (pur_move rfl) rfl ?_
  obtain ⟨r_5, h_6, H⟩ := bind_inv H
  refine TO_cons rfl (TOp_callS [1] (call_static ent83 rfl) (by decide) rfl rfl rfl rfl rfl rfl (m_spec_l1Below_x _ _ _ h_6) rfl rfl ?_)
  refine TO_env (E' := [(3, (.b 0 0)), (6, (.b 1 0)), (7, (.b 2 0)), (13, (.b 1 0)), (14, (intA r_5.1))]) ⟨rfl, rfl, rfl, rfl, rfl, trivial⟩ ?_
  refine TO_st (σ' := [.box [.n, .n], .box [(sl (tI .u8) r_5.2.b), (intA r_5.2.i), (intA r_5.2.h)], .box [(sl tRelation r_3.1.relations), (sl tFact r_3.1.facts)]]) rfl ?_
  refine Tp rfl rfl (pur_assign rfl) rfl ?_
  refine TO_nil ?_
  refine T_env (E' := [(3, (.b 0 0)), (6, (.b 1 0)), (7, (.b 2 0)), (8, (intA r_5.1))]) ⟨rfl, rfl, rfl, rfl, trivial⟩ ?_
  refine T_seq ?_
  refine sr ?_
  refine Tp rfl rfl (pur_move rfl) rfl ?_
  obtain ⟨r_7, h_8, H⟩ := bind_inv H
  refine TO_cons rfl (TOp_callS [1] (call_static ent87 rfl) (by decide) rfl rfl rfl rfl rfl rfl (m_spec_l1Once_x _ _ _ h_8) rfl rfl ?_)
  refine TO_env (E' := [(3, (.b 0 0)), (6, (.b 1 0)), (7, (.b 2 0)), (8, (intA r_5.1)), (15, (.b 1 0)), (16, (boolA r_7.1))]) ⟨rfl, rfl, rfl, rfl, rfl, rfl, trivial⟩ ?_
  refine TO_st (σ' := [.box [.n, .n], .box [(sl (tI .u8) r_7.2.b), (intA r_7.2.i), (intA r_7.2.h)], .box [(sl tRelation r_3.1.relations), (sl tFact r_3.1.facts)]]) rfl ?_
  refine TO_nil ?_
  refine T_env (E' := [(3, (.b 0 0)), (6, (.b 1 0)), (7, (.b 2 0)), (8, (intA r_5.1)), (16, (boolA r_7.1))]) ⟨rfl, rfl, rfl, rfl, rfl, trivial⟩ ?_
  refine T_cond (t := r_7.1) rfl (fun c_9 => ?_) (fun c_9 => ?_)
  · replace H := cond_t c_9 H
    refine T_region ?_
    refine Tp rfl rfl (pur_move rfl) rfl ?_
    refine TO_cons rfl (TOp_lit (nn := 2) (k := 1) sl33 zero3 rfl rfl rfl rfl (by decide) ?_)
    refine TO_st (σ' := [.box [.n, .n], .box [(sl (tI .u8) r_7.2.b), (intA r_7.2.i), (intA r_7.2.h)], .box [(sl tRelation r_3.1.relations), (sl tFact r_3.1.facts)], .row (flat tInt.enc ([-1, 4] : (List Int)))]) rfl ?_
    refine TO_frz1 3 (E' := [(3, (.b 0 0)), (6, (.b 1 0)), (7, (.b 2 0)), (8, (intA r_5.1)), (16, (boolA r_7.1)), (17, (.b 1 0)), (18, (sl tInt ([-1, 4] : (List Int))))]) rfl rfl (lb rfl) ⟨(.keep rfl), (.keep rfl), (.keep rfl), (.keep rfl), (.keep rfl), (.keep rfl), fz1E, trivial⟩ ?_
    refine TO_st (σ' := [.box [.n, .n], .box [(sl (tI .u8) r_7.2.b), (intA r_7.2.i), (intA r_7.2.h)], .box [(sl tRelation r_3.1.relations), (sl tFact r_3.1.facts)], .dead]) rfl ?_
    obtain ⟨r_10, h_11, H⟩ := bind_inv H
    refine TO_cons rfl (TOp_callS [1] (call_static ent88 rfl) (by decide) rfl rfl rfl rfl rfl rfl (m_spec_l1PickInt_x _ _ _ h_11) rfl rfl ?_)
    refine TO_env (E' := [(3, (.b 0 0)), (6, (.b 1 0)), (7, (.b 2 0)), (8, (intA r_5.1)), (16, (boolA r_7.1)), (17, (.b 1 0)), (18, (sl tInt ([-1, 4] : (List Int)))), (19, (intA r_10.1))]) ⟨rfl, rfl, rfl, rfl, rfl, rfl, rfl, rfl, trivial⟩ ?_
    refine TO_st (σ' := [.box [.n, .n], .box [(sl (tI .u8) r_10.2.b), (intA r_10.2.i), (intA r_10.2.h)], .box [(sl tRelation r_3.1.relations), (sl tFact r_3.1.facts)], .dead]) rfl ?_
    refine Tp rfl rfl (pur_assign rfl) rfl ?_
    refine TO_nil ?_
    refine T_env (E' := [(3, (.b 0 0)), (6, (.b 1 0)), (7, (.b 2 0)), (8, (intA r_10.1))]) ⟨rfl, rfl, rfl, rfl, trivial⟩ ?_
    obtain ⟨r_12, h_13, H⟩ := bind_inv H
    obtain ⟨r_14, h_15, H⟩ := bind_inv H
    refine T_cutX (fun (_ : Unit) => True) (fun _ => [(2, (.b 1 0)), (3, (.b 0 0)), (4, (intA r_10.1)), (5, (intA (w64 (r_12.1 - (w64 (r_14.1.tdiv 11))))))]) (fun _ => [.box [(sl tRelation r_3.1.relations), (sl tFact r_3.1.facts)], .box [(sl (tI .u8) r_14.2.b), (intA r_14.2.i), (intA r_14.2.h)], .box [(sl tRelation r_3.1.relations), (sl tFact r_3.1.facts)], .dead]) ?_ ?_
    · skip
      refine T_regionP mixed ?_
      refine TA_have 1 #[true, true, true, true, true, true, true, true, true, true, true, true, false] [(2, (.b 1 0)), (3, (.b 0 0)), (4, (intA r_10.1)), (28, (intA (w64 (r_12.1 - (w64 (r_14.1.tdiv 11))))))] [.box [(sl tRelation r_3.1.relations), (sl tFact r_3.1.facts)], .box [(sl (tI .u8) r_14.2.b), (intA r_14.2.i), (intA r_14.2.h)], .box [(sl tRelation r_3.1.relations), (sl tFact r_3.1.facts)], .dead] ?_ (fun hj0_6 => ?_)
      · skip
        refine tf 12 rfl (purI_assign rfl) rfl rfl (by kernel_rfl) ?_
        exact TA_nil (by kernel_rfl) (joined () (wp 4 (lb rfl) rfl rfl rfl rfl ⟨rfl, rfl, rfl, rfl, trivial⟩) trivial)
      refine TA_have 3 #[true, true, true, true, true, true, true, true, true, true, false, false, false] [(2, (.b 1 0)), (3, (.b 0 0)), (21, (.g (tDatabase.enc r_3.1))), (22, (intA r_10.1)), (28, (intA (w64 (r_12.1 - (w64 (r_14.1.tdiv 11))))))] [.box [.n, .n], .box [(sl (tI .u8) r_14.2.b), (intA r_14.2.i), (intA r_14.2.h)], .box [(sl tRelation r_3.1.relations), (sl tFact r_3.1.facts)], .dead] ?_ (fun hj1_6 => ?_)
      · skip
        refine t1 10 (by kernel_rfl) rfl rfl (TOp_storeB sz32 rfl rfl rfl rfl rfl rfl rfl (by decide) (lb rfl) rfl ?_)
        refine TA_st (σ' := [.box [(sl tRelation r_3.1.relations), (sl tFact r_3.1.facts)], .box [(sl (tI .u8) r_14.2.b), (intA r_14.2.i), (intA r_14.2.h)], .box [(sl tRelation r_3.1.relations), (sl tFact r_3.1.facts)], .dead]) rfl ?_
        refine tf 11 rfl (purI_assign rfl) rfl rfl (by kernel_rfl) ?_
        exact tj hj0_6 rfl (wp 4 (lb rfl) rfl rfl rfl rfl ⟨rfl, rfl, rfl, rfl, trivial⟩)
      refine TA_have 5 #[true, true, true, true, true, true, true, false, false, true, false, false, false] [(2, (.b 1 0)), (3, (.b 0 0)), (21, (.g (tDatabase.enc r_3.1))), (22, (intA r_10.1)), (24, (intA r_12.1)), (26, (intA r_14.1))] [.box [.n, .n], .box [(sl (tI .u8) r_14.2.b), (intA r_14.2.i), (intA r_14.2.h)], .box [(sl tRelation r_3.1.relations), (sl tFact r_3.1.facts)], .dead] ?_ (fun hj2_6 => ?_)
      · skip
        refine TA_all [7, 10] (by kernel_rfl) (by decide) ⟨?_, ?_, trivial⟩
        · skip
          refine ⟨_, rfl, rfl, (TOp_pure (pur_wquo rfl rfl rfl (by decide)) rfl ?_)⟩
          refine tf 8 rfl (purI_wsub rfl rfl rfl) rfl rfl (by kernel_rfl) ?_
          exact tj hj1_6 rfl (wp 4 (lb rfl) rfl rfl rfl rfl ⟨rfl, rfl, rfl, rfl, rfl, trivial⟩)
        · skip
          refine ⟨_, rfl, rfl, (TOp_storeB sz32 rfl rfl rfl rfl rfl rfl rfl (by decide) (lb rfl) rfl ?_)⟩
          refine TA_st (σ' := [.box [(sl tRelation r_3.1.relations), (sl tFact r_3.1.facts)], .box [(sl (tI .u8) r_14.2.b), (intA r_14.2.i), (intA r_14.2.h)], .box [(sl tRelation r_3.1.relations), (sl tFact r_3.1.facts)], .dead]) rfl ?_
          refine tf 11 rfl (purI_assign rfl) rfl rfl (by kernel_rfl) ?_
          refine t1 7 (by kernel_rfl) rfl rfl (TOp_pure (pur_wquo rfl rfl rfl (by decide)) rfl ?_)
          refine tf 8 rfl (purI_wsub rfl rfl rfl) rfl rfl (by kernel_rfl) ?_
          exact tj hj0_6 rfl (wp 4 (lb rfl) rfl rfl rfl rfl ⟨rfl, rfl, rfl, rfl, trivial⟩)
      refine TA_have 7 #[true, true, true, true, true, true, false, false, false, false, false, false, false] [(3, (.b 0 0)), (20, (.b 1 0)), (21, (.g (tDatabase.enc r_3.1))), (22, (intA r_10.1)), (24, (intA r_12.1)), (25, (.b 1 0))] [.box [.n, .n], .box [(sl (tI .u8) r_12.2.b), (intA r_12.2.i), (intA r_12.2.h)], .box [(sl tRelation r_3.1.relations), (sl tFact r_3.1.facts)], .dead] ?_ (fun hj3_6 => ?_)
      · skip
        refine t1 6 (by kernel_rfl) rfl rfl (TOp_callS [1] (call_static ent83 rfl) (by decide) rfl rfl rfl rfl rfl rfl (m_spec_l1Below_x _ _ _ h_15) rfl rfl ?_)
        refine TA_env (E' := [(3, (.b 0 0)), (20, (.b 1 0)), (21, (.g (tDatabase.enc r_3.1))), (22, (intA r_10.1)), (24, (intA r_12.1)), (25, (.b 1 0)), (26, (intA r_14.1))]) ⟨rfl, rfl, rfl, rfl, rfl, rfl, rfl, trivial⟩ ?_
        refine TA_st (σ' := [.box [.n, .n], .box [(sl (tI .u8) r_14.2.b), (intA r_14.2.i), (intA r_14.2.h)], .box [(sl tRelation r_3.1.relations), (sl tFact r_3.1.facts)], .dead]) rfl ?_
        refine tf 9 rfl (purI_assign rfl) rfl rfl (by kernel_rfl) ?_
        exact tj hj2_6 rfl (wp 4 (lb rfl) rfl rfl rfl rfl ⟨rfl, rfl, rfl, rfl, rfl, rfl, trivial⟩)
      refine tf 0 rfl (purI_move rfl) rfl rfl (by kernel_rfl) ?_
      refine tf 2 rfl (purI_move rfl) rfl rfl (by kernel_rfl) ?_
      refine tf 3 rfl (purI_move rfl) rfl rfl (by kernel_rfl) ?_
      refine tf 5 rfl (purI_move rfl) rfl rfl (by kernel_rfl) ?_
      refine TA_all [1, 4] (by kernel_rfl) (by decide) ⟨?_, ?_, trivial⟩
      · skip
        refine ⟨_, rfl, rfl, (TOp_pure (pur_ldK_b agg32 rfl rfl (lb rfl) rfl) rfl ?_)⟩
        refine t1 4 (by kernel_rfl) rfl rfl (TOp_callS [1] (call_static ent83 rfl) (by decide) rfl rfl rfl rfl rfl rfl (m_spec_l1Below_x _ _ _ h_13) rfl rfl ?_)
        refine TA_env (E' := [(3, (.b 0 0)), (6, (.b 1 0)), (7, (.b 2 0)), (8, (intA r_10.1)), (20, (.b 1 0)), (21, (.g (tDatabase.enc r_3.1))), (22, (intA r_10.1)), (23, (.b 1 0)), (24, (intA r_12.1)), (25, (.b 1 0))]) ⟨rfl, rfl, rfl, rfl, rfl, rfl, rfl, rfl, rfl, rfl, trivial⟩ ?_
        refine TA_st (σ' := [.box [.n, .n], .box [(sl (tI .u8) r_12.2.b), (intA r_12.2.i), (intA r_12.2.h)], .box [(sl tRelation r_3.1.relations), (sl tFact r_3.1.facts)], .dead]) rfl ?_
        exact tj hj3_6 rfl (wp 4 (lb rfl) rfl rfl rfl rfl ⟨rfl, rfl, rfl, rfl, rfl, rfl, trivial⟩)
      · skip
        refine ⟨_, rfl, rfl, (TOp_callS [1] (call_static ent83 rfl) (by decide) rfl rfl rfl rfl rfl rfl (m_spec_l1Below_x _ _ _ h_13) rfl rfl ?_)⟩
        refine TA_env (E' := [(3, (.b 0 0)), (6, (.b 1 0)), (7, (.b 2 0)), (8, (intA r_10.1)), (20, (.b 1 0)), (22, (intA r_10.1)), (23, (.b 1 0)), (24, (intA r_12.1)), (25, (.b 1 0))]) ⟨rfl, rfl, rfl, rfl, rfl, rfl, rfl, rfl, rfl, trivial⟩ ?_
        refine TA_st (σ' := [.box [.n, .n], .box [(sl (tI .u8) r_12.2.b), (intA r_12.2.i), (intA r_12.2.h)], .box [(sl tRelation r_3.1.relations), (sl tFact r_3.1.facts)], .dead]) rfl ?_
        refine TA_all [1, 6] (by kernel_rfl) (by decide) ⟨?_, ?_, trivial⟩
        · skip
          refine ⟨_, rfl, rfl, (TOp_pure (pur_ldK_b agg32 rfl rfl (lb rfl) rfl) rfl ?_)⟩
          exact tj hj3_6 rfl (wp 4 (lb rfl) rfl rfl rfl rfl ⟨rfl, rfl, rfl, rfl, rfl, rfl, trivial⟩)
        · skip
          refine ⟨_, rfl, rfl, (TOp_callS [1] (call_static ent83 rfl) (by decide) rfl rfl rfl rfl rfl rfl (m_spec_l1Below_x _ _ _ h_15) rfl rfl ?_)⟩
          refine TA_env (E' := [(3, (.b 0 0)), (6, (.b 1 0)), (7, (.b 2 0)), (8, (intA r_10.1)), (20, (.b 1 0)), (22, (intA r_10.1)), (23, (.b 1 0)), (24, (intA r_12.1)), (25, (.b 1 0)), (26, (intA r_14.1))]) ⟨rfl, rfl, rfl, rfl, rfl, rfl, rfl, rfl, rfl, rfl, trivial⟩ ?_
          refine TA_st (σ' := [.box [.n, .n], .box [(sl (tI .u8) r_14.2.b), (intA r_14.2.i), (intA r_14.2.h)], .box [(sl tRelation r_3.1.relations), (sl tFact r_3.1.facts)], .dead]) rfl ?_
          refine tf 9 rfl (purI_assign rfl) rfl rfl (by kernel_rfl) ?_
          refine TA_env (E' := [(2, (.b 1 0)), (3, (.b 0 0)), (7, (.b 2 0)), (22, (intA r_10.1)), (24, (intA r_12.1)), (26, (intA r_14.1))]) ⟨rfl, rfl, rfl, rfl, rfl, rfl, trivial⟩ ?_
          refine TA_all [1, 7] (by kernel_rfl) (by decide) ⟨?_, ?_, trivial⟩
          · skip
            refine ⟨_, rfl, rfl, (TOp_pure (pur_ldK_b agg32 rfl rfl (lb rfl) rfl) rfl ?_)⟩
            exact tj hj2_6 rfl (wp 4 (lb rfl) rfl rfl rfl rfl ⟨rfl, rfl, rfl, rfl, rfl, rfl, trivial⟩)
          · skip
            refine ⟨_, rfl, rfl, (TOp_pure (pur_wquo rfl rfl rfl (by decide)) rfl ?_)⟩
            refine tf 8 rfl (purI_wsub rfl rfl rfl) rfl rfl (by kernel_rfl) ?_
            refine t1 1 (by kernel_rfl) rfl rfl (TOp_pure (pur_ldK_b agg32 rfl rfl (lb rfl) rfl) rfl ?_)
            exact tj hj1_6 rfl (wp 4 (lb rfl) rfl rfl rfl rfl ⟨rfl, rfl, rfl, rfl, rfl, trivial⟩)
    · rintro _ _
      refine T_env (E' := [(2, (.b 1 0)), (3, (.b 0 0)), (4, (intA r_10.1)), (5, (intA (w64 (r_12.1 - (w64 (r_14.1.tdiv 11))))))]) ⟨rfl, rfl, rfl, rfl, trivial⟩ ?_
      refine T_ret ?_
      obtain rfl := some_inj H
      exact end_pickX (.tmp (.cellK rfl agg32 rfl (lb rfl) (.tmp (.tmp .nil)))) rfl [1] (by decide) (lb rfl) rfl (lb rfl) rfl rfl rfl rfl rfl rfl
  · replace H := cond_f c_9 H
    refine T_skip ?_
    refine T_env (E' := [(3, (.b 0 0)), (6, (.b 1 0)), (7, (.b 2 0)), (8, (intA r_5.1))]) ⟨rfl, rfl, rfl, rfl, trivial⟩ ?_
    obtain ⟨r_16, h_17, H⟩ := bind_inv H
    obtain ⟨r_18, h_19, H⟩ := bind_inv H
    refine T_cutX (fun (_ : Unit) => True) (fun _ => [(2, (.b 1 0)), (3, (.b 0 0)), (4, (intA r_5.1)), (5, (intA (w64 (r_16.1 - (w64 (r_18.1.tdiv 11))))))]) (fun _ => [.box [(sl tRelation r_3.1.relations), (sl tFact r_3.1.facts)], .box [(sl (tI .u8) r_18.2.b), (intA r_18.2.i), (intA r_18.2.h)], .box [(sl tRelation r_3.1.relations), (sl tFact r_3.1.facts)]]) ?_ ?_
    · skip
      refine T_regionP mixed ?_
      refine TA_have 1 #[true, true, true, true, true, true, true, true, true, true, true, true, false] [(2, (.b 1 0)), (3, (.b 0 0)), (4, (intA r_5.1)), (28, (intA (w64 (r_16.1 - (w64 (r_18.1.tdiv 11))))))] [.box [(sl tRelation r_3.1.relations), (sl tFact r_3.1.facts)], .box [(sl (tI .u8) r_18.2.b), (intA r_18.2.i), (intA r_18.2.h)], .box [(sl tRelation r_3.1.relations), (sl tFact r_3.1.facts)]] ?_ (fun hj0_6 => ?_)
      · skip
        refine tf 12 rfl (purI_assign rfl) rfl rfl (by kernel_rfl) ?_
        exact TA_nil (by kernel_rfl) (joined () (wp 3 (lb rfl) rfl rfl rfl rfl ⟨rfl, rfl, rfl, rfl, trivial⟩) trivial)
      refine TA_have 3 #[true, true, true, true, true, true, true, true, true, true, false, false, false] [(2, (.b 1 0)), (3, (.b 0 0)), (21, (.g (tDatabase.enc r_3.1))), (22, (intA r_5.1)), (28, (intA (w64 (r_16.1 - (w64 (r_18.1.tdiv 11))))))] [.box [.n, .n], .box [(sl (tI .u8) r_18.2.b), (intA r_18.2.i), (intA r_18.2.h)], .box [(sl tRelation r_3.1.relations), (sl tFact r_3.1.facts)]] ?_ (fun hj1_6 => ?_)
      · skip
        refine t1 10 (by kernel_rfl) rfl rfl (TOp_storeB sz32 rfl rfl rfl rfl rfl rfl rfl (by decide) (lb rfl) rfl ?_)
        refine TA_st (σ' := [.box [(sl tRelation r_3.1.relations), (sl tFact r_3.1.facts)], .box [(sl (tI .u8) r_18.2.b), (intA r_18.2.i), (intA r_18.2.h)], .box [(sl tRelation r_3.1.relations), (sl tFact r_3.1.facts)]]) rfl ?_
        refine tf 11 rfl (purI_assign rfl) rfl rfl (by kernel_rfl) ?_
        exact tj hj0_6 rfl (wp 3 (lb rfl) rfl rfl rfl rfl ⟨rfl, rfl, rfl, rfl, trivial⟩)
      refine TA_have 5 #[true, true, true, true, true, true, true, false, false, true, false, false, false] [(2, (.b 1 0)), (3, (.b 0 0)), (21, (.g (tDatabase.enc r_3.1))), (22, (intA r_5.1)), (24, (intA r_16.1)), (26, (intA r_18.1))] [.box [.n, .n], .box [(sl (tI .u8) r_18.2.b), (intA r_18.2.i), (intA r_18.2.h)], .box [(sl tRelation r_3.1.relations), (sl tFact r_3.1.facts)]] ?_ (fun hj2_6 => ?_)
      · skip
        refine TA_all [7, 10] (by kernel_rfl) (by decide) ⟨?_, ?_, trivial⟩
        · skip
          refine ⟨_, rfl, rfl, (TOp_pure (pur_wquo rfl rfl rfl (by decide)) rfl ?_)⟩
          refine tf 8 rfl (purI_wsub rfl rfl rfl) rfl rfl (by kernel_rfl) ?_
          exact tj hj1_6 rfl (wp 3 (lb rfl) rfl rfl rfl rfl ⟨rfl, rfl, rfl, rfl, rfl, trivial⟩)
        · skip
          refine ⟨_, rfl, rfl, (TOp_storeB sz32 rfl rfl rfl rfl rfl rfl rfl (by decide) (lb rfl) rfl ?_)⟩
          refine TA_st (σ' := [.box [(sl tRelation r_3.1.relations), (sl tFact r_3.1.facts)], .box [(sl (tI .u8) r_18.2.b), (intA r_18.2.i), (intA r_18.2.h)], .box [(sl tRelation r_3.1.relations), (sl tFact r_3.1.facts)]]) rfl ?_
          refine tf 11 rfl (purI_assign rfl) rfl rfl (by kernel_rfl) ?_
          refine t1 7 (by kernel_rfl) rfl rfl (TOp_pure (pur_wquo rfl rfl rfl (by decide)) rfl ?_)
          refine tf 8 rfl (purI_wsub rfl rfl rfl) rfl rfl (by kernel_rfl) ?_
          exact tj hj0_6 rfl (wp 3 (lb rfl) rfl rfl rfl rfl ⟨rfl, rfl, rfl, rfl, trivial⟩)
      refine TA_have 7 #[true, true, true, true, true, true, false, false, false, false, false, false, false] [(3, (.b 0 0)), (20, (.b 1 0)), (21, (.g (tDatabase.enc r_3.1))), (22, (intA r_5.1)), (24, (intA r_16.1)), (25, (.b 1 0))] [.box [.n, .n], .box [(sl (tI .u8) r_16.2.b), (intA r_16.2.i), (intA r_16.2.h)], .box [(sl tRelation r_3.1.relations), (sl tFact r_3.1.facts)]] ?_ (fun hj3_6 => ?_)
      · skip
        refine t1 6 (by kernel_rfl) rfl rfl (TOp_callS [1] (call_static ent83 rfl) (by decide) rfl rfl rfl rfl rfl rfl (m_spec_l1Below_x _ _ _ h_19) rfl rfl ?_)
        refine TA_env (E' := [(3, (.b 0 0)), (20, (.b 1 0)), (21, (.g (tDatabase.enc r_3.1))), (22, (intA r_5.1)), (24, (intA r_16.1)), (25, (.b 1 0)), (26, (intA r_18.1))]) ⟨rfl, rfl, rfl, rfl, rfl, rfl, rfl, trivial⟩ ?_
        refine TA_st (σ' := [.box [.n, .n], .box [(sl (tI .u8) r_18.2.b), (intA r_18.2.i), (intA r_18.2.h)], .box [(sl tRelation r_3.1.relations), (sl tFact r_3.1.facts)]]) rfl ?_
        refine tf 9 rfl (purI_assign rfl) rfl rfl (by kernel_rfl) ?_
        exact tj hj2_6 rfl (wp 3 (lb rfl) rfl rfl rfl rfl ⟨rfl, rfl, rfl, rfl, rfl, rfl, trivial⟩)
      refine tf 0 rfl (purI_move rfl) rfl rfl (by kernel_rfl) ?_
      refine tf 2 rfl (purI_move rfl) rfl rfl (by kernel_rfl) ?_
      refine tf 3 rfl (purI_move rfl) rfl rfl (by kernel_rfl) ?_
      refine tf 5 rfl (purI_move rfl) rfl rfl (by kernel_rfl) ?_
      refine TA_all [1, 4] (by kernel_rfl) (by decide) ⟨?_, ?_, trivial⟩
      · skip
        refine ⟨_, rfl, rfl, (TOp_pure (pur_ldK_b agg32 rfl rfl (lb rfl) rfl) rfl ?_)⟩
        refine t1 4 (by kernel_rfl) rfl rfl (TOp_callS [1] (call_static ent83 rfl) (by decide) rfl rfl rfl rfl rfl rfl (m_spec_l1Below_x _ _ _ h_17) rfl rfl ?_)
        refine TA_env (E' := [(3, (.b 0 0)), (6, (.b 1 0)), (7, (.b 2 0)), (8, (intA r_5.1)), (20, (.b 1 0)), (21, (.g (tDatabase.enc r_3.1))), (22, (intA r_5.1)), (23, (.b 1 0)), (24, (intA r_16.1)), (25, (.b 1 0))]) ⟨rfl, rfl, rfl, rfl, rfl, rfl, rfl, rfl, rfl, rfl, trivial⟩ ?_
        refine TA_st (σ' := [.box [.n, .n], .box [(sl (tI .u8) r_16.2.b), (intA r_16.2.i), (intA r_16.2.h)], .box [(sl tRelation r_3.1.relations), (sl tFact r_3.1.facts)]]) rfl ?_
        exact tj hj3_6 rfl (wp 3 (lb rfl) rfl rfl rfl rfl ⟨rfl, rfl, rfl, rfl, rfl, rfl, trivial⟩)
      · skip
        refine ⟨_, rfl, rfl, (TOp_callS [1] (call_static ent83 rfl) (by decide) rfl rfl rfl rfl rfl rfl (m_spec_l1Below_x _ _ _ h_17) rfl rfl ?_)⟩
        refine TA_env (E' := [(3, (.b 0 0)), (6, (.b 1 0)), (7, (.b 2 0)), (8, (intA r_5.1)), (20, (.b 1 0)), (22, (intA r_5.1)), (23, (.b 1 0)), (24, (intA r_16.1)), (25, (.b 1 0))]) ⟨rfl, rfl, rfl, rfl, rfl, rfl, rfl, rfl, rfl, trivial⟩ ?_
        refine TA_st (σ' := [.box [.n, .n], .box [(sl (tI .u8) r_16.2.b), (intA r_16.2.i), (intA r_16.2.h)], .box [(sl tRelation r_3.1.relations), (sl tFact r_3.1.facts)]]) rfl ?_
        refine TA_all [1, 6] (by kernel_rfl) (by decide) ⟨?_, ?_, trivial⟩
        · skip
          refine ⟨_, rfl, rfl, (TOp_pure (pur_ldK_b agg32 rfl rfl (lb rfl) rfl) rfl ?_)⟩
          exact tj hj3_6 rfl (wp 3 (lb rfl) rfl rfl rfl rfl ⟨rfl, rfl, rfl, rfl, rfl, rfl, trivial⟩)
        · skip
          refine ⟨_, rfl, rfl, (TOp_callS [1] (call_static ent83 rfl) (by decide) rfl rfl rfl rfl rfl rfl (m_spec_l1Below_x _ _ _ h_19) rfl rfl ?_)⟩
          refine TA_env (E' := [(3, (.b 0 0)), (6, (.b 1 0)), (7, (.b 2 0)), (8, (intA r_5.1)), (20, (.b 1 0)), (22, (intA r_5.1)), (23, (.b 1 0)), (24, (intA r_16.1)), (25, (.b 1 0)), (26, (intA r_18.1))]) ⟨rfl, rfl, rfl, rfl, rfl, rfl, rfl, rfl, rfl, rfl, trivial⟩ ?_
          refine TA_st (σ' := [.box [.n, .n], .box [(sl (tI .u8) r_18.2.b), (intA r_18.2.i), (intA r_18.2.h)], .box [(sl tRelation r_3.1.relations), (sl tFact r_3.1.facts)]]) rfl ?_
          refine tf 9 rfl (purI_assign rfl) rfl rfl (by kernel_rfl) ?_
          refine TA_env (E' := [(2, (.b 1 0)), (3, (.b 0 0)), (7, (.b 2 0)), (22, (intA r_5.1)), (24, (intA r_16.1)), (26, (intA r_18.1))]) ⟨rfl, rfl, rfl, rfl, rfl, rfl, trivial⟩ ?_
          refine TA_all [1, 7] (by kernel_rfl) (by decide) ⟨?_, ?_, trivial⟩
          · skip
            refine ⟨_, rfl, rfl, (TOp_pure (pur_ldK_b agg32 rfl rfl (lb rfl) rfl) rfl ?_)⟩
            exact tj hj2_6 rfl (wp 3 (lb rfl) rfl rfl rfl rfl ⟨rfl, rfl, rfl, rfl, rfl, rfl, trivial⟩)
          · skip
            refine ⟨_, rfl, rfl, (TOp_pure (pur_wquo rfl rfl rfl (by decide)) rfl ?_)⟩
            refine tf 8 rfl (purI_wsub rfl rfl rfl) rfl rfl (by kernel_rfl) ?_
            refine t1 1 (by kernel_rfl) rfl rfl (TOp_pure (pur_ldK_b agg32 rfl rfl (lb rfl) rfl) rfl ?_)
            exact tj hj1_6 rfl (wp 3 (lb rfl) rfl rfl rfl rfl ⟨rfl, rfl, rfl, rfl, rfl, trivial⟩)
    · rintro _ _
      refine T_env (E' := [(2, (.b 1 0)), (3, (.b 0 0)), (4, (intA r_5.1)), (5, (intA (w64 (r_16.1 - (w64 (r_18.1.tdiv 11))))))]) ⟨rfl, rfl, rfl, rfl, trivial⟩ ?_
      refine T_ret ?_
      obtain rfl := some_inj H
      exact end_pickX (.tmp (.cellK rfl agg32 rfl (lb rfl) (.tmp (.tmp .nil)))) rfl [1] (by decide) (lb rfl) rfl (lb rfl) rfl rfl rfl rfl rfl rfl

set_option maxHeartbeats 1000000 in
/-- spec.DrawSumRange -/
theorem m_spec_DrawSumRange_ok (u : Nat) (code0 : (List Int)) (r : (Database × Int × Int)) (H : m_spec_DrawSumRange u code0 = some r) : FnV prg 39 [(sl (tI .u8) code0)] (.t [(.g (tDatabase.enc r.1)), (intA r.2.1), (intA r.2.2)]) := by
  unfold m_spec_DrawSumRange at H
  refine fnV_of_T Try.func39 rfl rfl (Nat.le_of_ble_eq_true rfl) ?_
  refine T_env (E' := [(0, (sl (tI .u8) code0))]) ⟨rfl, trivial⟩ ?_
  refine sr ?_
  refine TO_cons rfl (TOp_alloc zero32 rfl rfl ?_)
  refine Tp rfl rfl (pur_assign rfl) rfl ?_
  refine Tp rfl rfl (pur_assign rfl) rfl ?_
  refine TO_nil ?_
  refine T_env (E' := [(0, (sl (tI .u8) code0)), (2, (.b 0 0))]) ⟨rfl, rfl, trivial⟩ ?_
  refine sr ?_
  refine Tp rfl rfl (pur_move rfl) rfl ?_
  obtain ⟨r_1, h_2, H⟩ := bind_inv H
  refine TO_cons rfl (TOp_callS [] (call_static ent53 rfl) (by decide) rfl rfl rfl rfl rfl rfl (m_spec_l27Draw_x u _ _ h_2) rfl rfl ?_)
  refine TO_env (E' := [(0, (sl (tI .u8) code0)), (2, (.b 0 0)), (10, (sl (tI .u8) code0)), (11, (.t [(.b 1 0), (.g (tDatabase.enc r_1.2.1)), (intA r_1.2.2.1), (intA r_1.2.2.2)]))]) ⟨rfl, rfl, rfl, rfl, trivial⟩ ?_
  refine TO_st (σ' := [.box [.n, .n], .box [(sl (tI .u8) r_1.1.b), (intA r_1.1.i), (intA r_1.1.h)]]) rfl ?_
  refine Tp rfl rfl (pur_move rfl) rfl ?_
  refine Tp rfl rfl (pur_extract rfl rfl rfl) rfl ?_
  refine Tp rfl rfl (pur_extract rfl rfl rfl) rfl ?_
  refine Tp rfl rfl (pur_extract rfl rfl rfl) rfl ?_
  refine Tp rfl rfl (pur_extract rfl rfl rfl) rfl ?_
  refine TO_cons rfl (TOp_alloc zero32 rfl rfl ?_)
  refine TO_env (E' := [(2, (.b 0 0)), (6, (.b 2 0)), (12, (.b 1 0)), (13, (.g (tDatabase.enc r_1.2.1))), (14, (intA r_1.2.2.1)), (15, (intA r_1.2.2.2))]) ⟨rfl, rfl, rfl, rfl, rfl, rfl, trivial⟩ ?_
  refine Tp rfl rfl (pur_assign rfl) rfl ?_
  refine TO_cons rfl (TOp_storeB sz32 rfl rfl rfl rfl rfl rfl rfl (by decide) (lb rfl) rfl ?_)
  refine TO_st (σ' := [.box [.n, .n], .box [(sl (tI .u8) r_1.1.b), (intA r_1.1.i), (intA r_1.1.h)], .box [(sl tRelation r_1.2.1.relations), (sl tFact r_1.2.1.facts)]]) rfl ?_
  refine Tp rfl rfl (pur_assign rfl) rfl ?_
  refine Tp rfl rfl (pur_assign rfl) rfl ?_
  refine TO_nil ?_
  refine T_env (E' := [(2, (.b 0 0)), (6, (.b 2 0)), (7, (intA r_1.2.2.1)), (8, (intA r_1.2.2.2))]) ⟨rfl, rfl, rfl, rfl, trivial⟩ ?_
  refine sr ?_
  refine Tp rfl rfl (pur_ldK_b agg32 rfl rfl (lb rfl) rfl) rfl ?_
  refine Tp rfl rfl (pur_move rfl) rfl ?_
  refine Tp rfl rfl (pur_move rfl) rfl ?_
  refine TO_cons rfl (TOp_storeB sz32 rfl rfl rfl rfl rfl rfl rfl (by decide) (lb rfl) rfl ?_)
  refine TO_st (σ' := [.box [(sl tRelation r_1.2.1.relations), (sl tFact r_1.2.1.facts)], .box [(sl (tI .u8) r_1.1.b), (intA r_1.1.i), (intA r_1.1.h)], .box [(sl tRelation r_1.2.1.relations), (sl tFact r_1.2.1.facts)]]) rfl ?_
  refine Tp rfl rfl (pur_assign rfl) rfl ?_
  refine Tp rfl rfl (pur_assign rfl) rfl ?_
  refine TO_nil ?_
  refine T_env (E' := [(2, (.b 0 0)), (3, (intA r_1.2.2.1)), (4, (intA r_1.2.2.2))]) ⟨rfl, rfl, rfl, trivial⟩ ?_
  refine T_ret ?_
  obtain rfl := some_inj H
  refine end_ret (.cellK rfl agg32 rfl (lb rfl) (.tmp (.tmp .nil))) rfl rfl ⟨?_, rfl⟩
  rfl

set_option maxHeartbeats 1000000 in
/-- spec.BlockSizes -/
theorem m_spec_BlockSizes_own (u : Nat) (d0 : Database) (r : (List Int)) (H : m_spec_BlockSizes u d0 = some r) : FnO prg 77 [(.g (tDatabase.enc d0))] (.m [0] 0 r.length tInt.k) [.row (flat tInt.own r)] := by
  unfold m_spec_BlockSizes at H
  refine fnO_of_T Try.func77 rfl rfl (Nat.le_of_ble_eq_true rfl) ?_
  refine T_env (E' := [(0, (.g (tDatabase.enc d0)))]) ⟨rfl, trivial⟩ ?_
  refine sr ?_
  refine TO_cons rfl (TOp_box rfl (boxAll rfl) rfl rfl ?_)
  refine Tp rfl rfl (pur_assign rfl) rfl ?_
  refine TO_nil ?_
  refine T_env (E' := [(1, (.b 0 0))]) ⟨rfl, trivial⟩ ?_
  refine sr ?_
  refine TO_cons rfl (TOp_lit (nn := 0) (k := 1) sl33 zero3 rfl rfl rfl rfl (by decide) ?_)
  refine TO_st (σ' := [.box [(sl tRelation d0.relations), (sl tFact d0.facts)], .row (flat tInt.enc ([] : (List Int)))]) rfl ?_
  refine Tp rfl rfl (pur_assign rfl) rfl ?_
  refine TO_nil ?_
  refine T_env (E' := [(1, (.b 0 0)), (3, (.m [1] 0 ([] : (List Int)).length tInt.k))]) ⟨rfl, rfl, trivial⟩ ?_
  refine sr ?_
  refine Tp rfl rfl (pur_ldK_b agg32 rfl rfl (lb rfl) rfl) rfl ?_
  obtain ⟨r_1, h_2, H⟩ := bind_inv H
  refine TO_cons rfl (TOp_callV (call_static ent79 rfl) (m_spec_Blocks_ok u _ _ h_2) rfl rfl rfl ?_)
  refine Tp rfl rfl (pur_assign rfl) rfl ?_
  refine TO_nil ?_
  refine T_env (E' := [(3, (.m [1] 0 ([] : (List Int)).length tInt.k)), (4, (sl (tSl tInt) r_1))]) ⟨rfl, rfl, trivial⟩ ?_
  refine T_seq ?_
  refine sr ?_
  refine Tp rfl rfl (pur_assign rfl) rfl ?_
  refine TO_nil ?_
  refine T_env (E' := [(3, (.m [1] 0 ([] : (List Int)).length tInt.k)), (4, (sl (tSl tInt) r_1)), (5, (intA 0))]) ⟨rfl, rfl, rfl, trivial⟩ ?_
  obtain ⟨O4_, L4_, N4_⟩ := bind_inv H
  clear H
  obtain ⟨B4_, hb4, L4_⟩ := gen_forS L4_
  refine T_block ?_
  refine T_loopX (fun k => fun (x_ : Nat × (List Int)) => k = r_1.length - x_.1 ∧ forS B4_ (r_1.drop x_.1) (x_.1 : Int) x_.2 = some O4_) (fun (x_ : Nat × (List Int)) => [(3, (.m [1] 0 x_.2.length tInt.k)), (4, (sl (tSl tInt) r_1)), (5, (intA (x_.1 : Int)))]) (fun (x_ : Nat × (List Int)) => [.box [(sl tRelation d0.relations), (sl tFact d0.facts)], .row (flat tInt.enc x_.2)]) _ (0, ([] : (List Int))) (wp 2 (lb rfl) rfl rfl rfl rfl ⟨rfl, rfl, rfl, trivial⟩) ⟨rfl, L4_⟩ ?_
  rintro _ ⟨i_3, out3⟩ ⟨rfl, L4_⟩
  refine T_env (E' := [(3, (.m [1] 0 out3.length tInt.k)), (4, (sl (tSl tInt) r_1)), (5, (intA (i_3 : Int)))]) ⟨rfl, rfl, rfl, trivial⟩ ?_
  refine T_st (σ' := [.box [(sl tRelation d0.relations), (sl tFact d0.facts)], .row (flat tInt.enc out3)]) rfl ?_
  refine T_fact (len_sl (T := (tSl tInt)) (.tmp 4) rfl) (fun hl4 => ?_)
  refine T_seq ?_
  refine sr ?_
  refine Tp rfl rfl (pur_move rfl) rfl ?_
  refine Tp rfl rfl (pur_move rfl) rfl ?_
  refine Tp rfl rfl (pur_lenT (T := (tSl tInt)) sl22 rfl rfl) rfl ?_
  refine Tp rfl rfl (pur_lss rfl rfl rfl) rfl ?_
  refine TO_nil ?_
  refine T_env (E' := [(3, (.m [1] 0 out3.length tInt.k)), (4, (sl (tSl tInt) r_1)), (5, (intA (i_3 : Int))), (12, (boolA (decide ((i_3 : Int) < (r_1.length : Int)))))]) ⟨rfl, rfl, rfl, rfl, trivial⟩ ?_
  refine T_cond (t := decide ((i_3 : Int) < (r_1.length : Int))) rfl (fun d4 => ?_) (fun d4 => ?_)
  · replace d4 := of_decide_eq_true d4
    obtain ⟨x_i_3, hx_i_3⟩ : ∃ v, (r_1)[i_3]? = some v := ⟨_, List.getElem?_eq_getElem (by omega)⟩
    obtain ⟨C4_, H, K4_⟩ := forS_step L4_ hx_i_3
    rw [hb4] at H
    refine T_skip ?_
    refine T_env (E' := [(3, (.m [1] 0 out3.length tInt.k)), (4, (sl (tSl tInt) r_1)), (5, (intA (i_3 : Int)))]) ⟨rfl, rfl, rfl, trivial⟩ ?_
    refine T_seq ?_
    refine T_block ?_
    refine T_region ?_
    refine Tp rfl rfl (pur_move rfl) rfl ?_
    refine Tp rfl rfl (pur_move rfl) rfl ?_
    refine Tp rfl rfl (pur_move rfl) rfl ?_
    refine Tp rfl rfl (pur_ixT (T := (tSl tInt)) sl22 rfl rfl rfl hx_i_3 rfl) rfl ?_
    refine Tp rfl rfl (pur_ldT (T := (tSl tInt)) (i := i_3) (off := 0) rfl one33 rfl rfl hx_i_3 rfl) rfl ?_
    refine Tp rfl rfl (pur_lenT (T := tInt) sl33 rfl rfl) rfl ?_
    refine TO_cons rfl (TOp_lit (nn := 1) (k := 1) sl33 zero3 rfl rfl rfl rfl (by decide) ?_)
    refine TO_st (σ' := [.box [(sl tRelation d0.relations), (sl tFact d0.facts)], .row (flat tInt.enc out3), .row (flat tInt.enc ([(x_i_3.length : Int)] : (List Int)))]) rfl ?_
    obtain ⟨us_5, h_6, H⟩ := bind_inv H
    refine TO_cons rfl (TOp_appZ (T := tInt) (f := tInt.enc) (xs := out3) (ys := ([(x_i_3.length : Int)] : (List Int))) tInt.len sl33 zero3 rfl bytes3 (by decide) rfl rfl rfl rfl (src_mT (f := tInt.enc) tInt.len rfl rfl (flat_cell tInt _)) (flat_cell tInt _) h_6 (lb rfl) ?_)
    refine TO_env (E' := [(4, (sl (tSl tInt) r_1)), (5, (intA (i_3 : Int))), (16, (sl (tSl tInt) r_1)), (17, (intA (i_3 : Int))), (18, (.q (flat (tSl tInt).enc r_1) (i_3 * (tSl tInt).k))), (19, (sl tInt x_i_3)), (20, (intA (x_i_3.length : Int))), (21, (.m [2] 0 ([(x_i_3.length : Int)] : (List Int)).length tInt.k)), (22, (.m [1] 0 us_5.length tInt.k))]) ⟨rfl, rfl, rfl, rfl, rfl, rfl, rfl, rfl, rfl, trivial⟩ ?_
    refine TO_st (σ' := [.box [(sl tRelation d0.relations), (sl tFact d0.facts)], .row (flat tInt.enc us_5), .row (flat tInt.enc ([(x_i_3.length : Int)] : (List Int))), .dead]) rfl ?_
    refine Tp rfl rfl (pur_assign rfl) rfl ?_
    refine TO_nil ?_
    refine T_env (E' := [(3, (.m [1] 0 us_5.length tInt.k)), (4, (sl (tSl tInt) r_1)), (5, (intA (i_3 : Int)))]) ⟨rfl, rfl, rfl, trivial⟩ ?_
    refine T_region ?_
    refine Tp rfl rfl (pur_move rfl) rfl ?_
    refine Tp rfl rfl (pur_add rfl rfl rfl (fits64 (by omega) (by omega))) rfl ?_
    refine Tp rfl rfl (pur_assign rfl) rfl ?_
    refine TO_nil ?_
    obtain rfl := some_inj H
    exact again (r_1.length - (i_3 + 1)) (i_3 + 1, us_5) (by omega) (wp 2 (lb rfl) rfl rfl rfl rfl ⟨rfl, rfl, rfl, trivial⟩) ⟨rfl, K4_⟩
  · replace d4 := of_decide_eq_false d4
    obtain rfl := forS_end L4_ (by omega)
    refine T_exit ?_
    refine then_exit ?_
    refine then_exit ?_
    refine block_exit ?_
    replace H := N4_
    refine T_env (E' := [(3, (.m [1] 0 out3.length tInt.k))]) ⟨rfl, trivial⟩ ?_
    refine sr ?_
    refine Tp rfl rfl (pur_move rfl) rfl ?_
    refine Tp rfl rfl (pur_assign rfl) rfl ?_
    refine TO_nil ?_
    refine T_env (E' := [(2, (.m [1] 0 out3.length tInt.k))]) ⟨rfl, trivial⟩ ?_
    refine T_ret ?_
    obtain rfl := some_inj H
    exact end_pick (.tmp .nil) rfl [1] (by decide) rfl rfl rfl rfl rfl rfl
theorem m_spec_BlockSizes_ok (u : Nat) (d0 : Database) (r : (List Int)) (H : m_spec_BlockSizes u d0 = some r) : FnV prg 77 [(.g (tDatabase.enc d0))] (sl tInt r) := (m_spec_BlockSizes_own u d0 r H).frz (frzT (T := tInt) rfl)

set_option maxHeartbeats 1000000 in
/-- spec.CountRepairs -/
theorem m_spec_CountRepairs_ok (u : Nat) (d0 : Database) (r : Int) (H : m_spec_CountRepairs u d0 = some r) : FnV prg 40 [(.g (tDatabase.enc d0))] (intA r) := by
  unfold m_spec_CountRepairs at H
  refine fnV_of_T Try.func40 rfl rfl (Nat.le_of_ble_eq_true rfl) ?_
  refine T_env (E' := [(0, (.g (tDatabase.enc d0)))]) ⟨rfl, trivial⟩ ?_
  refine sr ?_
  refine TO_cons rfl (TOp_box rfl (boxAll rfl) rfl rfl ?_)
  refine Tp rfl rfl (pur_assign rfl) rfl ?_
  refine TO_nil ?_
  refine T_env (E' := [(1, (.b 0 0))]) ⟨rfl, trivial⟩ ?_
  refine T_seq ?_
  refine sr ?_
  refine Tp rfl rfl (pur_ldK_b agg32 rfl rfl (lb rfl) rfl) rfl ?_
  obtain ⟨r_1, h_2, H⟩ := bind_inv H
  refine TO_cons rfl (TOp_callV (call_static ent76 rfl) (m_spec_IsValidDatabase_ok u _ _ h_2) rfl rfl rfl ?_)
  refine Tp rfl rfl (pur_not rfl rfl) rfl ?_
  refine TO_nil ?_
  refine T_env (E' := [(1, (.b 0 0)), (8, (boolA (!r_1)))]) ⟨rfl, rfl, trivial⟩ ?_
  refine T_cond (t := (!r_1)) rfl (fun c_3 => ?_) (fun c_3 => ?_)
  · replace H := cond_t c_3 H
    refine sr ?_
    refine Tp rfl rfl (pur_assign rfl) rfl ?_
    refine TO_nil ?_
    refine T_env (E' := [(2, (intA 0))]) ⟨rfl, trivial⟩ ?_
    refine T_ret ?_
    refine then_ret ?_
    obtain rfl := some_inj H
    refine end_ret (.tmp .nil) rfl rfl ⟨?_, rfl⟩
    rfl
  · replace H := cond_f c_3 H
    refine T_skip ?_
    refine T_env (E' := [(1, (.b 0 0))]) ⟨rfl, trivial⟩ ?_
    refine sr ?_
    refine Tp rfl rfl (pur_assign rfl) rfl ?_
    refine TO_nil ?_
    refine T_env (E' := [(1, (.b 0 0)), (3, (intA 1))]) ⟨rfl, rfl, trivial⟩ ?_
    refine sr ?_
    refine Tp rfl rfl (pur_ldK_b agg32 rfl rfl (lb rfl) rfl) rfl ?_
    obtain ⟨r_4, h_5, H⟩ := bind_inv H
    refine TO_cons rfl (TOp_callV (call_static ent77 rfl) (m_spec_BlockSizes_ok u _ _ h_5) rfl rfl rfl ?_)
    refine Tp rfl rfl (pur_assign rfl) rfl ?_
    refine TO_nil ?_
    refine T_env (E' := [(3, (intA 1)), (4, (sl tInt r_4))]) ⟨rfl, rfl, trivial⟩ ?_
    refine T_seq ?_
    refine sr ?_
    refine Tp rfl rfl (pur_assign rfl) rfl ?_
    refine TO_nil ?_
    refine T_env (E' := [(3, (intA 1)), (4, (sl tInt r_4)), (5, (intA 0))]) ⟨rfl, rfl, rfl, trivial⟩ ?_
    obtain ⟨O7_, L7_, N7_⟩ := bind_inv H
    clear H
    obtain ⟨B7_, hb7, L7_⟩ := gen_forS L7_
    refine T_block ?_
    refine T_loopX (fun k => fun (x_ : Nat × Int) => k = r_4.length - x_.1 ∧ forS B7_ (r_4.drop x_.1) (x_.1 : Int) x_.2 = some O7_) (fun (x_ : Nat × Int) => [(3, (intA x_.2)), (4, (sl tInt r_4)), (5, (intA (x_.1 : Int)))]) (fun (x_ : Nat × Int) => [.box [(sl tRelation d0.relations), (sl tFact d0.facts)]]) _ (0, 1) (wp 1 (lb rfl) rfl rfl rfl rfl ⟨rfl, rfl, rfl, trivial⟩) ⟨rfl, L7_⟩ ?_
    rintro _ ⟨i_6, n3⟩ ⟨rfl, L7_⟩
    refine T_env (E' := [(3, (intA n3)), (4, (sl tInt r_4)), (5, (intA (i_6 : Int)))]) ⟨rfl, rfl, rfl, trivial⟩ ?_
    refine T_st (σ' := [.box [(sl tRelation d0.relations), (sl tFact d0.facts)]]) rfl ?_
    refine T_fact (len_sl (T := tInt) (.tmp 4) rfl) (fun hl7 => ?_)
    refine T_seq ?_
    refine sr ?_
    refine Tp rfl rfl (pur_move rfl) rfl ?_
    refine Tp rfl rfl (pur_move rfl) rfl ?_
    refine Tp rfl rfl (pur_lenT (T := tInt) sl33 rfl rfl) rfl ?_
    refine Tp rfl rfl (pur_lss rfl rfl rfl) rfl ?_
    refine TO_nil ?_
    refine T_env (E' := [(3, (intA n3)), (4, (sl tInt r_4)), (5, (intA (i_6 : Int))), (14, (boolA (decide ((i_6 : Int) < (r_4.length : Int)))))]) ⟨rfl, rfl, rfl, rfl, trivial⟩ ?_
    refine T_cond (t := decide ((i_6 : Int) < (r_4.length : Int))) rfl (fun d7 => ?_) (fun d7 => ?_)
    · replace d7 := of_decide_eq_true d7
      obtain ⟨x_i_6, hx_i_6⟩ : ∃ v, (r_4)[i_6]? = some v := ⟨_, List.getElem?_eq_getElem (by omega)⟩
      obtain ⟨C7_, H, K7_⟩ := forS_step L7_ hx_i_6
      rw [hb7] at H
      refine T_skip ?_
      refine T_env (E' := [(3, (intA n3)), (4, (sl tInt r_4)), (5, (intA (i_6 : Int)))]) ⟨rfl, rfl, rfl, trivial⟩ ?_
      refine T_seq ?_
      refine T_block ?_
      refine T_region ?_
      refine Tp rfl rfl (pur_move rfl) rfl ?_
      refine Tp rfl rfl (pur_move rfl) rfl ?_
      refine Tp rfl rfl (pur_move rfl) rfl ?_
      refine Tp rfl rfl (pur_ixT (T := tInt) sl33 rfl rfl rfl hx_i_6 rfl) rfl ?_
      refine Tp rfl rfl (pur_ldT (T := tInt) (i := i_6) (off := 0) rfl one3 rfl rfl hx_i_6 rfl) rfl ?_
      refine Tp rfl rfl (pur_wmul rfl rfl rfl) rfl ?_
      refine Tp rfl rfl (pur_assign rfl) rfl ?_
      refine TO_nil ?_
      refine T_env (E' := [(3, (intA (w64 (n3 * x_i_6)))), (4, (sl tInt r_4)), (5, (intA (i_6 : Int)))]) ⟨rfl, rfl, rfl, trivial⟩ ?_
      refine T_region ?_
      refine Tp rfl rfl (pur_move rfl) rfl ?_
      refine Tp rfl rfl (pur_add rfl rfl rfl (fits64 (by omega) (by omega))) rfl ?_
      refine Tp rfl rfl (pur_assign rfl) rfl ?_
      refine TO_nil ?_
      obtain rfl := some_inj H
      exact again (r_4.length - (i_6 + 1)) (i_6 + 1, (w64 (n3 * x_i_6))) (by omega) (wp 1 (lb rfl) rfl rfl rfl rfl ⟨rfl, rfl, rfl, trivial⟩) ⟨rfl, K7_⟩
    · replace d7 := of_decide_eq_false d7
      obtain rfl := forS_end L7_ (by omega)
      refine T_exit ?_
      refine then_exit ?_
      refine then_exit ?_
      refine block_exit ?_
      replace H := N7_
      refine T_env (E' := [(3, (intA n3))]) ⟨rfl, trivial⟩ ?_
      refine sr ?_
      refine Tp rfl rfl (pur_move rfl) rfl ?_
      refine Tp rfl rfl (pur_assign rfl) rfl ?_
      refine TO_nil ?_
      refine T_env (E' := [(2, (intA n3))]) ⟨rfl, trivial⟩ ?_
      refine T_ret ?_
      obtain rfl := some_inj H
      refine end_ret (.tmp .nil) rfl rfl ⟨?_, rfl⟩
      rfl

set_option maxHeartbeats 1000000 in
/-- spec.l7Sorted -/
theorem m_spec_l7Sorted_own (u : Nat) (l0 : (List Int)) (r : (List Int)) (H : m_spec_l7Sorted u l0 = some r) : FnO prg 80 [(sl tInt l0)] (.m [0] 0 r.length tInt.k) [.row (flat tInt.own r)] := by
  unfold m_spec_l7Sorted at H
  refine fnO_of_T Try.func80 rfl rfl (Nat.le_of_ble_eq_true rfl) ?_
  refine T_env (E' := [(0, (sl tInt l0))]) ⟨rfl, trivial⟩ ?_
  refine sr ?_
  refine Tp rfl rfl (pur_assign rfl) rfl ?_
  refine TO_nil ?_
  refine T_env (E' := [(0, (sl tInt l0))]) ⟨rfl, trivial⟩ ?_
  refine sr ?_
  refine TO_cons rfl (TOp_lit (nn := 0) (k := 1) sl33 zero3 rfl rfl rfl rfl (by decide) ?_)
  refine TO_st (σ' := [.row (flat tInt.enc ([] : (List Int)))]) rfl ?_
  refine Tp rfl rfl (pur_assign rfl) rfl ?_
  refine TO_nil ?_
  refine T_env (E' := [(0, (sl tInt l0)), (3, (.m [0] 0 ([] : (List Int)).length tInt.k))]) ⟨rfl, rfl, trivial⟩ ?_
  refine T_seq ?_
  refine sr ?_
  refine Tp rfl rfl (pur_assign rfl) rfl ?_
  refine TO_nil ?_
  refine T_env (E' := [(0, (sl tInt l0)), (3, (.m [0] 0 ([] : (List Int)).length tInt.k)), (4, (intA 0))]) ⟨rfl, rfl, rfl, trivial⟩ ?_
  obtain ⟨O2_, L2_, N2_⟩ := bind_inv H
  clear H
  obtain ⟨B2_, hb2, L2_⟩ := gen_forS L2_
  refine T_block ?_
  refine T_loopX (fun k => fun (x_ : Nat × (List Int)) => k = l0.length - x_.1 ∧ forS B2_ (l0.drop x_.1) (x_.1 : Int) x_.2 = some O2_) (fun (x_ : Nat × (List Int)) => [(0, (sl tInt l0)), (3, (.m [0] 0 x_.2.length tInt.k)), (4, (intA (x_.1 : Int)))]) (fun (x_ : Nat × (List Int)) => [.row (flat tInt.enc x_.2)]) _ (0, ([] : (List Int))) (wp 1 (lb rfl) rfl rfl rfl rfl ⟨rfl, rfl, rfl, trivial⟩) ⟨rfl, L2_⟩ ?_
  rintro _ ⟨i_1, out3⟩ ⟨rfl, L2_⟩
  refine T_env (E' := [(0, (sl tInt l0)), (3, (.m [0] 0 out3.length tInt.k)), (4, (intA (i_1 : Int)))]) ⟨rfl, rfl, rfl, trivial⟩ ?_
  refine T_st (σ' := [.row (flat tInt.enc out3)]) rfl ?_
  refine T_fact (len_sl (T := tInt) (.tmp 0) rfl) (fun hl2 => ?_)
  refine T_seq ?_
  refine sr ?_
  refine Tp rfl rfl (pur_move rfl) rfl ?_
  refine Tp rfl rfl (pur_move rfl) rfl ?_
  refine Tp rfl rfl (pur_lenT (T := tInt) sl33 rfl rfl) rfl ?_
  refine Tp rfl rfl (pur_lss rfl rfl rfl) rfl ?_
  refine TO_nil ?_
  refine T_env (E' := [(0, (sl tInt l0)), (3, (.m [0] 0 out3.length tInt.k)), (4, (intA (i_1 : Int))), (10, (boolA (decide ((i_1 : Int) < (l0.length : Int)))))]) ⟨rfl, rfl, rfl, rfl, trivial⟩ ?_
  refine T_cond (t := decide ((i_1 : Int) < (l0.length : Int))) rfl (fun d2 => ?_) (fun d2 => ?_)
  · replace d2 := of_decide_eq_true d2
    obtain ⟨x_i_1, hx_i_1⟩ : ∃ v, (l0)[i_1]? = some v := ⟨_, List.getElem?_eq_getElem (by omega)⟩
    obtain ⟨C2_, H, K2_⟩ := forS_step L2_ hx_i_1
    rw [hb2] at H
    refine T_skip ?_
    refine T_env (E' := [(0, (sl tInt l0)), (3, (.m [0] 0 out3.length tInt.k)), (4, (intA (i_1 : Int)))]) ⟨rfl, rfl, rfl, trivial⟩ ?_
    refine T_seq ?_
    refine T_block ?_
    refine sr ?_
    refine Tp rfl rfl (pur_move rfl) rfl ?_
    refine Tp rfl rfl (pur_len_m sl33 rfl rfl) rfl ?_
    refine Tp rfl rfl (pur_assign rfl) rfl ?_
    refine TO_nil ?_
    refine T_env (E' := [(0, (sl tInt l0)), (3, (.m [0] 0 out3.length tInt.k)), (4, (intA (i_1 : Int))), (5, (intA (out3.length : Int)))]) ⟨rfl, rfl, rfl, rfl, trivial⟩ ?_
    obtain ⟨O3_, L3_, N3_⟩ := bind_inv H
    clear H
    obtain ⟨B3_, hb3, L3_⟩ := gen_whileF L3_
    refine T_cutX (fun (x : Int) => O3_ = .inl x) (fun (k5 : Int) => [(0, (sl tInt l0)), (3, (.m [0] 0 out3.length tInt.k)), (4, (intA (i_1 : Int))), (5, (intA k5))]) (fun (k5 : Int) => [.row (flat tInt.enc out3)]) ?_ ?_
    · skip
      refine T_block ?_
      refine T_loopX (fun k => fun (k5 : Int) => whileF B3_ k k5 = some O3_) (fun (k5 : Int) => [(0, (sl tInt l0)), (3, (.m [0] 0 out3.length tInt.k)), (4, (intA (i_1 : Int))), (5, (intA k5))]) (fun (k5 : Int) => [.row (flat tInt.enc out3)]) u (out3.length : Int) (wp 1 (lb rfl) rfl rfl rfl rfl ⟨rfl, rfl, rfl, rfl, trivial⟩) L3_ ?_
      rintro _ k5 L3_
      obtain ⟨k3, rfl, C3_, H, K3_⟩ := while_step L3_
      rw [hb3] at H
      refine T_env (E' := [(0, (sl tInt l0)), (3, (.m [0] 0 out3.length tInt.k)), (4, (intA (i_1 : Int))), (5, (intA k5))]) ⟨rfl, rfl, rfl, rfl, trivial⟩ ?_
      refine T_st (σ' := [.row (flat tInt.enc out3)]) rfl ?_
      refine T_seq ?_
      obtain ⟨t28_4, J_4, H_5⟩ := bind_inv H
      refine T_cutX (fun x => t28_4 = x) (fun (t28_4 : Bool) => [(0, (sl tInt l0)), (3, (.m [0] 0 out3.length tInt.k)), (4, (intA (i_1 : Int))), (5, (intA k5)), (28, (boolA t28_4))]) (fun (t28_4 : Bool) => [.row (flat tInt.enc out3)]) ?_ ?_
      · replace H := J_4
        refine T_regionD mixed (by kernel_rfl) ?_
        refine TQ_pure rfl (pur_move rfl) rfl ?_
        refine TQ_pure rfl (pur_gtr rfl rfl rfl) rfl ?_
        refine TQ_pure rfl (pur_move rfl) rfl ?_
        refine TQ_split (t := decide (0 < k5)) 17 rfl (fun g_6 => ?_) (fun g_6 => ?_)
        · replace H := cond_t g_6 H
          refine TQ_on rfl rfl (by decide) rfl (pur_move rfl) rfl ?_
          refine TQ_on rfl rfl (by decide) rfl (pur_move rfl) rfl ?_
          refine TQ_on rfl rfl (by decide) rfl (pur_wsub rfl rfl rfl) rfl ?_
          obtain ⟨v_7, h_8, H⟩ := bind_inv H
          obtain ⟨n_9, hz_10, hv_11⟩ := getI_inv h_8
          refine TQ_on rfl rfl (by decide) rfl (pur_ixM (T := tInt) sl33 rfl rfl hz_10 hv_11 rfl) rfl ?_
          refine TQ_on rfl rfl (by decide) rfl (pur_ldE (f := tInt.enc) (k := tInt.k) (i := n_9) (off := 0) tInt.len rfl one3 rfl rfl rfl hv_11 rfl rfl) rfl ?_
          refine TQ_on rfl rfl (by decide) rfl (pur_move rfl) rfl ?_
          refine TQ_on rfl rfl (by decide) rfl (pur_move rfl) rfl ?_
          refine TQ_on rfl rfl (by decide) rfl (pur_ixT (T := tInt) sl33 rfl rfl rfl hx_i_1 rfl) rfl ?_
          refine TQ_env (E' := [(0, (sl tInt l0)), (3, (.m [0] 0 out3.length tInt.k)), (4, (intA (i_1 : Int))), (5, (intA k5)), (17, (boolA true)), (22, (intA v_7)), (25, (.q (flat tInt.enc l0) (i_1 * tInt.k)))]) ⟨rfl, rfl, rfl, rfl, rfl, rfl, rfl, trivial⟩ ?_
          refine TQ_on rfl rfl (by decide) rfl (pur_ldT (T := tInt) (i := i_1) (off := 0) rfl one3 rfl rfl hx_i_1 rfl) rfl ?_
          refine TQ_on rfl rfl (by decide) rfl (pur_gtr rfl rfl rfl) rfl ?_
          refine TQ_pure rfl (pur_pick (t := true) rfl rfl rfl) rfl ?_
          refine TQ_nil ?_
          exact joined (decide (x_i_1 < v_7)) (wp 1 (lb rfl) rfl rfl rfl rfl ⟨rfl, rfl, rfl, rfl, rfl, trivial⟩) (some_inj H).symm
        · replace H := cond_f g_6 H
          refine TQ_off rfl rfl (by decide) rfl rfl rfl ?_
          refine TQ_off rfl rfl (by decide) rfl rfl rfl ?_
          refine TQ_off rfl rfl (by decide) rfl rfl rfl ?_
          refine TQ_off rfl rfl (by decide) rfl rfl rfl ?_
          refine TQ_off rfl rfl (by decide) rfl rfl rfl ?_
          refine TQ_off rfl rfl (by decide) rfl rfl rfl ?_
          refine TQ_off rfl rfl (by decide) rfl rfl rfl ?_
          refine TQ_off rfl rfl (by decide) rfl rfl rfl ?_
          refine TQ_env (E' := [(0, (sl tInt l0)), (3, (.m [0] 0 out3.length tInt.k)), (4, (intA (i_1 : Int))), (5, (intA k5)), (17, (boolA false)), (22, (.v undef)), (25, (.v undef))]) ⟨rfl, rfl, rfl, rfl, rfl, rfl, rfl, trivial⟩ ?_
          refine TQ_off rfl rfl (by decide) rfl rfl rfl ?_
          refine TQ_off rfl rfl (by decide) rfl rfl rfl ?_
          refine TQ_pure rfl (pur_pick (t := false) rfl rfl rfl) rfl ?_
          refine TQ_nil ?_
          exact joined false (wp 1 (lb rfl) rfl rfl rfl rfl ⟨rfl, rfl, rfl, rfl, rfl, trivial⟩) (some_inj H).symm
      · rintro _ rfl
        replace H := H_5
        refine T_env (E' := [(0, (sl tInt l0)), (3, (.m [0] 0 out3.length tInt.k)), (4, (intA (i_1 : Int))), (5, (intA k5)), (28, (boolA t28_4))]) ⟨rfl, rfl, rfl, rfl, rfl, trivial⟩ ?_
        refine T_cond (t := t28_4) rfl (fun c_12 => ?_) (fun c_12 => ?_)
        · replace H := cond_t c_12 H
          refine T_skip ?_
          refine T_env (E' := [(0, (sl tInt l0)), (3, (.m [0] 0 out3.length tInt.k)), (4, (intA (i_1 : Int))), (5, (intA k5))]) ⟨rfl, rfl, rfl, rfl, trivial⟩ ?_
          refine T_block ?_
          refine T_region ?_
          refine Tp rfl rfl (pur_move rfl) rfl ?_
          refine Tp rfl rfl (pur_wsub rfl rfl rfl) rfl ?_
          refine Tp rfl rfl (pur_assign rfl) rfl ?_
          refine TO_nil ?_
          obtain rfl := some_inj H
          exact again k3 (w64 (k5 - 1)) (Nat.lt_succ_self _) (wp 1 (lb rfl) rfl rfl rfl rfl ⟨rfl, rfl, rfl, rfl, trivial⟩) K3_
        · replace H := cond_f c_12 H
          refine T_exit ?_
          refine then_exit ?_
          refine then_exit ?_
          refine block_exit ?_
          obtain rfl := some_inj H
          obtain rfl := some_inj K3_
          exact joined k5 (wp 1 (lb rfl) rfl rfl rfl rfl ⟨rfl, rfl, rfl, rfl, trivial⟩) rfl
    · rintro k5 rfl
      replace H := onS_l N3_
      refine T_env (E' := [(0, (sl tInt l0)), (3, (.m [0] 0 out3.length tInt.k)), (4, (intA (i_1 : Int))), (5, (intA k5))]) ⟨rfl, rfl, rfl, rfl, trivial⟩ ?_
      obtain ⟨ys_13, h_14, H⟩ := bind_inv H
      obtain ⟨i_15, j_16, hi_17, hj_18, hij_19, hjl_20, hys_21, _⟩ := cutI_inv h_14
      obtain ⟨us_22, h_23, H⟩ := bind_inv H
      obtain ⟨us_24, h_25, H⟩ := bind_inv H
      obtain ⟨ys_26, h_27, H⟩ := bind_inv H
      obtain ⟨i_28, j_29, hi_30, hj_31, hij_32, hjl_33, hys_34, _⟩ := cutI_inv h_27
      obtain ⟨us_35, h_36, H⟩ := bind_inv H
      refine T_pad ?_
      refine T_pad ?_
      refine T_pad ?_
      refine T_regionP mixed ?_
      refine TA_have 3 #[true, true, true, true, true, true, true, true, true, true, false, true, true, true, false, false] [(0, (sl tInt l0)), (3, (.m [0] 0 out3.length tInt.k)), (4, (intA (i_1 : Int))), (35, (.m [2] 0 us_22.length tInt.k)), (40, (.m [3] 0 ([x_i_1] : (List Int)).length tInt.k)), (44, (.m [0] (i_28 * tInt.k) (j_29 - i_28) tInt.k))] [.row (flat tInt.enc out3), .dead, .row (flat tInt.enc us_22), .row (flat tInt.enc ([x_i_1] : (List Int)))] ?_ (fun hj0_8 => ?_)
      · skip
        refine t1 10 (by kernel_rfl) rfl rfl (TOp_appY (T := tInt) (f := tInt.enc) (xs := us_22) (ys := ([x_i_1] : (List Int))) tInt.len sl33 zero3 rfl bytes3 (by decide) rfl rfl rfl rfl (src_mT (f := tInt.enc) tInt.len rfl rfl (flat_cell tInt _)) (flat_cell tInt _) h_25 ?_)
        refine tmv 2 4 (by decide) (lb rfl) rfl rfl (lb rfl) ?_
        refine t1 14 (by kernel_rfl) rfl rfl (TOp_appY (T := tInt) (f := tInt.enc) (xs := us_24) (ys := ys_26) tInt.len sl33 zero3 rfl bytes3 (by decide) rfl rfl rfl rfl (src_cut (T := tInt) (xs := out3) (i := i_28) (j := j_29) rfl rfl hij_32 hjl_33 hys_34) (flat_cell tInt _) h_36 ?_)
        refine tmv 2 5 (by decide) (lb rfl) rfl rfl (lb rfl) ?_
        refine tf 15 rfl (purI_assign rfl) rfl rfl (by kernel_rfl) ?_
        refine TA_ghost (E' := [(0, (sl tInt l0)), (3, (.m [1] 0 us_35.length tInt.k)), (4, (intA (i_1 : Int)))]) (σ' := [.row (flat tInt.enc out3), .row (flat tInt.enc us_35), .dead, .row (flat tInt.enc ([x_i_1] : (List Int))), .dead, .dead]) (Ghost.move 1 2 (by decide) (lb rfl) rfl rfl (lb rfl) (Ghost.weak (WeakL.to 6 (lb rfl) rfl rfl rfl rfl ⟨leR rfl, leR rfl, leR rfl, trivial⟩))) ?_
        refine TA_nil (by kernel_rfl) ?_
        refine T_env (E' := [(0, (sl tInt l0)), (3, (.m [1] 0 us_35.length tInt.k)), (4, (intA (i_1 : Int)))]) ⟨rfl, rfl, rfl, trivial⟩ ?_
        refine T_move' 0 1 (by decide) (lb rfl) rfl rfl (lb rfl) ?_
        refine T_env (E' := [(0, (sl tInt l0)), (3, (.m [0] 0 us_35.length tInt.k)), (4, (intA (i_1 : Int)))]) ⟨rfl, rfl, rfl, trivial⟩ ?_
        refine T_st (σ' := [.row (flat tInt.enc us_35), .dead, .dead, .row (flat tInt.enc ([x_i_1] : (List Int))), .dead, .dead]) rfl ?_
        refine T_region ?_
        refine Tp rfl rfl (pur_move rfl) rfl ?_
        refine Tp rfl rfl (pur_add rfl rfl rfl (fits64 (by omega) (by omega))) rfl ?_
        refine Tp rfl rfl (pur_assign rfl) rfl ?_
        refine TO_nil ?_
        obtain rfl := some_inj H
        exact again (l0.length - (i_1 + 1)) (i_1 + 1, us_35) (by omega) (wp 1 (lb rfl) rfl rfl rfl rfl ⟨rfl, rfl, rfl, trivial⟩) ⟨rfl, K2_⟩
      refine TA_have 4 #[true, true, true, true, false, true, true, true, true, true, false, true, true, true, false, false] [(0, (sl tInt l0)), (3, (.m [0] 0 out3.length tInt.k)), (4, (intA (i_1 : Int))), (31, (.m [2] 0 ([] : (List Int)).length tInt.k)), (34, (.m [0] (i_15 * tInt.k) (j_16 - i_15) tInt.k)), (40, (.m [3] 0 ([x_i_1] : (List Int)).length tInt.k)), (44, (.m [0] (i_28 * tInt.k) (j_29 - i_28) tInt.k))] [.row (flat tInt.enc out3), .dead, .row (flat tInt.enc ([] : (List Int))), .row (flat tInt.enc ([x_i_1] : (List Int)))] ?_ (fun hj1_8 => ?_)
      · skip
        refine t1 4 (by kernel_rfl) rfl rfl (TOp_appY (T := tInt) (f := tInt.enc) (xs := ([] : (List Int))) (ys := ys_13) tInt.len sl33 zero3 rfl bytes3 (by decide) rfl rfl rfl rfl (src_cut (T := tInt) (xs := out3) (i := i_15) (j := j_16) rfl rfl hij_19 hjl_20 hys_21) (flat_cell tInt _) h_23 ?_)
        refine tmv 2 4 (by decide) (lb rfl) rfl rfl (lb rfl) ?_
        exact tj hj0_8 rfl (wp 4 (lb rfl) rfl rfl rfl rfl ⟨rfl, rfl, rfl, rfl, rfl, rfl, trivial⟩)
      refine TA_have 4 #[true, true, true, true, true, true, true, true, true, false, false, true, true, true, false, false] [(0, (sl tInt l0)), (3, (.m [0] 0 out3.length tInt.k)), (4, (intA (i_1 : Int))), (35, (.m [2] 0 us_22.length tInt.k)), (39, (intA x_i_1)), (44, (.m [0] (i_28 * tInt.k) (j_29 - i_28) tInt.k))] [.row (flat tInt.enc out3), .dead, .row (flat tInt.enc us_22), .dead] ?_ (fun hj2_8 => ?_)
      · skip
        refine t1 9 (by kernel_rfl) rfl rfl (TOp_lit (nn := 1) (k := 1) sl33 zero3 rfl rfl rfl rfl (by decide) ?_)
        refine tmv 3 4 (by decide) (lb rfl) rfl rfl (lb rfl) ?_
        exact tj hj0_8 rfl (wp 4 (lb rfl) rfl rfl rfl rfl ⟨rfl, rfl, rfl, rfl, rfl, rfl, trivial⟩)
      refine TA_have 5 #[true, true, true, true, false, true, true, true, true, false, false, true, true, true, false, false] [(0, (sl tInt l0)), (3, (.m [0] 0 out3.length tInt.k)), (4, (intA (i_1 : Int))), (31, (.m [2] 0 ([] : (List Int)).length tInt.k)), (34, (.m [0] (i_15 * tInt.k) (j_16 - i_15) tInt.k)), (39, (intA x_i_1)), (44, (.m [0] (i_28 * tInt.k) (j_29 - i_28) tInt.k))] [.row (flat tInt.enc out3), .dead, .row (flat tInt.enc ([] : (List Int))), .dead] ?_ (fun hj3_8 => ?_)
      · skip
        refine TA_all [4, 9] (by kernel_rfl) (by decide) ⟨?_, ?_, trivial⟩
        · skip
          refine ⟨_, rfl, rfl, (TOp_appY (T := tInt) (f := tInt.enc) (xs := ([] : (List Int))) (ys := ys_13) tInt.len sl33 zero3 rfl bytes3 (by decide) rfl rfl rfl rfl (src_cut (T := tInt) (xs := out3) (i := i_15) (j := j_16) rfl rfl hij_19 hjl_20 hys_21) (flat_cell tInt _) h_23 ?_)⟩
          refine tmv 2 4 (by decide) (lb rfl) rfl rfl (lb rfl) ?_
          exact tj hj2_8 rfl (wp 4 (lb rfl) rfl rfl rfl rfl ⟨rfl, rfl, rfl, rfl, rfl, rfl, trivial⟩)
        · skip
          refine ⟨_, rfl, rfl, (TOp_lit (nn := 1) (k := 1) sl33 zero3 rfl rfl rfl rfl (by decide) ?_)⟩
          refine tmv 3 4 (by decide) (lb rfl) rfl rfl (lb rfl) ?_
          exact tj hj1_8 rfl (wp 4 (lb rfl) rfl rfl rfl rfl ⟨rfl, rfl, rfl, rfl, rfl, rfl, rfl, trivial⟩)
      refine tf 1 rfl (purI_move rfl) rfl rfl (by kernel_rfl) ?_
      refine tf 2 rfl (purI_move rfl) rfl rfl (by kernel_rfl) ?_
      refine tf 3 rfl (purI_cutM (lo := none) (hi := (some (.tmp 33))) sl33 rfl hi_17.symm ⟨_, congrArg (fun z => A.v (.int .i64 z)) hj_18⟩ hij_19 hjl_20 rfl) rfl rfl (by kernel_rfl) ?_
      refine tf 5 rfl (purI_move rfl) rfl rfl (by kernel_rfl) ?_
      refine tf 6 rfl (purI_move rfl) rfl rfl (by kernel_rfl) ?_
      refine tf 7 rfl (purI_ixT (T := tInt) sl33 rfl rfl rfl hx_i_1 rfl) rfl rfl (by kernel_rfl) ?_
      refine TA_env (E' := [(0, (sl tInt l0)), (3, (.m [0] 0 out3.length tInt.k)), (4, (intA (i_1 : Int))), (5, (intA k5)), (34, (.m [0] (i_15 * tInt.k) (j_16 - i_15) tInt.k)), (38, (.q (flat tInt.enc l0) (i_1 * tInt.k)))]) ⟨rfl, rfl, rfl, rfl, rfl, rfl, trivial⟩ ?_
      refine tf 11 rfl (purI_move rfl) rfl rfl (by kernel_rfl) ?_
      refine tf 12 rfl (purI_move rfl) rfl rfl (by kernel_rfl) ?_
      refine tf 13 rfl (purI_cutM (lo := (some (.tmp 43))) (hi := none) sl33 rfl ⟨_, congrArg (fun z => A.v (.int .i64 z)) hi_30⟩ hj_31.symm hij_32 hjl_33 rfl) rfl rfl (by kernel_rfl) ?_
      refine TA_all [0, 8] (by kernel_rfl) (by decide) ⟨?_, ?_, trivial⟩
      · skip
        refine ⟨_, rfl, rfl, (TOp_lit (nn := 0) (k := 1) sl33 zero3 rfl rfl rfl rfl (by decide) ?_)⟩
        refine tmv 2 4 (by decide) (lb rfl) rfl rfl (lb rfl) ?_
        refine TA_all [4, 8] (by kernel_rfl) (by decide) ⟨?_, ?_, trivial⟩
        · skip
          refine ⟨_, rfl, rfl, (TOp_appY (T := tInt) (f := tInt.enc) (xs := ([] : (List Int))) (ys := ys_13) tInt.len sl33 zero3 rfl bytes3 (by decide) rfl rfl rfl rfl (src_cut (T := tInt) (xs := out3) (i := i_15) (j := j_16) rfl rfl hij_19 hjl_20 hys_21) (flat_cell tInt _) h_23 ?_)⟩
          refine tmv 2 5 (by decide) (lb rfl) rfl rfl (lb rfl) ?_
          refine t1 8 (by kernel_rfl) rfl rfl (TOp_pure (pur_ldT (T := tInt) (i := i_1) (off := 0) rfl one3 rfl rfl hx_i_1 rfl) rfl ?_)
          exact tj hj2_8 rfl (wp 4 (lb rfl) rfl rfl rfl rfl ⟨rfl, rfl, rfl, rfl, rfl, rfl, trivial⟩)
        · skip
          refine ⟨_, rfl, rfl, (TOp_pure (pur_ldT (T := tInt) (i := i_1) (off := 0) rfl one3 rfl rfl hx_i_1 rfl) rfl ?_)⟩
          exact tj hj3_8 rfl (wp 4 (lb rfl) rfl rfl rfl rfl ⟨rfl, rfl, rfl, rfl, rfl, rfl, rfl, trivial⟩)
      · skip
        refine ⟨_, rfl, rfl, (TOp_pure (pur_ldT (T := tInt) (i := i_1) (off := 0) rfl one3 rfl rfl hx_i_1 rfl) rfl ?_)⟩
        refine TA_all [0, 9] (by kernel_rfl) (by decide) ⟨?_, ?_, trivial⟩
        · skip
          refine ⟨_, rfl, rfl, (TOp_lit (nn := 0) (k := 1) sl33 zero3 rfl rfl rfl rfl (by decide) ?_)⟩
          refine tmv 2 4 (by decide) (lb rfl) rfl rfl (lb rfl) ?_
          exact tj hj3_8 rfl (wp 4 (lb rfl) rfl rfl rfl rfl ⟨rfl, rfl, rfl, rfl, rfl, rfl, rfl, trivial⟩)
        · skip
          refine ⟨_, rfl, rfl, (TOp_lit (nn := 1) (k := 1) sl33 zero3 rfl rfl rfl rfl (by decide) ?_)⟩
          refine tmv 3 4 (by decide) (lb rfl) rfl rfl (lb rfl) ?_
          refine t1 0 (by kernel_rfl) rfl rfl (TOp_lit (nn := 0) (k := 1) sl33 zero3 rfl rfl rfl rfl (by decide) ?_)
          refine tmv 2 5 (by decide) (lb rfl) rfl rfl (lb rfl) ?_
          exact tj hj1_8 rfl (wp 4 (lb rfl) rfl rfl rfl rfl ⟨rfl, rfl, rfl, rfl, rfl, rfl, rfl, trivial⟩)
  · replace d2 := of_decide_eq_false d2
    obtain rfl := forS_end L2_ (by omega)
    refine T_exit ?_
    refine then_exit ?_
    refine then_exit ?_
    refine block_exit ?_
    replace H := N2_
    refine T_env (E' := [(3, (.m [0] 0 out3.length tInt.k))]) ⟨rfl, trivial⟩ ?_
    refine sr ?_
    refine Tp rfl rfl (pur_move rfl) rfl ?_
    refine Tp rfl rfl (pur_assign rfl) rfl ?_
    refine TO_nil ?_
    refine T_env (E' := [(2, (.m [0] 0 out3.length tInt.k))]) ⟨rfl, trivial⟩ ?_
    refine T_ret ?_
    obtain rfl := some_inj H
    exact end_pick (.tmp .nil) rfl [0] (by decide) rfl rfl rfl rfl rfl rfl
theorem m_spec_l7Sorted_ok (u : Nat) (l0 : (List Int)) (r : (List Int)) (H : m_spec_l7Sorted u l0 = some r) : FnV prg 80 [(sl tInt l0)] (sl tInt r) := (m_spec_l7Sorted_own u l0 r H).frz (frzT (T := tInt) rfl)

set_option maxHeartbeats 1000000 in
/-- spec.NthRepair -/
theorem m_spec_NthRepair_own (u : Nat) (d0 : Database) (k1 : Int) (r : ((List Int) × Bool)) (H : m_spec_NthRepair u d0 k1 = some r) : FnO prg 41 [(.g (tDatabase.enc d0)), (intA k1)] (.t [(.m [0] 0 r.1.length tInt.k), (boolA r.2)]) [.row (flat tInt.own r.1)] := by
  unfold m_spec_NthRepair at H
  refine fnO_of_T Try.func41 rfl rfl (Nat.le_of_ble_eq_true rfl) ?_
  refine T_env (E' := [(0, (.g (tDatabase.enc d0))), (1, (intA k1))]) ⟨rfl, rfl, trivial⟩ ?_
  refine sr ?_
  refine TO_cons rfl (TOp_box rfl (boxAll rfl) rfl rfl ?_)
  refine Tp rfl rfl (pur_assign rfl) rfl ?_
  refine Tp rfl rfl (pur_assign rfl) rfl ?_
  refine TO_nil ?_
  refine T_env (E' := [(1, (intA k1)), (2, (.b 0 0))]) ⟨rfl, rfl, trivial⟩ ?_
  refine T_seq ?_
  refine sr ?_
  refine Tp rfl rfl (pur_move rfl) rfl ?_
  refine Tp rfl rfl (pur_ldK_b agg32 rfl rfl (lb rfl) rfl) rfl ?_
  obtain ⟨r_1, h_2, H⟩ := bind_inv H
  refine TO_cons rfl (TOp_callV (call_static ent40 rfl) (m_spec_CountRepairs_ok u _ _ h_2) rfl rfl rfl ?_)
  refine Tp rfl rfl (pur_wsub rfl rfl rfl) rfl ?_
  obtain ⟨r_3, h_4, H⟩ := bind_inv H
  refine TO_cons rfl (TOp_callV (call_static ent78 rfl) (m_spec_l1In_ok _ _ _ _ h_4) rfl rfl rfl ?_)
  refine Tp rfl rfl (pur_not rfl rfl) rfl ?_
  refine TO_nil ?_
  refine T_env (E' := [(1, (intA k1)), (2, (.b 0 0)), (14, (boolA (!r_3)))]) ⟨rfl, rfl, rfl, trivial⟩ ?_
  refine T_cond (t := (!r_3)) rfl (fun c_5 => ?_) (fun c_5 => ?_)
  · replace H := cond_t c_5 H
    refine sr ?_
    refine TO_cons rfl (TOp_lit (nn := 0) (k := 1) sl33 zero3 rfl rfl rfl rfl (by decide) ?_)
    refine TO_st (σ' := [.box [(sl tRelation d0.relations), (sl tFact d0.facts)], .row (flat tInt.enc ([] : (List Int)))]) rfl ?_
    refine Tp rfl rfl (pur_assign rfl) rfl ?_
    refine Tp rfl rfl (pur_assign rfl) rfl ?_
    refine TO_nil ?_
    refine T_env (E' := [(4, (.m [1] 0 ([] : (List Int)).length tInt.k)), (5, (boolA false))]) ⟨rfl, rfl, trivial⟩ ?_
    refine T_ret ?_
    refine then_ret ?_
    obtain rfl := some_inj H
    exact end_pick (.tmp (.tmp .nil)) rfl [1] (by decide) rfl rfl rfl rfl rfl rfl
  · replace H := cond_f c_5 H
    refine T_skip ?_
    refine T_env (E' := [(1, (intA k1)), (2, (.b 0 0))]) ⟨rfl, rfl, trivial⟩ ?_
    refine sr ?_
    refine Tp rfl rfl (pur_ldK_b agg32 rfl rfl (lb rfl) rfl) rfl ?_
    obtain ⟨r_6, h_7, H⟩ := bind_inv H
    refine TO_cons rfl (TOp_callV (call_static ent79 rfl) (m_spec_Blocks_ok u _ _ h_7) rfl rfl rfl ?_)
    refine Tp rfl rfl (pur_assign rfl) rfl ?_
    refine TO_nil ?_
    refine T_env (E' := [(1, (intA k1)), (6, (sl (tSl tInt) r_6))]) ⟨rfl, rfl, trivial⟩ ?_
    refine sr ?_
    refine TO_cons rfl (TOp_lit (nn := 0) (k := 1) sl33 zero3 rfl rfl rfl rfl (by decide) ?_)
    refine TO_st (σ' := [.box [(sl tRelation d0.relations), (sl tFact d0.facts)], .row (flat tInt.enc ([] : (List Int)))]) rfl ?_
    refine Tp rfl rfl (pur_assign rfl) rfl ?_
    refine TO_nil ?_
    refine T_env (E' := [(1, (intA k1)), (6, (sl (tSl tInt) r_6)), (7, (.m [1] 0 ([] : (List Int)).length tInt.k))]) ⟨rfl, rfl, rfl, trivial⟩ ?_
    refine T_seq ?_
    refine sr ?_
    refine Tp rfl rfl (pur_move rfl) rfl ?_
    refine Tp rfl rfl (pur_lenT (T := (tSl tInt)) sl22 rfl rfl) rfl ?_
    refine TO_fact (len_sl (T := (tSl tInt)) (.tmp 6) rfl) (fun hl_8 => ?_)
    refine Tp rfl rfl (pur_sub rfl rfl rfl (fits64 (by omega) (by omega))) rfl ?_
    refine Tp rfl rfl (pur_assign rfl) rfl ?_
    refine TO_nil ?_
    refine T_env (E' := [(1, (intA k1)), (6, (sl (tSl tInt) r_6)), (7, (.m [1] 0 ([] : (List Int)).length tInt.k)), (8, (intA ((r_6.length : Int) - 1)))]) ⟨rfl, rfl, rfl, rfl, trivial⟩ ?_
    obtain ⟨O9_, L9_, N9_⟩ := bind_inv H
    clear H
    obtain ⟨B9_, hb9, L9_⟩ := gen_whileF L9_
    refine T_block ?_
    refine T_loopX (fun k => fun (x_ : Int × (List Int) × Int) => whileF B9_ k (x_.1, x_.2.1, x_.2.2) = some O9_) (fun (x_ : Int × (List Int) × Int) => [(1, (intA x_.1)), (6, (sl (tSl tInt) r_6)), (7, (.m [1] 0 x_.2.1.length tInt.k)), (8, (intA x_.2.2))]) (fun (x_ : Int × (List Int) × Int) => [.box [(sl tRelation d0.relations), (sl tFact d0.facts)], .row (flat tInt.enc x_.2.1)]) u (k1, ([] : (List Int)), ((r_6.length : Int) - 1)) (wp 2 (lb rfl) rfl rfl rfl rfl ⟨rfl, rfl, rfl, rfl, trivial⟩) L9_ ?_
    rintro _ ⟨k1, out7, i8⟩ L9_
    obtain ⟨k9, rfl, C9_, H, K9_⟩ := while_step L9_
    rw [hb9] at H
    refine T_env (E' := [(1, (intA k1)), (6, (sl (tSl tInt) r_6)), (7, (.m [1] 0 out7.length tInt.k)), (8, (intA i8))]) ⟨rfl, rfl, rfl, rfl, trivial⟩ ?_
    refine T_st (σ' := [.box [(sl tRelation d0.relations), (sl tFact d0.facts)], .row (flat tInt.enc out7)]) rfl ?_
    refine T_seq ?_
    refine sr ?_
    refine Tp rfl rfl (pur_move rfl) rfl ?_
    refine Tp rfl rfl (pur_geq rfl rfl rfl) rfl ?_
    refine TO_nil ?_
    refine T_env (E' := [(1, (intA k1)), (6, (sl (tSl tInt) r_6)), (7, (.m [1] 0 out7.length tInt.k)), (8, (intA i8)), (23, (boolA (decide (0 ≤ i8))))]) ⟨rfl, rfl, rfl, rfl, rfl, trivial⟩ ?_
    refine T_cond (t := decide (0 ≤ i8)) rfl (fun c_10 => ?_) (fun c_10 => ?_)
    · replace H := cond_t c_10 H
      refine T_skip ?_
      refine T_env (E' := [(1, (intA k1)), (6, (sl (tSl tInt) r_6)), (7, (.m [1] 0 out7.length tInt.k)), (8, (intA i8))]) ⟨rfl, rfl, rfl, rfl, trivial⟩ ?_
      refine T_seq ?_
      refine T_block ?_
      obtain ⟨v_11, h_12, H⟩ := bind_inv H
      obtain ⟨n_13, hz_14, hv_15⟩ := getI_inv h_12
      obtain ⟨_u, h_16, H⟩ := bind_inv H
      obtain ⟨v_17, h_18, H⟩ := bind_inv H
      obtain ⟨n_19, hz_20, hv_21⟩ := getI_inv h_18
      obtain ⟨us_22, h_23, H⟩ := bind_inv H
      refine T_pad ?_
      refine T_cutX (fun (_ : Unit) => True) (fun _ => [(1, (intA k1)), (6, (sl (tSl tInt) r_6)), (7, (.m [1] 0 us_22.length tInt.k)), (8, (intA i8))]) (fun _ => [.box [(sl tRelation d0.relations), (sl tFact d0.facts)], .row (flat tInt.enc us_22)]) ?_ ?_
      · skip
        refine T_regionP mixed ?_
        refine TA_have 5 #[true, true, true, true, true, true, true, true, true, true, true, true, false, false, false, false, false] [(1, (intA k1)), (6, (sl (tSl tInt) r_6)), (7, (.m [1] 0 out7.length tInt.k)), (8, (intA i8)), (26, (.m [1] 0 out7.length tInt.k)), (30, (sl tInt v_11)), (37, (intA (k1.tmod (v_11.length : Int))))] [.box [(sl tRelation d0.relations), (sl tFact d0.facts)], .row (flat tInt.enc out7), .dead] ?_ (fun hj0_8 => ?_)
        · skip
          refine tf 12 rfl (purI_ixT (T := tInt) sl33 rfl rfl hz_20 hv_21 rfl) rfl rfl (by kernel_rfl) ?_
          refine t1 13 (by kernel_rfl) rfl rfl (TOp_pure (pur_ldT (T := tInt) (i := n_19) (off := 0) rfl one3 rfl rfl hv_21 rfl) rfl ?_)
          refine t1 14 (by kernel_rfl) rfl rfl (TOp_lit (nn := 1) (k := 1) sl33 zero3 rfl rfl rfl rfl (by decide) ?_)
          refine tmv 2 3 (by decide) (lb rfl) rfl rfl (lb rfl) ?_
          refine t1 15 (by kernel_rfl) rfl rfl (TOp_appY (T := tInt) (f := tInt.enc) (xs := out7) (ys := ([v_17] : (List Int))) tInt.len sl33 zero3 rfl bytes3 (by decide) rfl rfl rfl rfl (src_mT (f := tInt.enc) tInt.len rfl rfl (flat_cell tInt _)) (flat_cell tInt _) h_23 ?_)
          refine tmv 1 4 (by decide) (lb rfl) rfl rfl (lb rfl) ?_
          refine tf 16 rfl (purI_assign rfl) rfl rfl (by kernel_rfl) ?_
          exact TA_nil (by kernel_rfl) (joined () (wp 2 (lb rfl) rfl rfl rfl rfl ⟨rfl, rfl, rfl, rfl, trivial⟩) trivial)
        refine TA_have 6 #[true, true, true, true, true, true, true, true, true, true, true, false, false, false, false, false, false] [(1, (intA k1)), (6, (sl (tSl tInt) r_6)), (7, (.m [1] 0 out7.length tInt.k)), (8, (intA i8)), (26, (.m [1] 0 out7.length tInt.k)), (30, (sl tInt v_11)), (31, (intA k1)), (36, (intA (v_11.length : Int)))] [.box [(sl tRelation d0.relations), (sl tFact d0.facts)], .row (flat tInt.enc out7), .dead] ?_ (fun hj1_8 => ?_)
        · skip
          refine t1 11 (by kernel_rfl) rfl rfl (TOp_pure (pur_rem rfl rfl rfl (gD_inv h_16)) rfl ?_)
          exact tj hj0_8 rfl (wp 3 (lb rfl) rfl rfl rfl rfl ⟨rfl, rfl, rfl, rfl, rfl, rfl, rfl, trivial⟩)
        refine tf 0 rfl (purI_move rfl) rfl rfl (by kernel_rfl) ?_
        refine tf 1 rfl (purI_move rfl) rfl rfl (by kernel_rfl) ?_
        refine tf 2 rfl (purI_move rfl) rfl rfl (by kernel_rfl) ?_
        refine tf 3 rfl (purI_ixT (T := (tSl tInt)) sl22 rfl rfl hz_14 hv_15 rfl) rfl rfl (by kernel_rfl) ?_
        refine tf 5 rfl (purI_move rfl) rfl rfl (by kernel_rfl) ?_
        refine tf 6 rfl (purI_move rfl) rfl rfl (by kernel_rfl) ?_
        refine TA_env (E' := [(1, (intA k1)), (6, (sl (tSl tInt) r_6)), (7, (.m [1] 0 out7.length tInt.k)), (8, (intA i8)), (26, (.m [1] 0 out7.length tInt.k)), (29, (.q (flat (tSl tInt).enc r_6) (n_13 * (tSl tInt).k))), (31, (intA k1)), (32, (sl (tSl tInt) r_6))]) ⟨rfl, rfl, rfl, rfl, rfl, rfl, rfl, rfl, trivial⟩ ?_
        refine tf 7 rfl (purI_move rfl) rfl rfl (by kernel_rfl) ?_
        refine tf 8 rfl (purI_ixT (T := (tSl tInt)) sl22 rfl rfl hz_14 hv_15 rfl) rfl rfl (by kernel_rfl) ?_
        refine TA_all [4, 9] (by kernel_rfl) (by decide) ⟨?_, ?_, trivial⟩
        · skip
          refine ⟨_, rfl, rfl, (TOp_pure (pur_ldT (T := (tSl tInt)) (i := n_13) (off := 0) rfl one33 rfl rfl hv_15 rfl) rfl ?_)⟩
          refine t1 9 (by kernel_rfl) rfl rfl (TOp_pure (pur_ldT (T := (tSl tInt)) (i := n_13) (off := 0) rfl one33 rfl rfl hv_15 rfl) rfl ?_)
          refine tf 10 rfl (purI_lenT (T := tInt) sl33 rfl rfl) rfl rfl (by kernel_rfl) ?_
          refine TA_env (E' := [(1, (intA k1)), (6, (sl (tSl tInt) r_6)), (7, (.m [1] 0 out7.length tInt.k)), (8, (intA i8)), (26, (.m [1] 0 out7.length tInt.k)), (30, (sl tInt v_11)), (31, (intA k1)), (36, (intA (v_11.length : Int)))]) ⟨rfl, rfl, rfl, rfl, rfl, rfl, rfl, rfl, trivial⟩ ?_
          exact tj hj1_8 rfl (wp 3 (lb rfl) rfl rfl rfl rfl ⟨rfl, rfl, rfl, rfl, rfl, rfl, rfl, rfl, trivial⟩)
        · skip
          refine ⟨_, rfl, rfl, (TOp_pure (pur_ldT (T := (tSl tInt)) (i := n_13) (off := 0) rfl one33 rfl rfl hv_15 rfl) rfl ?_)⟩
          refine tf 10 rfl (purI_lenT (T := tInt) sl33 rfl rfl) rfl rfl (by kernel_rfl) ?_
          refine TA_all [4, 11] (by kernel_rfl) (by decide) ⟨?_, ?_, trivial⟩
          · skip
            refine ⟨_, rfl, rfl, (TOp_pure (pur_ldT (T := (tSl tInt)) (i := n_13) (off := 0) rfl one33 rfl rfl hv_15 rfl) rfl ?_)⟩
            exact tj hj1_8 rfl (wp 3 (lb rfl) rfl rfl rfl rfl ⟨rfl, rfl, rfl, rfl, rfl, rfl, rfl, rfl, trivial⟩)
          · skip
            refine ⟨_, rfl, rfl, (TOp_pure (pur_rem rfl rfl rfl (gD_inv h_16)) rfl ?_)⟩
            refine t1 4 (by kernel_rfl) rfl rfl (TOp_pure (pur_ldT (T := (tSl tInt)) (i := n_13) (off := 0) rfl one33 rfl rfl hv_15 rfl) rfl ?_)
            exact tj hj0_8 rfl (wp 3 (lb rfl) rfl rfl rfl rfl ⟨rfl, rfl, rfl, rfl, rfl, rfl, rfl, trivial⟩)
      · rintro _ _
        refine T_env (E' := [(1, (intA k1)), (6, (sl (tSl tInt) r_6)), (7, (.m [1] 0 us_22.length tInt.k)), (8, (intA i8))]) ⟨rfl, rfl, rfl, rfl, trivial⟩ ?_
        refine T_region ?_
        refine Tp rfl rfl (pur_move rfl) rfl ?_
        refine Tp rfl rfl (pur_move rfl) rfl ?_
        refine Tp rfl rfl (pur_move rfl) rfl ?_
        refine Tp rfl rfl (pur_ixT (T := (tSl tInt)) sl22 rfl rfl hz_14 hv_15 rfl) rfl ?_
        refine Tp rfl rfl (pur_ldT (T := (tSl tInt)) (i := n_13) (off := 0) rfl one33 rfl rfl hv_15 rfl) rfl ?_
        refine Tp rfl rfl (pur_lenT (T := tInt) sl33 rfl rfl) rfl ?_
        obtain ⟨_u, h_24, H⟩ := bind_inv H
        refine Tp rfl rfl (pur_wquo rfl rfl rfl (gD_inv h_24)) rfl ?_
        refine Tp rfl rfl (pur_assign rfl) rfl ?_
        refine TO_nil ?_
        refine T_env (E' := [(1, (intA (w64 (k1.tdiv (v_11.length : Int))))), (6, (sl (tSl tInt) r_6)), (7, (.m [1] 0 us_22.length tInt.k)), (8, (intA i8))]) ⟨rfl, rfl, rfl, rfl, trivial⟩ ?_
        refine T_region ?_
        refine Tp rfl rfl (pur_move rfl) rfl ?_
        refine Tp rfl rfl (pur_wsub rfl rfl rfl) rfl ?_
        refine Tp rfl rfl (pur_assign rfl) rfl ?_
        refine TO_nil ?_
        obtain rfl := some_inj H
        exact again k9 ((w64 (k1.tdiv (v_11.length : Int))), us_22, (w64 (i8 - 1))) (Nat.lt_succ_self _) (wp 2 (lb rfl) rfl rfl rfl rfl ⟨rfl, rfl, rfl, rfl, trivial⟩) K9_
    · replace H := cond_f c_10 H
      refine T_exit ?_
      refine then_exit ?_
      refine then_exit ?_
      refine block_exit ?_
      obtain rfl := some_inj H
      obtain rfl := some_inj K9_
      replace H := onS_l N9_
      refine T_env (E' := [(7, (.m [1] 0 out7.length tInt.k))]) ⟨rfl, trivial⟩ ?_
      refine sr ?_
      refine Tp rfl rfl (pur_move rfl) rfl ?_
      obtain ⟨r_25, h_26, H⟩ := bind_inv H
      refine TO_cons rfl (TOp_callOG (call_static ent80 rfl) (frz_cons (frzTE (T := tInt) rfl) frz_nil).1 (frz_cons (frzTE (T := tInt) rfl) frz_nil).2 (m_spec_l7Sorted_own u _ _ h_26) rfl (ownC_of (ownSB_cons (flat_ownR tInt _) ownSB_nil)) rfl rfl rfl ?_)
      refine TO_env (E' := [(7, (.m [1] 0 out7.length tInt.k)), (49, (.m [1] 0 out7.length tInt.k)), (50, (.m [2] 0 r_25.length tInt.k))]) ⟨rfl, rfl, rfl, trivial⟩ ?_
      refine TO_st (σ' := [.box [(sl tRelation d0.relations), (sl tFact d0.facts)], .row (flat tInt.enc out7), .row (flat tInt.own r_25)]) rfl ?_
      refine Tp rfl rfl (pur_assign rfl) rfl ?_
      refine Tp rfl rfl (pur_assign rfl) rfl ?_
      refine TO_nil ?_
      refine T_env (E' := [(4, (.m [2] 0 r_25.length tInt.k)), (5, (boolA true))]) ⟨rfl, rfl, trivial⟩ ?_
      refine T_ret ?_
      obtain rfl := some_inj H
      exact end_pick (.tmp (.tmp .nil)) rfl [2] (by decide) rfl rfl rfl rfl rfl rfl
theorem m_spec_NthRepair_ok (u : Nat) (d0 : Database) (k1 : Int) (r : ((List Int) × Bool)) (H : m_spec_NthRepair u d0 k1 = some r) : FnV prg 41 [(.g (tDatabase.enc d0)), (intA k1)] (.t [(sl tInt r.1), (boolA r.2)]) := (m_spec_NthRepair_own u d0 k1 r H).frz (frzOK_t (frz_cons (frzT (T := tInt) rfl) (frz_cons (frz_loose rfl) frz_nil)).1 (frz_cons (frzT (T := tInt) rfl) (frz_cons (frz_loose rfl) frz_nil)).2)
end Go.Proofs.Ytlcpdlngbofgcaa

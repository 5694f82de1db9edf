/- Walks. -/
import Derived.Test.YtjdpolnakhmkmaaM1
import Derived.Test.YtjdpolnakhmkmaaM3
import Derived.Test.YtjdpolnakhmkmaaM4
import Derived.Test.YtjdpolnakhmkmaaM5
set_option linter.unusedVariables false
set_option linter.unusedSimpArgs false
set_option maxRecDepth 4000
namespace Go.Proofs.Ytjdpolnakhmkmaa
open Go Go.Proofs Go.Sep
set_option maxHeartbeats 1000000 in
/-- spec.l4Any -/
theorem m_spec_l4Any_x (u : Nat) (c0 : l1Cur) (r : (Database × l1Cur)) (H : m_spec_l4Any u c0 = some r) : FnS prg 115 [(.b 0 0)] [.box [(sl (tI .u8) c0.b), (intA c0.i), (intA c0.h)]] (.g (tDatabase.enc r.1)) [.box [(sl (tI .u8) r.2.b), (intA r.2.i), (intA r.2.h)]] := by
  unfold m_spec_l4Any at H
  refine fnS_of_T Try.func115 rfl rfl (Nat.le_of_ble_eq_true rfl) ?_
  refine te [(0, (.b 0 0))] rfl ?_
  refine T_st (σ' := [.box [(sl (tI .u8) c0.b), (intA c0.i), (intA c0.h)]]) rfl ?_
  refine sr ?_
  refine TO_cons rfl (TOp_alloc zero48 rfl rfl ?_)
  refine TO_nil ?_
  refine te [(0, (.b 0 0)), (2, (.b 1 0))] rfl ?_
  refine sr ?_
  refine Tp rfl rfl (pur_move rfl) rfl ?_
  obtain ⟨r_1, h_2, H⟩ := bind_inv H
  refine TO_cons rfl (TOp_callS [0] (call_static ent162 rfl) (by decide) rfl rfl rfl rfl rfl rfl (m_spec_l4Db_x u _ _ h_2) rfl rfl ?_)
  refine toe [(0, (.b 0 0)), (2, (.b 1 0)), (4, (.b 0 0)), (5, (.g [(.m [2] 0 r_1.1.relations.length tRelation.k), (.m [3] 0 r_1.1.facts.length tFact.k)]))] rfl ?_
  refine TO_st (σ' := [.box [(sl (tI .u8) r_1.2.b), (intA r_1.2.i), (intA r_1.2.h)], .box [.n, .n], .row (flat tRelation.enc r_1.1.relations), .row (flat tFact.enc r_1.1.facts)]) rfl ?_
  refine TO_cons rfl (TOp_alloc zero48 rfl rfl ?_)
  refine TO_cons rfl (TOp_storeB sz48 rfl rfl rfl rfl rfl rfl rfl (by decide) (lb rfl) rfl ?_)
  refine TO_st (σ' := [.box [(sl (tI .u8) r_1.2.b), (intA r_1.2.i), (intA r_1.2.h)], .box [.n, .n], .row (flat tRelation.enc r_1.1.relations), .row (flat tFact.enc r_1.1.facts), .box [(.m [2] 0 r_1.1.relations.length tRelation.k), (.m [3] 0 r_1.1.facts.length tFact.k)]]) rfl ?_
  refine TO_nil ?_
  refine te [(0, (.b 0 0)), (2, (.b 1 0)), (3, (.b 4 0))] rfl ?_
  refine T_seq ?_
  refine sr ?_
  refine Tp rfl rfl (pur_move rfl) rfl ?_
  obtain ⟨r_3, h_4, H⟩ := bind_inv H
  refine TO_cons rfl (TOp_callS [0] (call_static ent121 rfl) (by decide) rfl rfl rfl rfl rfl rfl (m_spec_l1Below_x _ _ _ h_4) rfl rfl ?_)
  refine toe [(0, (.b 0 0)), (2, (.b 1 0)), (3, (.b 4 0)), (6, (.b 0 0)), (7, (intA r_3.1))] rfl ?_
  refine TO_st (σ' := [.box [(sl (tI .u8) r_3.2.b), (intA r_3.2.i), (intA r_3.2.h)], .box [.n, .n], .row (flat tRelation.enc r_1.1.relations), .row (flat tFact.enc r_1.1.facts), .box [(.m [2] 0 r_1.1.relations.length tRelation.k), (.m [3] 0 r_1.1.facts.length tFact.k)]]) rfl ?_
  refine TO_nil ?_
  refine te [(0, (.b 0 0)), (2, (.b 1 0)), (3, (.b 4 0)), (7, (intA r_3.1))] rfl ?_
  refine T_block ?_
  refine sr ?_
  refine Tp rfl rfl (pur_eql rfl rfl rfl) rfl ?_
  refine Tp rfl rfl (pur_assign rfl) rfl ?_
  refine TO_nil ?_
  refine te [(0, (.b 0 0)), (2, (.b 1 0)), (3, (.b 4 0)), (7, (intA r_3.1)), (8, (boolA (decide (r_3.1 = 0))))] rfl ?_
  refine T_cond (t := decide (r_3.1 = 0)) rfl (fun c_5 => ?_) (fun c_5 => ?_)
  ·replace H := cond_t c_5 H
   obtain ⟨r_6, h_7, H⟩ := bind_inv H
   obtain ⟨us_8, h_9, H⟩ := bind_inv H
   refine T_pad ?_
   refine T_pad ?_
   refine T_regionP mixed ?_
   refine TA_have 3 #[true, true, true, true, true, true, true, false, false, false] [(2, (.b 1 0)), (3, (.b 4 0)), (11, (.m [3] 0 r_1.1.facts.length tFact.k)), (16, (.m [6] 0 ([r_6.1] : (List Fact)).length tFact.k))] [.box [(sl (tI .u8) r_6.2.b), (intA r_6.2.i), (intA r_6.2.h)], .box [.n, .n], .dead, .row (flat tFact.enc r_1.1.facts), .box [(sl tRelation r_1.1.relations), (.m [3] 0 r_1.1.facts.length tFact.k)], .dead, .row (flat tFact.enc ([r_6.1] : (List Fact)))] ?_ (fun hj0_4 => ?_)
   ·skip
    refine t1 7 (by kernel_rfl) rfl rfl (TOp_appY (T := tFact) (f := tFact.enc) (xs := r_1.1.facts) (ys := ([r_6.1] : (List Fact))) tFact.len sl46 zero65 rfl bytes65 (by decide) rfl rfl rfl rfl (src_mT (f := tFact.enc) tFact.len rfl rfl (flat_cell tFact _)) (flat_cell tFact _) h_9 ?_)
    refine tmv 3 7 (by decide) (lb rfl) rfl rfl (lb rfl) ?_
    refine tf 8 rfl (purI_fa_b fld48_1 rfl rfl) rfl rfl (by kernel_rfl) ?_
    refine t1 9 (by kernel_rfl) rfl rfl (TOp_storeB sz46 rfl rfl rfl rfl rfl rfl rfl (by decide) (lb rfl) rfl ?_)
    refine TA_st (σ' := [.box [(sl (tI .u8) r_6.2.b), (intA r_6.2.i), (intA r_6.2.h)], .box [.n, .n], .dead, .row (flat tFact.enc us_8), .box [(sl tRelation r_1.1.relations), (.m [3] 0 us_8.length tFact.k)], .dead, .row (flat tFact.enc ([r_6.1] : (List Fact))), .dead]) rfl ?_
    refine TA_nil (by kernel_rfl) ?_
    refine te [(2, (.b 1 0)), (3, (.b 4 0))] rfl ?_
    refine sr ?_
    refine Tp rfl rfl (pur_ldK_b agg48 rfl rfl (lb rfl) rfl) rfl ?_
    refine TO_cons rfl (TOp_storeB sz48 rfl rfl rfl rfl rfl rfl rfl (by decide) (lb rfl) rfl ?_)
    refine TO_st (σ' := [.box [(sl (tI .u8) r_6.2.b), (intA r_6.2.i), (intA r_6.2.h)], .box [(sl tRelation r_1.1.relations), (.m [3] 0 us_8.length tFact.k)], .dead, .row (flat tFact.enc us_8), .box [(sl tRelation r_1.1.relations), (.m [3] 0 us_8.length tFact.k)], .dead, .row (flat tFact.enc ([r_6.1] : (List Fact))), .dead]) rfl ?_
    refine TO_nil ?_
    refine te [(2, (.b 1 0))] rfl ?_
    refine T_frzB 3 (E' := [(2, (.b 1 0))]) (σ' := [.box [(sl (tI .u8) r_6.2.b), (intA r_6.2.i), (intA r_6.2.h)], .box [(sl tRelation r_1.1.relations), (sl tFact us_8)], .dead, .dead, .box [(sl tRelation r_1.1.relations), (sl tFact us_8)], .dead, .row (flat tFact.enc ([r_6.1] : (List Fact))), .dead]) rfl (lb rfl) ?_ ?_ ?_
    ·exact ⟨(.keep rfl), trivial⟩
    ·exact ⟨(fzK rfl), (fzC (.keep rfl) (fzC fz1E fzN)), trivial, trivial, (fzC (.keep rfl) (fzC fz1E fzN)), trivial, rfl, trivial, trivial⟩
    refine T_ret ?_
    obtain rfl := some_inj H
    exact end_pickX (.cellK rfl agg48 rfl (lb rfl) .nil) rfl [0] (by decide) (lb rfl) rfl (lb rfl) rfl rfl rfl rfl rfl rfl
   refine TA_have 4 #[true, true, true, true, true, true, false, false, false, false] [(2, (.b 1 0)), (3, (.b 4 0)), (11, (.m [3] 0 r_1.1.facts.length tFact.k)), (15, (.g [(intA r_6.1.relation), (sl tInt r_6.1.values)]))] [.box [(sl (tI .u8) r_6.2.b), (intA r_6.2.i), (intA r_6.2.h)], .box [.n, .n], .dead, .row (flat tFact.enc r_1.1.facts), .box [(sl tRelation r_1.1.relations), (.m [3] 0 r_1.1.facts.length tFact.k)], .dead, .dead] ?_ (fun hj1_4 => ?_)
   ·skip
    refine t1 6 (by kernel_rfl) rfl rfl (TOp_lit (nn := 1) (k := 2) sl46 zero65 rfl rfl rfl rfl (by decide) ?_)
    refine tmv 6 7 (by decide) (lb rfl) rfl rfl (lb rfl) ?_
    exact tj hj0_4 rfl (wp 7 (lb rfl) rfl rfl rfl rfl rfl)
   refine TA_have 5 #[true, true, true, true, true, false, false, false, false, false] [(2, (.b 1 0)), (3, (.b 4 0)), (11, (.m [3] 0 r_1.1.facts.length tFact.k)), (12, (.b 0 0)), (14, (sl tRelation r_1.1.relations))] [.box [(sl (tI .u8) r_3.2.b), (intA r_3.2.i), (intA r_3.2.h)], .box [.n, .n], .dead, .row (flat tFact.enc r_1.1.facts), .box [(sl tRelation r_1.1.relations), (.m [3] 0 r_1.1.facts.length tFact.k)], .dead, .dead] ?_ (fun hj2_4 => ?_)
   ·skip
    refine t1 5 (by kernel_rfl) rfl rfl (TOp_callS [0] (call_static ent163 rfl) (by decide) rfl rfl rfl rfl rfl rfl (m_spec_l3Any_x u _ _ _ h_7) rfl rfl ?_)
    refine tae [(2, (.b 1 0)), (3, (.b 4 0)), (11, (.m [3] 0 r_1.1.facts.length tFact.k)), (12, (.b 0 0)), (14, (sl tRelation r_1.1.relations)), (15, (.g [(intA r_6.1.relation), (.m [7] 0 r_6.1.values.length tInt.k)]))] rfl ?_
    refine TA_st (σ' := [.box [(sl (tI .u8) r_6.2.b), (intA r_6.2.i), (intA r_6.2.h)], .box [.n, .n], .dead, .row (flat tFact.enc r_1.1.facts), .box [(sl tRelation r_1.1.relations), (.m [3] 0 r_1.1.facts.length tFact.k)], .dead, .dead, .row (flat tInt.enc r_6.1.values)]) rfl ?_
    refine tmv 5 7 (by decide) (lb rfl) rfl rfl (lb rfl) ?_
    refine TA_ghost (E' := [(2, (.b 1 0)), (3, (.b 4 0)), (11, (.m [3] 0 r_1.1.facts.length tFact.k)), (12, (.b 0 0)), (14, (sl tRelation r_1.1.relations)), (15, (.g [(intA r_6.1.relation), (.m [5] 0 r_6.1.values.length tInt.k)]))]) (σ' := [.box [(sl (tI .u8) r_6.2.b), (intA r_6.2.i), (intA r_6.2.h)], .box [.n, .n], .dead, .row (flat tFact.enc r_1.1.facts), .box [(sl tRelation r_1.1.relations), (.m [3] 0 r_1.1.facts.length tFact.k)], .row (flat tInt.enc r_6.1.values), .dead, .dead]) (Ghost.weak (WeakL.to 8 (lb rfl) rfl rfl rfl rfl ⟨leR rfl, leR rfl, leR rfl, leR rfl, leR rfl, leR rfl, trivial⟩)) ?_
    refine TA_frz1 5 (E' := [(2, (.b 1 0)), (3, (.b 4 0)), (11, (.m [3] 0 r_1.1.facts.length tFact.k)), (12, (.b 0 0)), (14, (sl tRelation r_1.1.relations)), (15, (.g [(intA r_6.1.relation), (sl tInt r_6.1.values)]))]) rfl rfl (lb rfl) ?_ ?_
    ·exact ⟨(.keep rfl), (.keep rfl), (.keep rfl), (.keep rfl), (.keep rfl), (fz1G (fzC (.keep rfl) (fzC fz1E fzN))), trivial⟩
    refine TA_st (σ' := [.box [(sl (tI .u8) r_6.2.b), (intA r_6.2.i), (intA r_6.2.h)], .box [.n, .n], .dead, .row (flat tFact.enc r_1.1.facts), .box [(sl tRelation r_1.1.relations), (.m [3] 0 r_1.1.facts.length tFact.k)], .dead, .dead, .dead]) rfl ?_
    exact tj hj1_4 rfl (wp 7 (lb rfl) rfl rfl rfl rfl rfl)
   refine tf 0 rfl (purI_fa_b fld48_1 rfl rfl) rfl rfl (by kernel_rfl) ?_
   refine tf 2 rfl (purI_move rfl) rfl rfl (by kernel_rfl) ?_
   refine tf 3 rfl (purI_fa_b fld48_0 rfl rfl) rfl rfl (by kernel_rfl) ?_
   refine TA_all [1, 4] (by kernel_rfl) (by decide) ⟨?_, ?_, trivial⟩
   ·skip
    refine ⟨_, rfl, rfl, (TOp_pure (pur_ld_b one46 rfl rfl rfl rfl) rfl ?_)⟩
    refine t1 4 (by kernel_rfl) rfl rfl (TOp_pure (pur_ld_b one45 rfl rfl rfl rfl) rfl ?_)
    refine TA_ghost (E' := [(0, (.b 0 0)), (2, (.b 1 0)), (3, (.b 4 0)), (7, (intA r_3.1)), (8, (boolA (decide (r_3.1 = 0)))), (10, (.b 4 1)), (11, (.m [3] 0 r_1.1.facts.length tFact.k)), (12, (.b 0 0)), (13, (.b 4 0)), (14, (.m [2] 0 r_1.1.relations.length tRelation.k))]) (σ' := [.box [(sl (tI .u8) r_3.2.b), (intA r_3.2.i), (intA r_3.2.h)], .box [.n, .n], .row (flat tRelation.enc r_1.1.relations), .row (flat tFact.enc r_1.1.facts), .box [(.m [2] 0 r_1.1.relations.length tRelation.k), (.m [3] 0 r_1.1.facts.length tFact.k)], .dead, .dead]) (Ghost.weak (WeakL.to 7 (lb rfl) rfl rfl rfl rfl ⟨leR rfl, leR rfl, leR rfl, leR rfl, leR rfl, leR rfl, leR rfl, leR rfl, leR rfl, leR rfl, trivial⟩)) ?_
    refine TA_frzB 2 (E' := [(0, (.b 0 0)), (2, (.b 1 0)), (3, (.b 4 0)), (7, (intA r_3.1)), (8, (boolA (decide (r_3.1 = 0)))), (10, (.b 4 1)), (11, (.m [3] 0 r_1.1.facts.length tFact.k)), (12, (.b 0 0)), (13, (.b 4 0)), (14, (sl tRelation r_1.1.relations))]) (σ' := [.box [(sl (tI .u8) r_3.2.b), (intA r_3.2.i), (intA r_3.2.h)], .box [.n, .n], .dead, .row (flat tFact.enc r_1.1.facts), .box [(sl tRelation r_1.1.relations), (.m [3] 0 r_1.1.facts.length tFact.k)], .dead, .dead]) rfl (lb rfl) ?_ ?_ ?_
    ·exact ⟨(.keep rfl), (.keep rfl), (.keep rfl), (.keep rfl), (.keep rfl), (.keep rfl), (.keep rfl), (.keep rfl), (.keep rfl), fz1E, trivial⟩
    ·exact ⟨(fzK rfl), (fzK rfl), trivial, rfl, (fzC fz1E (fzC (.keep rfl) fzN)), trivial, trivial, trivial⟩
    exact tj hj2_4 rfl (wp 7 (lb rfl) rfl rfl rfl rfl rfl)
   ·skip
    refine ⟨_, rfl, rfl, (TOp_pure (pur_ld_b one45 rfl rfl rfl rfl) rfl ?_)⟩
    refine TA_ghost (E' := [(0, (.b 0 0)), (2, (.b 1 0)), (3, (.b 4 0)), (7, (intA r_3.1)), (8, (boolA (decide (r_3.1 = 0)))), (10, (.b 4 1)), (12, (.b 0 0)), (13, (.b 4 0)), (14, (.m [2] 0 r_1.1.relations.length tRelation.k))]) (σ' := [.box [(sl (tI .u8) r_3.2.b), (intA r_3.2.i), (intA r_3.2.h)], .box [.n, .n], .row (flat tRelation.enc r_1.1.relations), .row (flat tFact.enc r_1.1.facts), .box [(.m [2] 0 r_1.1.relations.length tRelation.k), (.m [3] 0 r_1.1.facts.length tFact.k)], .dead, .dead]) (Ghost.weak (WeakL.to 7 (lb rfl) rfl rfl rfl rfl ⟨leR rfl, leR rfl, leR rfl, leR rfl, leR rfl, leR rfl, leR rfl, leR rfl, leR rfl, trivial⟩)) ?_
    refine TA_frzB 2 (E' := [(0, (.b 0 0)), (2, (.b 1 0)), (3, (.b 4 0)), (7, (intA r_3.1)), (8, (boolA (decide (r_3.1 = 0)))), (10, (.b 4 1)), (12, (.b 0 0)), (13, (.b 4 0)), (14, (sl tRelation r_1.1.relations))]) (σ' := [.box [(sl (tI .u8) r_3.2.b), (intA r_3.2.i), (intA r_3.2.h)], .box [.n, .n], .dead, .row (flat tFact.enc r_1.1.facts), .box [(sl tRelation r_1.1.relations), (.m [3] 0 r_1.1.facts.length tFact.k)], .dead, .dead]) rfl (lb rfl) ?_ ?_ ?_
    ·exact ⟨(.keep rfl), (.keep rfl), (.keep rfl), (.keep rfl), (.keep rfl), (.keep rfl), (.keep rfl), (.keep rfl), fz1E, trivial⟩
    ·exact ⟨(fzK rfl), (fzK rfl), trivial, rfl, (fzC fz1E (fzC (.keep rfl) fzN)), trivial, trivial, trivial⟩
    refine TA_all [1, 5] (by kernel_rfl) (by decide) ⟨?_, ?_, trivial⟩
    ·skip
     refine ⟨_, rfl, rfl, (TOp_pure (pur_ld_b one46 rfl rfl rfl rfl) rfl ?_)⟩
     exact tj hj2_4 rfl (wp 7 (lb rfl) rfl rfl rfl rfl rfl)
    ·skip
     refine ⟨_, rfl, rfl, (TOp_callS [0] (call_static ent163 rfl) (by decide) rfl rfl rfl rfl rfl rfl (m_spec_l3Any_x u _ _ _ h_7) rfl rfl ?_)⟩
     refine tae [(0, (.b 0 0)), (2, (.b 1 0)), (3, (.b 4 0)), (7, (intA r_3.1)), (8, (boolA (decide (r_3.1 = 0)))), (10, (.b 4 1)), (12, (.b 0 0)), (13, (.b 4 0)), (14, (sl tRelation r_1.1.relations)), (15, (.g [(intA r_6.1.relation), (.m [7] 0 r_6.1.values.length tInt.k)]))] rfl ?_
     refine TA_st (σ' := [.box [(sl (tI .u8) r_6.2.b), (intA r_6.2.i), (intA r_6.2.h)], .box [.n, .n], .dead, .row (flat tFact.enc r_1.1.facts), .box [(sl tRelation r_1.1.relations), (.m [3] 0 r_1.1.facts.length tFact.k)], .dead, .dead, .row (flat tInt.enc r_6.1.values)]) rfl ?_
     refine tmv 5 7 (by decide) (lb rfl) rfl rfl (lb rfl) ?_
     refine TA_ghost (E' := [(0, (.b 0 0)), (2, (.b 1 0)), (3, (.b 4 0)), (7, (intA r_3.1)), (8, (boolA (decide (r_3.1 = 0)))), (10, (.b 4 1)), (12, (.b 0 0)), (13, (.b 4 0)), (14, (sl tRelation r_1.1.relations)), (15, (.g [(intA r_6.1.relation), (.m [5] 0 r_6.1.values.length tInt.k)]))]) (σ' := [.box [(sl (tI .u8) r_6.2.b), (intA r_6.2.i), (intA r_6.2.h)], .box [.n, .n], .dead, .row (flat tFact.enc r_1.1.facts), .box [(sl tRelation r_1.1.relations), (.m [3] 0 r_1.1.facts.length tFact.k)], .row (flat tInt.enc r_6.1.values), .dead, .dead]) (Ghost.weak (WeakL.to 8 (lb rfl) rfl rfl rfl rfl ⟨leR rfl, leR rfl, leR rfl, leR rfl, leR rfl, leR rfl, leR rfl, leR rfl, leR rfl, leR rfl, trivial⟩)) ?_
     refine TA_frz1 5 (E' := [(0, (.b 0 0)), (2, (.b 1 0)), (3, (.b 4 0)), (7, (intA r_3.1)), (8, (boolA (decide (r_3.1 = 0)))), (10, (.b 4 1)), (12, (.b 0 0)), (13, (.b 4 0)), (14, (sl tRelation r_1.1.relations)), (15, (.g [(intA r_6.1.relation), (sl tInt r_6.1.values)]))]) rfl rfl (lb rfl) ?_ ?_
     ·exact ⟨(.keep rfl), (.keep rfl), (.keep rfl), (.keep rfl), (.keep rfl), (.keep rfl), (.keep rfl), (.keep rfl), (.keep rfl), (fz1G (fzC (.keep rfl) (fzC fz1E fzN))), trivial⟩
     refine TA_st (σ' := [.box [(sl (tI .u8) r_6.2.b), (intA r_6.2.i), (intA r_6.2.h)], .box [.n, .n], .dead, .row (flat tFact.enc r_1.1.facts), .box [(sl tRelation r_1.1.relations), (.m [3] 0 r_1.1.facts.length tFact.k)], .dead, .dead, .dead]) rfl ?_
     refine TA_all [1, 6] (by kernel_rfl) (by decide) ⟨?_, ?_, trivial⟩
     ·skip
      refine ⟨_, rfl, rfl, (TOp_pure (pur_ld_b one46 rfl rfl rfl rfl) rfl ?_)⟩
      exact tj hj1_4 rfl (wp 7 (lb rfl) rfl rfl rfl rfl rfl)
     ·skip
      refine ⟨_, rfl, rfl, (TOp_lit (nn := 1) (k := 2) sl46 zero65 rfl rfl rfl rfl (by decide) ?_)⟩
      refine tmv 6 8 (by decide) (lb rfl) rfl rfl (lb rfl) ?_
      refine t1 1 (by kernel_rfl) rfl rfl (TOp_pure (pur_ld_b one46 rfl rfl rfl rfl) rfl ?_)
      exact tj hj0_4 rfl (wp 7 (lb rfl) rfl rfl rfl rfl rfl)
  ·replace H := cond_f c_5 H
   refine sr ?_
   refine Tp rfl rfl (pur_eql rfl rfl rfl) rfl ?_
   refine Tp rfl rfl (pur_assign rfl) rfl ?_
   refine TO_nil ?_
   refine te [(0, (.b 0 0)), (2, (.b 1 0)), (3, (.b 4 0)), (7, (intA r_3.1)), (19, (boolA (decide (r_3.1 = 1))))] rfl ?_
   refine T_cond (t := decide (r_3.1 = 1)) rfl (fun c_10 => ?_) (fun c_10 => ?_)
   ·replace H := cond_t c_10 H
    obtain ⟨r_11, h_12, H⟩ := bind_inv H
    obtain ⟨ys_13, h_14, H⟩ := bind_inv H
    obtain ⟨i_15, j_16, hi_17, hj_18, hij_19, hjl_20, hys_21, _⟩ := cutI_inv h_14
    refine T_regionP mixed ?_
    refine TA_have 3 #[true, true, true, true, false, false, false] [(2, (.b 1 0)), (3, (.b 4 0)), (22, (.m [2] 0 r_1.1.relations.length tRelation.k)), (24, (intA r_11.1))] [.box [(sl (tI .u8) r_11.2.b), (intA r_11.2.i), (intA r_11.2.h)], .box [.n, .n], .row (flat tRelation.enc r_1.1.relations), .row (flat tFact.enc r_1.1.facts), .box [(.m [2] 0 r_1.1.relations.length tRelation.k), (.m [3] 0 r_1.1.facts.length tFact.k)]] ?_ (fun hj0_6 => ?_)
    ·skip
     refine tf 4 rfl (purI_cutM (lo := none) (hi := (some (.tmp 24))) sl45 rfl hi_17.symm ⟨_, congrArg (fun z => A.v (.int .i64 z)) hj_18⟩ hij_19 hjl_20 rfl) rfl rfl (by kernel_rfl) ?_
     refine tf 5 rfl (purI_fa_b fld48_0 rfl rfl) rfl rfl (by kernel_rfl) ?_
     refine t1 6 (by kernel_rfl) rfl rfl (TOp_storeB sz45 rfl rfl rfl rfl rfl rfl rfl (by decide) (lb rfl) rfl ?_)
     refine TA_st (σ' := [.box [(sl (tI .u8) r_11.2.b), (intA r_11.2.i), (intA r_11.2.h)], .box [.n, .n], .row (flat tRelation.enc r_1.1.relations), .row (flat tFact.enc r_1.1.facts), .box [(.m [2] (i_15 * tRelation.k) (j_16 - i_15) tRelation.k), (.m [3] 0 r_1.1.facts.length tFact.k)]]) rfl ?_
     refine TA_nil (by kernel_rfl) ?_
     refine te [(2, (.b 1 0)), (3, (.b 4 0))] rfl ?_
     refine sr ?_
     refine Tp rfl rfl (pur_ldK_b agg48 rfl rfl (lb rfl) rfl) rfl ?_
     refine TO_cons rfl (TOp_storeB sz48 rfl rfl rfl rfl rfl rfl rfl (by decide) (lb rfl) rfl ?_)
     refine TO_st (σ' := [.box [(sl (tI .u8) r_11.2.b), (intA r_11.2.i), (intA r_11.2.h)], .box [(.m [2] (i_15 * tRelation.k) (j_16 - i_15) tRelation.k), (.m [3] 0 r_1.1.facts.length tFact.k)], .row (flat tRelation.enc r_1.1.relations), .row (flat tFact.enc r_1.1.facts), .box [(.m [2] (i_15 * tRelation.k) (j_16 - i_15) tRelation.k), (.m [3] 0 r_1.1.facts.length tFact.k)]]) rfl ?_
     refine TO_nil ?_
     refine te [(2, (.b 1 0))] rfl ?_
     refine T_frzB 2 (E' := [(2, (.b 1 0))]) (σ' := [.box [(sl (tI .u8) r_11.2.b), (intA r_11.2.i), (intA r_11.2.h)], .box [(sl tRelation ys_13), (.m [3] 0 r_1.1.facts.length tFact.k)], .dead, .row (flat tFact.enc r_1.1.facts), .box [(sl tRelation ys_13), (.m [3] 0 r_1.1.facts.length tFact.k)]]) rfl (lb rfl) ?_ ?_ ?_
     ·exact ⟨(.keep rfl), trivial⟩
     ·exact ⟨(fzK rfl), (fzC (fz1C hij_19 hjl_20 hys_21) (fzC (.keep rfl) fzN)), trivial, rfl, (fzC (fz1C hij_19 hjl_20 hys_21) (fzC (.keep rfl) fzN)), trivial⟩
     refine T_frzB 3 (E' := [(2, (.b 1 0))]) (σ' := [.box [(sl (tI .u8) r_11.2.b), (intA r_11.2.i), (intA r_11.2.h)], .box [(sl tRelation ys_13), (sl tFact r_1.1.facts)], .dead, .dead, .box [(sl tRelation ys_13), (sl tFact r_1.1.facts)]]) rfl (lb rfl) ?_ ?_ ?_
     ·exact ⟨(.keep rfl), trivial⟩
     ·exact ⟨(fzK rfl), (fzC (.keep rfl) (fzC fz1E fzN)), trivial, trivial, (fzC (.keep rfl) (fzC fz1E fzN)), trivial⟩
     refine T_ret ?_
     obtain rfl := some_inj H
     exact end_pickX (.cellK rfl agg48 rfl (lb rfl) .nil) rfl [0] (by decide) (lb rfl) rfl (lb rfl) rfl rfl rfl rfl rfl rfl
    refine tf 0 rfl (purI_fa_b fld48_0 rfl rfl) rfl rfl (by kernel_rfl) ?_
    refine tf 2 rfl (purI_move rfl) rfl rfl (by kernel_rfl) ?_
    refine TA_all [1, 3] (by kernel_rfl) (by decide) ⟨?_, ?_, trivial⟩
    ·skip
     refine ⟨_, rfl, rfl, (TOp_pure (pur_ld_b one45 rfl rfl rfl rfl) rfl ?_)⟩
     refine t1 3 (by kernel_rfl) rfl rfl (TOp_callS [0] (call_static ent121 rfl) (by decide) rfl rfl rfl rfl rfl rfl (m_spec_l1Below_x _ _ _ h_12) rfl rfl ?_)
     refine tae [(0, (.b 0 0)), (2, (.b 1 0)), (3, (.b 4 0)), (7, (intA r_3.1)), (19, (boolA (decide (r_3.1 = 1)))), (21, (.b 4 0)), (22, (.m [2] 0 r_1.1.relations.length tRelation.k)), (23, (.b 0 0)), (24, (intA r_11.1))] rfl ?_
     refine TA_st (σ' := [.box [(sl (tI .u8) r_11.2.b), (intA r_11.2.i), (intA r_11.2.h)], .box [.n, .n], .row (flat tRelation.enc r_1.1.relations), .row (flat tFact.enc r_1.1.facts), .box [(.m [2] 0 r_1.1.relations.length tRelation.k), (.m [3] 0 r_1.1.facts.length tFact.k)]]) rfl ?_
     exact tj hj0_6 rfl (wp 5 (lb rfl) rfl rfl rfl rfl rfl)
    ·skip
     refine ⟨_, rfl, rfl, (TOp_callS [0] (call_static ent121 rfl) (by decide) rfl rfl rfl rfl rfl rfl (m_spec_l1Below_x _ _ _ h_12) rfl rfl ?_)⟩
     refine tae [(0, (.b 0 0)), (2, (.b 1 0)), (3, (.b 4 0)), (7, (intA r_3.1)), (19, (boolA (decide (r_3.1 = 1)))), (21, (.b 4 0)), (23, (.b 0 0)), (24, (intA r_11.1))] rfl ?_
     refine TA_st (σ' := [.box [(sl (tI .u8) r_11.2.b), (intA r_11.2.i), (intA r_11.2.h)], .box [.n, .n], .row (flat tRelation.enc r_1.1.relations), .row (flat tFact.enc r_1.1.facts), .box [(.m [2] 0 r_1.1.relations.length tRelation.k), (.m [3] 0 r_1.1.facts.length tFact.k)]]) rfl ?_
     refine t1 1 (by kernel_rfl) rfl rfl (TOp_pure (pur_ld_b one45 rfl rfl rfl rfl) rfl ?_)
     exact tj hj0_6 rfl (wp 5 (lb rfl) rfl rfl rfl rfl rfl)
   ·replace H := cond_f c_10 H
    refine sr ?_
    refine Tp rfl rfl (pur_eql rfl rfl rfl) rfl ?_
    refine Tp rfl rfl (pur_assign rfl) rfl ?_
    refine TO_nil ?_
    refine te [(0, (.b 0 0)), (2, (.b 1 0)), (3, (.b 4 0)), (27, (boolA (decide (r_3.1 = 2))))] rfl ?_
    refine T_cond (t := decide (r_3.1 = 2)) rfl (fun c_22 => ?_) (fun c_22 => ?_)
    ·replace H := cond_t c_22 H
     obtain ⟨r_23, h_24, H⟩ := bind_inv H
     obtain ⟨r_25, h_26, H⟩ := bind_inv H
     obtain ⟨v_27, h_28, H⟩ := bind_inv H
     obtain ⟨n_29, hz_30, hv_31⟩ := getI_inv h_28
     refine T_regionP mixed ?_
     refine TA_have 2 #[true, true, true, true, true, true, false, false] [(2, (.b 1 0)), (3, (.b 4 0)), (30, (.m [2] 0 r_1.1.relations.length tRelation.k)), (32, (intA r_23.1)), (34, (.g (tRelation.enc r_25.1)))] [.box [(sl (tI .u8) r_25.2.b), (intA r_25.2.i), (intA r_25.2.h)], .box [.n, .n], .row (flat tRelation.enc r_1.1.relations), .row (flat tFact.enc r_1.1.facts), .box [(.m [2] 0 r_1.1.relations.length tRelation.k), (.m [3] 0 r_1.1.facts.length tFact.k)]] ?_ (fun hj0_8 => ?_)
     ·skip
      refine tf 6 rfl (purI_ixM (T := tRelation) sl45 rfl rfl hz_30 hv_31 rfl) rfl rfl (by kernel_rfl) ?_
      refine t1 7 (by kernel_rfl) rfl rfl (TOp_setT (f := tRelation.enc) (z := r_23.1) (y := r_25.1) tRelation.len tRelation.pos hz_30 sz130 rfl rfl rfl rfl rfl hv_31 rfl rfl ?_)
      refine TA_env (E' := [(2, (.b 1 0)), (3, (.b 4 0)), (30, (.m [2] 0 (r_1.1.relations.set (r_23.1).toNat r_25.1).length tRelation.k)), (32, (intA r_23.1)), (34, (.g (tRelation.enc r_25.1)))]) ⟨rfl, rfl, (congrArg (fun q => A.m [2] 0 q tRelation.k) (List.length_set ..).symm), rfl, rfl, trivial⟩ ?_
      refine TA_st (σ' := [.box [(sl (tI .u8) r_25.2.b), (intA r_25.2.i), (intA r_25.2.h)], .box [.n, .n], .row (flat tRelation.enc (r_1.1.relations.set (r_23.1).toNat r_25.1)), .row (flat tFact.enc r_1.1.facts), .box [(.m [2] 0 r_1.1.relations.length tRelation.k), (.m [3] 0 r_1.1.facts.length tFact.k)]]) rfl ?_
      refine TA_st (σ' := [.box [(sl (tI .u8) r_25.2.b), (intA r_25.2.i), (intA r_25.2.h)], .box [.n, .n], .row (flat tRelation.enc (r_1.1.relations.set (r_23.1).toNat r_25.1)), .row (flat tFact.enc r_1.1.facts), .box [(.m [2] 0 (r_1.1.relations.set (r_23.1).toNat r_25.1).length tRelation.k), (.m [3] 0 r_1.1.facts.length tFact.k)]]) (by simp only [List.length_set]) ?_
      refine TA_nil (by kernel_rfl) ?_
      refine te [(2, (.b 1 0)), (3, (.b 4 0))] rfl ?_
      refine sr ?_
      refine Tp rfl rfl (pur_ldK_b agg48 rfl rfl (lb rfl) rfl) rfl ?_
      refine TO_cons rfl (TOp_storeB sz48 rfl rfl rfl rfl rfl rfl rfl (by decide) (lb rfl) rfl ?_)
      refine TO_st (σ' := [.box [(sl (tI .u8) r_25.2.b), (intA r_25.2.i), (intA r_25.2.h)], .box [(.m [2] 0 (r_1.1.relations.set (r_23.1).toNat r_25.1).length tRelation.k), (.m [3] 0 r_1.1.facts.length tFact.k)], .row (flat tRelation.enc (r_1.1.relations.set (r_23.1).toNat r_25.1)), .row (flat tFact.enc r_1.1.facts), .box [(.m [2] 0 (r_1.1.relations.set (r_23.1).toNat r_25.1).length tRelation.k), (.m [3] 0 r_1.1.facts.length tFact.k)]]) rfl ?_
      refine TO_nil ?_
      refine te [(2, (.b 1 0))] rfl ?_
      refine T_frzB 2 (E' := [(2, (.b 1 0))]) (σ' := [.box [(sl (tI .u8) r_25.2.b), (intA r_25.2.i), (intA r_25.2.h)], .box [(sl tRelation (r_1.1.relations.set (r_23.1).toNat r_25.1)), (.m [3] 0 r_1.1.facts.length tFact.k)], .dead, .row (flat tFact.enc r_1.1.facts), .box [(sl tRelation (r_1.1.relations.set (r_23.1).toNat r_25.1)), (.m [3] 0 r_1.1.facts.length tFact.k)]]) rfl (lb rfl) ?_ ?_ ?_
      ·exact ⟨(.keep rfl), trivial⟩
      ·exact ⟨(fzK rfl), (fzC fz1E (fzC (.keep rfl) fzN)), trivial, rfl, (fzC fz1E (fzC (.keep rfl) fzN)), trivial⟩
      refine T_frzB 3 (E' := [(2, (.b 1 0))]) (σ' := [.box [(sl (tI .u8) r_25.2.b), (intA r_25.2.i), (intA r_25.2.h)], .box [(sl tRelation (r_1.1.relations.set (r_23.1).toNat r_25.1)), (sl tFact r_1.1.facts)], .dead, .dead, .box [(sl tRelation (r_1.1.relations.set (r_23.1).toNat r_25.1)), (sl tFact r_1.1.facts)]]) rfl (lb rfl) ?_ ?_ ?_
      ·exact ⟨(.keep rfl), trivial⟩
      ·exact ⟨(fzK rfl), (fzC (.keep rfl) (fzC fz1E fzN)), trivial, trivial, (fzC (.keep rfl) (fzC fz1E fzN)), trivial⟩
      refine T_ret ?_
      obtain rfl := some_inj H
      exact end_pickX (.cellK rfl agg48 rfl (lb rfl) .nil) rfl [0] (by decide) (lb rfl) rfl (lb rfl) rfl rfl rfl rfl rfl rfl
     refine TA_have 3 #[true, true, true, true, true, false, false, false] [(2, (.b 1 0)), (3, (.b 4 0)), (30, (.m [2] 0 r_1.1.relations.length tRelation.k)), (32, (intA r_23.1)), (33, (.b 0 0))] [.box [(sl (tI .u8) r_23.2.b), (intA r_23.2.i), (intA r_23.2.h)], .box [.n, .n], .row (flat tRelation.enc r_1.1.relations), .row (flat tFact.enc r_1.1.facts), .box [(.m [2] 0 r_1.1.relations.length tRelation.k), (.m [3] 0 r_1.1.facts.length tFact.k)]] ?_ (fun hj1_8 => ?_)
     ·skip
      refine t1 5 (by kernel_rfl) rfl rfl (TOp_callS [0] (call_static ent164 rfl) (by decide) rfl rfl rfl rfl rfl rfl (m_spec_l2Any_x _ _ h_26) rfl rfl ?_)
      refine tae [(2, (.b 1 0)), (3, (.b 4 0)), (30, (.m [2] 0 r_1.1.relations.length tRelation.k)), (32, (intA r_23.1)), (33, (.b 0 0)), (34, (.g (tRelation.enc r_25.1)))] rfl ?_
      refine TA_st (σ' := [.box [(sl (tI .u8) r_25.2.b), (intA r_25.2.i), (intA r_25.2.h)], .box [.n, .n], .row (flat tRelation.enc r_1.1.relations), .row (flat tFact.enc r_1.1.facts), .box [(.m [2] 0 r_1.1.relations.length tRelation.k), (.m [3] 0 r_1.1.facts.length tFact.k)]]) rfl ?_
      exact tj hj0_8 rfl (wp 5 (lb rfl) rfl rfl rfl rfl rfl)
     refine tf 0 rfl (purI_fa_b fld48_0 rfl rfl) rfl rfl (by kernel_rfl) ?_
     refine tf 2 rfl (purI_move rfl) rfl rfl (by kernel_rfl) ?_
     refine tf 4 rfl (purI_move rfl) rfl rfl (by kernel_rfl) ?_
     refine TA_all [1, 3] (by kernel_rfl) (by decide) ⟨?_, ?_, trivial⟩
     ·skip
      refine ⟨_, rfl, rfl, (TOp_pure (pur_ld_b one45 rfl rfl rfl rfl) rfl ?_)⟩
      refine t1 3 (by kernel_rfl) rfl rfl (TOp_callS [0] (call_static ent121 rfl) (by decide) rfl rfl rfl rfl rfl rfl (m_spec_l1Below_x _ _ _ h_24) rfl rfl ?_)
      refine tae [(0, (.b 0 0)), (2, (.b 1 0)), (3, (.b 4 0)), (27, (boolA (decide (r_3.1 = 2)))), (29, (.b 4 0)), (30, (.m [2] 0 r_1.1.relations.length tRelation.k)), (31, (.b 0 0)), (32, (intA r_23.1)), (33, (.b 0 0))] rfl ?_
      refine TA_st (σ' := [.box [(sl (tI .u8) r_23.2.b), (intA r_23.2.i), (intA r_23.2.h)], .box [.n, .n], .row (flat tRelation.enc r_1.1.relations), .row (flat tFact.enc r_1.1.facts), .box [(.m [2] 0 r_1.1.relations.length tRelation.k), (.m [3] 0 r_1.1.facts.length tFact.k)]]) rfl ?_
      exact tj hj1_8 rfl (wp 5 (lb rfl) rfl rfl rfl rfl rfl)
     ·skip
      refine ⟨_, rfl, rfl, (TOp_callS [0] (call_static ent121 rfl) (by decide) rfl rfl rfl rfl rfl rfl (m_spec_l1Below_x _ _ _ h_24) rfl rfl ?_)⟩
      refine tae [(0, (.b 0 0)), (2, (.b 1 0)), (3, (.b 4 0)), (27, (boolA (decide (r_3.1 = 2)))), (29, (.b 4 0)), (31, (.b 0 0)), (32, (intA r_23.1)), (33, (.b 0 0))] rfl ?_
      refine TA_st (σ' := [.box [(sl (tI .u8) r_23.2.b), (intA r_23.2.i), (intA r_23.2.h)], .box [.n, .n], .row (flat tRelation.enc r_1.1.relations), .row (flat tFact.enc r_1.1.facts), .box [(.m [2] 0 r_1.1.relations.length tRelation.k), (.m [3] 0 r_1.1.facts.length tFact.k)]]) rfl ?_
      refine TA_all [1, 5] (by kernel_rfl) (by decide) ⟨?_, ?_, trivial⟩
      ·skip
       refine ⟨_, rfl, rfl, (TOp_pure (pur_ld_b one45 rfl rfl rfl rfl) rfl ?_)⟩
       exact tj hj1_8 rfl (wp 5 (lb rfl) rfl rfl rfl rfl rfl)
      ·skip
       refine ⟨_, rfl, rfl, (TOp_callS [0] (call_static ent164 rfl) (by decide) rfl rfl rfl rfl rfl rfl (m_spec_l2Any_x _ _ h_26) rfl rfl ?_)⟩
       refine tae [(0, (.b 0 0)), (2, (.b 1 0)), (3, (.b 4 0)), (27, (boolA (decide (r_3.1 = 2)))), (29, (.b 4 0)), (31, (.b 0 0)), (32, (intA r_23.1)), (33, (.b 0 0)), (34, (.g (tRelation.enc r_25.1)))] rfl ?_
       refine TA_st (σ' := [.box [(sl (tI .u8) r_25.2.b), (intA r_25.2.i), (intA r_25.2.h)], .box [.n, .n], .row (flat tRelation.enc r_1.1.relations), .row (flat tFact.enc r_1.1.facts), .box [(.m [2] 0 r_1.1.relations.length tRelation.k), (.m [3] 0 r_1.1.facts.length tFact.k)]]) rfl ?_
       refine t1 1 (by kernel_rfl) rfl rfl (TOp_pure (pur_ld_b one45 rfl rfl rfl rfl) rfl ?_)
       exact tj hj0_8 rfl (wp 5 (lb rfl) rfl rfl rfl rfl rfl)
    ·replace H := cond_f c_22 H
     refine T_skip ?_
     refine te [(2, (.b 1 0)), (3, (.b 4 0))] rfl ?_
     refine sr ?_
     refine Tp rfl rfl (pur_ldK_b agg48 rfl rfl (lb rfl) rfl) rfl ?_
     refine TO_cons rfl (TOp_storeB sz48 rfl rfl rfl rfl rfl rfl rfl (by decide) (lb rfl) rfl ?_)
     refine TO_st (σ' := [.box [(sl (tI .u8) r_3.2.b), (intA r_3.2.i), (intA r_3.2.h)], .box [(.m [2] 0 r_1.1.relations.length tRelation.k), (.m [3] 0 r_1.1.facts.length tFact.k)], .row (flat tRelation.enc r_1.1.relations), .row (flat tFact.enc r_1.1.facts), .box [(.m [2] 0 r_1.1.relations.length tRelation.k), (.m [3] 0 r_1.1.facts.length tFact.k)]]) rfl ?_
     refine TO_nil ?_
     refine te [(2, (.b 1 0))] rfl ?_
     refine T_frzB 2 (E' := [(2, (.b 1 0))]) (σ' := [.box [(sl (tI .u8) r_3.2.b), (intA r_3.2.i), (intA r_3.2.h)], .box [(sl tRelation r_1.1.relations), (.m [3] 0 r_1.1.facts.length tFact.k)], .dead, .row (flat tFact.enc r_1.1.facts), .box [(sl tRelation r_1.1.relations), (.m [3] 0 r_1.1.facts.length tFact.k)]]) rfl (lb rfl) ?_ ?_ ?_
     ·exact ⟨(.keep rfl), trivial⟩
     ·exact ⟨(fzK rfl), (fzC fz1E (fzC (.keep rfl) fzN)), trivial, rfl, (fzC fz1E (fzC (.keep rfl) fzN)), trivial⟩
     refine T_frzB 3 (E' := [(2, (.b 1 0))]) (σ' := [.box [(sl (tI .u8) r_3.2.b), (intA r_3.2.i), (intA r_3.2.h)], .box [(sl tRelation r_1.1.relations), (sl tFact r_1.1.facts)], .dead, .dead, .box [(sl tRelation r_1.1.relations), (sl tFact r_1.1.facts)]]) rfl (lb rfl) ?_ ?_ ?_
     ·exact ⟨(.keep rfl), trivial⟩
     ·exact ⟨(fzK rfl), (fzC (.keep rfl) (fzC fz1E fzN)), trivial, trivial, (fzC (.keep rfl) (fzC fz1E fzN)), trivial⟩
     refine T_ret ?_
     obtain rfl := some_inj H
     exact end_pickX (.cellK rfl agg48 rfl (lb rfl) .nil) rfl [0] (by decide) (lb rfl) rfl (lb rfl) rfl rfl rfl rfl rfl rfl

set_option maxHeartbeats 1000000 in
/-- spec.l1New -/
theorem m_spec_l1New_x (u : Nat) (code0 : (List Int)) (r : l1Cur) (H : m_spec_l1New u code0 = some r) : FnS prg 116 [(sl (tI .u8) code0)] [] (.b 0 0) [.box [(sl (tI .u8) r.b), (intA r.i), (intA r.h)]] := by
  unfold m_spec_l1New at H
  refine fnS_of_T Try.func116 rfl rfl (Nat.le_of_ble_eq_true rfl) ?_
  refine te [(0, (sl (tI .u8) code0))] rfl ?_
  refine T_st (σ' := []) rfl ?_
  refine sr ?_
  refine Tp rfl rfl (pur_assign rfl) rfl ?_
  refine TO_nil ?_
  refine te [(0, (sl (tI .u8) code0))] rfl ?_
  refine sr ?_
  refine Tp rfl rfl (pur_move rfl) rfl ?_
  refine Tp rfl rfl (pur_lenT (T := (tI .u8)) sl62 rfl rfl) rfl ?_
  refine Tp rfl rfl (pur_wadd rfl rfl rfl) rfl ?_
  refine Tp rfl rfl (pur_assign rfl) rfl ?_
  refine TO_nil ?_
  refine te [(0, (sl (tI .u8) code0)), (3, (intA (w64 (10101 + (code0.length : Int)))))] rfl ?_
  refine T_seq ?_
  refine sr ?_
  refine Tp rfl rfl (pur_assign rfl) rfl ?_
  refine TO_nil ?_
  refine te [(0, (sl (tI .u8) code0)), (3, (intA (w64 (10101 + (code0.length : Int))))), (4, (intA 0))] rfl ?_
  obtain ⟨O1_, L1_, N1_⟩ := bind_inv H
  clear H
  obtain ⟨B1_, hb1, L1_⟩ := gen_whileF L1_
  refine T_block ?_
  refine T_loopX (fun k => fun (x_ : Int × Int) => whileF B1_ k (x_.1, x_.2) = some O1_) (fun (x_ : Int × Int) => [(0, (sl (tI .u8) code0)), (3, (intA x_.1)), (4, (intA x_.2))]) (fun (x_ : Int × Int) => []) u ((w64 (10101 + (code0.length : Int))), 0) (wp 0 (lb rfl) rfl rfl rfl rfl rfl) L1_ ?_
  rintro _ ⟨h3, i4⟩ L1_
  obtain ⟨k1, rfl, C1_, H, K1_⟩ := while_step L1_
  rw [hb1] at H
  refine te [(0, (sl (tI .u8) code0)), (3, (intA h3)), (4, (intA i4))] rfl ?_
  refine T_st (σ' := []) rfl ?_
  refine T_seq ?_
  refine T_cutX (fun x => ((decide (i4 < (code0.length : Int))) && (decide (i4 < 4000))) = x) (fun (t15_2 : Bool) => [(0, (sl (tI .u8) code0)), (3, (intA h3)), (4, (intA i4)), (15, (boolA t15_2))]) (fun (t15_2 : Bool) => []) ?_ ?_
  ·skip
   refine T_region ?_
   refine Tp rfl rfl (pur_move rfl) rfl ?_
   refine Tp rfl rfl (pur_move rfl) rfl ?_
   refine Tp rfl rfl (pur_lenT (T := (tI .u8)) sl62 rfl rfl) rfl ?_
   refine Tp rfl rfl (pur_lss rfl rfl rfl) rfl ?_
   refine Tp rfl rfl (pur_move rfl) rfl ?_
   refine TO_split (t := decide (i4 < (code0.length : Int))) 12 rfl (fun g_4 => ?_) (fun g_4 => ?_)
   ·skip
    refine TO_on rfl rfl (by decide) rfl rfl (TOp_pure (pur_move rfl) rfl ?_)
    refine TO_on rfl rfl (by decide) rfl rfl (TOp_pure (pur_lss rfl rfl rfl) rfl ?_)
    refine Tp rfl rfl (pur_pick (t := true) rfl rfl rfl) rfl ?_
    refine TO_nil ?_
    exact joined (decide (i4 < 4000)) (wp 0 (lb rfl) rfl rfl rfl rfl rfl) (by first | exact Eq.symm ((and_T g_4 rfl)))
   ·skip
    refine TO_off rfl rfl (by decide) rfl rfl rfl ?_
    refine TO_off rfl rfl (by decide) rfl rfl rfl ?_
    refine Tp rfl rfl (pur_pick (t := false) rfl rfl rfl) rfl ?_
    refine TO_nil ?_
    exact joined false (wp 0 (lb rfl) rfl rfl rfl rfl rfl) (by first | exact Eq.symm ((and_F g_4 rfl)))
  ·rintro _ rfl
   refine te [(0, (sl (tI .u8) code0)), (3, (intA h3)), (4, (intA i4)), (15, (boolA ((decide (i4 < (code0.length : Int))) && (decide (i4 < 4000)))))] rfl ?_
   refine T_cond (t := ((decide (i4 < (code0.length : Int))) && (decide (i4 < 4000)))) rfl (fun c_5 => ?_) (fun c_5 => ?_)
   ·replace H := cond_t c_5 H
    refine T_skip ?_
    refine te [(0, (sl (tI .u8) code0)), (3, (intA h3)), (4, (intA i4))] rfl ?_
    refine T_seq ?_
    refine T_block ?_
    refine T_region ?_
    refine Tp rfl rfl (pur_move rfl) rfl ?_
    refine Tp rfl rfl (pur_wmul rfl rfl rfl) rfl ?_
    refine Tp rfl rfl (pur_move rfl) rfl ?_
    refine Tp rfl rfl (pur_move rfl) rfl ?_
    obtain ⟨v_6, h_7, H⟩ := bind_inv H
    obtain ⟨n_8, hz_9, hv_10⟩ := getI_inv h_7
    refine Tp rfl rfl (pur_ixT (T := (tI .u8)) sl62 rfl rfl hz_9 hv_10 rfl) rfl ?_
    refine Tp rfl rfl (pur_ldT (T := (tI .u8)) (i := n_8) (off := 0) rfl one5 rfl rfl hv_10 rfl) rfl ?_
    refine Tp rfl rfl (pur_convI (k := .i64) (k' := .u8) ⟨_, Try.underlying5⟩ Try.underlying3 rfl rfl) rfl ?_
    refine Tp rfl rfl (pur_wadd rfl rfl rfl) rfl ?_
    refine toe [(0, (sl (tI .u8) code0)), (3, (intA h3)), (4, (intA i4)), (25, (intA (w64 ((w64 (h3 * 131)) + (w64 v_6)))))] rfl ?_
    refine Tp rfl rfl (pur_wadd rfl rfl rfl) rfl ?_
    refine Tp rfl rfl (pur_and rfl rfl rfl) rfl ?_
    refine Tp rfl rfl (pur_assign rfl) rfl ?_
    refine TO_nil ?_
    refine te [(0, (sl (tI .u8) code0)), (3, (intA (bitI .and .i64 (w64 ((w64 ((w64 (h3 * 131)) + (w64 v_6))) + 7)) 1073741823))), (4, (intA i4))] rfl ?_
    refine T_region ?_
    refine Tp rfl rfl (pur_move rfl) rfl ?_
    refine Tp rfl rfl (pur_wadd rfl rfl rfl) rfl ?_
    refine Tp rfl rfl (pur_assign rfl) rfl ?_
    refine TO_nil ?_
    obtain rfl := some_inj H
    exact again k1 ((bitI .and .i64 (w64 ((w64 ((w64 (h3 * 131)) + (w64 v_6))) + 7)) 1073741823), (w64 (i4 + 1))) (Nat.lt_succ_self _) (wp 0 (lb rfl) rfl rfl rfl rfl rfl) K1_
   ·replace H := cond_f c_5 H
    refine T_exit ?_
    refine then_exit ?_
    refine then_exit ?_
    refine block_exit ?_
    obtain rfl := some_inj H
    obtain rfl := some_inj K1_
    replace H := onS_l N1_
    refine te [(0, (sl (tI .u8) code0)), (3, (intA h3))] rfl ?_
    refine sr ?_
    refine Tp rfl rfl (pur_move rfl) rfl ?_
    refine Tp rfl rfl (pur_move rfl) rfl ?_
    refine Tp rfl rfl (pur_build bld173 rfl rfl) rfl ?_
    refine TO_cons rfl (TOp_box rfl (boxAll rfl) rfl rfl ?_)
    refine Tp rfl rfl (pur_assign rfl) rfl ?_
    refine TO_nil ?_
    refine te [(2, (.b 0 0))] rfl ?_
    refine T_ret ?_
    obtain rfl := some_inj H
    exact end_pickX (.tmp .nil) rfl [0] (by decide) (lb rfl) rfl (lb rfl) rfl rfl rfl rfl rfl rfl

set_option maxHeartbeats 1000000 in
/-- spec.l1Once -/
theorem m_spec_l1Once_x (c0 : l1Cur) (n1 : Int) (r : (Bool × l1Cur)) (H : m_spec_l1Once c0 n1 = some r) : FnS prg 169 [(.b 0 0), (intA n1)] [.box [(sl (tI .u8) c0.b), (intA c0.i), (intA c0.h)]] (boolA r.1) [.box [(sl (tI .u8) r.2.b), (intA r.2.i), (intA r.2.h)]] := by
  unfold m_spec_l1Once at H
  refine fnS_of_T Try.func169 rfl rfl (Nat.le_of_ble_eq_true rfl) ?_
  refine te [(0, (.b 0 0)), (1, (intA n1))] rfl ?_
  refine T_st (σ' := [.box [(sl (tI .u8) c0.b), (intA c0.i), (intA c0.h)]]) rfl ?_
  refine sr ?_
  refine Tp rfl rfl (pur_assign rfl) rfl ?_
  refine TO_nil ?_
  refine te [(0, (.b 0 0)), (1, (intA n1))] rfl ?_
  refine sr ?_
  refine Tp rfl rfl (pur_move rfl) rfl ?_
  refine Tp rfl rfl (pur_move rfl) rfl ?_
  obtain ⟨r_1, h_2, H⟩ := bind_inv H
  refine TO_cons rfl (TOp_callS [0] (call_static ent121 rfl) (by decide) rfl rfl rfl rfl rfl rfl (m_spec_l1Below_x _ _ _ h_2) rfl rfl ?_)
  refine toe [(0, (.b 0 0)), (1, (intA n1)), (5, (.b 0 0)), (6, (intA n1)), (7, (intA r_1.1))] rfl ?_
  refine TO_st (σ' := [.box [(sl (tI .u8) r_1.2.b), (intA r_1.2.i), (intA r_1.2.h)]]) rfl ?_
  refine Tp rfl rfl (pur_eql rfl rfl rfl) rfl ?_
  refine Tp rfl rfl (pur_assign rfl) rfl ?_
  refine TO_nil ?_
  refine te [(4, (boolA (decide (r_1.1 = 0))))] rfl ?_
  refine T_ret ?_
  obtain rfl := some_inj H
  exact end_pickX (.tmp .nil) rfl [0] (by decide) (lb rfl) rfl (lb rfl) rfl rfl rfl rfl rfl rfl

set_option maxHeartbeats 1000000 in
/-- spec.l4Fact -/
theorem m_spec_l4Fact_x (u : Nat) (c0 : l1Cur) (d1 : Database) (r : (Fact × l1Cur)) (H : m_spec_l4Fact u c0 d1 = some r) : FnS prg 122 [(.b 0 0), (.g (tDatabase.enc d1))] [.box [(sl (tI .u8) c0.b), (intA c0.i), (intA c0.h)]] (.g (tFact.enc r.1)) [.box [(sl (tI .u8) r.2.b), (intA r.2.i), (intA r.2.h)]] := by
  unfold m_spec_l4Fact at H
  refine fnS_of_T Try.func122 rfl rfl (Nat.le_of_ble_eq_true rfl) ?_
  refine te [(0, (.b 0 0)), (1, (.g (tDatabase.enc d1)))] rfl ?_
  refine T_st (σ' := [.box [(sl (tI .u8) c0.b), (intA c0.i), (intA c0.h)]]) rfl ?_
  refine sr ?_
  refine TO_cons rfl (TOp_box rfl (boxAll rfl) rfl rfl ?_)
  refine TO_cons rfl (TOp_alloc zero65 rfl rfl ?_)
  refine TO_nil ?_
  refine te [(0, (.b 0 0)), (3, (.b 1 0)), (4, (.b 2 0))] rfl ?_
  refine T_seq ?_
  obtain ⟨⟨t12_1, box0_1⟩, J_1, H_2⟩ := bind_inv H
  refine T_cutX (fun x => (t12_1, box0_1) = x) (fun (x_ : Bool × l1Cur) => [(0, (.b 0 0)), (3, (.b 1 0)), (4, (.b 2 0)), (12, (boolA x_.1))]) (fun (x_ : Bool × l1Cur) => [.box [(sl (tI .u8) x_.2.b), (intA x_.2.i), (intA x_.2.h)], .box [(sl tRelation d1.relations), (sl tFact d1.facts)], .box [(intA 0), .n]]) ?_ ?_
  ·replace H := J_1
   refine T_region ?_
   refine Tp rfl rfl (pur_fa_b fld48_1 rfl rfl) rfl ?_
   refine Tp rfl rfl (pur_ld_b one46 rfl rfl rfl rfl) rfl ?_
   refine Tp rfl rfl (pur_lenT (T := tFact) sl46 rfl rfl) rfl ?_
   refine Tp rfl rfl (pur_gtr rfl rfl rfl) rfl ?_
   refine Tp rfl rfl (pur_move rfl) rfl ?_
   refine TO_split (t := decide (0 < (d1.facts.length : Int))) 9 rfl (fun g_3 => ?_) (fun g_3 => ?_)
   ·replace H := cond_t g_3 H
    refine TO_on rfl rfl (by decide) rfl rfl (TOp_pure (pur_move rfl) rfl ?_)
    obtain ⟨r_4, h_5, H⟩ := bind_inv H
    refine TO_on rfl rfl (by decide) rfl rfl (TOp_callS [0] (call_static ent169 rfl) (by decide) rfl rfl rfl rfl rfl rfl (m_spec_l1Once_x _ _ _ h_5) rfl rfl ?_)
    refine toe [(0, (.b 0 0)), (3, (.b 1 0)), (4, (.b 2 0)), (5, (.b 1 1)), (6, (sl tFact d1.facts)), (7, (intA (d1.facts.length : Int))), (8, (boolA (decide (0 < (d1.facts.length : Int))))), (9, (boolA true)), (10, (.b 0 0)), (11, (boolA r_4.1))] rfl ?_
    refine TO_st (σ' := [.box [(sl (tI .u8) r_4.2.b), (intA r_4.2.i), (intA r_4.2.h)], .box [(sl tRelation d1.relations), (sl tFact d1.facts)], .box [(intA 0), .n]]) rfl ?_
    refine Tp rfl rfl (pur_pick (t := true) rfl rfl rfl) rfl ?_
    refine TO_nil ?_
    exact joined (r_4.1, r_4.2) (wp 3 (lb rfl) rfl rfl rfl rfl rfl) (some_inj H).symm
   ·replace H := cond_f g_3 H
    refine TO_off rfl rfl (by decide) rfl rfl rfl ?_
    refine TO_off rfl rfl (by decide) rfl rfl rfl ?_
    refine Tp rfl rfl (pur_pick (t := false) rfl rfl rfl) rfl ?_
    refine TO_nil ?_
    exact joined (false, c0) (wp 3 (lb rfl) rfl rfl rfl rfl rfl) (some_inj H).symm
  ·rintro _ rfl
   replace H := H_2
   refine te [(0, (.b 0 0)), (3, (.b 1 0)), (4, (.b 2 0)), (12, (boolA t12_1))] rfl ?_
   refine T_cond (t := t12_1) rfl (fun c_6 => ?_) (fun c_6 => ?_)
   ·replace H := cond_t c_6 H
    obtain ⟨r_7, h_8, H⟩ := bind_inv H
    obtain ⟨v_9, h_10, H⟩ := bind_inv H
    obtain ⟨n_11, hz_12, hv_13⟩ := getI_inv h_10
    refine T_cutX (fun (_ : Unit) => True) (fun _ => [(4, (.b 2 0))]) (fun _ => [.box [(sl (tI .u8) r_7.2.b), (intA r_7.2.i), (intA r_7.2.h)], .box [(sl tRelation d1.relations), (sl tFact d1.facts)], .box [(intA v_9.relation), (sl tInt v_9.values)]]) ?_ ?_
    ·skip
     refine T_regionP mixed ?_
     refine TA_have 3 #[true, true, true, true, true, true, true, false, false, false] [(4, (.b 2 0)), (14, (sl tFact d1.facts)), (19, (intA r_7.1))] [.box [(sl (tI .u8) r_7.2.b), (intA r_7.2.i), (intA r_7.2.h)], .box [(sl tRelation d1.relations), (sl tFact d1.facts)], .box [(intA 0), .n]] ?_ (fun hj0_2 => ?_)
     ·skip
      refine tf 7 rfl (purI_ixT (T := tFact) sl46 rfl rfl hz_12 hv_13 rfl) rfl rfl (by kernel_rfl) ?_
      refine t1 8 (by kernel_rfl) rfl rfl (TOp_pure (pur_ldTK (T := tFact) (i := n_11) (off := 0) rfl agg65 rfl rfl hv_13 (by decide) rfl) rfl ?_)
      refine t1 9 (by kernel_rfl) rfl rfl (TOp_storeB sz65 rfl rfl rfl rfl rfl rfl rfl (by decide) (lb rfl) rfl ?_)
      refine TA_st (σ' := [.box [(sl (tI .u8) r_7.2.b), (intA r_7.2.i), (intA r_7.2.h)], .box [(sl tRelation d1.relations), (sl tFact d1.facts)], .box [(intA v_9.relation), (sl tInt v_9.values)]]) rfl ?_
      exact TA_nil (by kernel_rfl) (joined () (wp 3 (lb rfl) rfl rfl rfl rfl rfl) trivial)
     refine TA_have 4 #[true, true, true, true, true, true, false, false, false, false] [(4, (.b 2 0)), (14, (sl tFact d1.facts)), (15, (.b 0 0)), (18, (intA (d1.facts.length : Int)))] [.box [(sl (tI .u8) box0_1.b), (intA box0_1.i), (intA box0_1.h)], .box [(sl tRelation d1.relations), (sl tFact d1.facts)], .box [(intA 0), .n]] ?_ (fun hj1_2 => ?_)
     ·skip
      refine t1 6 (by kernel_rfl) rfl rfl (TOp_callS [0] (call_static ent121 rfl) (by decide) rfl rfl rfl rfl rfl rfl (m_spec_l1Below_x _ _ _ h_8) rfl rfl ?_)
      refine tae [(4, (.b 2 0)), (14, (sl tFact d1.facts)), (15, (.b 0 0)), (18, (intA (d1.facts.length : Int))), (19, (intA r_7.1))] rfl ?_
      refine TA_st (σ' := [.box [(sl (tI .u8) r_7.2.b), (intA r_7.2.i), (intA r_7.2.h)], .box [(sl tRelation d1.relations), (sl tFact d1.facts)], .box [(intA 0), .n]]) rfl ?_
      exact tj hj0_2 rfl (wp 3 (lb rfl) rfl rfl rfl rfl rfl)
     refine tf 0 rfl (purI_fa_b fld48_1 rfl rfl) rfl rfl (by kernel_rfl) ?_
     refine tf 2 rfl (purI_move rfl) rfl rfl (by kernel_rfl) ?_
     refine tf 3 rfl (purI_fa_b fld48_1 rfl rfl) rfl rfl (by kernel_rfl) ?_
     refine TA_all [1, 4] (by kernel_rfl) (by decide) ⟨?_, ?_, trivial⟩
     ·skip
      refine ⟨_, rfl, rfl, (TOp_pure (pur_ld_b one46 rfl rfl rfl rfl) rfl ?_)⟩
      refine t1 4 (by kernel_rfl) rfl rfl (TOp_pure (pur_ld_b one46 rfl rfl rfl rfl) rfl ?_)
      refine tf 5 rfl (purI_lenT (T := tFact) sl46 rfl rfl) rfl rfl (by kernel_rfl) ?_
      refine tae [(4, (.b 2 0)), (14, (sl tFact d1.facts)), (15, (.b 0 0)), (18, (intA (d1.facts.length : Int)))] rfl ?_
      exact tj hj1_2 rfl (wp 3 (lb rfl) rfl rfl rfl rfl rfl)
     ·skip
      refine ⟨_, rfl, rfl, (TOp_pure (pur_ld_b one46 rfl rfl rfl rfl) rfl ?_)⟩
      refine tf 5 rfl (purI_lenT (T := tFact) sl46 rfl rfl) rfl rfl (by kernel_rfl) ?_
      refine TA_all [1, 6] (by kernel_rfl) (by decide) ⟨?_, ?_, trivial⟩
      ·skip
       refine ⟨_, rfl, rfl, (TOp_pure (pur_ld_b one46 rfl rfl rfl rfl) rfl ?_)⟩
       exact tj hj1_2 rfl (wp 3 (lb rfl) rfl rfl rfl rfl rfl)
      ·skip
       refine ⟨_, rfl, rfl, (TOp_callS [0] (call_static ent121 rfl) (by decide) rfl rfl rfl rfl rfl rfl (m_spec_l1Below_x _ _ _ h_8) rfl rfl ?_)⟩
       refine tae [(0, (.b 0 0)), (3, (.b 1 0)), (4, (.b 2 0)), (12, (boolA t12_1)), (13, (.b 1 1)), (15, (.b 0 0)), (16, (.b 1 1)), (17, (sl tFact d1.facts)), (18, (intA (d1.facts.length : Int))), (19, (intA r_7.1))] rfl ?_
       refine TA_st (σ' := [.box [(sl (tI .u8) r_7.2.b), (intA r_7.2.i), (intA r_7.2.h)], .box [(sl tRelation d1.relations), (sl tFact d1.facts)], .box [(intA 0), .n]]) rfl ?_
       refine t1 1 (by kernel_rfl) rfl rfl (TOp_pure (pur_ld_b one46 rfl rfl rfl rfl) rfl ?_)
       exact tj hj0_2 rfl (wp 3 (lb rfl) rfl rfl rfl rfl rfl)
    ·rintro _ _
     refine te [(4, (.b 2 0))] rfl ?_
     refine T_ret ?_
     refine then_ret ?_
     obtain rfl := some_inj H
     exact end_pickX (.cellK rfl agg65 rfl (lb rfl) .nil) rfl [0] (by decide) (lb rfl) rfl (lb rfl) rfl rfl rfl rfl rfl rfl
   ·replace H := cond_f c_6 H
    refine T_skip ?_
    refine te [(0, (.b 0 0)), (4, (.b 2 0))] rfl ?_
    refine sr ?_
    refine Tp rfl rfl (pur_move rfl) rfl ?_
    refine Tp rfl rfl (pur_build bld130 rfl rfl) rfl ?_
    refine Tp rfl rfl (pur_build bld130 rfl rfl) rfl ?_
    refine Tp rfl rfl (pur_build bld130 rfl rfl) rfl ?_
    refine Tp rfl rfl (pur_build bld130 rfl rfl) rfl ?_
    refine TO_cons rfl (TOp_lit (nn := 4) (k := 3) sl45 zero130 rfl rfl rfl rfl (by decide) ?_)
    refine TO_st (σ' := [.box [(sl (tI .u8) box0_1.b), (intA box0_1.i), (intA box0_1.h)], .box [(sl tRelation d1.relations), (sl tFact d1.facts)], .box [(intA 0), .n], .row (flat tRelation.enc ([({ name := (⟨#[114]⟩ : ByteArray), arity := 2, keyLength := 0 } : Relation), ({ name := (⟨#[115]⟩ : ByteArray), arity := 2, keyLength := 0 } : Relation), ({ name := (⟨#[116]⟩ : ByteArray), arity := 2, keyLength := 0 } : Relation), ({ name := (⟨#[117]⟩ : ByteArray), arity := 3, keyLength := 0 } : Relation)] : (List Relation)))]) rfl ?_
    refine TO_frz1 3 (E' := [(0, (.b 0 0)), (4, (.b 2 0)), (22, (.b 0 0)), (23, (.g [(strA (⟨#[114]⟩ : ByteArray)), (intA 2), (intA 0)])), (24, (.g [(strA (⟨#[115]⟩ : ByteArray)), (intA 2), (intA 0)])), (25, (.g [(strA (⟨#[116]⟩ : ByteArray)), (intA 2), (intA 0)])), (26, (.g [(strA (⟨#[117]⟩ : ByteArray)), (intA 3), (intA 0)])), (27, (sl tRelation ([({ name := (⟨#[114]⟩ : ByteArray), arity := 2, keyLength := 0 } : Relation), ({ name := (⟨#[115]⟩ : ByteArray), arity := 2, keyLength := 0 } : Relation), ({ name := (⟨#[116]⟩ : ByteArray), arity := 2, keyLength := 0 } : Relation), ({ name := (⟨#[117]⟩ : ByteArray), arity := 3, keyLength := 0 } : Relation)] : (List Relation))))]) rfl rfl (lb rfl) ⟨(.keep rfl), (.keep rfl), (.keep rfl), (.keep rfl), (.keep rfl), (.keep rfl), (.keep rfl), fz1E, trivial⟩ ?_
    refine TO_st (σ' := [.box [(sl (tI .u8) box0_1.b), (intA box0_1.i), (intA box0_1.h)], .box [(sl tRelation d1.relations), (sl tFact d1.facts)], .box [(intA 0), .n], .dead]) rfl ?_
    obtain ⟨r_14, h_15, H⟩ := bind_inv H
    refine TO_cons rfl (TOp_callS [0] (call_static ent163 rfl) (by decide) rfl rfl rfl rfl rfl rfl (m_spec_l3Any_x u _ _ _ h_15) rfl rfl ?_)
    refine toe [(0, (.b 0 0)), (4, (.b 2 0)), (22, (.b 0 0)), (23, (.g [(strA (⟨#[114]⟩ : ByteArray)), (intA 2), (intA 0)])), (24, (.g [(strA (⟨#[115]⟩ : ByteArray)), (intA 2), (intA 0)])), (25, (.g [(strA (⟨#[116]⟩ : ByteArray)), (intA 2), (intA 0)])), (26, (.g [(strA (⟨#[117]⟩ : ByteArray)), (intA 3), (intA 0)])), (27, (sl tRelation ([({ name := (⟨#[114]⟩ : ByteArray), arity := 2, keyLength := 0 } : Relation), ({ name := (⟨#[115]⟩ : ByteArray), arity := 2, keyLength := 0 } : Relation), ({ name := (⟨#[116]⟩ : ByteArray), arity := 2, keyLength := 0 } : Relation), ({ name := (⟨#[117]⟩ : ByteArray), arity := 3, keyLength := 0 } : Relation)] : (List Relation)))), (28, (.g [(intA r_14.1.relation), (.m [4] 0 r_14.1.values.length tInt.k)]))] rfl ?_
    refine TO_st (σ' := [.box [(sl (tI .u8) r_14.2.b), (intA r_14.2.i), (intA r_14.2.h)], .box [(sl tRelation d1.relations), (sl tFact d1.facts)], .box [(intA 0), .n], .dead, .row (flat tInt.enc r_14.1.values)]) rfl ?_
    refine TO_cons rfl (TOp_storeB sz65 rfl rfl rfl rfl rfl rfl rfl (by decide) (lb rfl) rfl ?_)
    refine TO_st (σ' := [.box [(sl (tI .u8) r_14.2.b), (intA r_14.2.i), (intA r_14.2.h)], .box [(sl tRelation d1.relations), (sl tFact d1.facts)], .box [(intA r_14.1.relation), (.m [4] 0 r_14.1.values.length tInt.k)], .dead, .row (flat tInt.enc r_14.1.values)]) rfl ?_
    refine TO_nil ?_
    refine te [(4, (.b 2 0))] rfl ?_
    refine T_frzB 4 (E' := [(4, (.b 2 0))]) (σ' := [.box [(sl (tI .u8) r_14.2.b), (intA r_14.2.i), (intA r_14.2.h)], .box [(sl tRelation d1.relations), (sl tFact d1.facts)], .box [(intA r_14.1.relation), (sl tInt r_14.1.values)], .dead, .dead]) rfl (lb rfl) ?_ ?_ ?_
    ·exact ⟨(.keep rfl), trivial⟩
    ·exact ⟨(fzK rfl), (fzK rfl), (fzC (.keep rfl) (fzC fz1E fzN)), trivial, trivial, trivial⟩
    refine T_ret ?_
    obtain rfl := some_inj H
    exact end_pickX (.cellK rfl agg65 rfl (lb rfl) .nil) rfl [0] (by decide) (lb rfl) rfl (lb rfl) rfl rfl rfl rfl rfl rfl

set_option maxHeartbeats 1000000 in
/-- spec.DrawContainsFact -/
theorem m_spec_DrawContainsFact_ok (u : Nat) (code0 : (List Int)) (r : (Database × Fact)) (H : m_spec_DrawContainsFact u code0 = some r) : FnV prg 104 [(sl (tI .u8) code0)] (.t [(.g (tDatabase.enc r.1)), (.g (tFact.enc r.2))]) := by
  unfold m_spec_DrawContainsFact at H
  refine fnV_of_T Try.func104 rfl rfl (Nat.le_of_ble_eq_true rfl) ?_
  refine te [(0, (sl (tI .u8) code0))] rfl ?_
  refine sr ?_
  refine TO_cons rfl (TOp_alloc zero48 rfl rfl ?_)
  refine TO_cons rfl (TOp_alloc zero65 rfl rfl ?_)
  refine TO_nil ?_
  refine te [(0, (sl (tI .u8) code0)), (2, (.b 0 0)), (3, (.b 1 0))] rfl ?_
  refine sr ?_
  refine Tp rfl rfl (pur_move rfl) rfl ?_
  obtain ⟨r_1, h_2, H⟩ := bind_inv H
  refine TO_cons rfl (TOp_callS [] (call_static ent116 rfl) (by decide) rfl rfl rfl rfl rfl rfl (m_spec_l1New_x u _ _ h_2) rfl rfl ?_)
  refine toe [(0, (sl (tI .u8) code0)), (2, (.b 0 0)), (3, (.b 1 0)), (6, (sl (tI .u8) code0)), (7, (.b 2 0))] rfl ?_
  refine TO_st (σ' := [.box [.n, .n], .box [(intA 0), .n], .box [(sl (tI .u8) r_1.b), (intA r_1.i), (intA r_1.h)]]) rfl ?_
  refine Tp rfl rfl (pur_assign rfl) rfl ?_
  refine TO_nil ?_
  refine te [(2, (.b 0 0)), (3, (.b 1 0)), (4, (.b 2 0))] rfl ?_
  refine sr ?_
  refine Tp rfl rfl (pur_move rfl) rfl ?_
  obtain ⟨r_3, h_4, H⟩ := bind_inv H
  refine TO_cons rfl (TOp_callS [2] (call_static ent115 rfl) (by decide) rfl rfl rfl rfl rfl rfl (m_spec_l4Any_x u _ _ h_4) rfl rfl ?_)
  refine toe [(2, (.b 0 0)), (3, (.b 1 0)), (4, (.b 2 0)), (8, (.b 2 0)), (9, (.g (tDatabase.enc r_3.1)))] rfl ?_
  refine TO_st (σ' := [.box [.n, .n], .box [(intA 0), .n], .box [(sl (tI .u8) r_3.2.b), (intA r_3.2.i), (intA r_3.2.h)]]) rfl ?_
  refine TO_cons rfl (TOp_alloc zero48 rfl rfl ?_)
  refine TO_cons rfl (TOp_storeB sz48 rfl rfl rfl rfl rfl rfl rfl (by decide) (lb rfl) rfl ?_)
  refine TO_st (σ' := [.box [.n, .n], .box [(intA 0), .n], .box [(sl (tI .u8) r_3.2.b), (intA r_3.2.i), (intA r_3.2.h)], .box [(sl tRelation r_3.1.relations), (sl tFact r_3.1.facts)]]) rfl ?_
  refine TO_nil ?_
  refine te [(2, (.b 0 0)), (3, (.b 1 0)), (4, (.b 2 0)), (5, (.b 3 0))] rfl ?_
  obtain ⟨r_5, h_6, H⟩ := bind_inv H
  refine T_cutX (fun (_ : Unit) => True) (fun _ => [(2, (.b 0 0)), (3, (.b 1 0))]) (fun _ => [.box [(sl tRelation r_3.1.relations), (sl tFact r_3.1.facts)], .box [(intA r_5.1.relation), (sl tInt r_5.1.values)], .box [(sl (tI .u8) r_5.2.b), (intA r_5.2.i), (intA r_5.2.h)], .box [(sl tRelation r_3.1.relations), (sl tFact r_3.1.facts)]]) ?_ ?_
  ·skip
   refine T_regionP mixed ?_
   refine TA_have 2 #[true, true, true, true, false, false] [(2, (.b 0 0)), (3, (.b 1 0)), (10, (.g (tDatabase.enc r_3.1))), (13, (.g (tFact.enc r_5.1)))] [.box [.n, .n], .box [(intA 0), .n], .box [(sl (tI .u8) r_5.2.b), (intA r_5.2.i), (intA r_5.2.h)], .box [(sl tRelation r_3.1.relations), (sl tFact r_3.1.facts)]] ?_ (fun hj0_3 => ?_)
   ·skip
    refine t1 4 (by kernel_rfl) rfl rfl (TOp_storeB sz48 rfl rfl rfl rfl rfl rfl rfl (by decide) (lb rfl) rfl ?_)
    refine TA_st (σ' := [.box [(sl tRelation r_3.1.relations), (sl tFact r_3.1.facts)], .box [(intA 0), .n], .box [(sl (tI .u8) r_5.2.b), (intA r_5.2.i), (intA r_5.2.h)], .box [(sl tRelation r_3.1.relations), (sl tFact r_3.1.facts)]]) rfl ?_
    refine t1 5 (by kernel_rfl) rfl rfl (TOp_storeB sz65 rfl rfl rfl rfl rfl rfl rfl (by decide) (lb rfl) rfl ?_)
    refine TA_st (σ' := [.box [(sl tRelation r_3.1.relations), (sl tFact r_3.1.facts)], .box [(intA r_5.1.relation), (sl tInt r_5.1.values)], .box [(sl (tI .u8) r_5.2.b), (intA r_5.2.i), (intA r_5.2.h)], .box [(sl tRelation r_3.1.relations), (sl tFact r_3.1.facts)]]) rfl ?_
    exact TA_nil (by kernel_rfl) (joined () (wp 4 (lb rfl) rfl rfl rfl rfl rfl) trivial)
   refine TA_have 3 #[true, true, true, false, false, false] [(2, (.b 0 0)), (3, (.b 1 0)), (10, (.g (tDatabase.enc r_3.1))), (11, (.b 2 0)), (12, (.g (tDatabase.enc r_3.1)))] [.box [.n, .n], .box [(intA 0), .n], .box [(sl (tI .u8) r_3.2.b), (intA r_3.2.i), (intA r_3.2.h)], .box [(sl tRelation r_3.1.relations), (sl tFact r_3.1.facts)]] ?_ (fun hj1_3 => ?_)
   ·skip
    refine t1 3 (by kernel_rfl) rfl rfl (TOp_callS [2] (call_static ent122 rfl) (by decide) rfl rfl rfl rfl rfl rfl (m_spec_l4Fact_x u _ _ _ h_6) rfl rfl ?_)
    refine tae [(2, (.b 0 0)), (3, (.b 1 0)), (10, (.g (tDatabase.enc r_3.1))), (11, (.b 2 0)), (12, (.g (tDatabase.enc r_3.1))), (13, (.g (tFact.enc r_5.1)))] rfl ?_
    refine TA_st (σ' := [.box [.n, .n], .box [(intA 0), .n], .box [(sl (tI .u8) r_5.2.b), (intA r_5.2.i), (intA r_5.2.h)], .box [(sl tRelation r_3.1.relations), (sl tFact r_3.1.facts)]]) rfl ?_
    exact tj hj0_3 rfl (wp 4 (lb rfl) rfl rfl rfl rfl rfl)
   refine tf 1 rfl (purI_move rfl) rfl rfl (by kernel_rfl) ?_
   refine TA_all [0, 2] (by kernel_rfl) (by decide) ⟨?_, ?_, trivial⟩
   ·skip
    refine ⟨_, rfl, rfl, (TOp_pure (pur_ldK_b agg48 rfl rfl (lb rfl) rfl) rfl ?_)⟩
    refine t1 2 (by kernel_rfl) rfl rfl (TOp_pure (pur_ldK_b agg48 rfl rfl (lb rfl) rfl) rfl ?_)
    exact tj hj1_3 rfl (wp 4 (lb rfl) rfl rfl rfl rfl rfl)
   ·skip
    refine ⟨_, rfl, rfl, (TOp_pure (pur_ldK_b agg48 rfl rfl (lb rfl) rfl) rfl ?_)⟩
    refine TA_all [0, 3] (by kernel_rfl) (by decide) ⟨?_, ?_, trivial⟩
    ·skip
     refine ⟨_, rfl, rfl, (TOp_pure (pur_ldK_b agg48 rfl rfl (lb rfl) rfl) rfl ?_)⟩
     exact tj hj1_3 rfl (wp 4 (lb rfl) rfl rfl rfl rfl rfl)
    ·skip
     refine ⟨_, rfl, rfl, (TOp_callS [2] (call_static ent122 rfl) (by decide) rfl rfl rfl rfl rfl rfl (m_spec_l4Fact_x u _ _ _ h_6) rfl rfl ?_)⟩
     refine tae [(2, (.b 0 0)), (3, (.b 1 0)), (4, (.b 2 0)), (5, (.b 3 0)), (11, (.b 2 0)), (12, (.g (tDatabase.enc r_3.1))), (13, (.g (tFact.enc r_5.1)))] rfl ?_
     refine TA_st (σ' := [.box [.n, .n], .box [(intA 0), .n], .box [(sl (tI .u8) r_5.2.b), (intA r_5.2.i), (intA r_5.2.h)], .box [(sl tRelation r_3.1.relations), (sl tFact r_3.1.facts)]]) rfl ?_
     refine t1 0 (by kernel_rfl) rfl rfl (TOp_pure (pur_ldK_b agg48 rfl rfl (lb rfl) rfl) rfl ?_)
     exact tj hj0_3 rfl (wp 4 (lb rfl) rfl rfl rfl rfl rfl)
  ·rintro _ _
   refine te [(2, (.b 0 0)), (3, (.b 1 0))] rfl ?_
   refine T_ret ?_
   obtain rfl := some_inj H
   refine end_ret (.cellK rfl agg48 rfl (lb rfl) (.cellK rfl agg65 rfl (lb rfl) .nil)) rfl rfl ⟨?_, rfl⟩
   rfl

set_option maxHeartbeats 1000000 in
/-- spec.DrawRetractFact -/
theorem m_spec_DrawRetractFact_ok (u : Nat) (code0 : (List Int)) (r : (Database × Fact)) (H : m_spec_DrawRetractFact u code0 = some r) : FnV prg 38 [(sl (tI .u8) code0)] (.t [(.g (tDatabase.enc r.1)), (.g (tFact.enc r.2))]) := by
  unfold m_spec_DrawRetractFact at H
  refine fnV_of_T Try.func38 rfl rfl (Nat.le_of_ble_eq_true rfl) ?_
  refine te [(0, (sl (tI .u8) code0))] rfl ?_
  refine sr ?_
  refine TO_cons rfl (TOp_alloc zero48 rfl rfl ?_)
  refine TO_cons rfl (TOp_alloc zero65 rfl rfl ?_)
  refine TO_nil ?_
  refine te [(0, (sl (tI .u8) code0)), (2, (.b 0 0)), (3, (.b 1 0))] rfl ?_
  refine sr ?_
  refine Tp rfl rfl (pur_move rfl) rfl ?_
  obtain ⟨r_1, h_2, H⟩ := bind_inv H
  refine TO_cons rfl (TOp_callV (call_static ent104 rfl) (m_spec_DrawContainsFact_ok u _ _ h_2) rfl rfl rfl ?_)
  refine Tp rfl rfl (pur_extract rfl rfl rfl) rfl ?_
  refine Tp rfl rfl (pur_extract rfl rfl rfl) rfl ?_
  refine TO_cons rfl (TOp_storeB sz48 rfl rfl rfl rfl rfl rfl rfl (by decide) (lb rfl) rfl ?_)
  refine TO_st (σ' := [.box [(sl tRelation r_1.1.relations), (sl tFact r_1.1.facts)], .box [(intA 0), .n]]) rfl ?_
  refine TO_cons rfl (TOp_storeB sz65 rfl rfl rfl rfl rfl rfl rfl (by decide) (lb rfl) rfl ?_)
  refine TO_st (σ' := [.box [(sl tRelation r_1.1.relations), (sl tFact r_1.1.facts)], .box [(intA r_1.2.relation), (sl tInt r_1.2.values)]]) rfl ?_
  refine TO_nil ?_
  refine te [(2, (.b 0 0)), (3, (.b 1 0))] rfl ?_
  refine T_ret ?_
  obtain rfl := some_inj H
  refine end_ret (.cellK rfl agg48 rfl (lb rfl) (.cellK rfl agg65 rfl (lb rfl) .nil)) rfl rfl ⟨?_, rfl⟩
  rfl

set_option maxHeartbeats 1000000 in
/-- impl.Fact] -/
theorem m_slices_IndexFunc_Simpl_Fact_impl_Fact_ok (s0 : (List Fact)) (f1 : (Fact → Option Bool)) (f1_g : Nat) (f1_c : List A) (f1_E : EnT prg f1_g) (f1_l : looseL f1_c = true) (f1_m : firmL f1_c = true ∧ fzL f1_c = f1_c) (f1_H : ∀ (x0 : Fact) r, f1 x0 = some r → FnV prg f1_g ([(.g (tFact.enc x0))] ++ f1_c) (boolA r)) (r : Int) (H : m_slices_IndexFunc_Simpl_Fact_impl_Fact s0 f1 = some r) : FnV prg 158 [(sl tFact s0), (.f f1_g f1_c)] (intA r) := by
  unfold m_slices_IndexFunc_Simpl_Fact_impl_Fact at H
  refine fnV_of_T Try.func158 rfl rfl (Nat.le_of_ble_eq_true rfl) ?_
  refine te [(0, (sl tFact s0)), (1, (.f f1_g f1_c))] rfl ?_
  refine sr ?_
  refine Tp rfl rfl (pur_assign rfl) rfl ?_
  refine TO_nil ?_
  refine te [(0, (sl tFact s0)), (1, (.f f1_g f1_c))] rfl ?_
  refine T_seq ?_
  refine sr ?_
  refine Tp rfl rfl (pur_move rfl) rfl ?_
  refine Tp rfl rfl (pur_lenT (T := tFact) sl46 rfl rfl) rfl ?_
  refine Tp rfl rfl (pur_move rfl) rfl ?_
  refine TO_nil ?_
  refine te [(0, (sl tFact s0)), (1, (.f f1_g f1_c)), (7, (intA (s0.length : Int))), (8, (intA 0))] rfl ?_
  obtain ⟨O2_, L2_, N2_⟩ := bind_inv H
  clear H
  obtain ⟨B2_, hb2, L2_⟩ := gen_forL L2_
  refine T_block ?_
  refine T_loopX (fun k => fun (t_1 : Nat) => k = s0.length - t_1 ∧ forL B2_ (s0.drop t_1) (t_1 : Int) () = some O2_) (fun (t_1 : Nat) => [(0, (sl tFact s0)), (1, (.f f1_g f1_c)), (7, (intA (s0.length : Int))), (8, (intA (t_1 : Int)))]) (fun (t_1 : Nat) => []) _ (0 : Nat) (wp 0 (lb rfl) rfl rfl (by simp only [namesE, A.names, namesL_enc, Bool.false_or, Bool.or_false, looseL_names f1_l]) rfl rfl) ⟨rfl, L2_⟩ ?_
  rintro _ t_1 ⟨rfl, L2_⟩
  refine te [(0, (sl tFact s0)), (1, (.f f1_g f1_c)), (7, (intA (s0.length : Int))), (8, (intA (t_1 : Int)))] rfl ?_
  refine T_st (σ' := []) rfl ?_
  refine T_fact (len_sl (T := tFact) (.tmp 0) rfl) (fun hl2 => ?_)
  refine sr ?_
  refine Tp rfl rfl (pur_lss rfl rfl rfl) rfl ?_
  refine TO_nil ?_
  refine te [(0, (sl tFact s0)), (1, (.f f1_g f1_c)), (7, (intA (s0.length : Int))), (8, (intA (t_1 : Int))), (9, (boolA (decide ((t_1 : Int) < (s0.length : Int)))))] rfl ?_
  refine T_seq ?_
  refine T_cond (t := decide ((t_1 : Int) < (s0.length : Int))) rfl (fun d2 => ?_) (fun d2 => ?_)
  ·replace d2 := of_decide_eq_true d2
   obtain ⟨x_t_1, hx_t_1⟩ : ∃ v, (s0)[t_1]? = some v := ⟨_, List.getElem?_eq_getElem (by omega)⟩
   obtain ⟨C2_, H, K2_⟩ := forL_step L2_ hx_t_1
   rw [hb2] at H
   refine T_skip ?_
   refine te [(0, (sl tFact s0)), (1, (.f f1_g f1_c)), (7, (intA (s0.length : Int))), (8, (intA (t_1 : Int)))] rfl ?_
   refine T_seq ?_
   refine T_block ?_
   refine sr ?_
   refine Tp rfl rfl (pur_move rfl) rfl ?_
   refine Tp rfl rfl (pur_assign rfl) rfl ?_
   refine TO_nil ?_
   refine te [(0, (sl tFact s0)), (1, (.f f1_g f1_c)), (5, (intA (t_1 : Int))), (7, (intA (s0.length : Int))), (8, (intA (t_1 : Int)))] rfl ?_
   refine sr ?_
   refine Tp rfl rfl (pur_move rfl) rfl ?_
   refine Tp rfl rfl (pur_move rfl) rfl ?_
   refine Tp rfl rfl (pur_move rfl) rfl ?_
   refine Tp rfl rfl (pur_ixT (T := tFact) sl46 rfl rfl rfl hx_t_1 rfl) rfl ?_
   refine Tp rfl rfl (pur_ldTK (T := tFact) (i := t_1) (off := 0) rfl agg65 rfl rfl hx_t_1 (by decide) rfl) rfl ?_
   obtain ⟨r_3, h_4, H⟩ := bind_inv H
   refine TO_cons rfl (TOp_callV (call_closure f1_E rfl rfl) (f1_H _  _ h_4) (looseL_app rfl f1_l) rfl rfl ?_)
   refine TO_nil ?_
   refine te [(0, (sl tFact s0)), (1, (.f f1_g f1_c)), (5, (intA (t_1 : Int))), (7, (intA (s0.length : Int))), (8, (intA (t_1 : Int))), (16, (boolA r_3))] rfl ?_
   refine T_cond (t := r_3) rfl (fun c_5 => ?_) (fun c_5 => ?_)
   ·replace H := cond_t c_5 H
    refine sr ?_
    refine Tp rfl rfl (pur_move rfl) rfl ?_
    refine Tp rfl rfl (pur_assign rfl) rfl ?_
    refine TO_nil ?_
    refine te [(4, (intA (t_1 : Int)))] rfl ?_
    refine T_ret ?_
    refine block_ret ?_
    refine then_ret ?_
    refine then_ret ?_
    refine block_ret ?_
    refine then_ret ?_
    obtain rfl := some_inj H
    obtain rfl := some_inj K2_
    replace H := onS_r N2_
    obtain rfl := some_inj H
    refine end_ret (.tmp .nil) rfl rfl ⟨?_, rfl⟩
    rfl
   ·replace H := cond_f c_5 H
    refine T_skip ?_
    refine te [(0, (sl tFact s0)), (1, (.f f1_g f1_c)), (7, (intA (s0.length : Int))), (8, (intA (t_1 : Int)))] rfl ?_
    refine T_region ?_
    refine Tp rfl rfl (pur_add rfl rfl rfl (fits64 (by omega) (by omega))) rfl ?_
    refine Tp rfl rfl (pur_move rfl) rfl ?_
    refine TO_nil ?_
    obtain rfl := some_inj H
    exact again (s0.length - (t_1 + 1)) (t_1 + 1) (by omega) (wp 0 (lb rfl) rfl rfl (by simp only [namesE, A.names, namesL_enc, Bool.false_or, Bool.or_false, looseL_names f1_l]) rfl rfl) ⟨rfl, K2_⟩
  ·replace d2 := of_decide_eq_false d2
   obtain rfl := forL_end L2_ (by omega)
   refine T_exit ?_
   refine then_exit ?_
   refine then_exit ?_
   refine block_exit ?_
   replace H := onS_l N2_
   refine te [] rfl ?_
   refine sr ?_
   refine Tp rfl rfl (pur_assign rfl) rfl ?_
   refine TO_nil ?_
   refine te [(4, (intA (-1)))] rfl ?_
   refine T_ret ?_
   obtain rfl := some_inj H
   refine end_ret (.tmp .nil) rfl rfl ⟨?_, rfl⟩
   rfl

set_option maxHeartbeats 1000000 in
/-- impl.FactIndex$1 -/
theorem m_impl_FactIndex_1_ok (own0 : Fact) (fv1 : Fact) (r : Bool) (H : m_impl_FactIndex_1 own0 fv1 = some r) : FnV prg 159 [(.g (tFact.enc own0)), (.q [(intA fv1.relation), (sl tInt fv1.values)] 0)] (boolA r) := by
  unfold m_impl_FactIndex_1 at H
  refine fnV_of_T Try.func159 rfl rfl (Nat.le_of_ble_eq_true rfl) ?_
  refine te [(0, (.g (tFact.enc own0))), (1, (.q [(intA fv1.relation), (sl tInt fv1.values)] 0))] rfl ?_
  refine sr ?_
  refine TO_cons rfl (TOp_box rfl (boxAll rfl) rfl rfl ?_)
  refine Tp rfl rfl (pur_assign rfl) rfl ?_
  refine TO_nil ?_
  refine te [(1, (.q [(intA fv1.relation), (sl tInt fv1.values)] 0)), (2, (.b 0 0))] rfl ?_
  refine sr ?_
  refine Tp rfl rfl (pur_ldK_b agg65 rfl rfl (lb rfl) rfl) rfl ?_
  refine Tp rfl rfl (pur_ldK_q agg65 rfl (lb rfl) rfl) rfl ?_
  obtain ⟨r_1, h_2, H⟩ := bind_inv H
  refine TO_cons rfl (TOp_callV (call_static ent152 rfl) (m_impl_CompareFacts_ok _ _ _ h_2) rfl rfl rfl ?_)
  refine Tp rfl rfl (pur_eql rfl rfl rfl) rfl ?_
  refine Tp rfl rfl (pur_assign rfl) rfl ?_
  refine TO_nil ?_
  refine te [(3, (boolA (decide (r_1 = 0))))] rfl ?_
  refine T_ret ?_
  obtain rfl := some_inj H
  refine end_ret (.tmp .nil) rfl rfl ⟨?_, rfl⟩
  rfl

set_option maxHeartbeats 1000000 in
/-- impl.FactIndex -/
theorem m_impl_FactIndex_ok (db0 : Database) (fact1 : Fact) (r : Int) (H : m_impl_FactIndex db0 fact1 = some r) : FnV prg 106 [(.g (tDatabase.enc db0)), (.g (tFact.enc fact1))] (intA r) := by
  unfold m_impl_FactIndex at H
  refine fnV_of_T Try.func106 rfl rfl (Nat.le_of_ble_eq_true rfl) ?_
  refine te [(0, (.g (tDatabase.enc db0))), (1, (.g (tFact.enc fact1)))] rfl ?_
  refine sr ?_
  refine TO_cons rfl (TOp_box rfl (boxAll rfl) rfl rfl ?_)
  refine TO_cons rfl (TOp_box rfl (boxAll rfl) rfl rfl ?_)
  refine Tp rfl rfl (pur_assign rfl) rfl ?_
  refine TO_nil ?_
  refine te [(2, (.b 0 0)), (3, (.b 1 0))] rfl ?_
  refine sr ?_
  refine Tp rfl rfl (pur_fa_b fld48_1 rfl rfl) rfl ?_
  refine Tp rfl rfl (pur_ld_b one46 rfl rfl rfl rfl) rfl ?_
  refine Tp rfl rfl (pur_makeFunc rfl) rfl ?_
  obtain ⟨r_1, h_2, H⟩ := bind_inv H
  refine TO_cons rfl (TOp_callB (call_static ent158 rfl) (frz_cons (frz_loose rfl) (frz_cons (frzOK_f (frz_cons (frzOK_b (xs := [(intA fact1.relation), (sl tInt fact1.values)]) (ys := [(intA fact1.relation), (sl tInt fact1.values)]) rfl rfl rfl) frz_nil).1 (frz_cons (frzOK_b (xs := [(intA fact1.relation), (sl tInt fact1.values)]) (ys := [(intA fact1.relation), (sl tInt fact1.values)]) rfl rfl rfl) frz_nil).2) frz_nil)).1 (frz_cons (frz_loose rfl) (frz_cons (frzOK_f (frz_cons (frzOK_b (xs := [(intA fact1.relation), (sl tInt fact1.values)]) (ys := [(intA fact1.relation), (sl tInt fact1.values)]) rfl rfl rfl) frz_nil).1 (frz_cons (frzOK_b (xs := [(intA fact1.relation), (sl tInt fact1.values)]) (ys := [(intA fact1.relation), (sl tInt fact1.values)]) rfl rfl rfl) frz_nil).2) frz_nil)).2 (m_slices_IndexFunc_Simpl_Fact_impl_Fact_ok _ (fun x0 => m_impl_FactIndex_1 x0 fact1) 159 [(.q [(intA fact1.relation), (sl tInt fact1.values)] 0)] ent159 rfl ⟨rfl, rfl⟩ (fun x0 r h => m_impl_FactIndex_1_ok x0 fact1 r h) _ h_2) rfl ?_)
  refine Tp rfl rfl (pur_assign rfl) rfl ?_
  refine TO_nil ?_
  refine te [(4, (intA r_1))] rfl ?_
  refine T_ret ?_
  obtain rfl := some_inj H
  refine end_ret (.tmp .nil) rfl rfl ⟨?_, rfl⟩
  rfl

set_option maxHeartbeats 1000000 in
/-- impl.ContainsFact -/
theorem m_impl_ContainsFact_ok (db0 : Database) (fact1 : Fact) (r : Bool) (H : m_impl_ContainsFact db0 fact1 = some r) : FnV prg 49 [(.g (tDatabase.enc db0)), (.g (tFact.enc fact1))] (boolA r) := by
  unfold m_impl_ContainsFact at H
  refine fnV_of_T Try.func49 rfl rfl (Nat.le_of_ble_eq_true rfl) ?_
  refine te [(0, (.g (tDatabase.enc db0))), (1, (.g (tFact.enc fact1)))] rfl ?_
  refine sr ?_
  refine TO_cons rfl (TOp_box rfl (boxAll rfl) rfl rfl ?_)
  refine TO_cons rfl (TOp_box rfl (boxAll rfl) rfl rfl ?_)
  refine Tp rfl rfl (pur_assign rfl) rfl ?_
  refine TO_nil ?_
  refine te [(2, (.b 0 0)), (3, (.b 1 0))] rfl ?_
  obtain ⟨t4_1, J_1, H_2⟩ := bind_inv H
  refine T_cutX (fun x => t4_1 = x) (fun (t4_1 : Bool) => [(4, (boolA t4_1))]) (fun (t4_1 : Bool) => []) ?_ ?_
  ·replace H := J_1
   refine T_region ?_
   refine Tp rfl rfl (pur_ldK_b agg48 rfl rfl (lb rfl) rfl) rfl ?_
   obtain ⟨r_3, h_4, H⟩ := bind_inv H
   refine TO_cons rfl (TOp_callV (call_static ent117 rfl) (m_impl_IsValidDatabase_ok _ _ h_4) rfl rfl rfl ?_)
   refine Tp rfl rfl (pur_move rfl) rfl ?_
   refine TO_split (t := r_3) 7 rfl (fun g_5 => ?_) (fun g_5 => ?_)
   ·replace H := cond_t g_5 H
    refine TO_on rfl rfl (by decide) rfl rfl (TOp_pure (pur_ldK_b agg48 rfl rfl (lb rfl) rfl) rfl ?_)
    refine TO_on rfl rfl (by decide) rfl rfl (TOp_pure (pur_ldK_b agg65 rfl rfl (lb rfl) rfl) rfl ?_)
    obtain ⟨r_6, h_7, H⟩ := bind_inv H
    refine TO_on rfl rfl (by decide) rfl rfl (TOp_callV (call_static ent106 rfl) (m_impl_FactIndex_ok _ _ _ h_7) rfl rfl rfl ?_)
    refine TO_on rfl rfl (by decide) rfl rfl (TOp_pure (pur_geq rfl rfl rfl) rfl ?_)
    refine Tp rfl rfl (pur_pick (t := true) rfl rfl rfl) rfl ?_
    refine Tp rfl rfl (pur_assign rfl) rfl ?_
    refine TO_nil ?_
    exact joined (decide (0 ≤ r_6)) (wp 0 (lb rfl) rfl rfl rfl rfl rfl) (some_inj H).symm
   ·replace H := cond_f g_5 H
    refine TO_off rfl rfl (by decide) rfl rfl rfl ?_
    refine TO_off rfl rfl (by decide) rfl rfl rfl ?_
    refine TO_off rfl rfl (by decide) rfl rfl rfl ?_
    refine TO_off rfl rfl (by decide) rfl rfl rfl ?_
    refine Tp rfl rfl (pur_pick (t := false) rfl rfl rfl) rfl ?_
    refine Tp rfl rfl (pur_assign rfl) rfl ?_
    refine TO_nil ?_
    exact joined false (wp 0 (lb rfl) rfl rfl rfl rfl rfl) (some_inj H).symm
  ·rintro _ rfl
   replace H := H_2
   refine te [(4, (boolA t4_1))] rfl ?_
   refine T_ret ?_
   obtain rfl := some_inj H
   refine end_ret (.tmp .nil) rfl rfl ⟨?_, rfl⟩
   rfl

set_option maxHeartbeats 1000000 in
/-- slices.Index[[]int,int] -/
theorem m_slices_Index_Sint_int_ok (s0 : (List Int)) (v1 : Int) (r : Int) (H : m_slices_Index_Sint_int s0 v1 = some r) : FnV prg 177 [(sl tInt s0), (intA v1)] (intA r) := by
  unfold m_slices_Index_Sint_int at H
  refine fnV_of_T Try.func177 rfl rfl (Nat.le_of_ble_eq_true rfl) ?_
  refine te [(0, (sl tInt s0)), (1, (intA v1))] rfl ?_
  refine sr ?_
  refine Tp rfl rfl (pur_assign rfl) rfl ?_
  refine TO_nil ?_
  refine te [(0, (sl tInt s0)), (1, (intA v1))] rfl ?_
  refine T_seq ?_
  refine sr ?_
  refine Tp rfl rfl (pur_move rfl) rfl ?_
  refine Tp rfl rfl (pur_lenT (T := tInt) sl23 rfl rfl) rfl ?_
  refine Tp rfl rfl (pur_move rfl) rfl ?_
  refine TO_nil ?_
  refine te [(0, (sl tInt s0)), (1, (intA v1)), (7, (intA (s0.length : Int))), (8, (intA 0))] rfl ?_
  obtain ⟨O2_, L2_, N2_⟩ := bind_inv H
  clear H
  obtain ⟨B2_, hb2, L2_⟩ := gen_forL L2_
  refine T_block ?_
  refine T_loopX (fun k => fun (t_1 : Nat) => k = s0.length - t_1 ∧ forL B2_ (s0.drop t_1) (t_1 : Int) () = some O2_) (fun (t_1 : Nat) => [(0, (sl tInt s0)), (1, (intA v1)), (7, (intA (s0.length : Int))), (8, (intA (t_1 : Int)))]) (fun (t_1 : Nat) => []) _ (0 : Nat) (wp 0 (lb rfl) rfl rfl rfl rfl rfl) ⟨rfl, L2_⟩ ?_
  rintro _ t_1 ⟨rfl, L2_⟩
  refine te [(0, (sl tInt s0)), (1, (intA v1)), (7, (intA (s0.length : Int))), (8, (intA (t_1 : Int)))] rfl ?_
  refine T_st (σ' := []) rfl ?_
  refine T_fact (len_sl (T := tInt) (.tmp 0) rfl) (fun hl2 => ?_)
  refine sr ?_
  refine Tp rfl rfl (pur_lss rfl rfl rfl) rfl ?_
  refine TO_nil ?_
  refine te [(0, (sl tInt s0)), (1, (intA v1)), (7, (intA (s0.length : Int))), (8, (intA (t_1 : Int))), (9, (boolA (decide ((t_1 : Int) < (s0.length : Int)))))] rfl ?_
  refine T_seq ?_
  refine T_cond (t := decide ((t_1 : Int) < (s0.length : Int))) rfl (fun d2 => ?_) (fun d2 => ?_)
  ·replace d2 := of_decide_eq_true d2
   obtain ⟨x_t_1, hx_t_1⟩ : ∃ v, (s0)[t_1]? = some v := ⟨_, List.getElem?_eq_getElem (by omega)⟩
   obtain ⟨C2_, H, K2_⟩ := forL_step L2_ hx_t_1
   rw [hb2] at H
   refine T_skip ?_
   refine te [(0, (sl tInt s0)), (1, (intA v1)), (7, (intA (s0.length : Int))), (8, (intA (t_1 : Int)))] rfl ?_
   refine T_seq ?_
   refine T_block ?_
   refine sr ?_
   refine Tp rfl rfl (pur_move rfl) rfl ?_
   refine Tp rfl rfl (pur_assign rfl) rfl ?_
   refine TO_nil ?_
   refine te [(0, (sl tInt s0)), (1, (intA v1)), (5, (intA (t_1 : Int))), (7, (intA (s0.length : Int))), (8, (intA (t_1 : Int)))] rfl ?_
   refine sr ?_
   refine Tp rfl rfl (pur_move rfl) rfl ?_
   refine Tp rfl rfl (pur_move rfl) rfl ?_
   refine Tp rfl rfl (pur_move rfl) rfl ?_
   refine Tp rfl rfl (pur_ixT (T := tInt) sl23 rfl rfl rfl hx_t_1 rfl) rfl ?_
   refine Tp rfl rfl (pur_ldT (T := tInt) (i := t_1) (off := 0) rfl one3 rfl rfl hx_t_1 rfl) rfl ?_
   refine Tp rfl rfl (pur_eql rfl rfl rfl) rfl ?_
   refine TO_nil ?_
   refine te [(0, (sl tInt s0)), (1, (intA v1)), (5, (intA (t_1 : Int))), (7, (intA (s0.length : Int))), (8, (intA (t_1 : Int))), (16, (boolA (decide (v1 = x_t_1))))] rfl ?_
   refine T_cond (t := decide (v1 = x_t_1)) rfl (fun c_3 => ?_) (fun c_3 => ?_)
   ·replace H := cond_t c_3 H
    refine sr ?_
    refine Tp rfl rfl (pur_move rfl) rfl ?_
    refine Tp rfl rfl (pur_assign rfl) rfl ?_
    refine TO_nil ?_
    refine te [(4, (intA (t_1 : Int)))] rfl ?_
    refine T_ret ?_
    refine block_ret ?_
    refine then_ret ?_
    refine then_ret ?_
    refine block_ret ?_
    refine then_ret ?_
    obtain rfl := some_inj H
    obtain rfl := some_inj K2_
    replace H := onS_r N2_
    obtain rfl := some_inj H
    refine end_ret (.tmp .nil) rfl rfl ⟨?_, rfl⟩
    rfl
   ·replace H := cond_f c_3 H
    refine T_skip ?_
    refine te [(0, (sl tInt s0)), (1, (intA v1)), (7, (intA (s0.length : Int))), (8, (intA (t_1 : Int)))] rfl ?_
    refine T_region ?_
    refine Tp rfl rfl (pur_add rfl rfl rfl (fits64 (by omega) (by omega))) rfl ?_
    refine Tp rfl rfl (pur_move rfl) rfl ?_
    refine TO_nil ?_
    obtain rfl := some_inj H
    exact again (s0.length - (t_1 + 1)) (t_1 + 1) (by omega) (wp 0 (lb rfl) rfl rfl rfl rfl rfl) ⟨rfl, K2_⟩
  ·replace d2 := of_decide_eq_false d2
   obtain rfl := forL_end L2_ (by omega)
   refine T_exit ?_
   refine then_exit ?_
   refine then_exit ?_
   refine block_exit ?_
   replace H := onS_l N2_
   refine te [] rfl ?_
   refine sr ?_
   refine Tp rfl rfl (pur_assign rfl) rfl ?_
   refine TO_nil ?_
   refine te [(4, (intA (-1)))] rfl ?_
   refine T_ret ?_
   obtain rfl := some_inj H
   refine end_ret (.tmp .nil) rfl rfl ⟨?_, rfl⟩
   rfl

set_option maxHeartbeats 1000000 in
/-- slices.Contains[[]int,int] -/
theorem m_slices_Contains_Sint_int_ok (s0 : (List Int)) (v1 : Int) (r : Bool) (H : m_slices_Contains_Sint_int s0 v1 = some r) : FnV prg 157 [(sl tInt s0), (intA v1)] (boolA r) := by
  unfold m_slices_Contains_Sint_int at H
  refine fnV_of_T Try.func157 rfl rfl (Nat.le_of_ble_eq_true rfl) ?_
  refine te [(0, (sl tInt s0)), (1, (intA v1))] rfl ?_
  refine sr ?_
  refine Tp rfl rfl (pur_assign rfl) rfl ?_
  refine TO_nil ?_
  refine te [(0, (sl tInt s0)), (1, (intA v1))] rfl ?_
  refine sr ?_
  refine Tp rfl rfl (pur_move rfl) rfl ?_
  refine Tp rfl rfl (pur_move rfl) rfl ?_
  obtain ⟨r_1, h_2, H⟩ := bind_inv H
  refine TO_cons rfl (TOp_callV (call_static ent177 rfl) (m_slices_Index_Sint_int_ok _ _ _ h_2) rfl rfl rfl ?_)
  refine Tp rfl rfl (pur_geq rfl rfl rfl) rfl ?_
  refine Tp rfl rfl (pur_assign rfl) rfl ?_
  refine TO_nil ?_
  refine te [(4, (boolA (decide (0 ≤ r_1))))] rfl ?_
  refine T_ret ?_
  obtain rfl := some_inj H
  refine end_ret (.tmp .nil) rfl rfl ⟨?_, rfl⟩
  rfl

set_option maxHeartbeats 1000000 in
/-- impl.BlockOf -/
theorem m_impl_BlockOf_ok (db0 : Database) (index1 : Int) (r : (List Int)) (H : m_impl_BlockOf db0 index1 = some r) : FnV prg 105 [(.g (tDatabase.enc db0)), (intA index1)] (sl tInt r) := by
  unfold m_impl_BlockOf at H
  refine fnV_of_T Try.func105 rfl rfl (Nat.le_of_ble_eq_true rfl) ?_
  refine te [(0, (.g (tDatabase.enc db0))), (1, (intA index1))] rfl ?_
  refine sr ?_
  refine TO_cons rfl (TOp_box rfl (boxAll rfl) rfl rfl ?_)
  refine Tp rfl rfl (pur_assign rfl) rfl ?_
  refine TO_nil ?_
  refine te [(1, (intA index1)), (2, (.b 0 0))] rfl ?_
  refine T_seq ?_
  refine sr ?_
  refine Tp rfl rfl (pur_ldK_b agg48 rfl rfl (lb rfl) rfl) rfl ?_
  obtain ⟨r_1, h_2, H⟩ := bind_inv H
  refine TO_cons rfl (TOp_callV (call_static ent45 rfl) (m_impl_Blocks_ok _ _ h_2) rfl rfl rfl ?_)
  refine Tp rfl rfl (pur_lenT (T := (tSl tInt)) sl53 rfl rfl) rfl ?_
  refine Tp rfl rfl (pur_move rfl) rfl ?_
  refine TO_nil ?_
  refine te [(1, (intA index1)), (8, (sl (tSl tInt) r_1)), (9, (intA (r_1.length : Int))), (10, (intA 0))] rfl ?_
  obtain ⟨O4_, L4_, N4_⟩ := bind_inv H
  clear H
  obtain ⟨B4_, hb4, L4_⟩ := gen_forL L4_
  refine T_block ?_
  refine T_loopX (fun k => fun (t_3 : Nat) => k = r_1.length - t_3 ∧ forL B4_ (r_1.drop t_3) (t_3 : Int) () = some O4_) (fun (t_3 : Nat) => [(1, (intA index1)), (8, (sl (tSl tInt) r_1)), (9, (intA (r_1.length : Int))), (10, (intA (t_3 : Int)))]) (fun (t_3 : Nat) => [.box [(sl tRelation db0.relations), (sl tFact db0.facts)]]) _ (0 : Nat) (wp 1 (lb rfl) rfl rfl rfl rfl rfl) ⟨rfl, L4_⟩ ?_
  rintro _ t_3 ⟨rfl, L4_⟩
  refine te [(1, (intA index1)), (8, (sl (tSl tInt) r_1)), (9, (intA (r_1.length : Int))), (10, (intA (t_3 : Int)))] rfl ?_
  refine T_st (σ' := [.box [(sl tRelation db0.relations), (sl tFact db0.facts)]]) rfl ?_
  refine T_fact (len_sl (T := (tSl tInt)) (.tmp 8) rfl) (fun hl4 => ?_)
  refine sr ?_
  refine Tp rfl rfl (pur_lss rfl rfl rfl) rfl ?_
  refine TO_nil ?_
  refine te [(1, (intA index1)), (8, (sl (tSl tInt) r_1)), (9, (intA (r_1.length : Int))), (10, (intA (t_3 : Int))), (11, (boolA (decide ((t_3 : Int) < (r_1.length : Int)))))] rfl ?_
  refine T_seq ?_
  refine T_cond (t := decide ((t_3 : Int) < (r_1.length : Int))) rfl (fun d4 => ?_) (fun d4 => ?_)
  ·replace d4 := of_decide_eq_true d4
   obtain ⟨x_t_3, hx_t_3⟩ : ∃ v, (r_1)[t_3]? = some v := ⟨_, List.getElem?_eq_getElem (by omega)⟩
   obtain ⟨C4_, H, K4_⟩ := forL_step L4_ hx_t_3
   rw [hb4] at H
   refine T_skip ?_
   refine te [(1, (intA index1)), (8, (sl (tSl tInt) r_1)), (9, (intA (r_1.length : Int))), (10, (intA (t_3 : Int)))] rfl ?_
   refine T_seq ?_
   refine T_block ?_
   refine sr ?_
   refine Tp rfl rfl (pur_ixT (T := (tSl tInt)) sl53 rfl rfl rfl hx_t_3 rfl) rfl ?_
   refine Tp rfl rfl (pur_ldT (T := (tSl tInt)) (i := t_3) (off := 0) rfl one23 rfl rfl hx_t_3 rfl) rfl ?_
   refine Tp rfl rfl (pur_assign rfl) rfl ?_
   refine TO_nil ?_
   refine te [(1, (intA index1)), (6, (sl tInt x_t_3)), (8, (sl (tSl tInt) r_1)), (9, (intA (r_1.length : Int))), (10, (intA (t_3 : Int)))] rfl ?_
   refine sr ?_
   refine Tp rfl rfl (pur_move rfl) rfl ?_
   refine Tp rfl rfl (pur_move rfl) rfl ?_
   obtain ⟨r_5, h_6, H⟩ := bind_inv H
   refine TO_cons rfl (TOp_callV (call_static ent157 rfl) (m_slices_Contains_Sint_int_ok _ _ _ h_6) rfl rfl rfl ?_)
   refine TO_nil ?_
   refine te [(1, (intA index1)), (6, (sl tInt x_t_3)), (8, (sl (tSl tInt) r_1)), (9, (intA (r_1.length : Int))), (10, (intA (t_3 : Int))), (16, (boolA r_5))] rfl ?_
   refine T_cond (t := r_5) rfl (fun c_7 => ?_) (fun c_7 => ?_)
   ·replace H := cond_t c_7 H
    refine sr ?_
    refine Tp rfl rfl (pur_move rfl) rfl ?_
    refine Tp rfl rfl (pur_assign rfl) rfl ?_
    refine TO_nil ?_
    refine te [(4, (sl tInt x_t_3))] rfl ?_
    refine T_ret ?_
    refine block_ret ?_
    refine then_ret ?_
    refine then_ret ?_
    refine block_ret ?_
    refine then_ret ?_
    obtain rfl := some_inj H
    obtain rfl := some_inj K4_
    replace H := onS_r N4_
    obtain rfl := some_inj H
    refine end_ret (.tmp .nil) rfl rfl ⟨?_, rfl⟩
    rfl
   ·replace H := cond_f c_7 H
    refine T_skip ?_
    refine te [(1, (intA index1)), (8, (sl (tSl tInt) r_1)), (9, (intA (r_1.length : Int))), (10, (intA (t_3 : Int)))] rfl ?_
    refine T_region ?_
    refine Tp rfl rfl (pur_add rfl rfl rfl (fits64 (by omega) (by omega))) rfl ?_
    refine Tp rfl rfl (pur_move rfl) rfl ?_
    refine TO_nil ?_
    obtain rfl := some_inj H
    exact again (r_1.length - (t_3 + 1)) (t_3 + 1) (by omega) (wp 1 (lb rfl) rfl rfl rfl rfl rfl) ⟨rfl, K4_⟩
  ·replace d4 := of_decide_eq_false d4
   obtain rfl := forL_end L4_ (by omega)
   refine T_exit ?_
   refine then_exit ?_
   refine then_exit ?_
   refine block_exit ?_
   replace H := onS_l N4_
   refine te [] rfl ?_
   refine sr ?_
   refine Tp rfl rfl (pur_assign rfl) rfl ?_
   refine TO_nil ?_
   refine te [(4, .n)] rfl ?_
   refine T_envL (E' := [(4, (sl tInt []))]) ⟨leN, trivial⟩ ?_
   refine T_ret ?_
   obtain rfl := some_inj H
   refine end_ret (.tmp .nil) rfl rfl ⟨?_, rfl⟩
   rfl

set_option maxHeartbeats 1000000 in
/-- impl.copyDatabase -/
theorem m_impl_copyDatabase_own (db0 : Database) (r : Database) (H : m_impl_copyDatabase db0 = some r) : FnO prg 107 [(.g (tDatabase.enc db0))] (.g [(.m [0] 0 r.relations.length tRelation.k), (.m [1] 0 r.facts.length tFact.k)]) [.row (flat tRelation.enc r.relations), .row (flat tFact.enc r.facts)] := by
  unfold m_impl_copyDatabase at H
  refine fnO_of_T Try.func107 rfl rfl (Nat.le_of_ble_eq_true rfl) ?_
  refine te [(0, (.g (tDatabase.enc db0)))] rfl ?_
  refine sr ?_
  refine TO_cons rfl (TOp_box rfl (boxAll rfl) rfl rfl ?_)
  refine TO_cons rfl (TOp_alloc zero48 rfl rfl ?_)
  refine TO_nil ?_
  refine te [(1, (.b 0 0)), (2, (.b 1 0))] rfl ?_
  refine sr ?_
  refine TO_cons rfl (TOp_lit (nn := 0) (k := 3) sl45 zero130 rfl rfl rfl rfl (by decide) ?_)
  refine TO_st (σ' := [.box [(sl tRelation db0.relations), (sl tFact db0.facts)], .box [.n, .n], .row (flat tRelation.enc ([] : (List Relation)))]) rfl ?_
  refine Tp rfl rfl (pur_fa_b fld48_0 rfl rfl) rfl ?_
  refine Tp rfl rfl (pur_ld_b one45 rfl rfl rfl rfl) rfl ?_
  obtain ⟨us_1, h_2, H⟩ := bind_inv H
  refine TO_cons rfl (TOp_appZ (T := tRelation) (f := tRelation.enc) (xs := ([] : (List Relation))) (ys := db0.relations) tRelation.len sl45 zero130 rfl bytes130 (by decide) rfl rfl rfl rfl (src_T (T := tRelation) rfl) (flat_cell tRelation _) h_2 (lb rfl) ?_)
  refine toe [(1, (.b 0 0)), (2, (.b 1 0)), (7, (.b 0 0)), (8, (sl tRelation db0.relations)), (9, (.m [2] 0 us_1.length tRelation.k))] rfl ?_
  refine TO_st (σ' := [.box [(sl tRelation db0.relations), (sl tFact db0.facts)], .box [.n, .n], .row (flat tRelation.enc us_1), .dead]) rfl ?_
  refine TO_cons rfl (TOp_lit (nn := 0) (k := 2) sl46 zero65 rfl rfl rfl rfl (by decide) ?_)
  refine TO_st (σ' := [.box [(sl tRelation db0.relations), (sl tFact db0.facts)], .box [.n, .n], .row (flat tRelation.enc us_1), .dead, .row (flat tFact.enc ([] : (List Fact)))]) rfl ?_
  refine Tp rfl rfl (pur_build bld48 rfl rfl) rfl ?_
  refine TO_cons rfl (TOp_alloc zero48 rfl rfl ?_)
  refine TO_cons rfl (TOp_storeB sz48 rfl rfl rfl rfl rfl rfl rfl (by decide) (lb rfl) rfl ?_)
  refine TO_st (σ' := [.box [(sl tRelation db0.relations), (sl tFact db0.facts)], .box [.n, .n], .row (flat tRelation.enc us_1), .dead, .row (flat tFact.enc ([] : (List Fact))), .box [(.m [2] 0 us_1.length tRelation.k), (.m [4] 0 ([] : (List Fact)).length tFact.k)]]) rfl ?_
  refine TO_nil ?_
  refine te [(1, (.b 0 0)), (2, (.b 1 0)), (3, (.b 5 0))] rfl ?_
  refine T_seq ?_
  refine sr ?_
  refine Tp rfl rfl (pur_fa_b fld48_1 rfl rfl) rfl ?_
  refine Tp rfl rfl (pur_ld_b one46 rfl rfl rfl rfl) rfl ?_
  refine Tp rfl rfl (pur_lenT (T := tFact) sl46 rfl rfl) rfl ?_
  refine Tp rfl rfl (pur_move rfl) rfl ?_
  refine TO_nil ?_
  refine te [(2, (.b 1 0)), (3, (.b 5 0)), (13, (sl tFact db0.facts)), (14, (intA (db0.facts.length : Int))), (15, (intA 0))] rfl ?_
  obtain ⟨O4_, L4_, N4_⟩ := bind_inv H
  clear H
  obtain ⟨B4_, hb4, L4_⟩ := gen_forS L4_
  refine T_block ?_
  refine T_loopX (fun k => fun (x_ : Nat × (List Fact)) => k = db0.facts.length - x_.1 ∧ forS B4_ (db0.facts.drop x_.1) (x_.1 : Int) x_.2 = some O4_) (fun (x_ : Nat × (List Fact)) => [(2, (.b 1 0)), (3, (.b 5 0)), (13, (sl tFact db0.facts)), (14, (intA (db0.facts.length : Int))), (15, (intA (x_.1 : Int)))]) (fun (x_ : Nat × (List Fact)) => [.box [(sl tRelation db0.relations), (sl tFact db0.facts)], .box [.n, .n], .row (flat tRelation.enc us_1), .dead, .row (flat tFact.enc x_.2), .box [(.m [2] 0 us_1.length tRelation.k), (.m [4] 0 x_.2.length tFact.k)]]) _ (0, ([] : (List Fact))) (wp 6 (lb rfl) rfl rfl rfl rfl rfl) ⟨rfl, L4_⟩ ?_
  rintro _ ⟨t_3, box5_facts⟩ ⟨rfl, L4_⟩
  refine te [(2, (.b 1 0)), (3, (.b 5 0)), (13, (sl tFact db0.facts)), (14, (intA (db0.facts.length : Int))), (15, (intA (t_3 : Int)))] rfl ?_
  refine T_st (σ' := [.box [(sl tRelation db0.relations), (sl tFact db0.facts)], .box [.n, .n], .row (flat tRelation.enc us_1), .dead, .row (flat tFact.enc box5_facts), .box [(.m [2] 0 us_1.length tRelation.k), (.m [4] 0 box5_facts.length tFact.k)]]) rfl ?_
  refine T_fact (len_sl (T := tFact) (.tmp 13) rfl) (fun hl4 => ?_)
  refine sr ?_
  refine Tp rfl rfl (pur_lss rfl rfl rfl) rfl ?_
  refine TO_nil ?_
  refine te [(2, (.b 1 0)), (3, (.b 5 0)), (13, (sl tFact db0.facts)), (14, (intA (db0.facts.length : Int))), (15, (intA (t_3 : Int))), (16, (boolA (decide ((t_3 : Int) < (db0.facts.length : Int)))))] rfl ?_
  refine T_seq ?_
  refine T_cond (t := decide ((t_3 : Int) < (db0.facts.length : Int))) rfl (fun d4 => ?_) (fun d4 => ?_)
  ·replace d4 := of_decide_eq_true d4
   obtain ⟨x_t_3, hx_t_3⟩ : ∃ v, (db0.facts)[t_3]? = some v := ⟨_, List.getElem?_eq_getElem (by omega)⟩
   obtain ⟨C4_, H, K4_⟩ := forS_step L4_ hx_t_3
   rw [hb4] at H
   refine T_skip ?_
   refine te [(2, (.b 1 0)), (3, (.b 5 0)), (13, (sl tFact db0.facts)), (14, (intA (db0.facts.length : Int))), (15, (intA (t_3 : Int)))] rfl ?_
   refine T_seq ?_
   refine T_block ?_
   refine sr ?_
   refine Tp rfl rfl (pur_ixT (T := tFact) sl46 rfl rfl rfl hx_t_3 rfl) rfl ?_
   refine Tp rfl rfl (pur_ldTK (T := tFact) (i := t_3) (off := 0) rfl agg65 rfl rfl hx_t_3 (by decide) rfl) rfl ?_
   refine TO_cons rfl (TOp_alloc zero65 rfl rfl ?_)
   refine TO_cons rfl (TOp_storeB sz65 rfl rfl rfl rfl rfl rfl rfl (by decide) (lb rfl) rfl ?_)
   refine TO_st (σ' := [.box [(sl tRelation db0.relations), (sl tFact db0.facts)], .box [.n, .n], .row (flat tRelation.enc us_1), .dead, .row (flat tFact.enc box5_facts), .box [(.m [2] 0 us_1.length tRelation.k), (.m [4] 0 box5_facts.length tFact.k)], .box [(intA x_t_3.relation), (sl tInt x_t_3.values)]]) rfl ?_
   refine TO_nil ?_
   refine te [(2, (.b 1 0)), (3, (.b 5 0)), (5, (.b 6 0)), (13, (sl tFact db0.facts)), (14, (intA (db0.facts.length : Int))), (15, (intA (t_3 : Int)))] rfl ?_
   obtain ⟨us_5, h_6, H⟩ := bind_inv H
   obtain ⟨us_7, h_8, H⟩ := bind_inv H
   refine T_pad ?_
   refine T_pad ?_
   refine T_regionP mixed ?_
   refine TA_have 3 #[true, true, true, true, true, true, true, true, true, true, false, false, false] [(2, (.b 1 0)), (3, (.b 5 0)), (13, (sl tFact db0.facts)), (14, (intA (db0.facts.length : Int))), (15, (intA (t_3 : Int))), (20, (.m [4] 0 box5_facts.length tFact.k)), (28, (.m [8] 0 ([({ relation := x_t_3.relation, values := us_5 } : Fact)] : (List Fact)).length tFact.k))] [.box [(sl tRelation db0.relations), (sl tFact db0.facts)], .box [.n, .n], .row (flat tRelation.enc us_1), .dead, .row (flat tFact.enc box5_facts), .box [(.m [2] 0 us_1.length tRelation.k), (.m [4] 0 box5_facts.length tFact.k)], .box [(intA x_t_3.relation), (sl tInt x_t_3.values)], .dead, .row (flat tFact.enc ([({ relation := x_t_3.relation, values := us_5 } : Fact)] : (List Fact)))] ?_ (fun hj0_5 => ?_)
   ·skip
    refine t1 10 (by kernel_rfl) rfl rfl (TOp_appY (T := tFact) (f := tFact.enc) (xs := box5_facts) (ys := ([({ relation := x_t_3.relation, values := us_5 } : Fact)] : (List Fact))) tFact.len sl46 zero65 rfl bytes65 (by decide) rfl rfl rfl rfl (src_mT (f := tFact.enc) tFact.len rfl rfl (flat_cell tFact _)) (flat_cell tFact _) h_8 ?_)
    refine tmv 4 9 (by decide) (lb rfl) rfl rfl (lb rfl) ?_
    refine tf 11 rfl (purI_fa_b fld48_1 rfl rfl) rfl rfl (by kernel_rfl) ?_
    refine t1 12 (by kernel_rfl) rfl rfl (TOp_storeB sz46 rfl rfl rfl rfl rfl rfl rfl (by decide) (lb rfl) rfl ?_)
    refine TA_st (σ' := [.box [(sl tRelation db0.relations), (sl tFact db0.facts)], .box [.n, .n], .row (flat tRelation.enc us_1), .dead, .row (flat tFact.enc us_7), .box [(.m [2] 0 us_1.length tRelation.k), (.m [4] 0 us_7.length tFact.k)], .box [(intA x_t_3.relation), (sl tInt x_t_3.values)], .dead, .row (flat tFact.enc ([({ relation := x_t_3.relation, values := us_5 } : Fact)] : (List Fact))), .dead]) rfl ?_
    refine TA_nil (by kernel_rfl) ?_
    refine te [(2, (.b 1 0)), (3, (.b 5 0)), (13, (sl tFact db0.facts)), (14, (intA (db0.facts.length : Int))), (15, (intA (t_3 : Int)))] rfl ?_
    refine T_region ?_
    refine Tp rfl rfl (pur_add rfl rfl rfl (fits64 (by omega) (by omega))) rfl ?_
    refine Tp rfl rfl (pur_move rfl) rfl ?_
    refine TO_nil ?_
    obtain rfl := some_inj H
    exact again (db0.facts.length - (t_3 + 1)) (t_3 + 1, us_7) (by omega) (wp 6 (lb rfl) rfl rfl rfl rfl rfl) ⟨rfl, K4_⟩
   refine TA_have 4 #[true, true, true, true, true, true, true, true, true, false, false, false, false] [(2, (.b 1 0)), (3, (.b 5 0)), (13, (sl tFact db0.facts)), (14, (intA (db0.facts.length : Int))), (15, (intA (t_3 : Int))), (20, (.m [4] 0 box5_facts.length tFact.k)), (27, (.g [(intA x_t_3.relation), (sl tInt us_5)]))] [.box [(sl tRelation db0.relations), (sl tFact db0.facts)], .box [.n, .n], .row (flat tRelation.enc us_1), .dead, .row (flat tFact.enc box5_facts), .box [(.m [2] 0 us_1.length tRelation.k), (.m [4] 0 box5_facts.length tFact.k)], .box [(intA x_t_3.relation), (sl tInt x_t_3.values)], .dead, .dead] ?_ (fun hj1_5 => ?_)
   ·skip
    refine t1 9 (by kernel_rfl) rfl rfl (TOp_lit (nn := 1) (k := 2) sl46 zero65 rfl rfl rfl rfl (by decide) ?_)
    refine tmv 8 9 (by decide) (lb rfl) rfl rfl (lb rfl) ?_
    exact tj hj0_5 rfl (wp 9 (lb rfl) rfl rfl rfl rfl rfl)
   refine TA_have 5 #[true, true, true, true, true, true, true, true, false, false, false, false, false] [(2, (.b 1 0)), (3, (.b 5 0)), (13, (sl tFact db0.facts)), (14, (intA (db0.facts.length : Int))), (15, (intA (t_3 : Int))), (20, (.m [4] 0 box5_facts.length tFact.k)), (22, (intA x_t_3.relation)), (26, (.m [7] 0 us_5.length tInt.k))] [.box [(sl tRelation db0.relations), (sl tFact db0.facts)], .box [.n, .n], .row (flat tRelation.enc us_1), .dead, .row (flat tFact.enc box5_facts), .box [(.m [2] 0 us_1.length tRelation.k), (.m [4] 0 box5_facts.length tFact.k)], .box [(intA x_t_3.relation), (sl tInt x_t_3.values)], .row (flat tInt.enc us_5), .dead] ?_ (fun hj2_5 => ?_)
   ·skip
    refine tf 8 rfl (purI_build bld65 rfl rfl) rfl rfl (by kernel_rfl) ?_
    refine TA_ghost (E' := [(2, (.b 1 0)), (3, (.b 5 0)), (13, (sl tFact db0.facts)), (14, (intA (db0.facts.length : Int))), (15, (intA (t_3 : Int))), (20, (.m [4] 0 box5_facts.length tFact.k)), (22, (intA x_t_3.relation)), (26, (.m [7] 0 us_5.length tInt.k)), (27, (.g [(intA x_t_3.relation), (.m [7] 0 us_5.length tInt.k)]))]) (σ' := [.box [(sl tRelation db0.relations), (sl tFact db0.facts)], .box [.n, .n], .row (flat tRelation.enc us_1), .dead, .row (flat tFact.enc box5_facts), .box [(.m [2] 0 us_1.length tRelation.k), (.m [4] 0 box5_facts.length tFact.k)], .box [(intA x_t_3.relation), (sl tInt x_t_3.values)], .row (flat tInt.enc us_5), .dead]) (Ghost.weak (WeakL.to 9 (lb rfl) rfl rfl rfl rfl ⟨leR rfl, leR rfl, leR rfl, leR rfl, leR rfl, leR rfl, leR rfl, leR rfl, leR rfl, trivial⟩)) ?_
    refine TA_frz1 7 (E' := [(2, (.b 1 0)), (3, (.b 5 0)), (13, (sl tFact db0.facts)), (14, (intA (db0.facts.length : Int))), (15, (intA (t_3 : Int))), (20, (.m [4] 0 box5_facts.length tFact.k)), (22, (intA x_t_3.relation)), (26, (sl tInt us_5)), (27, (.g [(intA x_t_3.relation), (sl tInt us_5)]))]) rfl rfl (lb rfl) ?_ ?_
    ·exact ⟨(.keep rfl), (.keep rfl), (.keep rfl), (.keep rfl), (.keep rfl), (.keep rfl), (.keep rfl), fz1E, (fz1G (fzC (.keep rfl) (fzC fz1E fzN))), trivial⟩
    refine TA_st (σ' := [.box [(sl tRelation db0.relations), (sl tFact db0.facts)], .box [.n, .n], .row (flat tRelation.enc us_1), .dead, .row (flat tFact.enc box5_facts), .box [(.m [2] 0 us_1.length tRelation.k), (.m [4] 0 box5_facts.length tFact.k)], .box [(intA x_t_3.relation), (sl tInt x_t_3.values)], .dead, .dead]) rfl ?_
    exact tj hj1_5 rfl (wp 9 (lb rfl) rfl rfl rfl rfl rfl)
   refine TA_have 6 #[true, false, true, true, true, true, true, true, false, false, false, false, false] [(2, (.b 1 0)), (3, (.b 5 0)), (13, (sl tFact db0.facts)), (14, (intA (db0.facts.length : Int))), (15, (intA (t_3 : Int))), (19, (.b 5 1)), (22, (intA x_t_3.relation)), (26, (.m [7] 0 us_5.length tInt.k))] [.box [(sl tRelation db0.relations), (sl tFact db0.facts)], .box [.n, .n], .row (flat tRelation.enc us_1), .dead, .row (flat tFact.enc box5_facts), .box [(.m [2] 0 us_1.length tRelation.k), (.m [4] 0 box5_facts.length tFact.k)], .box [(intA x_t_3.relation), (sl tInt x_t_3.values)], .row (flat tInt.enc us_5), .dead] ?_ (fun hj3_5 => ?_)
   ·skip
    refine tf 8 rfl (purI_build bld65 rfl rfl) rfl rfl (by kernel_rfl) ?_
    refine TA_ghost (E' := [(2, (.b 1 0)), (3, (.b 5 0)), (13, (sl tFact db0.facts)), (14, (intA (db0.facts.length : Int))), (15, (intA (t_3 : Int))), (19, (.b 5 1)), (22, (intA x_t_3.relation)), (26, (.m [7] 0 us_5.length tInt.k)), (27, (.g [(intA x_t_3.relation), (.m [7] 0 us_5.length tInt.k)]))]) (σ' := [.box [(sl tRelation db0.relations), (sl tFact db0.facts)], .box [.n, .n], .row (flat tRelation.enc us_1), .dead, .row (flat tFact.enc box5_facts), .box [(.m [2] 0 us_1.length tRelation.k), (.m [4] 0 box5_facts.length tFact.k)], .box [(intA x_t_3.relation), (sl tInt x_t_3.values)], .row (flat tInt.enc us_5), .dead]) (Ghost.weak (WeakL.to 9 (lb rfl) rfl rfl rfl rfl ⟨leR rfl, leR rfl, leR rfl, leR rfl, leR rfl, leR rfl, leR rfl, leR rfl, leR rfl, trivial⟩)) ?_
    refine TA_frz1 7 (E' := [(2, (.b 1 0)), (3, (.b 5 0)), (13, (sl tFact db0.facts)), (14, (intA (db0.facts.length : Int))), (15, (intA (t_3 : Int))), (19, (.b 5 1)), (22, (intA x_t_3.relation)), (26, (sl tInt us_5)), (27, (.g [(intA x_t_3.relation), (sl tInt us_5)]))]) rfl rfl (lb rfl) ?_ ?_
    ·exact ⟨(.keep rfl), (.keep rfl), (.keep rfl), (.keep rfl), (.keep rfl), (.keep rfl), (.keep rfl), fz1E, (fz1G (fzC (.keep rfl) (fzC fz1E fzN))), trivial⟩
    refine TA_st (σ' := [.box [(sl tRelation db0.relations), (sl tFact db0.facts)], .box [.n, .n], .row (flat tRelation.enc us_1), .dead, .row (flat tFact.enc box5_facts), .box [(.m [2] 0 us_1.length tRelation.k), (.m [4] 0 box5_facts.length tFact.k)], .box [(intA x_t_3.relation), (sl tInt x_t_3.values)], .dead, .dead]) rfl ?_
    refine TA_all [1, 9] (by kernel_rfl) (by decide) ⟨?_, ?_, trivial⟩
    ·skip
     refine ⟨_, rfl, rfl, (TOp_pure (pur_ld_b one46 rfl rfl rfl rfl) rfl ?_)⟩
     exact tj hj1_5 rfl (wp 9 (lb rfl) rfl rfl rfl rfl rfl)
    ·skip
     refine ⟨_, rfl, rfl, (TOp_lit (nn := 1) (k := 2) sl46 zero65 rfl rfl rfl rfl (by decide) ?_)⟩
     refine tmv 8 9 (by decide) (lb rfl) rfl rfl (lb rfl) ?_
     refine t1 1 (by kernel_rfl) rfl rfl (TOp_pure (pur_ld_b one46 rfl rfl rfl rfl) rfl ?_)
     exact tj hj0_5 rfl (wp 9 (lb rfl) rfl rfl rfl rfl rfl)
   refine TA_have 6 #[true, true, true, false, true, true, true, true, false, false, false, false, false] [(2, (.b 1 0)), (3, (.b 5 0)), (13, (sl tFact db0.facts)), (14, (intA (db0.facts.length : Int))), (15, (intA (t_3 : Int))), (20, (.m [4] 0 box5_facts.length tFact.k)), (21, (.b 6 0)), (26, (.m [7] 0 us_5.length tInt.k))] [.box [(sl tRelation db0.relations), (sl tFact db0.facts)], .box [.n, .n], .row (flat tRelation.enc us_1), .dead, .row (flat tFact.enc box5_facts), .box [(.m [2] 0 us_1.length tRelation.k), (.m [4] 0 box5_facts.length tFact.k)], .box [(intA x_t_3.relation), (sl tInt x_t_3.values)], .row (flat tInt.enc us_5), .dead] ?_ (fun hj4_5 => ?_)
   ·skip
    refine t1 3 (by kernel_rfl) rfl rfl (TOp_pure (pur_ld_b one3 rfl rfl rfl rfl) rfl ?_)
    exact tj hj2_5 rfl (wp 9 (lb rfl) rfl rfl rfl rfl rfl)
   refine TA_have 6 #[true, true, true, true, true, true, true, false, false, false, false, false, false] [(2, (.b 1 0)), (3, (.b 5 0)), (13, (sl tFact db0.facts)), (14, (intA (db0.facts.length : Int))), (15, (intA (t_3 : Int))), (20, (.m [4] 0 box5_facts.length tFact.k)), (22, (intA x_t_3.relation)), (23, (.m [7] 0 ([] : (List Int)).length tInt.k)), (25, (sl tInt x_t_3.values))] [.box [(sl tRelation db0.relations), (sl tFact db0.facts)], .box [.n, .n], .row (flat tRelation.enc us_1), .dead, .row (flat tFact.enc box5_facts), .box [(.m [2] 0 us_1.length tRelation.k), (.m [4] 0 box5_facts.length tFact.k)], .box [(intA x_t_3.relation), (sl tInt x_t_3.values)], .row (flat tInt.enc ([] : (List Int))), .dead] ?_ (fun hj5_5 => ?_)
   ·skip
    refine t1 7 (by kernel_rfl) rfl rfl (TOp_appY (T := tInt) (f := tInt.enc) (xs := ([] : (List Int))) (ys := x_t_3.values) tInt.len sl23 zero3 rfl bytes3 (by decide) rfl rfl rfl rfl (src_T (T := tInt) rfl) (flat_cell tInt _) h_6 ?_)
    refine tmv 7 9 (by decide) (lb rfl) rfl rfl (lb rfl) ?_
    exact tj hj2_5 rfl (wp 9 (lb rfl) rfl rfl rfl rfl rfl)
   refine TA_have 7 #[true, false, true, true, true, true, true, false, false, false, false, false, false] [(2, (.b 1 0)), (3, (.b 5 0)), (13, (sl tFact db0.facts)), (14, (intA (db0.facts.length : Int))), (15, (intA (t_3 : Int))), (19, (.b 5 1)), (22, (intA x_t_3.relation)), (23, (.m [7] 0 ([] : (List Int)).length tInt.k)), (25, (sl tInt x_t_3.values))] [.box [(sl tRelation db0.relations), (sl tFact db0.facts)], .box [.n, .n], .row (flat tRelation.enc us_1), .dead, .row (flat tFact.enc box5_facts), .box [(.m [2] 0 us_1.length tRelation.k), (.m [4] 0 box5_facts.length tFact.k)], .box [(intA x_t_3.relation), (sl tInt x_t_3.values)], .row (flat tInt.enc ([] : (List Int))), .dead] ?_ (fun hj6_5 => ?_)
   ·skip
    refine TA_all [1, 7] (by kernel_rfl) (by decide) ⟨?_, ?_, trivial⟩
    ·skip
     refine ⟨_, rfl, rfl, (TOp_pure (pur_ld_b one46 rfl rfl rfl rfl) rfl ?_)⟩
     exact tj hj5_5 rfl (wp 9 (lb rfl) rfl rfl rfl rfl rfl)
    ·skip
     refine ⟨_, rfl, rfl, (TOp_appY (T := tInt) (f := tInt.enc) (xs := ([] : (List Int))) (ys := x_t_3.values) tInt.len sl23 zero3 rfl bytes3 (by decide) rfl rfl rfl rfl (src_T (T := tInt) rfl) (flat_cell tInt _) h_6 ?_)⟩
     refine tmv 7 9 (by decide) (lb rfl) rfl rfl (lb rfl) ?_
     exact tj hj3_5 rfl (wp 9 (lb rfl) rfl rfl rfl rfl rfl)
   refine TA_have 7 #[true, true, true, false, true, true, true, false, false, false, false, false, false] [(2, (.b 1 0)), (3, (.b 5 0)), (13, (sl tFact db0.facts)), (14, (intA (db0.facts.length : Int))), (15, (intA (t_3 : Int))), (20, (.m [4] 0 box5_facts.length tFact.k)), (21, (.b 6 0)), (23, (.m [7] 0 ([] : (List Int)).length tInt.k)), (25, (sl tInt x_t_3.values))] [.box [(sl tRelation db0.relations), (sl tFact db0.facts)], .box [.n, .n], .row (flat tRelation.enc us_1), .dead, .row (flat tFact.enc box5_facts), .box [(.m [2] 0 us_1.length tRelation.k), (.m [4] 0 box5_facts.length tFact.k)], .box [(intA x_t_3.relation), (sl tInt x_t_3.values)], .row (flat tInt.enc ([] : (List Int))), .dead] ?_ (fun hj7_5 => ?_)
   ·skip
    refine TA_all [3, 7] (by kernel_rfl) (by decide) ⟨?_, ?_, trivial⟩
    ·skip
     refine ⟨_, rfl, rfl, (TOp_pure (pur_ld_b one3 rfl rfl rfl rfl) rfl ?_)⟩
     exact tj hj5_5 rfl (wp 9 (lb rfl) rfl rfl rfl rfl rfl)
    ·skip
     refine ⟨_, rfl, rfl, (TOp_appY (T := tInt) (f := tInt.enc) (xs := ([] : (List Int))) (ys := x_t_3.values) tInt.len sl23 zero3 rfl bytes3 (by decide) rfl rfl rfl rfl (src_T (T := tInt) rfl) (flat_cell tInt _) h_6 ?_)⟩
     refine tmv 7 9 (by decide) (lb rfl) rfl rfl (lb rfl) ?_
     exact tj hj4_5 rfl (wp 9 (lb rfl) rfl rfl rfl rfl rfl)
   refine TA_have 7 #[true, true, true, true, false, true, true, false, false, false, false, false, false] [(2, (.b 1 0)), (3, (.b 5 0)), (13, (sl tFact db0.facts)), (14, (intA (db0.facts.length : Int))), (15, (intA (t_3 : Int))), (20, (.m [4] 0 box5_facts.length tFact.k)), (22, (intA x_t_3.relation)), (25, (sl tInt x_t_3.values))] [.box [(sl tRelation db0.relations), (sl tFact db0.facts)], .box [.n, .n], .row (flat tRelation.enc us_1), .dead, .row (flat tFact.enc box5_facts), .box [(.m [2] 0 us_1.length tRelation.k), (.m [4] 0 box5_facts.length tFact.k)], .box [(intA x_t_3.relation), (sl tInt x_t_3.values)], .dead, .dead] ?_ (fun hj8_5 => ?_)
   ·skip
    refine t1 4 (by kernel_rfl) rfl rfl (TOp_lit (nn := 0) (k := 1) sl23 zero3 rfl rfl rfl rfl (by decide) ?_)
    refine tmv 7 9 (by decide) (lb rfl) rfl rfl (lb rfl) ?_
    exact tj hj5_5 rfl (wp 9 (lb rfl) rfl rfl rfl rfl rfl)
   refine TA_have 7 #[true, true, true, true, true, true, false, false, false, false, false, false, false] [(2, (.b 1 0)), (3, (.b 5 0)), (13, (sl tFact db0.facts)), (14, (intA (db0.facts.length : Int))), (15, (intA (t_3 : Int))), (20, (.m [4] 0 box5_facts.length tFact.k)), (22, (intA x_t_3.relation)), (23, (.m [7] 0 ([] : (List Int)).length tInt.k)), (24, (.b 6 1))] [.box [(sl tRelation db0.relations), (sl tFact db0.facts)], .box [.n, .n], .row (flat tRelation.enc us_1), .dead, .row (flat tFact.enc box5_facts), .box [(.m [2] 0 us_1.length tRelation.k), (.m [4] 0 box5_facts.length tFact.k)], .box [(intA x_t_3.relation), (sl tInt x_t_3.values)], .row (flat tInt.enc ([] : (List Int))), .dead] ?_ (fun hj9_5 => ?_)
   ·skip
    refine t1 6 (by kernel_rfl) rfl rfl (TOp_pure (pur_ld_b one23 rfl rfl rfl rfl) rfl ?_)
    exact tj hj5_5 rfl (wp 9 (lb rfl) rfl rfl rfl rfl rfl)
   refine TA_have 8 #[true, false, true, false, true, true, true, false, false, false, false, false, false] [(2, (.b 1 0)), (3, (.b 5 0)), (13, (sl tFact db0.facts)), (14, (intA (db0.facts.length : Int))), (15, (intA (t_3 : Int))), (19, (.b 5 1)), (21, (.b 6 0)), (23, (.m [7] 0 ([] : (List Int)).length tInt.k)), (25, (sl tInt x_t_3.values))] [.box [(sl tRelation db0.relations), (sl tFact db0.facts)], .box [.n, .n], .row (flat tRelation.enc us_1), .dead, .row (flat tFact.enc box5_facts), .box [(.m [2] 0 us_1.length tRelation.k), (.m [4] 0 box5_facts.length tFact.k)], .box [(intA x_t_3.relation), (sl tInt x_t_3.values)], .row (flat tInt.enc ([] : (List Int))), .dead] ?_ (fun hj10_5 => ?_)
   ·skip
    refine TA_all [1, 3, 7] (by kernel_rfl) (by decide) ⟨?_, ?_, ?_, trivial⟩
    ·skip
     refine ⟨_, rfl, rfl, (TOp_pure (pur_ld_b one46 rfl rfl rfl rfl) rfl ?_)⟩
     exact tj hj7_5 rfl (wp 9 (lb rfl) rfl rfl rfl rfl rfl)
    ·skip
     refine ⟨_, rfl, rfl, (TOp_pure (pur_ld_b one3 rfl rfl rfl rfl) rfl ?_)⟩
     exact tj hj6_5 rfl (wp 9 (lb rfl) rfl rfl rfl rfl rfl)
    ·skip
     refine ⟨_, rfl, rfl, (TOp_appY (T := tInt) (f := tInt.enc) (xs := ([] : (List Int))) (ys := x_t_3.values) tInt.len sl23 zero3 rfl bytes3 (by decide) rfl rfl rfl rfl (src_T (T := tInt) rfl) (flat_cell tInt _) h_6 ?_)⟩
     refine tmv 7 9 (by decide) (lb rfl) rfl rfl (lb rfl) ?_
     refine TA_all [1, 3] (by kernel_rfl) (by decide) ⟨?_, ?_, trivial⟩
     ·skip
      refine ⟨_, rfl, rfl, (TOp_pure (pur_ld_b one46 rfl rfl rfl rfl) rfl ?_)⟩
      exact tj hj4_5 rfl (wp 9 (lb rfl) rfl rfl rfl rfl rfl)
     ·skip
      refine ⟨_, rfl, rfl, (TOp_pure (pur_ld_b one3 rfl rfl rfl rfl) rfl ?_)⟩
      exact tj hj3_5 rfl (wp 9 (lb rfl) rfl rfl rfl rfl rfl)
   refine TA_have 8 #[true, false, true, true, false, true, true, false, false, false, false, false, false] [(2, (.b 1 0)), (3, (.b 5 0)), (13, (sl tFact db0.facts)), (14, (intA (db0.facts.length : Int))), (15, (intA (t_3 : Int))), (19, (.b 5 1)), (22, (intA x_t_3.relation)), (25, (sl tInt x_t_3.values))] [.box [(sl tRelation db0.relations), (sl tFact db0.facts)], .box [.n, .n], .row (flat tRelation.enc us_1), .dead, .row (flat tFact.enc box5_facts), .box [(.m [2] 0 us_1.length tRelation.k), (.m [4] 0 box5_facts.length tFact.k)], .box [(intA x_t_3.relation), (sl tInt x_t_3.values)], .dead, .dead] ?_ (fun hj11_5 => ?_)
   ·skip
    refine TA_all [1, 4] (by kernel_rfl) (by decide) ⟨?_, ?_, trivial⟩
    ·skip
     refine ⟨_, rfl, rfl, (TOp_pure (pur_ld_b one46 rfl rfl rfl rfl) rfl ?_)⟩
     exact tj hj8_5 rfl (wp 9 (lb rfl) rfl rfl rfl rfl rfl)
    ·skip
     refine ⟨_, rfl, rfl, (TOp_lit (nn := 0) (k := 1) sl23 zero3 rfl rfl rfl rfl (by decide) ?_)⟩
     refine tmv 7 9 (by decide) (lb rfl) rfl rfl (lb rfl) ?_
     exact tj hj6_5 rfl (wp 9 (lb rfl) rfl rfl rfl rfl rfl)
   refine TA_have 8 #[true, false, true, true, true, true, false, false, false, false, false, false, false] [(2, (.b 1 0)), (3, (.b 5 0)), (13, (sl tFact db0.facts)), (14, (intA (db0.facts.length : Int))), (15, (intA (t_3 : Int))), (19, (.b 5 1)), (22, (intA x_t_3.relation)), (23, (.m [7] 0 ([] : (List Int)).length tInt.k)), (24, (.b 6 1))] [.box [(sl tRelation db0.relations), (sl tFact db0.facts)], .box [.n, .n], .row (flat tRelation.enc us_1), .dead, .row (flat tFact.enc box5_facts), .box [(.m [2] 0 us_1.length tRelation.k), (.m [4] 0 box5_facts.length tFact.k)], .box [(intA x_t_3.relation), (sl tInt x_t_3.values)], .row (flat tInt.enc ([] : (List Int))), .dead] ?_ (fun hj12_5 => ?_)
   ·skip
    refine TA_all [1, 6] (by kernel_rfl) (by decide) ⟨?_, ?_, trivial⟩
    ·skip
     refine ⟨_, rfl, rfl, (TOp_pure (pur_ld_b one46 rfl rfl rfl rfl) rfl ?_)⟩
     exact tj hj9_5 rfl (wp 9 (lb rfl) rfl rfl rfl rfl rfl)
    ·skip
     refine ⟨_, rfl, rfl, (TOp_pure (pur_ld_b one23 rfl rfl rfl rfl) rfl ?_)⟩
     exact tj hj6_5 rfl (wp 9 (lb rfl) rfl rfl rfl rfl rfl)
   refine TA_have 8 #[true, true, true, false, false, true, true, false, false, false, false, false, false] [(2, (.b 1 0)), (3, (.b 5 0)), (13, (sl tFact db0.facts)), (14, (intA (db0.facts.length : Int))), (15, (intA (t_3 : Int))), (20, (.m [4] 0 box5_facts.length tFact.k)), (21, (.b 6 0)), (25, (sl tInt x_t_3.values))] [.box [(sl tRelation db0.relations), (sl tFact db0.facts)], .box [.n, .n], .row (flat tRelation.enc us_1), .dead, .row (flat tFact.enc box5_facts), .box [(.m [2] 0 us_1.length tRelation.k), (.m [4] 0 box5_facts.length tFact.k)], .box [(intA x_t_3.relation), (sl tInt x_t_3.values)], .dead, .dead] ?_ (fun hj13_5 => ?_)
   ·skip
    refine TA_all [3, 4] (by kernel_rfl) (by decide) ⟨?_, ?_, trivial⟩
    ·skip
     refine ⟨_, rfl, rfl, (TOp_pure (pur_ld_b one3 rfl rfl rfl rfl) rfl ?_)⟩
     exact tj hj8_5 rfl (wp 9 (lb rfl) rfl rfl rfl rfl rfl)
    ·skip
     refine ⟨_, rfl, rfl, (TOp_lit (nn := 0) (k := 1) sl23 zero3 rfl rfl rfl rfl (by decide) ?_)⟩
     refine tmv 7 9 (by decide) (lb rfl) rfl rfl (lb rfl) ?_
     exact tj hj7_5 rfl (wp 9 (lb rfl) rfl rfl rfl rfl rfl)
   refine TA_have 8 #[true, true, true, false, true, true, false, false, false, false, false, false, false] [(2, (.b 1 0)), (3, (.b 5 0)), (13, (sl tFact db0.facts)), (14, (intA (db0.facts.length : Int))), (15, (intA (t_3 : Int))), (20, (.m [4] 0 box5_facts.length tFact.k)), (21, (.b 6 0)), (23, (.m [7] 0 ([] : (List Int)).length tInt.k)), (24, (.b 6 1))] [.box [(sl tRelation db0.relations), (sl tFact db0.facts)], .box [.n, .n], .row (flat tRelation.enc us_1), .dead, .row (flat tFact.enc box5_facts), .box [(.m [2] 0 us_1.length tRelation.k), (.m [4] 0 box5_facts.length tFact.k)], .box [(intA x_t_3.relation), (sl tInt x_t_3.values)], .row (flat tInt.enc ([] : (List Int))), .dead] ?_ (fun hj14_5 => ?_)
   ·skip
    refine TA_all [3, 6] (by kernel_rfl) (by decide) ⟨?_, ?_, trivial⟩
    ·skip
     refine ⟨_, rfl, rfl, (TOp_pure (pur_ld_b one3 rfl rfl rfl rfl) rfl ?_)⟩
     exact tj hj9_5 rfl (wp 9 (lb rfl) rfl rfl rfl rfl rfl)
    ·skip
     refine ⟨_, rfl, rfl, (TOp_pure (pur_ld_b one23 rfl rfl rfl rfl) rfl ?_)⟩
     exact tj hj7_5 rfl (wp 9 (lb rfl) rfl rfl rfl rfl rfl)
   refine TA_have 8 #[true, true, true, true, false, true, false, false, false, false, false, false, false] [(2, (.b 1 0)), (3, (.b 5 0)), (13, (sl tFact db0.facts)), (14, (intA (db0.facts.length : Int))), (15, (intA (t_3 : Int))), (20, (.m [4] 0 box5_facts.length tFact.k)), (22, (intA x_t_3.relation)), (24, (.b 6 1))] [.box [(sl tRelation db0.relations), (sl tFact db0.facts)], .box [.n, .n], .row (flat tRelation.enc us_1), .dead, .row (flat tFact.enc box5_facts), .box [(.m [2] 0 us_1.length tRelation.k), (.m [4] 0 box5_facts.length tFact.k)], .box [(intA x_t_3.relation), (sl tInt x_t_3.values)], .dead, .dead] ?_ (fun hj15_5 => ?_)
   ·skip
    refine TA_all [4, 6] (by kernel_rfl) (by decide) ⟨?_, ?_, trivial⟩
    ·skip
     refine ⟨_, rfl, rfl, (TOp_lit (nn := 0) (k := 1) sl23 zero3 rfl rfl rfl rfl (by decide) ?_)⟩
     refine tmv 7 9 (by decide) (lb rfl) rfl rfl (lb rfl) ?_
     exact tj hj9_5 rfl (wp 9 (lb rfl) rfl rfl rfl rfl rfl)
    ·skip
     refine ⟨_, rfl, rfl, (TOp_pure (pur_ld_b one23 rfl rfl rfl rfl) rfl ?_)⟩
     exact tj hj8_5 rfl (wp 9 (lb rfl) rfl rfl rfl rfl rfl)
   refine tf 0 rfl (purI_fa_b fld48_1 rfl rfl) rfl rfl (by kernel_rfl) ?_
   refine tf 2 rfl (purI_fa_b fld65_0 rfl rfl) rfl rfl (by kernel_rfl) ?_
   refine tf 5 rfl (purI_fa_b fld65_1 rfl rfl) rfl rfl (by kernel_rfl) ?_
   refine TA_all [1, 3, 4, 6] (by kernel_rfl) (by decide) ⟨?_, ?_, ?_, ?_, trivial⟩
   ·skip
    refine ⟨_, rfl, rfl, (TOp_pure (pur_ld_b one46 rfl rfl rfl rfl) rfl ?_)⟩
    refine TA_all [3, 4, 6] (by kernel_rfl) (by decide) ⟨?_, ?_, ?_, trivial⟩
    ·skip
     refine ⟨_, rfl, rfl, (TOp_pure (pur_ld_b one3 rfl rfl rfl rfl) rfl ?_)⟩
     exact tj hj15_5 rfl (wp 9 (lb rfl) rfl rfl rfl rfl rfl)
    ·skip
     refine ⟨_, rfl, rfl, (TOp_lit (nn := 0) (k := 1) sl23 zero3 rfl rfl rfl rfl (by decide) ?_)⟩
     refine tmv 7 9 (by decide) (lb rfl) rfl rfl (lb rfl) ?_
     exact tj hj14_5 rfl (wp 9 (lb rfl) rfl rfl rfl rfl rfl)
    ·skip
     refine ⟨_, rfl, rfl, (TOp_pure (pur_ld_b one23 rfl rfl rfl rfl) rfl ?_)⟩
     exact tj hj13_5 rfl (wp 9 (lb rfl) rfl rfl rfl rfl rfl)
   ·skip
    refine ⟨_, rfl, rfl, (TOp_pure (pur_ld_b one3 rfl rfl rfl rfl) rfl ?_)⟩
    refine TA_all [1, 4, 6] (by kernel_rfl) (by decide) ⟨?_, ?_, ?_, trivial⟩
    ·skip
     refine ⟨_, rfl, rfl, (TOp_pure (pur_ld_b one46 rfl rfl rfl rfl) rfl ?_)⟩
     exact tj hj15_5 rfl (wp 9 (lb rfl) rfl rfl rfl rfl rfl)
    ·skip
     refine ⟨_, rfl, rfl, (TOp_lit (nn := 0) (k := 1) sl23 zero3 rfl rfl rfl rfl (by decide) ?_)⟩
     refine tmv 7 9 (by decide) (lb rfl) rfl rfl (lb rfl) ?_
     exact tj hj12_5 rfl (wp 9 (lb rfl) rfl rfl rfl rfl rfl)
    ·skip
     refine ⟨_, rfl, rfl, (TOp_pure (pur_ld_b one23 rfl rfl rfl rfl) rfl ?_)⟩
     exact tj hj11_5 rfl (wp 9 (lb rfl) rfl rfl rfl rfl rfl)
   ·skip
    refine ⟨_, rfl, rfl, (TOp_lit (nn := 0) (k := 1) sl23 zero3 rfl rfl rfl rfl (by decide) ?_)⟩
    refine tmv 7 9 (by decide) (lb rfl) rfl rfl (lb rfl) ?_
    refine TA_all [1, 3, 6] (by kernel_rfl) (by decide) ⟨?_, ?_, ?_, trivial⟩
    ·skip
     refine ⟨_, rfl, rfl, (TOp_pure (pur_ld_b one46 rfl rfl rfl rfl) rfl ?_)⟩
     exact tj hj14_5 rfl (wp 9 (lb rfl) rfl rfl rfl rfl rfl)
    ·skip
     refine ⟨_, rfl, rfl, (TOp_pure (pur_ld_b one3 rfl rfl rfl rfl) rfl ?_)⟩
     exact tj hj12_5 rfl (wp 9 (lb rfl) rfl rfl rfl rfl rfl)
    ·skip
     refine ⟨_, rfl, rfl, (TOp_pure (pur_ld_b one23 rfl rfl rfl rfl) rfl ?_)⟩
     exact tj hj10_5 rfl (wp 9 (lb rfl) rfl rfl rfl rfl rfl)
   ·skip
    refine ⟨_, rfl, rfl, (TOp_pure (pur_ld_b one23 rfl rfl rfl rfl) rfl ?_)⟩
    refine TA_all [1, 3, 4] (by kernel_rfl) (by decide) ⟨?_, ?_, ?_, trivial⟩
    ·skip
     refine ⟨_, rfl, rfl, (TOp_pure (pur_ld_b one46 rfl rfl rfl rfl) rfl ?_)⟩
     exact tj hj13_5 rfl (wp 9 (lb rfl) rfl rfl rfl rfl rfl)
    ·skip
     refine ⟨_, rfl, rfl, (TOp_pure (pur_ld_b one3 rfl rfl rfl rfl) rfl ?_)⟩
     exact tj hj11_5 rfl (wp 9 (lb rfl) rfl rfl rfl rfl rfl)
    ·skip
     refine ⟨_, rfl, rfl, (TOp_lit (nn := 0) (k := 1) sl23 zero3 rfl rfl rfl rfl (by decide) ?_)⟩
     refine tmv 7 9 (by decide) (lb rfl) rfl rfl (lb rfl) ?_
     exact tj hj10_5 rfl (wp 9 (lb rfl) rfl rfl rfl rfl rfl)
  ·replace d4 := of_decide_eq_false d4
   obtain rfl := forS_end L4_ (by omega)
   refine T_exit ?_
   refine then_exit ?_
   refine then_exit ?_
   refine block_exit ?_
   replace H := N4_
   refine te [(2, (.b 1 0)), (3, (.b 5 0))] rfl ?_
   refine sr ?_
   refine Tp rfl rfl (pur_ldK_b agg48 rfl rfl (lb rfl) rfl) rfl ?_
   refine TO_cons rfl (TOp_storeB sz48 rfl rfl rfl rfl rfl rfl rfl (by decide) (lb rfl) rfl ?_)
   refine TO_st (σ' := [.box [(sl tRelation db0.relations), (sl tFact db0.facts)], .box [(.m [2] 0 us_1.length tRelation.k), (.m [4] 0 box5_facts.length tFact.k)], .row (flat tRelation.enc us_1), .dead, .row (flat tFact.enc box5_facts), .box [(.m [2] 0 us_1.length tRelation.k), (.m [4] 0 box5_facts.length tFact.k)]]) rfl ?_
   refine TO_nil ?_
   refine te [(2, (.b 1 0))] rfl ?_
   refine T_ret ?_
   obtain rfl := some_inj H
   exact end_pick (.cellK rfl agg48 rfl (lb rfl) .nil) rfl [2, 4] (by decide) rfl rfl rfl rfl rfl rfl
theorem m_impl_copyDatabase_ok (db0 : Database) (r : Database) (H : m_impl_copyDatabase db0 = some r) : FnV prg 107 [(.g (tDatabase.enc db0))] (.g (tDatabase.enc r)) := (m_impl_copyDatabase_own db0 r H).frz (frzOK_g (frz_cons (frzTE (T := tRelation) rfl) (frz_cons (frzTE (T := tFact) rfl) frz_nil)).1 (frz_cons (frzTE (T := tRelation) rfl) (frz_cons (frzTE (T := tFact) rfl) frz_nil)).2)

set_option maxHeartbeats 1000000 in
/-- slices.Delete -/
theorem m_slices_Delete_Simpl_Fact_impl_Fact_x (s0 : List Fact) (i1 j2 : Int) (r : List Fact) (H : m_slices_Delete_Simpl_Fact_impl_Fact s0 i1 j2 = some r) : FnS prg 160 [(.m [0] 0 s0.length tFact.k), (intA i1), (intA j2)] [.row (flat tFact.enc s0)] (.m [0] 0 r.length tFact.k) [.row (flat tFact.enc r)] := by
  unfold m_slices_Delete_Simpl_Fact_impl_Fact at H
  obtain ⟨i, j, rfl, rfl, h1, h2, rfl⟩ := cutOut_inv H
  refine fnS_of_T Try.func160 rfl rfl (lb rfl) ?_
  refine te [(0, (.m [0] 0 s0.length tFact.k)), (1, (intA (i : Int))), (2, (intA (j : Int)))] rfl ?_
  refine sr ?_
  refine Tp rfl rfl (pur_assign rfl) rfl ?_
  refine TO_nil ?_
  refine te [(0, (.m [0] 0 s0.length tFact.k)), (1, (intA (i : Int))), (2, (intA (j : Int)))] rfl ?_
  refine sr ?_
  refine Tp rfl rfl (pur_move rfl) rfl ?_
  refine Tp rfl rfl (pur_move rfl) rfl ?_
  refine Tp rfl rfl (pur_move rfl) rfl ?_
  refine Tp rfl rfl (pur_move rfl) rfl ?_
  refine Tp rfl rfl (pur_len_m sl46 rfl rfl) rfl ?_
  refine Tp rfl rfl (pur_cut3J (i := i) (j := j) (q := s0.length) sl46 rfl rfl rfl rfl h1 h2 (Nat.le_refl _) rfl) rfl ?_
  refine TO_nil ?_
  refine te [(0, (.m [0] 0 s0.length tFact.k)), (1, (intA (i : Int))), (2, (intA (j : Int)))] rfl ?_
  refine T_seq ?_
  refine sr ?_
  refine Tp rfl rfl (pur_move rfl) rfl ?_
  refine Tp rfl rfl (pur_move rfl) rfl ?_
  refine Tp rfl rfl (pur_eql rfl rfl rfl) rfl ?_
  refine TO_nil ?_
  refine te [(0, (.m [0] 0 s0.length tFact.k)), (1, (intA (i : Int))), (2, (intA (j : Int))), (16, (boolA (decide ((i : Int) = (j : Int)))))] rfl ?_
  refine T_cond (t := decide ((i : Int) = (j : Int))) rfl (fun c => ?_) (fun c => ?_)
  · have e : i = j := by have := of_decide_eq_true c; omega
    subst e
    refine sr ?_
    refine Tp rfl rfl (pur_move rfl) rfl ?_
    refine Tp rfl rfl (pur_assign rfl) rfl ?_
    refine TO_nil ?_
    refine te [(6, (.m [0] 0 s0.length tFact.k))] rfl ?_
    refine T_ret ?_
    refine then_ret ?_
    rw [List.take_append_drop]
    exact end_pickX (.tmp .nil) rfl [0] (by decide) (lb rfl) rfl (lb rfl) rfl rfl rfl rfl rfl rfl
  · have hij : i < j := by have := of_decide_eq_false c; omega
    refine T_skip ?_
    refine te [(0, (.m [0] 0 s0.length tFact.k)), (1, (intA (i : Int))), (2, (intA (j : Int)))] rfl ?_
    refine sr ?_
    refine Tp rfl rfl (pur_move rfl) rfl ?_
    refine Tp rfl rfl (pur_len_m sl46 rfl rfl) rfl ?_
    refine Tp rfl rfl (pur_assign rfl) rfl ?_
    refine TO_nil ?_
    refine te [(0, (.m [0] 0 s0.length tFact.k)), (1, (intA (i : Int))), (2, (intA (j : Int))), (7, (intA (s0.length : Int)))] rfl ?_
    refine T_del (Y := tFact) (i := i) (j := j) (l := 0) sl46 zero65 rfl mixed ⟨rfl, rfl, rfl⟩ ⟨rfl, rfl, rfl⟩ ⟨rfl, rfl, rfl⟩ ⟨rfl, rfl, rfl⟩ ⟨rfl, rfl, rfl⟩ ⟨rfl, rfl, rfl⟩ ⟨rfl, rfl, rfl⟩ ⟨rfl, rfl, rfl⟩
      (c := fun q => #[decide (0 < q), decide (1 < q), decide (2 < q), decide (3 < q), decide (4 < q), decide (5 < q), decide (6 < q), decide (7 < q)]) (by decide) (by decide)
      (fun q h1 h2 => match q, h1, h2 with | 0, _, _ => (by kernel_rfl) | 1, _, _ => (by kernel_rfl) | 2, _, _ => (by kernel_rfl) | 3, _, _ => (by kernel_rfl) | 4, _, _ => (by kernel_rfl) | 5, _, _ => (by kernel_rfl) | 6, _, h => absurd rfl h | 7, _, _ => (by kernel_rfl) | _ + 8, h, _ => absurd h (by omega))
      (by kernel_rfl) (by kernel_rfl) ⟨rfl, rfl, rfl⟩ ⟨rfl, rfl, rfl⟩ ⟨rfl, rfl, rfl⟩ ⟨rfl, rfl, rfl⟩ ⟨rfl, rfl, rfl⟩ ⟨rfl, rfl, rfl⟩ (by decide) hij h2 rfl rfl rfl rfl rfl ?_
    refine sr ?_
    refine Tp rfl rfl (pur_move rfl) rfl ?_
    refine Tp rfl rfl (pur_assign rfl) rfl ?_
    refine TO_nil ?_
    refine te [(6, (.m [0] 0 (s0.take i ++ s0.drop j).length tFact.k))] rfl ?_
    refine T_ret ?_
    exact end_pickX (.tmp .nil) rfl [0] (by decide) (lb rfl) rfl (lb rfl) rfl rfl rfl rfl rfl rfl

end Go.Proofs.Ytjdpolnakhmkmaa

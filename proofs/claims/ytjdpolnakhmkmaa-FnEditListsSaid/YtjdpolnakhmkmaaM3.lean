import Derived.Test.YtjdpolnakhmkmaaM1
import Derived.Test.YtjdpolnakhmkmaaM2
set_option linter.unusedVariables false
set_option linter.unusedSimpArgs false
set_option maxRecDepth 4000
namespace Go.Proofs.Ytjdpolnakhmkmaa
open Go Go.Proofs Go.Sep
set_option maxHeartbeats 1000000 in
theorem m_spec_l4Db_x (u : Nat) (c0 : l1Cur) (r : (Database × l1Cur)) (H : m_spec_l4Db u c0 = some r) : FnS prg 162 [(.b 0 0)] [.box [(sl (tI .u8) c0.b), (intA c0.i), (intA c0.h)]] (.g [(.m [1] 0 r.1.relations.length tRelation.k), (.m [2] 0 r.1.facts.length tFact.k)]) [.box [(sl (tI .u8) r.2.b), (intA r.2.i), (intA r.2.h)], .row (flat tRelation.enc r.1.relations), .row (flat tFact.enc r.1.facts)] := by
  unfold m_spec_l4Db at H
  refine fnS_of_T Try.func162 rfl rfl (Nat.le_of_ble_eq_true rfl) ?_
  refine te [(0, (.b 0 0))] rfl ?_
  refine T_st (σ' := [.box [(sl (tI .u8) c0.b), (intA c0.i), (intA c0.h)]]) rfl ?_
  refine sr ?_
  refine TO_cons rfl (TOp_alloc zero48 rfl rfl ?_)
  refine TO_nil ?_
  refine sr ?_
  obtain ⟨r_1, h_2, H⟩ := bind_inv H
  refine pv tb 1 rfl ?_
  refine TO_cons rfl (TOp_callS [0] (call_static ent179 rfl) (by decide) rfl rfl rfl rfl rfl rfl (m_spec_l2Sigs_x _ _ h_2) rfl rfl ?_)
  refine toe [(0, (.b 0 0)), (2, (.b 1 0)), (6, (.b 0 0)), (7, (.m [2] 0 r_1.1.length tRelation.k))] rfl ?_
  refine TO_st (σ' := [.box [(sl (tI .u8) r_1.2.b), (intA r_1.2.i), (intA r_1.2.h)], .box [.n, .n], .row (flat tRelation.enc r_1.1)]) rfl ?_
  refine Tp rfl rfl (pur_build bld48 rfl rfl) rfl ?_
  refine TO_cons rfl (TOp_alloc zero48 rfl rfl ?_)
  refine TO_cons rfl (TOp_storeB sz48 rfl rfl rfl rfl rfl rfl rfl (by decide) (lb rfl) rfl ?_)
  refine TO_st (σ' := [.box [(sl (tI .u8) r_1.2.b), (intA r_1.2.i), (intA r_1.2.h)], .box [.n, .n], .row (flat tRelation.enc r_1.1), .box [(.m [2] 0 r_1.1.length tRelation.k), .n]]) rfl ?_
  refine TO_nil ?_
  refine sr ?_
  refine pv tb 1 rfl ?_
  refine TO_cons rfl (TOp_lit (nn := 4) (k := 1) sl23 zero3 rfl rfl rfl rfl (by decide) ?_)
  refine TO_st (σ' := [.box [(sl (tI .u8) r_1.2.b), (intA r_1.2.i), (intA r_1.2.h)], .box [.n, .n], .row (flat tRelation.enc r_1.1), .box [(.m [2] 0 r_1.1.length tRelation.k), .n], .row (flat tInt.enc ([2, 2, 3, 3] : (List Int)))]) rfl ?_
  refine TO_frz1 4 (E' := [(0, (.b 0 0)), (2, (.b 1 0)), (3, (.b 3 0)), (9, (.b 0 0)), (10, (sl tInt ([2, 2, 3, 3] : (List Int))))]) rfl rfl (lb rfl) ⟨(.keep rfl), (.keep rfl), (.keep rfl), (.keep rfl), fz1E, trivial⟩ ?_
  refine TO_st (σ' := [.box [(sl (tI .u8) r_1.2.b), (intA r_1.2.i), (intA r_1.2.h)], .box [.n, .n], .row (flat tRelation.enc r_1.1), .box [(.m [2] 0 r_1.1.length tRelation.k), .n], .dead]) rfl ?_
  obtain ⟨r_3, h_4, H⟩ := bind_inv H
  refine TO_cons rfl (TOp_callS [0] (call_static ent173 rfl) (by decide) rfl rfl rfl rfl rfl rfl (m_spec_l1PickInt_x _ _ _ h_4) rfl rfl ?_)
  refine toe [(0, (.b 0 0)), (2, (.b 1 0)), (3, (.b 3 0)), (9, (.b 0 0)), (10, (sl tInt ([2, 2, 3, 3] : (List Int)))), (11, (intA r_3.1))] rfl ?_
  refine TO_st (σ' := [.box [(sl (tI .u8) r_3.2.b), (intA r_3.2.i), (intA r_3.2.h)], .box [.n, .n], .row (flat tRelation.enc r_1.1), .box [(.m [2] 0 r_1.1.length tRelation.k), .n], .dead]) rfl ?_
  refine pv tb 1 rfl ?_
  refine TO_nil ?_
  refine T_seq ?_
  refine sr ?_
  obtain ⟨r_5, h_6, H⟩ := bind_inv H
  refine pv tb 1 rfl ?_
  refine TO_cons rfl (TOp_callS [0] (call_static ent121 rfl) (by decide) rfl rfl rfl rfl rfl rfl (m_spec_l1Below_x _ _ _ h_6) rfl rfl ?_)
  refine toe [(0, (.b 0 0)), (2, (.b 1 0)), (3, (.b 3 0)), (4, (intA r_3.1)), (12, (.b 0 0)), (13, (intA r_5.1))] rfl ?_
  refine TO_st (σ' := [.box [(sl (tI .u8) r_5.2.b), (intA r_5.2.i), (intA r_5.2.h)], .box [.n, .n], .row (flat tRelation.enc r_1.1), .box [(.m [2] 0 r_1.1.length tRelation.k), .n], .dead]) rfl ?_
  refine pv tb 2 rfl ?_
  refine TO_nil ?_
  refine T_row0 ?_
  refine T_boxle (xs := [(.m [2] 0 r_1.1.length tRelation.k), .n]) (ys := [(.m [2] 0 r_1.1.length tRelation.k), (.m [5] 0 ([] : (List Fact)).length tFact.k)]) 3 rfl (leCons (leR rfl) (leCons leM leNil)) ?_
  refine T_st (σ' := [.box [(sl (tI .u8) r_5.2.b), (intA r_5.2.i), (intA r_5.2.h)], .box [.n, .n], .row (flat tRelation.enc r_1.1), .box [(.m [2] 0 r_1.1.length tRelation.k), (.m [5] 0 ([] : (List Fact)).length tFact.k)], .dead, .row (flat tFact.enc ([] : (List Fact)))]) rfl ?_
  obtain ⟨O7_, L7_, N7_⟩ := bind_inv H
  clear H
  obtain ⟨B7_, hb7, L7_⟩ := gen_whileF L7_
  refine T_block ?_
  refine T_loopX (fun k => fun (⟨n5, box0, box3_relations, box3_facts⟩ : Int × l1Cur × (List Relation) × (List Fact)) => whileF B7_ k (n5, box0, box3_relations, box3_facts) = some O7_) (fun (⟨n5, box0, box3_relations, box3_facts⟩ : Int × l1Cur × (List Relation) × (List Fact)) => [(0, (.b 0 0)), (2, (.b 1 0)), (3, (.b 3 0)), (4, (intA r_3.1)), (5, (intA n5))]) (fun (⟨n5, box0, box3_relations, box3_facts⟩ : Int × l1Cur × (List Relation) × (List Fact)) => [.box [(sl (tI .u8) box0.b), (intA box0.i), (intA box0.h)], .box [.n, .n], .row (flat tRelation.enc box3_relations), .box [(.m [2] 0 box3_relations.length tRelation.k), (.m [5] 0 box3_facts.length tFact.k)], .dead, .row (flat tFact.enc box3_facts)]) u ((w64 (2 + r_5.1)), r_5.2, r_1.1, ([] : (List Fact))) (w0 6) L7_ ?_
  rintro _ ⟨n5, box0, box3_relations, box3_facts⟩ L7_
  obtain ⟨k7, rfl, C7_, H, K7_⟩ := while_step L7_
  rw [hb7] at H
  refine T_seq ?_
  refine sr ?_
  refine pv tb 2 rfl ?_
  refine TO_nil ?_
  refine T_cond (t := decide (0 < n5)) rfl (fun c_8 => ?_) (fun c_8 => ?_)
  ·replace H := cond_t c_8 H
   refine T_skip ?_
   refine T_seq ?_
   refine T_block ?_
   obtain ⟨r_9, h_10, H⟩ := bind_inv H
   obtain ⟨r_11, h_12, H⟩ := bind_inv H
   refine T_pad ?_
   refine T_pad ?_
   refine T_pad ?_
   refine T_pad ?_
   refine T_pad ?_
   refine T_regionP 0 mixed rfl ?_
   refine TA_have 5 #[true, true, true, true, true, true, false, false, false, false, false] [(0, (.b 0 0)), (2, (.b 1 0)), (3, (.b 3 0)), (4, (intA r_3.1)), (5, (intA n5)), (20, (.g [(sl tRelation box3_relations), (sl tFact box3_facts)])), (25, (.g [(intA r_9.1.relation), (sl tInt r_9.1.values)]))] [.box [(sl (tI .u8) r_9.2.b), (intA r_9.2.i), (intA r_9.2.h)], .box [.n, .n], .dead, .box [(sl tRelation box3_relations), (sl tFact box3_facts)], .dead, .dead, .dead, .dead, .dead, .dead, .dead] ?_ (fun hj0_6 => ?_)
   ·skip
    refine t1 6 (by kernel_rfl) rfl rfl (TOp_callO (call_static ent133 rfl) rfl (m_spec_InsertFact_own u _ _ _ h_12) rfl rfl rfl ?_)
    refine tae [(0, (.b 0 0)), (2, (.b 1 0)), (3, (.b 3 0)), (4, (intA r_3.1)), (5, (intA n5)), (20, (.g [(sl tRelation box3_relations), (sl tFact box3_facts)])), (25, (.g [(intA r_9.1.relation), (sl tInt r_9.1.values)])), (26, (.t [(.g [(.m [11] 0 r_11.1.relations.length tRelation.k), (.m [12] 0 r_11.1.facts.length tFact.k)]), (boolA r_11.2)]))] rfl ?_
    refine TA_st (σ' := [.box [(sl (tI .u8) r_9.2.b), (intA r_9.2.i), (intA r_9.2.h)], .box [.n, .n], .dead, .box [(sl tRelation box3_relations), (sl tFact box3_facts)], .dead, .dead, .dead, .dead, .dead, .dead, .dead, .row (flat tRelation.enc r_11.1.relations), .row (flat tFact.enc r_11.1.facts)]) rfl ?_
    refine tmw 9 11 (by decide) (lb rfl) rfl rfl (lb rfl) rfl ?_
    refine tmw 10 12 (by decide) (lb rfl) rfl rfl (lb rfl) rfl ?_
    refine pa tb [7, 8, 9] 1 rfl (by kernel_rfl) rfl ?_
    refine t1 10 (by kernel_rfl) rfl rfl (TOp_storeB sz48 rfl rfl rfl rfl rfl rfl rfl (by decide) (lb rfl) rfl ?_)
    refine TA_st (σ' := [.box [(sl (tI .u8) r_9.2.b), (intA r_9.2.i), (intA r_9.2.h)], .box [.n, .n], .dead, .box [(.m [9] 0 r_11.1.relations.length tRelation.k), (.m [10] 0 r_11.1.facts.length tFact.k)], .dead, .dead, .dead, .dead, .dead, .row (flat tRelation.enc r_11.1.relations), .row (flat tFact.enc r_11.1.facts), .dead, .dead]) rfl ?_
    refine TA_ghost (E' := [(0, (.b 0 0)), (2, (.b 1 0)), (3, (.b 3 0)), (4, (intA r_3.1)), (5, (intA n5))]) (σ' := [.box [(sl (tI .u8) r_9.2.b), (intA r_9.2.i), (intA r_9.2.h)], .box [.n, .n], .dead, .box [(.m [6] 0 r_11.1.relations.length tRelation.k), (.m [10] 0 r_11.1.facts.length tFact.k)], .dead, .dead, .row (flat tRelation.enc r_11.1.relations), .dead, .dead, .dead, .row (flat tFact.enc r_11.1.facts), .dead, .dead]) (Ghost.move 6 9 (by decide) (lb rfl) rfl rfl (lb rfl) (Ghost.weak (WeakL.to 13 (lb rfl) rfl rfl rfl rfl ⟨leR rfl, leR rfl, leR rfl, leR rfl, leR rfl, trivial⟩))) ?_
    refine TA_ghost (E' := [(0, (.b 0 0)), (2, (.b 1 0)), (3, (.b 3 0)), (4, (intA r_3.1)), (5, (intA n5))]) (σ' := [.box [(sl (tI .u8) r_9.2.b), (intA r_9.2.i), (intA r_9.2.h)], .box [.n, .n], .dead, .box [(.m [6] 0 r_11.1.relations.length tRelation.k), (.m [7] 0 r_11.1.facts.length tFact.k)], .dead, .dead, .row (flat tRelation.enc r_11.1.relations), .row (flat tFact.enc r_11.1.facts), .dead, .dead, .dead, .dead, .dead]) (Ghost.move 7 10 (by decide) (lb rfl) rfl rfl (lb rfl) (Ghost.weak (WeakL.to 13 (lb rfl) rfl rfl rfl rfl ⟨leR rfl, leR rfl, leR rfl, leR rfl, leR rfl, trivial⟩))) ?_
    refine TA_nil (by kernel_rfl) ?_
    refine T_move' 2 6 (by decide) (lb rfl) rfl rfl (lb rfl) ?_
    refine te [(0, (.b 0 0)), (2, (.b 1 0)), (3, (.b 3 0)), (4, (intA r_3.1)), (5, (intA n5))] rfl ?_
    refine T_st (σ' := [.box [(sl (tI .u8) r_9.2.b), (intA r_9.2.i), (intA r_9.2.h)], .box [.n, .n], .row (flat tRelation.enc r_11.1.relations), .box [(.m [2] 0 r_11.1.relations.length tRelation.k), (.m [7] 0 r_11.1.facts.length tFact.k)], .dead, .dead, .dead, .row (flat tFact.enc r_11.1.facts), .dead, .dead, .dead, .dead, .dead]) rfl ?_
    refine T_move' 5 7 (by decide) (lb rfl) rfl rfl (lb rfl) ?_
    refine te [(0, (.b 0 0)), (2, (.b 1 0)), (3, (.b 3 0)), (4, (intA r_3.1)), (5, (intA n5))] rfl ?_
    refine T_st (σ' := [.box [(sl (tI .u8) r_9.2.b), (intA r_9.2.i), (intA r_9.2.h)], .box [.n, .n], .row (flat tRelation.enc r_11.1.relations), .box [(.m [2] 0 r_11.1.relations.length tRelation.k), (.m [5] 0 r_11.1.facts.length tFact.k)], .dead, .row (flat tFact.enc r_11.1.facts), .dead, .dead, .dead, .dead, .dead, .dead, .dead]) rfl ?_
    refine T_region ?_
    refine pv tb 3 rfl ?_
    refine TO_nil ?_
    obtain rfl := some_inj H
    exact again k7 ((w64 (n5 - 1)), r_9.2, r_11.1.relations, r_11.1.facts) (Nat.lt_succ_self _) (w0 6) K7_
   refine TA_have 6 #[true, true, true, true, true, false, false, false, false, false, false] [(0, (.b 0 0)), (2, (.b 1 0)), (3, (.b 3 0)), (4, (intA r_3.1)), (5, (intA n5)), (20, (.g [(sl tRelation box3_relations), (.m [5] 0 box3_facts.length tFact.k)])), (21, (.b 0 0)), (23, (sl tRelation box3_relations)), (24, (intA r_3.1))] [.box [(sl (tI .u8) box0.b), (intA box0.i), (intA box0.h)], .box [.n, .n], .dead, .box [(sl tRelation box3_relations), (.m [5] 0 box3_facts.length tFact.k)], .dead, .row (flat tFact.enc box3_facts), .dead, .dead, .dead, .dead, .dead] ?_ (fun hj1_6 => ?_)
   ·skip
    refine t1 5 (by kernel_rfl) rfl rfl (TOp_callS [0] (call_static ent180 rfl) (by decide) rfl rfl rfl rfl rfl rfl (m_spec_l3Fact_x u _ _ _ _ h_10) rfl rfl ?_)
    refine tae [(0, (.b 0 0)), (2, (.b 1 0)), (3, (.b 3 0)), (4, (intA r_3.1)), (5, (intA n5)), (20, (.g [(sl tRelation box3_relations), (.m [5] 0 box3_facts.length tFact.k)])), (21, (.b 0 0)), (23, (sl tRelation box3_relations)), (24, (intA r_3.1)), (25, (.g [(intA r_9.1.relation), (.m [11] 0 r_9.1.values.length tInt.k)]))] rfl ?_
    refine TA_st (σ' := [.box [(sl (tI .u8) r_9.2.b), (intA r_9.2.i), (intA r_9.2.h)], .box [.n, .n], .dead, .box [(sl tRelation box3_relations), (.m [5] 0 box3_facts.length tFact.k)], .dead, .row (flat tFact.enc box3_facts), .dead, .dead, .dead, .dead, .dead, .row (flat tInt.enc r_9.1.values)]) rfl ?_
    refine tmw 8 11 (by decide) (lb rfl) rfl rfl (lb rfl) rfl ?_
    refine TA_ghost (E' := [(0, (.b 0 0)), (2, (.b 1 0)), (3, (.b 3 0)), (4, (intA r_3.1)), (5, (intA n5)), (20, (.g [(sl tRelation box3_relations), (.m [5] 0 box3_facts.length tFact.k)])), (21, (.b 0 0)), (23, (sl tRelation box3_relations)), (24, (intA r_3.1)), (25, (.g [(intA r_9.1.relation), (.m [8] 0 r_9.1.values.length tInt.k)]))]) (σ' := [.box [(sl (tI .u8) r_9.2.b), (intA r_9.2.i), (intA r_9.2.h)], .box [.n, .n], .dead, .box [(sl tRelation box3_relations), (.m [5] 0 box3_facts.length tFact.k)], .dead, .row (flat tFact.enc box3_facts), .dead, .dead, .row (flat tInt.enc r_9.1.values), .dead, .dead, .dead]) (Ghost.weak (WeakL.to 12 (lb rfl) rfl rfl rfl rfl ⟨leR rfl, leR rfl, leR rfl, leR rfl, leR rfl, leR rfl, leR rfl, leR rfl, leR rfl, leR rfl, trivial⟩)) ?_
    refine TA_frzB 5 (E' := [(0, (.b 0 0)), (2, (.b 1 0)), (3, (.b 3 0)), (4, (intA r_3.1)), (5, (intA n5)), (20, (.g [(sl tRelation box3_relations), (sl tFact box3_facts)])), (21, (.b 0 0)), (23, (sl tRelation box3_relations)), (24, (intA r_3.1)), (25, (.g [(intA r_9.1.relation), (.m [8] 0 r_9.1.values.length tInt.k)]))]) (σ' := [.box [(sl (tI .u8) r_9.2.b), (intA r_9.2.i), (intA r_9.2.h)], .box [.n, .n], .dead, .box [(sl tRelation box3_relations), (sl tFact box3_facts)], .dead, .dead, .dead, .dead, .row (flat tInt.enc r_9.1.values), .dead, .dead, .dead]) rfl (lb rfl) ?_ ?_ ?_
    ·exact ⟨(.keep rfl), (.keep rfl), (.keep rfl), (.keep rfl), (.keep rfl), (fz1G (fzC (.keep rfl) (fzC fz1E fzN))), (.keep rfl), (.keep rfl), (.keep rfl), (.keep rfl), trivial⟩
    ·exact ⟨(fzK rfl), (fzK rfl), trivial, (fzC (.keep rfl) (fzC fz1E fzN)), trivial, trivial, trivial, trivial, rfl, trivial, trivial, trivial, trivial⟩
    refine TA_ghost (E' := [(0, (.b 0 0)), (2, (.b 1 0)), (3, (.b 3 0)), (4, (intA r_3.1)), (5, (intA n5)), (20, (.g [(sl tRelation box3_relations), (sl tFact box3_facts)])), (21, (.b 0 0)), (23, (sl tRelation box3_relations)), (24, (intA r_3.1)), (25, (.g [(intA r_9.1.relation), (.m [8] 0 r_9.1.values.length tInt.k)]))]) (σ' := [.box [(sl (tI .u8) r_9.2.b), (intA r_9.2.i), (intA r_9.2.h)], .box [.n, .n], .dead, .box [(sl tRelation box3_relations), (sl tFact box3_facts)], .dead, .dead, .dead, .dead, .row (flat tInt.enc r_9.1.values), .dead, .dead, .dead]) (Ghost.weak (WeakL.to 12 (lb rfl) rfl rfl rfl rfl ⟨leR rfl, leR rfl, leR rfl, leR rfl, leR rfl, leR rfl, leR rfl, leR rfl, leR rfl, leR rfl, trivial⟩)) ?_
    refine TA_frz1 8 (E' := [(0, (.b 0 0)), (2, (.b 1 0)), (3, (.b 3 0)), (4, (intA r_3.1)), (5, (intA n5)), (20, (.g [(sl tRelation box3_relations), (sl tFact box3_facts)])), (21, (.b 0 0)), (23, (sl tRelation box3_relations)), (24, (intA r_3.1)), (25, (.g [(intA r_9.1.relation), (sl tInt r_9.1.values)]))]) rfl rfl (lb rfl) ?_ ?_
    ·exact ⟨(.keep rfl), (.keep rfl), (.keep rfl), (.keep rfl), (.keep rfl), (.keep rfl), (.keep rfl), (.keep rfl), (.keep rfl), (fz1G (fzC (.keep rfl) (fzC fz1E fzN))), trivial⟩
    refine TA_st (σ' := [.box [(sl (tI .u8) r_9.2.b), (intA r_9.2.i), (intA r_9.2.h)], .box [.n, .n], .dead, .box [(sl tRelation box3_relations), (sl tFact box3_facts)], .dead, .dead, .dead, .dead, .dead, .dead, .dead, .dead]) rfl ?_
    exact tj hj0_6 rfl (w0 11)
   refine pa tb [1, 2, 4] 8 rfl (by kernel_rfl) rfl ?_
   refine TA_all [0, 3] (by kernel_rfl) (by decide) ⟨?_, ?_, trivial⟩
   ·skip
    refine ⟨_, rfl, rfl, (TOp_pure (pur_ldK_b agg48 rfl rfl (lb rfl) rfl) rfl ?_)⟩
    refine t1 3 (by kernel_rfl) rfl rfl (TOp_pure (pur_ld_b one45 rfl rfl rfl rfl) rfl ?_)
    refine TA_ghost (E' := [(0, (.b 0 0)), (2, (.b 1 0)), (3, (.b 3 0)), (4, (intA r_3.1)), (5, (intA n5)), (20, (.g [(.m [2] 0 box3_relations.length tRelation.k), (.m [5] 0 box3_facts.length tFact.k)])), (21, (.b 0 0)), (22, (.b 3 0)), (23, (.m [2] 0 box3_relations.length tRelation.k)), (24, (intA r_3.1))]) (σ' := [.box [(sl (tI .u8) box0.b), (intA box0.i), (intA box0.h)], .box [.n, .n], .row (flat tRelation.enc box3_relations), .box [(.m [2] 0 box3_relations.length tRelation.k), (.m [5] 0 box3_facts.length tFact.k)], .dead, .row (flat tFact.enc box3_facts), .dead, .dead, .dead, .dead, .dead]) (Ghost.weak (WeakL.to 11 (lb rfl) rfl rfl rfl rfl ⟨leR rfl, leR rfl, leR rfl, leR rfl, leR rfl, leR rfl, leR rfl, leR rfl, leR rfl, leR rfl, trivial⟩)) ?_
    refine TA_frzB 2 (E' := [(0, (.b 0 0)), (2, (.b 1 0)), (3, (.b 3 0)), (4, (intA r_3.1)), (5, (intA n5)), (20, (.g [(sl tRelation box3_relations), (.m [5] 0 box3_facts.length tFact.k)])), (21, (.b 0 0)), (22, (.b 3 0)), (23, (sl tRelation box3_relations)), (24, (intA r_3.1))]) (σ' := [.box [(sl (tI .u8) box0.b), (intA box0.i), (intA box0.h)], .box [.n, .n], .dead, .box [(sl tRelation box3_relations), (.m [5] 0 box3_facts.length tFact.k)], .dead, .row (flat tFact.enc box3_facts), .dead, .dead, .dead, .dead, .dead]) rfl (lb rfl) ?_ ?_ ?_
    ·exact ⟨(.keep rfl), (.keep rfl), (.keep rfl), (.keep rfl), (.keep rfl), (fz1G (fzC fz1E (fzC (.keep rfl) fzN))), (.keep rfl), (.keep rfl), fz1E, (.keep rfl), trivial⟩
    ·exact ⟨(fzK rfl), (fzK rfl), trivial, (fzC fz1E (fzC (.keep rfl) fzN)), trivial, rfl, trivial, trivial, trivial, trivial, trivial, trivial⟩
    exact tj hj1_6 rfl (w0 11)
   ·skip
    refine ⟨_, rfl, rfl, (TOp_pure (pur_ld_b one45 rfl rfl rfl rfl) rfl ?_)⟩
    refine TA_ghost (E' := [(0, (.b 0 0)), (2, (.b 1 0)), (3, (.b 3 0)), (4, (intA r_3.1)), (5, (intA n5)), (21, (.b 0 0)), (22, (.b 3 0)), (23, (.m [2] 0 box3_relations.length tRelation.k)), (24, (intA r_3.1))]) (σ' := [.box [(sl (tI .u8) box0.b), (intA box0.i), (intA box0.h)], .box [.n, .n], .row (flat tRelation.enc box3_relations), .box [(.m [2] 0 box3_relations.length tRelation.k), (.m [5] 0 box3_facts.length tFact.k)], .dead, .row (flat tFact.enc box3_facts), .dead, .dead, .dead, .dead, .dead]) (Ghost.weak (WeakL.to 11 (lb rfl) rfl rfl rfl rfl ⟨leR rfl, leR rfl, leR rfl, leR rfl, leR rfl, leR rfl, leR rfl, leR rfl, leR rfl, trivial⟩)) ?_
    refine TA_frzB 2 (E' := [(0, (.b 0 0)), (2, (.b 1 0)), (3, (.b 3 0)), (4, (intA r_3.1)), (5, (intA n5)), (21, (.b 0 0)), (22, (.b 3 0)), (23, (sl tRelation box3_relations)), (24, (intA r_3.1))]) (σ' := [.box [(sl (tI .u8) box0.b), (intA box0.i), (intA box0.h)], .box [.n, .n], .dead, .box [(sl tRelation box3_relations), (.m [5] 0 box3_facts.length tFact.k)], .dead, .row (flat tFact.enc box3_facts), .dead, .dead, .dead, .dead, .dead]) rfl (lb rfl) ?_ ?_ ?_
    ·exact ⟨(.keep rfl), (.keep rfl), (.keep rfl), (.keep rfl), (.keep rfl), (.keep rfl), (.keep rfl), fz1E, (.keep rfl), trivial⟩
    ·exact ⟨(fzK rfl), (fzK rfl), trivial, (fzC fz1E (fzC (.keep rfl) fzN)), trivial, rfl, trivial, trivial, trivial, trivial, trivial, trivial⟩
    refine TA_all [0, 5] (by kernel_rfl) (by decide) ⟨?_, ?_, trivial⟩
    ·skip
     refine ⟨_, rfl, rfl, (TOp_pure (pur_ldK_b agg48 rfl rfl (lb rfl) rfl) rfl ?_)⟩
     exact tj hj1_6 rfl (w0 11)
    ·skip
     refine ⟨_, rfl, rfl, (TOp_callS [0] (call_static ent180 rfl) (by decide) rfl rfl rfl rfl rfl rfl (m_spec_l3Fact_x u _ _ _ _ h_10) rfl rfl ?_)⟩
     refine tae [(0, (.b 0 0)), (2, (.b 1 0)), (3, (.b 3 0)), (4, (intA r_3.1)), (5, (intA n5)), (21, (.b 0 0)), (22, (.b 3 0)), (23, (sl tRelation box3_relations)), (24, (intA r_3.1)), (25, (.g [(intA r_9.1.relation), (.m [11] 0 r_9.1.values.length tInt.k)]))] rfl ?_
     refine TA_st (σ' := [.box [(sl (tI .u8) r_9.2.b), (intA r_9.2.i), (intA r_9.2.h)], .box [.n, .n], .dead, .box [(sl tRelation box3_relations), (.m [5] 0 box3_facts.length tFact.k)], .dead, .row (flat tFact.enc box3_facts), .dead, .dead, .dead, .dead, .dead, .row (flat tInt.enc r_9.1.values)]) rfl ?_
     refine tmw 8 11 (by decide) (lb rfl) rfl rfl (lb rfl) rfl ?_
     refine t1 0 (by kernel_rfl) rfl rfl (TOp_pure (pur_ldK_b agg48 rfl rfl (lb rfl) rfl) rfl ?_)
     refine TA_ghost (E' := [(0, (.b 0 0)), (2, (.b 1 0)), (3, (.b 3 0)), (4, (intA r_3.1)), (5, (intA n5)), (20, (.g [(sl tRelation box3_relations), (.m [5] 0 box3_facts.length tFact.k)])), (21, (.b 0 0)), (22, (.b 3 0)), (23, (sl tRelation box3_relations)), (24, (intA r_3.1)), (25, (.g [(intA r_9.1.relation), (.m [8] 0 r_9.1.values.length tInt.k)]))]) (σ' := [.box [(sl (tI .u8) r_9.2.b), (intA r_9.2.i), (intA r_9.2.h)], .box [.n, .n], .dead, .box [(sl tRelation box3_relations), (.m [5] 0 box3_facts.length tFact.k)], .dead, .row (flat tFact.enc box3_facts), .dead, .dead, .row (flat tInt.enc r_9.1.values), .dead, .dead, .dead]) (Ghost.weak (WeakL.to 12 (lb rfl) rfl rfl rfl rfl ⟨leR rfl, leR rfl, leR rfl, leR rfl, leR rfl, leR rfl, leR rfl, leR rfl, leR rfl, leR rfl, leR rfl, trivial⟩)) ?_
     refine TA_frzB 5 (E' := [(0, (.b 0 0)), (2, (.b 1 0)), (3, (.b 3 0)), (4, (intA r_3.1)), (5, (intA n5)), (20, (.g [(sl tRelation box3_relations), (sl tFact box3_facts)])), (21, (.b 0 0)), (22, (.b 3 0)), (23, (sl tRelation box3_relations)), (24, (intA r_3.1)), (25, (.g [(intA r_9.1.relation), (.m [8] 0 r_9.1.values.length tInt.k)]))]) (σ' := [.box [(sl (tI .u8) r_9.2.b), (intA r_9.2.i), (intA r_9.2.h)], .box [.n, .n], .dead, .box [(sl tRelation box3_relations), (sl tFact box3_facts)], .dead, .dead, .dead, .dead, .row (flat tInt.enc r_9.1.values), .dead, .dead, .dead]) rfl (lb rfl) ?_ ?_ ?_
     ·exact ⟨(.keep rfl), (.keep rfl), (.keep rfl), (.keep rfl), (.keep rfl), (fz1G (fzC (.keep rfl) (fzC fz1E fzN))), (.keep rfl), (.keep rfl), (.keep rfl), (.keep rfl), (.keep rfl), trivial⟩
     ·exact ⟨(fzK rfl), (fzK rfl), trivial, (fzC (.keep rfl) (fzC fz1E fzN)), trivial, trivial, trivial, trivial, rfl, trivial, trivial, trivial, trivial⟩
     refine TA_ghost (E' := [(0, (.b 0 0)), (2, (.b 1 0)), (3, (.b 3 0)), (4, (intA r_3.1)), (5, (intA n5)), (20, (.g [(sl tRelation box3_relations), (sl tFact box3_facts)])), (21, (.b 0 0)), (22, (.b 3 0)), (23, (sl tRelation box3_relations)), (24, (intA r_3.1)), (25, (.g [(intA r_9.1.relation), (.m [8] 0 r_9.1.values.length tInt.k)]))]) (σ' := [.box [(sl (tI .u8) r_9.2.b), (intA r_9.2.i), (intA r_9.2.h)], .box [.n, .n], .dead, .box [(sl tRelation box3_relations), (sl tFact box3_facts)], .dead, .dead, .dead, .dead, .row (flat tInt.enc r_9.1.values), .dead, .dead, .dead]) (Ghost.weak (WeakL.to 12 (lb rfl) rfl rfl rfl rfl ⟨leR rfl, leR rfl, leR rfl, leR rfl, leR rfl, leR rfl, leR rfl, leR rfl, leR rfl, leR rfl, leR rfl, trivial⟩)) ?_
     refine TA_frz1 8 (E' := [(0, (.b 0 0)), (2, (.b 1 0)), (3, (.b 3 0)), (4, (intA r_3.1)), (5, (intA n5)), (20, (.g [(sl tRelation box3_relations), (sl tFact box3_facts)])), (21, (.b 0 0)), (22, (.b 3 0)), (23, (sl tRelation box3_relations)), (24, (intA r_3.1)), (25, (.g [(intA r_9.1.relation), (sl tInt r_9.1.values)]))]) rfl rfl (lb rfl) ?_ ?_
     ·exact ⟨(.keep rfl), (.keep rfl), (.keep rfl), (.keep rfl), (.keep rfl), (.keep rfl), (.keep rfl), (.keep rfl), (.keep rfl), (.keep rfl), (fz1G (fzC (.keep rfl) (fzC fz1E fzN))), trivial⟩
     refine TA_st (σ' := [.box [(sl (tI .u8) r_9.2.b), (intA r_9.2.i), (intA r_9.2.h)], .box [.n, .n], .dead, .box [(sl tRelation box3_relations), (sl tFact box3_facts)], .dead, .dead, .dead, .dead, .dead, .dead, .dead, .dead]) rfl ?_
     exact tj hj0_6 rfl (w0 11)
  ·replace H := cond_f c_8 H
   refine T_exit ?_
   refine then_exit ?_
   refine then_exit ?_
   refine block_exit ?_
   obtain rfl := some_inj H
   obtain rfl := some_inj K7_
   replace H := onS_l N7_
   refine sr ?_
   refine pv tb 1 rfl ?_
   refine TO_cons rfl (TOp_storeB sz48 rfl rfl rfl rfl rfl rfl rfl (by decide) (lb rfl) rfl ?_)
   refine TO_st (σ' := [.box [(sl (tI .u8) box0.b), (intA box0.i), (intA box0.h)], .box [(.m [2] 0 box3_relations.length tRelation.k), (.m [5] 0 box3_facts.length tFact.k)], .row (flat tRelation.enc box3_relations), .box [(.m [2] 0 box3_relations.length tRelation.k), (.m [5] 0 box3_facts.length tFact.k)], .dead, .row (flat tFact.enc box3_facts)]) rfl ?_
   refine TO_nil ?_
   refine T_ret ?_
   obtain rfl := some_inj H
   exact end_pickX (.cellK rfl agg48 rfl (lb rfl) .nil) rfl [0, 2, 5] (by decide) (lb rfl) rfl (lb rfl) rfl rfl rfl rfl rfl rfl

set_option maxHeartbeats 1000000 in
theorem m_spec_l3Any_x (u : Nat) (c0 : l1Cur) (l1 : (List Relation)) (r : (Fact × l1Cur)) (H : m_spec_l3Any u c0 l1 = some r) : FnS prg 163 [(.b 0 0), (sl tRelation l1)] [.box [(sl (tI .u8) c0.b), (intA c0.i), (intA c0.h)]] (.g [(intA r.1.relation), (.m [1] 0 r.1.values.length tInt.k)]) [.box [(sl (tI .u8) r.2.b), (intA r.2.i), (intA r.2.h)], .row (flat tInt.enc r.1.values)] := by
  unfold m_spec_l3Any at H
  refine fnS_of_T Try.func163 rfl rfl (Nat.le_of_ble_eq_true rfl) ?_
  refine te [(0, (.b 0 0)), (1, (sl tRelation l1))] rfl ?_
  refine T_st (σ' := [.box [(sl (tI .u8) c0.b), (intA c0.i), (intA c0.h)]]) rfl ?_
  refine sr ?_
  refine TO_cons rfl (TOp_alloc zero65 rfl rfl ?_)
  refine TO_nil ?_
  refine sr ?_
  obtain ⟨r_1, h_2, H⟩ := bind_inv H
  refine pv tb 2 rfl ?_
  refine TO_cons rfl (TOp_callS [0] (call_static ent180 rfl) (by decide) rfl rfl rfl rfl rfl rfl (m_spec_l3Fact_x u _ _ _ _ h_2) rfl rfl ?_)
  refine toe [(0, (.b 0 0)), (1, (sl tRelation l1)), (4, (.b 1 0)), (6, (.b 0 0)), (7, (sl tRelation l1)), (8, (.g [(intA r_1.1.relation), (.m [2] 0 r_1.1.values.length tInt.k)]))] rfl ?_
  refine TO_st (σ' := [.box [(sl (tI .u8) r_1.2.b), (intA r_1.2.i), (intA r_1.2.h)], .box [(intA 0), .n], .row (flat tInt.enc r_1.1.values)]) rfl ?_
  refine TO_cons rfl (TOp_alloc zero65 rfl rfl ?_)
  refine TO_cons rfl (TOp_storeB sz65 rfl rfl rfl rfl rfl rfl rfl (by decide) (lb rfl) rfl ?_)
  refine TO_st (σ' := [.box [(sl (tI .u8) r_1.2.b), (intA r_1.2.i), (intA r_1.2.h)], .box [(intA 0), .n], .row (flat tInt.enc r_1.1.values), .box [(intA r_1.1.relation), (.m [2] 0 r_1.1.values.length tInt.k)]]) rfl ?_
  refine TO_nil ?_
  refine T_seq ?_
  refine sr ?_
  obtain ⟨r_3, h_4, H⟩ := bind_inv H
  refine pv tb 1 rfl ?_
  refine TO_cons rfl (TOp_callS [0] (call_static ent121 rfl) (by decide) rfl rfl rfl rfl rfl rfl (m_spec_l1Below_x _ _ _ h_4) rfl rfl ?_)
  refine toe [(0, (.b 0 0)), (4, (.b 1 0)), (5, (.b 3 0)), (9, (.b 0 0)), (10, (intA r_3.1))] rfl ?_
  refine TO_st (σ' := [.box [(sl (tI .u8) r_3.2.b), (intA r_3.2.i), (intA r_3.2.h)], .box [(intA 0), .n], .row (flat tInt.enc r_1.1.values), .box [(intA r_1.1.relation), (.m [2] 0 r_1.1.values.length tInt.k)]]) rfl ?_
  refine TO_nil ?_
  refine T_block ?_
  refine sr ?_
  refine pv tb 2 rfl ?_
  refine TO_nil ?_
  refine T_cond (t := decide (r_3.1 = 0)) rfl (fun c_5 => ?_) (fun c_5 => ?_)
  ·replace H := cond_t c_5 H
   refine T_region ?_
   obtain ⟨r_6, h_7, H⟩ := bind_inv H
   refine pv tb 1 rfl ?_
   refine TO_cons rfl (TOp_callS [0] (call_static ent121 rfl) (by decide) rfl rfl rfl rfl rfl rfl (m_spec_l1Below_x _ _ _ h_7) rfl rfl ?_)
   refine toe [(0, (.b 0 0)), (4, (.b 1 0)), (5, (.b 3 0)), (10, (intA r_3.1)), (11, (boolA (decide (r_3.1 = 0)))), (13, (.b 0 0)), (14, (intA r_6.1))] rfl ?_
   refine TO_st (σ' := [.box [(sl (tI .u8) r_6.2.b), (intA r_6.2.i), (intA r_6.2.h)], .box [(intA 0), .n], .row (flat tInt.enc r_1.1.values), .box [(intA r_1.1.relation), (.m [2] 0 r_1.1.values.length tInt.k)]]) rfl ?_
   refine pv tb 2 rfl ?_
   refine TO_cons rfl (TOp_storeB sz3 rfl rfl rfl rfl rfl rfl rfl (by decide) (lb rfl) rfl ?_)
   refine TO_st (σ' := [.box [(sl (tI .u8) r_6.2.b), (intA r_6.2.i), (intA r_6.2.h)], .box [(intA 0), .n], .row (flat tInt.enc r_1.1.values), .box [(intA (w64 (r_6.1 - 1))), (.m [2] 0 r_1.1.values.length tInt.k)]]) rfl ?_
   refine TO_nil ?_
   refine sr ?_
   refine pv tb 1 rfl ?_
   refine TO_cons rfl (TOp_storeB sz65 rfl rfl rfl rfl rfl rfl rfl (by decide) (lb rfl) rfl ?_)
   refine TO_st (σ' := [.box [(sl (tI .u8) r_6.2.b), (intA r_6.2.i), (intA r_6.2.h)], .box [(intA (w64 (r_6.1 - 1))), (.m [2] 0 r_1.1.values.length tInt.k)], .row (flat tInt.enc r_1.1.values), .box [(intA (w64 (r_6.1 - 1))), (.m [2] 0 r_1.1.values.length tInt.k)]]) rfl ?_
   refine TO_nil ?_
   refine T_ret ?_
   obtain rfl := some_inj H
   exact end_pickX (.cellK rfl agg65 rfl (lb rfl) .nil) rfl [0, 2] (by decide) (lb rfl) rfl (lb rfl) rfl rfl rfl rfl rfl rfl
  ·replace H := cond_f c_5 H
   refine sr ?_
   refine pv tb 2 rfl ?_
   refine TO_nil ?_
   refine T_cond (t := decide (r_3.1 = 1)) rfl (fun c_8 => ?_) (fun c_8 => ?_)
   ·replace H := cond_t c_8 H
    refine T_region ?_
    refine pv tb 2 rfl ?_
    refine TO_cons rfl (TOp_lit (nn := 1) (k := 1) sl23 zero3 rfl rfl rfl rfl (by decide) ?_)
    refine TO_st (σ' := [.box [(sl (tI .u8) r_3.2.b), (intA r_3.2.i), (intA r_3.2.h)], .box [(intA 0), .n], .row (flat tInt.enc r_1.1.values), .box [(intA r_1.1.relation), (.m [2] 0 r_1.1.values.length tInt.k)], .row (flat tInt.enc ([1] : (List Int)))]) rfl ?_
    obtain ⟨us_9, h_10, H⟩ := bind_inv H
    refine TO_cons rfl (TOp_appZ (T := tInt) (f := tInt.enc) (xs := r_1.1.values) (ys := ([1] : (List Int))) tInt.len sl23 zero3 rfl bytes3 (by decide) rfl rfl rfl rfl (src_mT (f := tInt.enc) tInt.len rfl rfl (flat_cell tInt _)) (flat_cell tInt _) h_10 (lb rfl) ?_)
    refine toe [(0, (.b 0 0)), (4, (.b 1 0)), (5, (.b 3 0)), (10, (intA r_3.1)), (17, (boolA (decide (r_3.1 = 1)))), (19, (.b 3 1)), (21, (.m [4] 0 ([1] : (List Int)).length tInt.k)), (22, (.m [2] 0 us_9.length tInt.k))] rfl ?_
    refine TO_st (σ' := [.box [(sl (tI .u8) r_3.2.b), (intA r_3.2.i), (intA r_3.2.h)], .box [(intA 0), .n], .row (flat tInt.enc us_9), .box [(intA r_1.1.relation), .j], .row (flat tInt.enc ([1] : (List Int))), .dead]) rfl ?_
    refine pv tb 1 rfl ?_
    refine TO_cons rfl (TOp_storeB sz23 rfl rfl rfl rfl rfl rfl rfl (by decide) (lb rfl) rfl ?_)
    refine TO_st (σ' := [.box [(sl (tI .u8) r_3.2.b), (intA r_3.2.i), (intA r_3.2.h)], .box [(intA 0), .n], .row (flat tInt.enc us_9), .box [(intA r_1.1.relation), (.m [2] 0 us_9.length tInt.k)], .row (flat tInt.enc ([1] : (List Int))), .dead]) rfl ?_
    refine TO_nil ?_
    refine sr ?_
    refine pv tb 1 rfl ?_
    refine TO_cons rfl (TOp_storeB sz65 rfl rfl rfl rfl rfl rfl rfl (by decide) (lb rfl) rfl ?_)
    refine TO_st (σ' := [.box [(sl (tI .u8) r_3.2.b), (intA r_3.2.i), (intA r_3.2.h)], .box [(intA r_1.1.relation), (.m [2] 0 us_9.length tInt.k)], .row (flat tInt.enc us_9), .box [(intA r_1.1.relation), (.m [2] 0 us_9.length tInt.k)], .row (flat tInt.enc ([1] : (List Int))), .dead]) rfl ?_
    refine TO_nil ?_
    refine T_ret ?_
    obtain rfl := some_inj H
    exact end_pickX (.cellK rfl agg65 rfl (lb rfl) .nil) rfl [0, 2] (by decide) (lb rfl) rfl (lb rfl) rfl rfl rfl rfl rfl rfl
   ·replace H := cond_f c_8 H
    refine sr ?_
    refine pv tb 2 rfl ?_
    refine TO_nil ?_
    refine T_cond (t := decide (r_3.1 = 2)) rfl (fun c_11 => ?_) (fun c_11 => ?_)
    ·replace H := cond_t c_11 H
     obtain ⟨r_12, h_13, H⟩ := bind_inv H
     obtain ⟨v_14, h_15, H⟩ := bind_inv H
     obtain ⟨n_16, hz_17, hv_18⟩ := getI_inv h_15
     refine T_pad ?_
     refine T_regionP 0 mixed rfl ?_
     refine TA_have 2 #[true, true, true, true, true, false, false] [(4, (.b 1 0)), (5, (.b 3 0)), (27, (.m [2] 0 r_1.1.values.length tInt.k)), (30, (intA r_12.1))] [.box [(sl (tI .u8) r_12.2.b), (intA r_12.2.i), (intA r_12.2.h)], .box [(intA 0), .n], .row (flat tInt.enc r_1.1.values), .box [(intA r_1.1.relation), (.m [2] 0 r_1.1.values.length tInt.k)], .dead] ?_ (fun hj0_8 => ?_)
     ·skip
      refine tf 5 rfl (pur_ixM (T := tInt) sl23 rfl rfl hz_17 hv_18 rfl) rfl rfl (by kernel_rfl) ?_
      refine t1 6 (by kernel_rfl) rfl rfl (TOp_setT (f := tInt.enc) (z := 0) (y := r_12.1) tInt.len tInt.pos hz_17 sz3 rfl rfl rfl rfl rfl hv_18 rfl rfl ?_)
      refine TA_env (E' := [(4, (.b 1 0)), (5, (.b 3 0)), (27, (.m [2] 0 (r_1.1.values.set (0 : Int).toNat r_12.1).length tInt.k)), (30, (intA r_12.1))]) ⟨rfl, rfl, (congrArg (fun q => A.m [2] 0 q tInt.k) (List.length_set ..).symm), rfl, trivial⟩ ?_
      refine TA_st (σ' := [.box [(sl (tI .u8) r_12.2.b), (intA r_12.2.i), (intA r_12.2.h)], .box [(intA 0), .n], .row (flat tInt.enc (r_1.1.values.set (0 : Int).toNat r_12.1)), .box [(intA r_1.1.relation), (.m [2] 0 r_1.1.values.length tInt.k)], .dead]) rfl ?_
      refine TA_st (σ' := [.box [(sl (tI .u8) r_12.2.b), (intA r_12.2.i), (intA r_12.2.h)], .box [(intA 0), .n], .row (flat tInt.enc (r_1.1.values.set (0 : Int).toNat r_12.1)), .box [(intA r_1.1.relation), (.m [2] 0 (r_1.1.values.set (0 : Int).toNat r_12.1).length tInt.k)], .dead]) (by simp only [List.length_set]) ?_
      refine TA_nil (by kernel_rfl) ?_
      refine sr ?_
      refine pv tb 1 rfl ?_
      refine TO_cons rfl (TOp_storeB sz65 rfl rfl rfl rfl rfl rfl rfl (by decide) (lb rfl) rfl ?_)
      refine TO_st (σ' := [.box [(sl (tI .u8) r_12.2.b), (intA r_12.2.i), (intA r_12.2.h)], .box [(intA r_1.1.relation), (.m [2] 0 (r_1.1.values.set (0 : Int).toNat r_12.1).length tInt.k)], .row (flat tInt.enc (r_1.1.values.set (0 : Int).toNat r_12.1)), .box [(intA r_1.1.relation), (.m [2] 0 (r_1.1.values.set (0 : Int).toNat r_12.1).length tInt.k)], .dead]) rfl ?_
      refine TO_nil ?_
      refine T_ret ?_
      obtain rfl := some_inj H
      exact end_pickX (.cellK rfl agg65 rfl (lb rfl) .nil) rfl [0, 2] (by decide) (lb rfl) rfl (lb rfl) rfl rfl rfl rfl rfl rfl
     refine TA_have 3 #[true, true, true, true, false, false, false] [(4, (.b 1 0)), (5, (.b 3 0)), (27, (.m [2] 0 r_1.1.values.length tInt.k)), (28, (.b 0 0)), (29, (sl tInt ([-1, 10, 9] : (List Int))))] [.box [(sl (tI .u8) r_3.2.b), (intA r_3.2.i), (intA r_3.2.h)], .box [(intA 0), .n], .row (flat tInt.enc r_1.1.values), .box [(intA r_1.1.relation), (.m [2] 0 r_1.1.values.length tInt.k)], .dead] ?_ (fun hj1_8 => ?_)
     ·skip
      refine t1 4 (by kernel_rfl) rfl rfl (TOp_callS [0] (call_static ent173 rfl) (by decide) rfl rfl rfl rfl rfl rfl (m_spec_l1PickInt_x _ _ _ h_13) rfl rfl ?_)
      refine tae [(4, (.b 1 0)), (5, (.b 3 0)), (27, (.m [2] 0 r_1.1.values.length tInt.k)), (28, (.b 0 0)), (29, (sl tInt ([-1, 10, 9] : (List Int)))), (30, (intA r_12.1))] rfl ?_
      refine TA_st (σ' := [.box [(sl (tI .u8) r_12.2.b), (intA r_12.2.i), (intA r_12.2.h)], .box [(intA 0), .n], .row (flat tInt.enc r_1.1.values), .box [(intA r_1.1.relation), (.m [2] 0 r_1.1.values.length tInt.k)], .dead]) rfl ?_
      exact tj hj0_8 rfl (w0 5)
     refine pa tb [0, 2] 5 rfl (by kernel_rfl) rfl ?_
     refine TA_all [1, 3] (by kernel_rfl) (by decide) ⟨?_, ?_, trivial⟩
     ·skip
      refine ⟨_, rfl, rfl, (TOp_pure (pur_ld_b one23 rfl rfl rfl rfl) rfl ?_)⟩
      refine t1 3 (by kernel_rfl) rfl rfl (TOp_lit (nn := 3) (k := 1) sl23 zero3 rfl rfl rfl rfl (by decide) ?_)
      refine tmw 4 5 (by decide) (lb rfl) rfl rfl (lb rfl) rfl ?_
      refine TA_ghost (E' := [(0, (.b 0 0)), (4, (.b 1 0)), (5, (.b 3 0)), (24, (boolA (decide (r_3.1 = 2)))), (26, (.b 3 1)), (27, (.m [2] 0 r_1.1.values.length tInt.k)), (28, (.b 0 0)), (29, (.m [4] 0 ([-1, 10, 9] : (List Int)).length tInt.k))]) (σ' := [.box [(sl (tI .u8) r_3.2.b), (intA r_3.2.i), (intA r_3.2.h)], .box [(intA 0), .n], .row (flat tInt.enc r_1.1.values), .box [(intA r_1.1.relation), (.m [2] 0 r_1.1.values.length tInt.k)], .row (flat tInt.enc ([-1, 10, 9] : (List Int))), .dead]) (Ghost.weak (WeakL.to 6 (lb rfl) rfl rfl rfl rfl ⟨leR rfl, leR rfl, leR rfl, leR rfl, leR rfl, leR rfl, leR rfl, leR rfl, trivial⟩)) ?_
      refine TA_frz1 4 (E' := [(0, (.b 0 0)), (4, (.b 1 0)), (5, (.b 3 0)), (24, (boolA (decide (r_3.1 = 2)))), (26, (.b 3 1)), (27, (.m [2] 0 r_1.1.values.length tInt.k)), (28, (.b 0 0)), (29, (sl tInt ([-1, 10, 9] : (List Int))))]) rfl rfl (lb rfl) ⟨(.keep rfl), (.keep rfl), (.keep rfl), (.keep rfl), (.keep rfl), (.keep rfl), (.keep rfl), fz1E, trivial⟩ ?_
      refine TA_st (σ' := [.box [(sl (tI .u8) r_3.2.b), (intA r_3.2.i), (intA r_3.2.h)], .box [(intA 0), .n], .row (flat tInt.enc r_1.1.values), .box [(intA r_1.1.relation), (.m [2] 0 r_1.1.values.length tInt.k)], .dead, .dead]) rfl ?_
      exact tj hj1_8 rfl (w0 5)
     ·skip
      refine ⟨_, rfl, rfl, (TOp_lit (nn := 3) (k := 1) sl23 zero3 rfl rfl rfl rfl (by decide) ?_)⟩
      refine tmw 4 5 (by decide) (lb rfl) rfl rfl (lb rfl) rfl ?_
      refine TA_ghost (E' := [(0, (.b 0 0)), (4, (.b 1 0)), (5, (.b 3 0)), (24, (boolA (decide (r_3.1 = 2)))), (26, (.b 3 1)), (28, (.b 0 0)), (29, (.m [4] 0 ([-1, 10, 9] : (List Int)).length tInt.k))]) (σ' := [.box [(sl (tI .u8) r_3.2.b), (intA r_3.2.i), (intA r_3.2.h)], .box [(intA 0), .n], .row (flat tInt.enc r_1.1.values), .box [(intA r_1.1.relation), (.m [2] 0 r_1.1.values.length tInt.k)], .row (flat tInt.enc ([-1, 10, 9] : (List Int))), .dead]) (Ghost.weak (WeakL.to 6 (lb rfl) rfl rfl rfl rfl ⟨leR rfl, leR rfl, leR rfl, leR rfl, leR rfl, leR rfl, leR rfl, trivial⟩)) ?_
      refine TA_frz1 4 (E' := [(0, (.b 0 0)), (4, (.b 1 0)), (5, (.b 3 0)), (24, (boolA (decide (r_3.1 = 2)))), (26, (.b 3 1)), (28, (.b 0 0)), (29, (sl tInt ([-1, 10, 9] : (List Int))))]) rfl rfl (lb rfl) ⟨(.keep rfl), (.keep rfl), (.keep rfl), (.keep rfl), (.keep rfl), (.keep rfl), fz1E, trivial⟩ ?_
      refine TA_st (σ' := [.box [(sl (tI .u8) r_3.2.b), (intA r_3.2.i), (intA r_3.2.h)], .box [(intA 0), .n], .row (flat tInt.enc r_1.1.values), .box [(intA r_1.1.relation), (.m [2] 0 r_1.1.values.length tInt.k)], .dead, .dead]) rfl ?_
      refine TA_all [1, 4] (by kernel_rfl) (by decide) ⟨?_, ?_, trivial⟩
      ·skip
       refine ⟨_, rfl, rfl, (TOp_pure (pur_ld_b one23 rfl rfl rfl rfl) rfl ?_)⟩
       exact tj hj1_8 rfl (w0 5)
      ·skip
       refine ⟨_, rfl, rfl, (TOp_callS [0] (call_static ent173 rfl) (by decide) rfl rfl rfl rfl rfl rfl (m_spec_l1PickInt_x _ _ _ h_13) rfl rfl ?_)⟩
       refine tae [(0, (.b 0 0)), (4, (.b 1 0)), (5, (.b 3 0)), (24, (boolA (decide (r_3.1 = 2)))), (26, (.b 3 1)), (28, (.b 0 0)), (29, (sl tInt ([-1, 10, 9] : (List Int)))), (30, (intA r_12.1))] rfl ?_
       refine TA_st (σ' := [.box [(sl (tI .u8) r_12.2.b), (intA r_12.2.i), (intA r_12.2.h)], .box [(intA 0), .n], .row (flat tInt.enc r_1.1.values), .box [(intA r_1.1.relation), (.m [2] 0 r_1.1.values.length tInt.k)], .dead, .dead]) rfl ?_
       refine t1 1 (by kernel_rfl) rfl rfl (TOp_pure (pur_ld_b one23 rfl rfl rfl rfl) rfl ?_)
       exact tj hj0_8 rfl (w0 5)
    ·replace H := cond_f c_11 H
     refine T_skip ?_
     refine sr ?_
     refine pv tb 1 rfl ?_
     refine TO_cons rfl (TOp_storeB sz65 rfl rfl rfl rfl rfl rfl rfl (by decide) (lb rfl) rfl ?_)
     refine TO_st (σ' := [.box [(sl (tI .u8) r_3.2.b), (intA r_3.2.i), (intA r_3.2.h)], .box [(intA r_1.1.relation), (.m [2] 0 r_1.1.values.length tInt.k)], .row (flat tInt.enc r_1.1.values), .box [(intA r_1.1.relation), (.m [2] 0 r_1.1.values.length tInt.k)]]) rfl ?_
     refine TO_nil ?_
     refine T_ret ?_
     obtain rfl := some_inj H
     exact end_pickX (.cellK rfl agg65 rfl (lb rfl) .nil) rfl [0, 2] (by decide) (lb rfl) rfl (lb rfl) rfl rfl rfl rfl rfl rfl

set_option maxHeartbeats 1000000 in
theorem m_spec_l1Pick_x (c0 : l1Cur) (list1 : (List ByteArray)) (r : (ByteArray × l1Cur)) (H : m_spec_l1Pick c0 list1 = some r) : FnS prg 181 [(.b 0 0), (sl tStr list1)] [.box [(sl (tI .u8) c0.b), (intA c0.i), (intA c0.h)]] (strA r.1) [.box [(sl (tI .u8) r.2.b), (intA r.2.i), (intA r.2.h)]] := by
  unfold m_spec_l1Pick at H
  refine fnS_of_T Try.func181 rfl rfl (Nat.le_of_ble_eq_true rfl) ?_
  refine te [(0, (.b 0 0)), (1, (sl tStr list1))] rfl ?_
  refine T_st (σ' := [.box [(sl (tI .u8) c0.b), (intA c0.i), (intA c0.h)]]) rfl ?_
  refine sr ?_
  refine pv tb 1 rfl ?_
  refine TO_nil ?_
  refine sr ?_
  refine pv tb 3 rfl ?_
  refine Tp rfl rfl (pur_lenT (T := tStr) sl184 rfl rfl) rfl ?_
  obtain ⟨r_1, h_2, H⟩ := bind_inv H
  refine TO_cons rfl (TOp_callS [0] (call_static ent121 rfl) (by decide) rfl rfl rfl rfl rfl rfl (m_spec_l1Below_x _ _ _ h_2) rfl rfl ?_)
  refine toe [(0, (.b 0 0)), (1, (sl tStr list1)), (5, (sl tStr list1)), (6, (.b 0 0)), (7, (sl tStr list1)), (8, (intA (list1.length : Int))), (9, (intA r_1.1))] rfl ?_
  refine TO_st (σ' := [.box [(sl (tI .u8) r_1.2.b), (intA r_1.2.i), (intA r_1.2.h)]]) rfl ?_
  obtain ⟨v_3, h_4, H⟩ := bind_inv H
  obtain ⟨n_5, hz_6, hv_7⟩ := getI_inv h_4
  refine Tp rfl rfl (pur_ixT (T := tStr) sl184 rfl rfl hz_6 hv_7 rfl) rfl ?_
  refine Tp rfl rfl (pur_ldT (T := tStr) (i := n_5) (off := 0) rfl one9 rfl rfl hv_7 rfl) rfl ?_
  refine pv tb 1 rfl ?_
  refine TO_nil ?_
  refine T_ret ?_
  obtain rfl := some_inj H
  exact end_pickX (.tmp .nil) rfl [0] (by decide) (lb rfl) rfl (lb rfl) rfl rfl rfl rfl rfl rfl

set_option maxHeartbeats 1000000 in
theorem m_spec_l2Any_x (c0 : l1Cur) (r : (Relation × l1Cur)) (H : m_spec_l2Any c0 = some r) : FnS prg 164 [(.b 0 0)] [.box [(sl (tI .u8) c0.b), (intA c0.i), (intA c0.h)]] (.g (tRelation.enc r.1)) [.box [(sl (tI .u8) r.2.b), (intA r.2.i), (intA r.2.h)]] := by
  unfold m_spec_l2Any at H
  refine fnS_of_T Try.func164 rfl rfl (Nat.le_of_ble_eq_true rfl) ?_
  refine te [(0, (.b 0 0))] rfl ?_
  refine T_st (σ' := [.box [(sl (tI .u8) c0.b), (intA c0.i), (intA c0.h)]]) rfl ?_
  refine sr ?_
  refine TO_cons rfl (TOp_alloc zero130 rfl rfl ?_)
  refine TO_nil ?_
  refine sr ?_
  refine pv tb 1 rfl ?_
  refine TO_cons rfl (TOp_lit (nn := 6) (k := 1) sl184 zero9 rfl rfl rfl rfl (by decide) ?_)
  refine TO_st (σ' := [.box [(sl (tI .u8) c0.b), (intA c0.i), (intA c0.h)], .box [(strA ByteArray.empty), (intA 0), (intA 0)], .row (flat tStr.enc ([(⟨#[114]⟩ : ByteArray), (⟨#[122]⟩ : ByteArray), (⟨#[97]⟩ : ByteArray), (⟨#[]⟩ : ByteArray), (⟨#[82]⟩ : ByteArray), (⟨#[97, 98]⟩ : ByteArray)] : (List ByteArray)))]) rfl ?_
  refine TO_frz1 2 (E' := [(0, (.b 0 0)), (2, (.b 1 0)), (3, (.b 0 0)), (4, (sl tStr ([(⟨#[114]⟩ : ByteArray), (⟨#[122]⟩ : ByteArray), (⟨#[97]⟩ : ByteArray), (⟨#[]⟩ : ByteArray), (⟨#[82]⟩ : ByteArray), (⟨#[97, 98]⟩ : ByteArray)] : (List ByteArray))))]) rfl rfl (lb rfl) ⟨(.keep rfl), (.keep rfl), (.keep rfl), fz1E, trivial⟩ ?_
  refine TO_st (σ' := [.box [(sl (tI .u8) c0.b), (intA c0.i), (intA c0.h)], .box [(strA ByteArray.empty), (intA 0), (intA 0)], .dead]) rfl ?_
  obtain ⟨r_1, h_2, H⟩ := bind_inv H
  refine TO_cons rfl (TOp_callS [0] (call_static ent181 rfl) (by decide) rfl rfl rfl rfl rfl rfl (m_spec_l1Pick_x _ _ _ h_2) rfl rfl ?_)
  refine toe [(0, (.b 0 0)), (2, (.b 1 0)), (3, (.b 0 0)), (4, (sl tStr ([(⟨#[114]⟩ : ByteArray), (⟨#[122]⟩ : ByteArray), (⟨#[97]⟩ : ByteArray), (⟨#[]⟩ : ByteArray), (⟨#[82]⟩ : ByteArray), (⟨#[97, 98]⟩ : ByteArray)] : (List ByteArray)))), (5, (strA r_1.1))] rfl ?_
  refine TO_st (σ' := [.box [(sl (tI .u8) r_1.2.b), (intA r_1.2.i), (intA r_1.2.h)], .box [(strA ByteArray.empty), (intA 0), (intA 0)], .dead]) rfl ?_
  obtain ⟨r_3, h_4, H⟩ := bind_inv H
  refine pv tb 1 rfl ?_
  refine TO_cons rfl (TOp_callS [0] (call_static ent121 rfl) (by decide) rfl rfl rfl rfl rfl rfl (m_spec_l1Below_x _ _ _ h_4) rfl rfl ?_)
  refine toe [(0, (.b 0 0)), (2, (.b 1 0)), (3, (.b 0 0)), (4, (sl tStr ([(⟨#[114]⟩ : ByteArray), (⟨#[122]⟩ : ByteArray), (⟨#[97]⟩ : ByteArray), (⟨#[]⟩ : ByteArray), (⟨#[82]⟩ : ByteArray), (⟨#[97, 98]⟩ : ByteArray)] : (List ByteArray)))), (5, (strA r_1.1)), (6, (.b 0 0)), (7, (intA r_3.1))] rfl ?_
  refine TO_st (σ' := [.box [(sl (tI .u8) r_3.2.b), (intA r_3.2.i), (intA r_3.2.h)], .box [(strA ByteArray.empty), (intA 0), (intA 0)], .dead]) rfl ?_
  obtain ⟨r_5, h_6, H⟩ := bind_inv H
  refine pv tb 2 rfl ?_
  refine TO_cons rfl (TOp_callS [0] (call_static ent121 rfl) (by decide) rfl rfl rfl rfl rfl rfl (m_spec_l1Below_x _ _ _ h_6) rfl rfl ?_)
  refine toe [(0, (.b 0 0)), (2, (.b 1 0)), (3, (.b 0 0)), (4, (sl tStr ([(⟨#[114]⟩ : ByteArray), (⟨#[122]⟩ : ByteArray), (⟨#[97]⟩ : ByteArray), (⟨#[]⟩ : ByteArray), (⟨#[82]⟩ : ByteArray), (⟨#[97, 98]⟩ : ByteArray)] : (List ByteArray)))), (5, (strA r_1.1)), (6, (.b 0 0)), (7, (intA r_3.1)), (8, (intA (w64 (r_3.1 - 1)))), (9, (.b 0 0)), (10, (intA r_5.1))] rfl ?_
  refine TO_st (σ' := [.box [(sl (tI .u8) r_5.2.b), (intA r_5.2.i), (intA r_5.2.h)], .box [(strA ByteArray.empty), (intA 0), (intA 0)], .dead]) rfl ?_
  refine pv tb 1 rfl ?_
  refine Tp rfl rfl (pur_build bld130 rfl rfl) rfl ?_
  refine TO_cons rfl (TOp_storeB sz130 rfl rfl rfl rfl rfl rfl rfl (by decide) (lb rfl) rfl ?_)
  refine TO_st (σ' := [.box [(sl (tI .u8) r_5.2.b), (intA r_5.2.i), (intA r_5.2.h)], .box [(strA r_1.1), (intA (w64 (r_3.1 - 1))), (intA (w64 (r_5.1 - 1)))], .dead]) rfl ?_
  refine TO_nil ?_
  refine T_ret ?_
  obtain rfl := some_inj H
  exact end_pickX (.cellK rfl agg130 rfl (lb rfl) .nil) rfl [0] (by decide) (lb rfl) rfl (lb rfl) rfl rfl rfl rfl rfl rfl

set_option maxHeartbeats 1000000 in
theorem m_spec_l4Any_x (u : Nat) (c0 : l1Cur) (r : (Database × l1Cur)) (H : m_spec_l4Any u c0 = some r) : FnS prg 115 [(.b 0 0)] [.box [(sl (tI .u8) c0.b), (intA c0.i), (intA c0.h)]] (.g (tDatabase.enc r.1)) [.box [(sl (tI .u8) r.2.b), (intA r.2.i), (intA r.2.h)]] := by
  unfold m_spec_l4Any at H
  refine fnS_of_T Try.func115 rfl rfl (Nat.le_of_ble_eq_true rfl) ?_
  refine te [(0, (.b 0 0))] rfl ?_
  refine T_st (σ' := [.box [(sl (tI .u8) c0.b), (intA c0.i), (intA c0.h)]]) rfl ?_
  refine sr ?_
  refine TO_cons rfl (TOp_alloc zero48 rfl rfl ?_)
  refine TO_nil ?_
  refine sr ?_
  obtain ⟨r_1, h_2, H⟩ := bind_inv H
  refine pv tb 1 rfl ?_
  refine TO_cons rfl (TOp_callS [0] (call_static ent162 rfl) (by decide) rfl rfl rfl rfl rfl rfl (m_spec_l4Db_x u _ _ h_2) rfl rfl ?_)
  refine toe [(0, (.b 0 0)), (2, (.b 1 0)), (4, (.b 0 0)), (5, (.g [(.m [2] 0 r_1.1.relations.length tRelation.k), (.m [3] 0 r_1.1.facts.length tFact.k)]))] rfl ?_
  refine TO_st (σ' := [.box [(sl (tI .u8) r_1.2.b), (intA r_1.2.i), (intA r_1.2.h)], .box [.n, .n], .row (flat tRelation.enc r_1.1.relations), .row (flat tFact.enc r_1.1.facts)]) rfl ?_
  refine TO_cons rfl (TOp_alloc zero48 rfl rfl ?_)
  refine TO_cons rfl (TOp_storeB sz48 rfl rfl rfl rfl rfl rfl rfl (by decide) (lb rfl) rfl ?_)
  refine TO_st (σ' := [.box [(sl (tI .u8) r_1.2.b), (intA r_1.2.i), (intA r_1.2.h)], .box [.n, .n], .row (flat tRelation.enc r_1.1.relations), .row (flat tFact.enc r_1.1.facts), .box [(.m [2] 0 r_1.1.relations.length tRelation.k), (.m [3] 0 r_1.1.facts.length tFact.k)]]) rfl ?_
  refine TO_nil ?_
  refine T_seq ?_
  refine sr ?_
  obtain ⟨r_3, h_4, H⟩ := bind_inv H
  refine pv tb 1 rfl ?_
  refine TO_cons rfl (TOp_callS [0] (call_static ent121 rfl) (by decide) rfl rfl rfl rfl rfl rfl (m_spec_l1Below_x _ _ _ h_4) rfl rfl ?_)
  refine toe [(0, (.b 0 0)), (2, (.b 1 0)), (3, (.b 4 0)), (6, (.b 0 0)), (7, (intA r_3.1))] rfl ?_
  refine TO_st (σ' := [.box [(sl (tI .u8) r_3.2.b), (intA r_3.2.i), (intA r_3.2.h)], .box [.n, .n], .row (flat tRelation.enc r_1.1.relations), .row (flat tFact.enc r_1.1.facts), .box [(.m [2] 0 r_1.1.relations.length tRelation.k), (.m [3] 0 r_1.1.facts.length tFact.k)]]) rfl ?_
  refine TO_nil ?_
  refine T_block ?_
  refine sr ?_
  refine pv tb 2 rfl ?_
  refine TO_nil ?_
  refine T_cond (t := decide (r_3.1 = 0)) rfl (fun c_5 => ?_) (fun c_5 => ?_)
  ·replace H := cond_t c_5 H
   obtain ⟨r_6, h_7, H⟩ := bind_inv H
   obtain ⟨us_8, h_9, H⟩ := bind_inv H
   refine T_pad ?_
   refine T_pad ?_
   refine T_regionP 0 mixed rfl ?_
   refine TA_have 3 #[true, true, true, true, true, true, true, false, false, false] [(2, (.b 1 0)), (3, (.b 4 0)), (11, (.m [3] 0 r_1.1.facts.length tFact.k)), (16, (.m [6] 0 ([r_6.1] : (List Fact)).length tFact.k))] [.box [(sl (tI .u8) r_6.2.b), (intA r_6.2.i), (intA r_6.2.h)], .box [.n, .n], .dead, .row (flat tFact.enc r_1.1.facts), .box [(sl tRelation r_1.1.relations), (.m [3] 0 r_1.1.facts.length tFact.k)], .dead, .row (flat tFact.enc ([r_6.1] : (List Fact)))] ?_ (fun hj0_4 => ?_)
   ·skip
    refine t1 7 (by kernel_rfl) rfl rfl (TOp_appY (T := tFact) (f := tFact.enc) (xs := r_1.1.facts) (ys := ([r_6.1] : (List Fact))) tFact.len sl46 zero65 rfl bytes65 (by decide) rfl rfl rfl rfl (src_mT (f := tFact.enc) tFact.len rfl rfl (flat_cell tFact _)) (flat_cell tFact _) h_9 ?_)
    refine tmv 3 7 (by decide) (lb rfl) rfl rfl (lb rfl) ?_
    refine TA_st (σ' := [.box [(sl (tI .u8) r_6.2.b), (intA r_6.2.i), (intA r_6.2.h)], .box [.n, .n], .dead, .row (flat tFact.enc us_8), .box [(sl tRelation r_1.1.relations), .j], .dead, .row (flat tFact.enc ([r_6.1] : (List Fact))), .dead]) rfl ?_
    refine pa tb [8] 1 rfl (by kernel_rfl) rfl ?_
    refine t1 9 (by kernel_rfl) rfl rfl (TOp_storeB sz46 rfl rfl rfl rfl rfl rfl rfl (by decide) (lb rfl) rfl ?_)
    refine TA_st (σ' := [.box [(sl (tI .u8) r_6.2.b), (intA r_6.2.i), (intA r_6.2.h)], .box [.n, .n], .dead, .row (flat tFact.enc us_8), .box [(sl tRelation r_1.1.relations), (.m [3] 0 us_8.length tFact.k)], .dead, .row (flat tFact.enc ([r_6.1] : (List Fact))), .dead]) rfl ?_
    refine TA_nil (by kernel_rfl) ?_
    refine sr ?_
    refine pv tb 1 rfl ?_
    refine TO_cons rfl (TOp_storeB sz48 rfl rfl rfl rfl rfl rfl rfl (by decide) (lb rfl) rfl ?_)
    refine TO_st (σ' := [.box [(sl (tI .u8) r_6.2.b), (intA r_6.2.i), (intA r_6.2.h)], .box [(sl tRelation r_1.1.relations), (.m [3] 0 us_8.length tFact.k)], .dead, .row (flat tFact.enc us_8), .box [(sl tRelation r_1.1.relations), (.m [3] 0 us_8.length tFact.k)], .dead, .row (flat tFact.enc ([r_6.1] : (List Fact))), .dead]) rfl ?_
    refine TO_nil ?_
    refine T_frzB 3 (E' := [(2, (.b 1 0))]) (σ' := [.box [(sl (tI .u8) r_6.2.b), (intA r_6.2.i), (intA r_6.2.h)], .box [(sl tRelation r_1.1.relations), (sl tFact us_8)], .dead, .dead, .box [(sl tRelation r_1.1.relations), (sl tFact us_8)], .dead, .row (flat tFact.enc ([r_6.1] : (List Fact))), .dead]) rfl (lb rfl) ?_ ?_ ?_
    ·exact ⟨(.keep rfl), trivial⟩
    ·exact ⟨(fzK rfl), (fzC (.keep rfl) (fzC fz1E fzN)), trivial, trivial, (fzC (.keep rfl) (fzC fz1E fzN)), trivial, rfl, trivial, trivial⟩
    refine T_ret ?_
    obtain rfl := some_inj H
    exact end_pickX (.cellK rfl agg48 rfl (lb rfl) .nil) rfl [0] (by decide) (lb rfl) rfl (lb rfl) rfl rfl rfl rfl rfl rfl
   refine TA_have 4 #[true, true, true, true, true, true, false, false, false, false] [(2, (.b 1 0)), (3, (.b 4 0)), (11, (.m [3] 0 r_1.1.facts.length tFact.k)), (15, (.g [(intA r_6.1.relation), (sl tInt r_6.1.values)]))] [.box [(sl (tI .u8) r_6.2.b), (intA r_6.2.i), (intA r_6.2.h)], .box [.n, .n], .dead, .row (flat tFact.enc r_1.1.facts), .box [(sl tRelation r_1.1.relations), (.m [3] 0 r_1.1.facts.length tFact.k)], .dead, .dead] ?_ (fun hj1_4 => ?_)
   ·skip
    refine t1 6 (by kernel_rfl) rfl rfl (TOp_lit (nn := 1) (k := 2) sl46 zero65 rfl rfl rfl rfl (by decide) ?_)
    refine tmw 6 7 (by decide) (lb rfl) rfl rfl (lb rfl) rfl ?_
    exact tj hj0_4 rfl (w0 7)
   refine TA_have 5 #[true, true, true, true, true, false, false, false, false, false] [(2, (.b 1 0)), (3, (.b 4 0)), (11, (.m [3] 0 r_1.1.facts.length tFact.k)), (12, (.b 0 0)), (14, (sl tRelation r_1.1.relations))] [.box [(sl (tI .u8) r_3.2.b), (intA r_3.2.i), (intA r_3.2.h)], .box [.n, .n], .dead, .row (flat tFact.enc r_1.1.facts), .box [(sl tRelation r_1.1.relations), (.m [3] 0 r_1.1.facts.length tFact.k)], .dead, .dead] ?_ (fun hj2_4 => ?_)
   ·skip
    refine t1 5 (by kernel_rfl) rfl rfl (TOp_callS [0] (call_static ent163 rfl) (by decide) rfl rfl rfl rfl rfl rfl (m_spec_l3Any_x u _ _ _ h_7) rfl rfl ?_)
    refine tae [(2, (.b 1 0)), (3, (.b 4 0)), (11, (.m [3] 0 r_1.1.facts.length tFact.k)), (12, (.b 0 0)), (14, (sl tRelation r_1.1.relations)), (15, (.g [(intA r_6.1.relation), (.m [7] 0 r_6.1.values.length tInt.k)]))] rfl ?_
    refine TA_st (σ' := [.box [(sl (tI .u8) r_6.2.b), (intA r_6.2.i), (intA r_6.2.h)], .box [.n, .n], .dead, .row (flat tFact.enc r_1.1.facts), .box [(sl tRelation r_1.1.relations), (.m [3] 0 r_1.1.facts.length tFact.k)], .dead, .dead, .row (flat tInt.enc r_6.1.values)]) rfl ?_
    refine tmw 5 7 (by decide) (lb rfl) rfl rfl (lb rfl) rfl ?_
    refine TA_ghost (E' := [(2, (.b 1 0)), (3, (.b 4 0)), (11, (.m [3] 0 r_1.1.facts.length tFact.k)), (12, (.b 0 0)), (14, (sl tRelation r_1.1.relations)), (15, (.g [(intA r_6.1.relation), (.m [5] 0 r_6.1.values.length tInt.k)]))]) (σ' := [.box [(sl (tI .u8) r_6.2.b), (intA r_6.2.i), (intA r_6.2.h)], .box [.n, .n], .dead, .row (flat tFact.enc r_1.1.facts), .box [(sl tRelation r_1.1.relations), (.m [3] 0 r_1.1.facts.length tFact.k)], .row (flat tInt.enc r_6.1.values), .dead, .dead]) (Ghost.weak (WeakL.to 8 (lb rfl) rfl rfl rfl rfl ⟨leR rfl, leR rfl, leR rfl, leR rfl, leR rfl, leR rfl, trivial⟩)) ?_
    refine TA_frz1 5 (E' := [(2, (.b 1 0)), (3, (.b 4 0)), (11, (.m [3] 0 r_1.1.facts.length tFact.k)), (12, (.b 0 0)), (14, (sl tRelation r_1.1.relations)), (15, (.g [(intA r_6.1.relation), (sl tInt r_6.1.values)]))]) rfl rfl (lb rfl) ?_ ?_
    ·exact ⟨(.keep rfl), (.keep rfl), (.keep rfl), (.keep rfl), (.keep rfl), (fz1G (fzC (.keep rfl) (fzC fz1E fzN))), trivial⟩
    refine TA_st (σ' := [.box [(sl (tI .u8) r_6.2.b), (intA r_6.2.i), (intA r_6.2.h)], .box [.n, .n], .dead, .row (flat tFact.enc r_1.1.facts), .box [(sl tRelation r_1.1.relations), (.m [3] 0 r_1.1.facts.length tFact.k)], .dead, .dead, .dead]) rfl ?_
    exact tj hj1_4 rfl (w0 7)
   refine pa tb [0, 2, 3] 7 rfl (by kernel_rfl) rfl ?_
   refine TA_all [1, 4] (by kernel_rfl) (by decide) ⟨?_, ?_, trivial⟩
   ·skip
    refine ⟨_, rfl, rfl, (TOp_pure (pur_ld_b one46 rfl rfl rfl rfl) rfl ?_)⟩
    refine t1 4 (by kernel_rfl) rfl rfl (TOp_pure (pur_ld_b one45 rfl rfl rfl rfl) rfl ?_)
    refine TA_ghost (E' := [(0, (.b 0 0)), (2, (.b 1 0)), (3, (.b 4 0)), (7, (intA r_3.1)), (8, (boolA (decide (r_3.1 = 0)))), (10, (.b 4 1)), (11, (.m [3] 0 r_1.1.facts.length tFact.k)), (12, (.b 0 0)), (13, (.b 4 0)), (14, (.m [2] 0 r_1.1.relations.length tRelation.k))]) (σ' := [.box [(sl (tI .u8) r_3.2.b), (intA r_3.2.i), (intA r_3.2.h)], .box [.n, .n], .row (flat tRelation.enc r_1.1.relations), .row (flat tFact.enc r_1.1.facts), .box [(.m [2] 0 r_1.1.relations.length tRelation.k), (.m [3] 0 r_1.1.facts.length tFact.k)], .dead, .dead]) (Ghost.weak (WeakL.to 7 (lb rfl) rfl rfl rfl rfl ⟨leR rfl, leR rfl, leR rfl, leR rfl, leR rfl, leR rfl, leR rfl, leR rfl, leR rfl, leR rfl, trivial⟩)) ?_
    refine TA_frzB 2 (E' := [(0, (.b 0 0)), (2, (.b 1 0)), (3, (.b 4 0)), (7, (intA r_3.1)), (8, (boolA (decide (r_3.1 = 0)))), (10, (.b 4 1)), (11, (.m [3] 0 r_1.1.facts.length tFact.k)), (12, (.b 0 0)), (13, (.b 4 0)), (14, (sl tRelation r_1.1.relations))]) (σ' := [.box [(sl (tI .u8) r_3.2.b), (intA r_3.2.i), (intA r_3.2.h)], .box [.n, .n], .dead, .row (flat tFact.enc r_1.1.facts), .box [(sl tRelation r_1.1.relations), (.m [3] 0 r_1.1.facts.length tFact.k)], .dead, .dead]) rfl (lb rfl) ?_ ?_ ?_
    ·exact ⟨(.keep rfl), (.keep rfl), (.keep rfl), (.keep rfl), (.keep rfl), (.keep rfl), (.keep rfl), (.keep rfl), (.keep rfl), fz1E, trivial⟩
    ·exact ⟨(fzK rfl), (fzK rfl), trivial, rfl, (fzC fz1E (fzC (.keep rfl) fzN)), trivial, trivial, trivial⟩
    exact tj hj2_4 rfl (w0 7)
   ·skip
    refine ⟨_, rfl, rfl, (TOp_pure (pur_ld_b one45 rfl rfl rfl rfl) rfl ?_)⟩
    refine TA_ghost (E' := [(0, (.b 0 0)), (2, (.b 1 0)), (3, (.b 4 0)), (7, (intA r_3.1)), (8, (boolA (decide (r_3.1 = 0)))), (10, (.b 4 1)), (12, (.b 0 0)), (13, (.b 4 0)), (14, (.m [2] 0 r_1.1.relations.length tRelation.k))]) (σ' := [.box [(sl (tI .u8) r_3.2.b), (intA r_3.2.i), (intA r_3.2.h)], .box [.n, .n], .row (flat tRelation.enc r_1.1.relations), .row (flat tFact.enc r_1.1.facts), .box [(.m [2] 0 r_1.1.relations.length tRelation.k), (.m [3] 0 r_1.1.facts.length tFact.k)], .dead, .dead]) (Ghost.weak (WeakL.to 7 (lb rfl) rfl rfl rfl rfl ⟨leR rfl, leR rfl, leR rfl, leR rfl, leR rfl, leR rfl, leR rfl, leR rfl, leR rfl, trivial⟩)) ?_
    refine TA_frzB 2 (E' := [(0, (.b 0 0)), (2, (.b 1 0)), (3, (.b 4 0)), (7, (intA r_3.1)), (8, (boolA (decide (r_3.1 = 0)))), (10, (.b 4 1)), (12, (.b 0 0)), (13, (.b 4 0)), (14, (sl tRelation r_1.1.relations))]) (σ' := [.box [(sl (tI .u8) r_3.2.b), (intA r_3.2.i), (intA r_3.2.h)], .box [.n, .n], .dead, .row (flat tFact.enc r_1.1.facts), .box [(sl tRelation r_1.1.relations), (.m [3] 0 r_1.1.facts.length tFact.k)], .dead, .dead]) rfl (lb rfl) ?_ ?_ ?_
    ·exact ⟨(.keep rfl), (.keep rfl), (.keep rfl), (.keep rfl), (.keep rfl), (.keep rfl), (.keep rfl), (.keep rfl), fz1E, trivial⟩
    ·exact ⟨(fzK rfl), (fzK rfl), trivial, rfl, (fzC fz1E (fzC (.keep rfl) fzN)), trivial, trivial, trivial⟩
    refine TA_all [1, 5] (by kernel_rfl) (by decide) ⟨?_, ?_, trivial⟩
    ·skip
     refine ⟨_, rfl, rfl, (TOp_pure (pur_ld_b one46 rfl rfl rfl rfl) rfl ?_)⟩
     exact tj hj2_4 rfl (w0 7)
    ·skip
     refine ⟨_, rfl, rfl, (TOp_callS [0] (call_static ent163 rfl) (by decide) rfl rfl rfl rfl rfl rfl (m_spec_l3Any_x u _ _ _ h_7) rfl rfl ?_)⟩
     refine tae [(0, (.b 0 0)), (2, (.b 1 0)), (3, (.b 4 0)), (7, (intA r_3.1)), (8, (boolA (decide (r_3.1 = 0)))), (10, (.b 4 1)), (12, (.b 0 0)), (13, (.b 4 0)), (14, (sl tRelation r_1.1.relations)), (15, (.g [(intA r_6.1.relation), (.m [7] 0 r_6.1.values.length tInt.k)]))] rfl ?_
     refine TA_st (σ' := [.box [(sl (tI .u8) r_6.2.b), (intA r_6.2.i), (intA r_6.2.h)], .box [.n, .n], .dead, .row (flat tFact.enc r_1.1.facts), .box [(sl tRelation r_1.1.relations), (.m [3] 0 r_1.1.facts.length tFact.k)], .dead, .dead, .row (flat tInt.enc r_6.1.values)]) rfl ?_
     refine tmw 5 7 (by decide) (lb rfl) rfl rfl (lb rfl) rfl ?_
     refine TA_ghost (E' := [(0, (.b 0 0)), (2, (.b 1 0)), (3, (.b 4 0)), (7, (intA r_3.1)), (8, (boolA (decide (r_3.1 = 0)))), (10, (.b 4 1)), (12, (.b 0 0)), (13, (.b 4 0)), (14, (sl tRelation r_1.1.relations)), (15, (.g [(intA r_6.1.relation), (.m [5] 0 r_6.1.values.length tInt.k)]))]) (σ' := [.box [(sl (tI .u8) r_6.2.b), (intA r_6.2.i), (intA r_6.2.h)], .box [.n, .n], .dead, .row (flat tFact.enc r_1.1.facts), .box [(sl tRelation r_1.1.relations), (.m [3] 0 r_1.1.facts.length tFact.k)], .row (flat tInt.enc r_6.1.values), .dead, .dead]) (Ghost.weak (WeakL.to 8 (lb rfl) rfl rfl rfl rfl ⟨leR rfl, leR rfl, leR rfl, leR rfl, leR rfl, leR rfl, leR rfl, leR rfl, leR rfl, leR rfl, trivial⟩)) ?_
     refine TA_frz1 5 (E' := [(0, (.b 0 0)), (2, (.b 1 0)), (3, (.b 4 0)), (7, (intA r_3.1)), (8, (boolA (decide (r_3.1 = 0)))), (10, (.b 4 1)), (12, (.b 0 0)), (13, (.b 4 0)), (14, (sl tRelation r_1.1.relations)), (15, (.g [(intA r_6.1.relation), (sl tInt r_6.1.values)]))]) rfl rfl (lb rfl) ?_ ?_
     ·exact ⟨(.keep rfl), (.keep rfl), (.keep rfl), (.keep rfl), (.keep rfl), (.keep rfl), (.keep rfl), (.keep rfl), (.keep rfl), (fz1G (fzC (.keep rfl) (fzC fz1E fzN))), trivial⟩
     refine TA_st (σ' := [.box [(sl (tI .u8) r_6.2.b), (intA r_6.2.i), (intA r_6.2.h)], .box [.n, .n], .dead, .row (flat tFact.enc r_1.1.facts), .box [(sl tRelation r_1.1.relations), (.m [3] 0 r_1.1.facts.length tFact.k)], .dead, .dead, .dead]) rfl ?_
     refine TA_all [1, 6] (by kernel_rfl) (by decide) ⟨?_, ?_, trivial⟩
     ·skip
      refine ⟨_, rfl, rfl, (TOp_pure (pur_ld_b one46 rfl rfl rfl rfl) rfl ?_)⟩
      exact tj hj1_4 rfl (w0 7)
     ·skip
      refine ⟨_, rfl, rfl, (TOp_lit (nn := 1) (k := 2) sl46 zero65 rfl rfl rfl rfl (by decide) ?_)⟩
      refine tmw 6 8 (by decide) (lb rfl) rfl rfl (lb rfl) rfl ?_
      refine t1 1 (by kernel_rfl) rfl rfl (TOp_pure (pur_ld_b one46 rfl rfl rfl rfl) rfl ?_)
      exact tj hj0_4 rfl (w0 7)
  ·replace H := cond_f c_5 H
   refine sr ?_
   refine pv tb 2 rfl ?_
   refine TO_nil ?_
   refine T_cond (t := decide (r_3.1 = 1)) rfl (fun c_10 => ?_) (fun c_10 => ?_)
   ·replace H := cond_t c_10 H
    obtain ⟨r_11, h_12, H⟩ := bind_inv H
    obtain ⟨ys_13, h_14, H⟩ := bind_inv H
    obtain ⟨i_15, j_16, hi_17, hj_18, hij_19, hjl_20, hys_21, _⟩ := cutI_inv h_14
    refine T_regionP 0 mixed rfl ?_
    refine TA_have 3 #[true, true, true, true, false, false, false] [(2, (.b 1 0)), (3, (.b 4 0)), (22, (.m [2] 0 r_1.1.relations.length tRelation.k)), (24, (intA r_11.1))] [.box [(sl (tI .u8) r_11.2.b), (intA r_11.2.i), (intA r_11.2.h)], .box [.n, .n], .row (flat tRelation.enc r_1.1.relations), .row (flat tFact.enc r_1.1.facts), .box [(.m [2] 0 r_1.1.relations.length tRelation.k), (.m [3] 0 r_1.1.facts.length tFact.k)]] ?_ (fun hj0_6 => ?_)
    ·skip
     refine tf 4 rfl (pur_cutM (lo := none) (hi := (some (.tmp 24))) sl45 rfl hi_17.symm ⟨_, congrArg (fun z => A.v (.int .i64 z)) hj_18⟩ hij_19 hjl_20 rfl) rfl rfl (by kernel_rfl) ?_
     refine pa tb [5] 1 rfl (by kernel_rfl) rfl ?_
     refine t1 6 (by kernel_rfl) rfl rfl (TOp_storeB sz45 rfl rfl rfl rfl rfl rfl rfl (by decide) (lb rfl) rfl ?_)
     refine TA_st (σ' := [.box [(sl (tI .u8) r_11.2.b), (intA r_11.2.i), (intA r_11.2.h)], .box [.n, .n], .row (flat tRelation.enc r_1.1.relations), .row (flat tFact.enc r_1.1.facts), .box [(.m [2] (i_15 * tRelation.k) (j_16 - i_15) tRelation.k), (.m [3] 0 r_1.1.facts.length tFact.k)]]) rfl ?_
     refine TA_nil (by kernel_rfl) ?_
     refine sr ?_
     refine pv tb 1 rfl ?_
     refine TO_cons rfl (TOp_storeB sz48 rfl rfl rfl rfl rfl rfl rfl (by decide) (lb rfl) rfl ?_)
     refine TO_st (σ' := [.box [(sl (tI .u8) r_11.2.b), (intA r_11.2.i), (intA r_11.2.h)], .box [(.m [2] (i_15 * tRelation.k) (j_16 - i_15) tRelation.k), (.m [3] 0 r_1.1.facts.length tFact.k)], .row (flat tRelation.enc r_1.1.relations), .row (flat tFact.enc r_1.1.facts), .box [(.m [2] (i_15 * tRelation.k) (j_16 - i_15) tRelation.k), (.m [3] 0 r_1.1.facts.length tFact.k)]]) rfl ?_
     refine TO_nil ?_
     refine T_frzB 2 (E' := [(2, (.b 1 0))]) (σ' := [.box [(sl (tI .u8) r_11.2.b), (intA r_11.2.i), (intA r_11.2.h)], .box [(sl tRelation ys_13), (.m [3] 0 r_1.1.facts.length tFact.k)], .dead, .row (flat tFact.enc r_1.1.facts), .box [(sl tRelation ys_13), (.m [3] 0 r_1.1.facts.length tFact.k)]]) rfl (lb rfl) ?_ ?_ ?_
     ·exact ⟨(.keep rfl), trivial⟩
     ·exact ⟨(fzK rfl), (fzC (fz1C hij_19 hjl_20 hys_21) (fzC (.keep rfl) fzN)), trivial, rfl, (fzC (fz1C hij_19 hjl_20 hys_21) (fzC (.keep rfl) fzN)), trivial⟩
     refine T_frzB 3 (E' := [(2, (.b 1 0))]) (σ' := [.box [(sl (tI .u8) r_11.2.b), (intA r_11.2.i), (intA r_11.2.h)], .box [(sl tRelation ys_13), (sl tFact r_1.1.facts)], .dead, .dead, .box [(sl tRelation ys_13), (sl tFact r_1.1.facts)]]) rfl (lb rfl) ?_ ?_ ?_
     ·exact ⟨(.keep rfl), trivial⟩
     ·exact ⟨(fzK rfl), (fzC (.keep rfl) (fzC fz1E fzN)), trivial, trivial, (fzC (.keep rfl) (fzC fz1E fzN)), trivial⟩
     refine T_ret ?_
     obtain rfl := some_inj H
     exact end_pickX (.cellK rfl agg48 rfl (lb rfl) .nil) rfl [0] (by decide) (lb rfl) rfl (lb rfl) rfl rfl rfl rfl rfl rfl
    refine pa tb [0, 2] 5 rfl (by kernel_rfl) rfl ?_
    refine TA_all [1, 3] (by kernel_rfl) (by decide) ⟨?_, ?_, trivial⟩
    ·skip
     refine ⟨_, rfl, rfl, (TOp_pure (pur_ld_b one45 rfl rfl rfl rfl) rfl ?_)⟩
     refine t1 3 (by kernel_rfl) rfl rfl (TOp_callS [0] (call_static ent121 rfl) (by decide) rfl rfl rfl rfl rfl rfl (m_spec_l1Below_x _ _ _ h_12) rfl rfl ?_)
     refine tae [(0, (.b 0 0)), (2, (.b 1 0)), (3, (.b 4 0)), (7, (intA r_3.1)), (19, (boolA (decide (r_3.1 = 1)))), (21, (.b 4 0)), (22, (.m [2] 0 r_1.1.relations.length tRelation.k)), (23, (.b 0 0)), (24, (intA r_11.1))] rfl ?_
     refine TA_st (σ' := [.box [(sl (tI .u8) r_11.2.b), (intA r_11.2.i), (intA r_11.2.h)], .box [.n, .n], .row (flat tRelation.enc r_1.1.relations), .row (flat tFact.enc r_1.1.facts), .box [(.m [2] 0 r_1.1.relations.length tRelation.k), (.m [3] 0 r_1.1.facts.length tFact.k)]]) rfl ?_
     exact tj hj0_6 rfl (w0 5)
    ·skip
     refine ⟨_, rfl, rfl, (TOp_callS [0] (call_static ent121 rfl) (by decide) rfl rfl rfl rfl rfl rfl (m_spec_l1Below_x _ _ _ h_12) rfl rfl ?_)⟩
     refine tae [(0, (.b 0 0)), (2, (.b 1 0)), (3, (.b 4 0)), (7, (intA r_3.1)), (19, (boolA (decide (r_3.1 = 1)))), (21, (.b 4 0)), (23, (.b 0 0)), (24, (intA r_11.1))] rfl ?_
     refine TA_st (σ' := [.box [(sl (tI .u8) r_11.2.b), (intA r_11.2.i), (intA r_11.2.h)], .box [.n, .n], .row (flat tRelation.enc r_1.1.relations), .row (flat tFact.enc r_1.1.facts), .box [(.m [2] 0 r_1.1.relations.length tRelation.k), (.m [3] 0 r_1.1.facts.length tFact.k)]]) rfl ?_
     refine t1 1 (by kernel_rfl) rfl rfl (TOp_pure (pur_ld_b one45 rfl rfl rfl rfl) rfl ?_)
     exact tj hj0_6 rfl (w0 5)
   ·replace H := cond_f c_10 H
    refine sr ?_
    refine pv tb 2 rfl ?_
    refine TO_nil ?_
    refine T_cond (t := decide (r_3.1 = 2)) rfl (fun c_22 => ?_) (fun c_22 => ?_)
    ·replace H := cond_t c_22 H
     obtain ⟨r_23, h_24, H⟩ := bind_inv H
     obtain ⟨r_25, h_26, H⟩ := bind_inv H
     obtain ⟨v_27, h_28, H⟩ := bind_inv H
     obtain ⟨n_29, hz_30, hv_31⟩ := getI_inv h_28
     refine T_regionP 0 mixed rfl ?_
     refine TA_have 2 #[true, true, true, true, true, true, false, false] [(2, (.b 1 0)), (3, (.b 4 0)), (30, (.m [2] 0 r_1.1.relations.length tRelation.k)), (32, (intA r_23.1)), (34, (.g (tRelation.enc r_25.1)))] [.box [(sl (tI .u8) r_25.2.b), (intA r_25.2.i), (intA r_25.2.h)], .box [.n, .n], .row (flat tRelation.enc r_1.1.relations), .row (flat tFact.enc r_1.1.facts), .box [(.m [2] 0 r_1.1.relations.length tRelation.k), (.m [3] 0 r_1.1.facts.length tFact.k)]] ?_ (fun hj0_8 => ?_)
     ·skip
      refine tf 6 rfl (pur_ixM (T := tRelation) sl45 rfl rfl hz_30 hv_31 rfl) rfl rfl (by kernel_rfl) ?_
      refine t1 7 (by kernel_rfl) rfl rfl (TOp_setT (f := tRelation.enc) (z := r_23.1) (y := r_25.1) tRelation.len tRelation.pos hz_30 sz130 rfl rfl rfl rfl rfl hv_31 rfl rfl ?_)
      refine TA_env (E' := [(2, (.b 1 0)), (3, (.b 4 0)), (30, (.m [2] 0 (r_1.1.relations.set (r_23.1).toNat r_25.1).length tRelation.k)), (32, (intA r_23.1)), (34, (.g (tRelation.enc r_25.1)))]) ⟨rfl, rfl, (congrArg (fun q => A.m [2] 0 q tRelation.k) (List.length_set ..).symm), rfl, rfl, trivial⟩ ?_
      refine TA_st (σ' := [.box [(sl (tI .u8) r_25.2.b), (intA r_25.2.i), (intA r_25.2.h)], .box [.n, .n], .row (flat tRelation.enc (r_1.1.relations.set (r_23.1).toNat r_25.1)), .row (flat tFact.enc r_1.1.facts), .box [(.m [2] 0 r_1.1.relations.length tRelation.k), (.m [3] 0 r_1.1.facts.length tFact.k)]]) rfl ?_
      refine TA_st (σ' := [.box [(sl (tI .u8) r_25.2.b), (intA r_25.2.i), (intA r_25.2.h)], .box [.n, .n], .row (flat tRelation.enc (r_1.1.relations.set (r_23.1).toNat r_25.1)), .row (flat tFact.enc r_1.1.facts), .box [(.m [2] 0 (r_1.1.relations.set (r_23.1).toNat r_25.1).length tRelation.k), (.m [3] 0 r_1.1.facts.length tFact.k)]]) (by simp only [List.length_set]) ?_
      refine TA_nil (by kernel_rfl) ?_
      refine sr ?_
      refine pv tb 1 rfl ?_
      refine TO_cons rfl (TOp_storeB sz48 rfl rfl rfl rfl rfl rfl rfl (by decide) (lb rfl) rfl ?_)
      refine TO_st (σ' := [.box [(sl (tI .u8) r_25.2.b), (intA r_25.2.i), (intA r_25.2.h)], .box [(.m [2] 0 (r_1.1.relations.set (r_23.1).toNat r_25.1).length tRelation.k), (.m [3] 0 r_1.1.facts.length tFact.k)], .row (flat tRelation.enc (r_1.1.relations.set (r_23.1).toNat r_25.1)), .row (flat tFact.enc r_1.1.facts), .box [(.m [2] 0 (r_1.1.relations.set (r_23.1).toNat r_25.1).length tRelation.k), (.m [3] 0 r_1.1.facts.length tFact.k)]]) rfl ?_
      refine TO_nil ?_
      refine T_frzB 2 (E' := [(2, (.b 1 0))]) (σ' := [.box [(sl (tI .u8) r_25.2.b), (intA r_25.2.i), (intA r_25.2.h)], .box [(sl tRelation (r_1.1.relations.set (r_23.1).toNat r_25.1)), (.m [3] 0 r_1.1.facts.length tFact.k)], .dead, .row (flat tFact.enc r_1.1.facts), .box [(sl tRelation (r_1.1.relations.set (r_23.1).toNat r_25.1)), (.m [3] 0 r_1.1.facts.length tFact.k)]]) rfl (lb rfl) ?_ ?_ ?_
      ·exact ⟨(.keep rfl), trivial⟩
      ·exact ⟨(fzK rfl), (fzC fz1E (fzC (.keep rfl) fzN)), trivial, rfl, (fzC fz1E (fzC (.keep rfl) fzN)), trivial⟩
      refine T_frzB 3 (E' := [(2, (.b 1 0))]) (σ' := [.box [(sl (tI .u8) r_25.2.b), (intA r_25.2.i), (intA r_25.2.h)], .box [(sl tRelation (r_1.1.relations.set (r_23.1).toNat r_25.1)), (sl tFact r_1.1.facts)], .dead, .dead, .box [(sl tRelation (r_1.1.relations.set (r_23.1).toNat r_25.1)), (sl tFact r_1.1.facts)]]) rfl (lb rfl) ?_ ?_ ?_
      ·exact ⟨(.keep rfl), trivial⟩
      ·exact ⟨(fzK rfl), (fzC (.keep rfl) (fzC fz1E fzN)), trivial, trivial, (fzC (.keep rfl) (fzC fz1E fzN)), trivial⟩
      refine T_ret ?_
      obtain rfl := some_inj H
      exact end_pickX (.cellK rfl agg48 rfl (lb rfl) .nil) rfl [0] (by decide) (lb rfl) rfl (lb rfl) rfl rfl rfl rfl rfl rfl
     refine TA_have 3 #[true, true, true, true, true, false, false, false] [(2, (.b 1 0)), (3, (.b 4 0)), (30, (.m [2] 0 r_1.1.relations.length tRelation.k)), (32, (intA r_23.1)), (33, (.b 0 0))] [.box [(sl (tI .u8) r_23.2.b), (intA r_23.2.i), (intA r_23.2.h)], .box [.n, .n], .row (flat tRelation.enc r_1.1.relations), .row (flat tFact.enc r_1.1.facts), .box [(.m [2] 0 r_1.1.relations.length tRelation.k), (.m [3] 0 r_1.1.facts.length tFact.k)]] ?_ (fun hj1_8 => ?_)
     ·skip
      refine t1 5 (by kernel_rfl) rfl rfl (TOp_callS [0] (call_static ent164 rfl) (by decide) rfl rfl rfl rfl rfl rfl (m_spec_l2Any_x _ _ h_26) rfl rfl ?_)
      refine tae [(2, (.b 1 0)), (3, (.b 4 0)), (30, (.m [2] 0 r_1.1.relations.length tRelation.k)), (32, (intA r_23.1)), (33, (.b 0 0)), (34, (.g (tRelation.enc r_25.1)))] rfl ?_
      refine TA_st (σ' := [.box [(sl (tI .u8) r_25.2.b), (intA r_25.2.i), (intA r_25.2.h)], .box [.n, .n], .row (flat tRelation.enc r_1.1.relations), .row (flat tFact.enc r_1.1.facts), .box [(.m [2] 0 r_1.1.relations.length tRelation.k), (.m [3] 0 r_1.1.facts.length tFact.k)]]) rfl ?_
      exact tj hj0_8 rfl (w0 5)
     refine pa tb [0, 2, 4] 5 rfl (by kernel_rfl) rfl ?_
     refine TA_all [1, 3] (by kernel_rfl) (by decide) ⟨?_, ?_, trivial⟩
     ·skip
      refine ⟨_, rfl, rfl, (TOp_pure (pur_ld_b one45 rfl rfl rfl rfl) rfl ?_)⟩
      refine t1 3 (by kernel_rfl) rfl rfl (TOp_callS [0] (call_static ent121 rfl) (by decide) rfl rfl rfl rfl rfl rfl (m_spec_l1Below_x _ _ _ h_24) rfl rfl ?_)
      refine tae [(0, (.b 0 0)), (2, (.b 1 0)), (3, (.b 4 0)), (27, (boolA (decide (r_3.1 = 2)))), (29, (.b 4 0)), (30, (.m [2] 0 r_1.1.relations.length tRelation.k)), (31, (.b 0 0)), (32, (intA r_23.1)), (33, (.b 0 0))] rfl ?_
      refine TA_st (σ' := [.box [(sl (tI .u8) r_23.2.b), (intA r_23.2.i), (intA r_23.2.h)], .box [.n, .n], .row (flat tRelation.enc r_1.1.relations), .row (flat tFact.enc r_1.1.facts), .box [(.m [2] 0 r_1.1.relations.length tRelation.k), (.m [3] 0 r_1.1.facts.length tFact.k)]]) rfl ?_
      exact tj hj1_8 rfl (w0 5)
     ·skip
      refine ⟨_, rfl, rfl, (TOp_callS [0] (call_static ent121 rfl) (by decide) rfl rfl rfl rfl rfl rfl (m_spec_l1Below_x _ _ _ h_24) rfl rfl ?_)⟩
      refine tae [(0, (.b 0 0)), (2, (.b 1 0)), (3, (.b 4 0)), (27, (boolA (decide (r_3.1 = 2)))), (29, (.b 4 0)), (31, (.b 0 0)), (32, (intA r_23.1)), (33, (.b 0 0))] rfl ?_
      refine TA_st (σ' := [.box [(sl (tI .u8) r_23.2.b), (intA r_23.2.i), (intA r_23.2.h)], .box [.n, .n], .row (flat tRelation.enc r_1.1.relations), .row (flat tFact.enc r_1.1.facts), .box [(.m [2] 0 r_1.1.relations.length tRelation.k), (.m [3] 0 r_1.1.facts.length tFact.k)]]) rfl ?_
      refine TA_all [1, 5] (by kernel_rfl) (by decide) ⟨?_, ?_, trivial⟩
      ·skip
       refine ⟨_, rfl, rfl, (TOp_pure (pur_ld_b one45 rfl rfl rfl rfl) rfl ?_)⟩
       exact tj hj1_8 rfl (w0 5)
      ·skip
       refine ⟨_, rfl, rfl, (TOp_callS [0] (call_static ent164 rfl) (by decide) rfl rfl rfl rfl rfl rfl (m_spec_l2Any_x _ _ h_26) rfl rfl ?_)⟩
       refine tae [(0, (.b 0 0)), (2, (.b 1 0)), (3, (.b 4 0)), (27, (boolA (decide (r_3.1 = 2)))), (29, (.b 4 0)), (31, (.b 0 0)), (32, (intA r_23.1)), (33, (.b 0 0)), (34, (.g (tRelation.enc r_25.1)))] rfl ?_
       refine TA_st (σ' := [.box [(sl (tI .u8) r_25.2.b), (intA r_25.2.i), (intA r_25.2.h)], .box [.n, .n], .row (flat tRelation.enc r_1.1.relations), .row (flat tFact.enc r_1.1.facts), .box [(.m [2] 0 r_1.1.relations.length tRelation.k), (.m [3] 0 r_1.1.facts.length tFact.k)]]) rfl ?_
       refine t1 1 (by kernel_rfl) rfl rfl (TOp_pure (pur_ld_b one45 rfl rfl rfl rfl) rfl ?_)
       exact tj hj0_8 rfl (w0 5)
    ·replace H := cond_f c_22 H
     refine T_skip ?_
     refine sr ?_
     refine pv tb 1 rfl ?_
     refine TO_cons rfl (TOp_storeB sz48 rfl rfl rfl rfl rfl rfl rfl (by decide) (lb rfl) rfl ?_)
     refine TO_st (σ' := [.box [(sl (tI .u8) r_3.2.b), (intA r_3.2.i), (intA r_3.2.h)], .box [(.m [2] 0 r_1.1.relations.length tRelation.k), (.m [3] 0 r_1.1.facts.length tFact.k)], .row (flat tRelation.enc r_1.1.relations), .row (flat tFact.enc r_1.1.facts), .box [(.m [2] 0 r_1.1.relations.length tRelation.k), (.m [3] 0 r_1.1.facts.length tFact.k)]]) rfl ?_
     refine TO_nil ?_
     refine T_frzB 2 (E' := [(2, (.b 1 0))]) (σ' := [.box [(sl (tI .u8) r_3.2.b), (intA r_3.2.i), (intA r_3.2.h)], .box [(sl tRelation r_1.1.relations), (.m [3] 0 r_1.1.facts.length tFact.k)], .dead, .row (flat tFact.enc r_1.1.facts), .box [(sl tRelation r_1.1.relations), (.m [3] 0 r_1.1.facts.length tFact.k)]]) rfl (lb rfl) ?_ ?_ ?_
     ·exact ⟨(.keep rfl), trivial⟩
     ·exact ⟨(fzK rfl), (fzC fz1E (fzC (.keep rfl) fzN)), trivial, rfl, (fzC fz1E (fzC (.keep rfl) fzN)), trivial⟩
     refine T_frzB 3 (E' := [(2, (.b 1 0))]) (σ' := [.box [(sl (tI .u8) r_3.2.b), (intA r_3.2.i), (intA r_3.2.h)], .box [(sl tRelation r_1.1.relations), (sl tFact r_1.1.facts)], .dead, .dead, .box [(sl tRelation r_1.1.relations), (sl tFact r_1.1.facts)]]) rfl (lb rfl) ?_ ?_ ?_
     ·exact ⟨(.keep rfl), trivial⟩
     ·exact ⟨(fzK rfl), (fzC (.keep rfl) (fzC fz1E fzN)), trivial, trivial, (fzC (.keep rfl) (fzC fz1E fzN)), trivial⟩
     refine T_ret ?_
     obtain rfl := some_inj H
     exact end_pickX (.cellK rfl agg48 rfl (lb rfl) .nil) rfl [0] (by decide) (lb rfl) rfl (lb rfl) rfl rfl rfl rfl rfl rfl

set_option maxHeartbeats 1000000 in
theorem m_spec_l1New_x (u : Nat) (code0 : (List Int)) (r : l1Cur) (H : m_spec_l1New u code0 = some r) : FnS prg 116 [(sl (tI .u8) code0)] [] (.b 0 0) [.box [(sl (tI .u8) r.b), (intA r.i), (intA r.h)]] := by
  unfold m_spec_l1New at H
  refine fnS_of_T Try.func116 rfl rfl (Nat.le_of_ble_eq_true rfl) ?_
  refine te [(0, (sl (tI .u8) code0))] rfl ?_
  refine T_st (σ' := []) rfl ?_
  refine sr ?_
  refine pv tb 1 rfl ?_
  refine TO_nil ?_
  refine sr ?_
  refine pv tb 1 rfl ?_
  refine Tp rfl rfl (pur_lenT (T := (tI .u8)) sl62 rfl rfl) rfl ?_
  refine pv tb 2 rfl ?_
  refine TO_nil ?_
  refine T_seq ?_
  refine sr ?_
  refine pv tb 1 rfl ?_
  refine TO_nil ?_
  obtain ⟨O1_, L1_, N1_⟩ := bind_inv H
  clear H
  obtain ⟨B1_, hb1, L1_⟩ := gen_whileF L1_
  refine T_block ?_
  refine T_loopX (fun k => fun (⟨h3, i4⟩ : Int × Int) => whileF B1_ k (h3, i4) = some O1_) (fun (⟨h3, i4⟩ : Int × Int) => [(0, (sl (tI .u8) code0)), (3, (intA h3)), (4, (intA i4))]) (fun (⟨h3, i4⟩ : Int × Int) => []) u ((w64 (10101 + (code0.length : Int))), 0) (w0 0) L1_ ?_
  rintro _ ⟨h3, i4⟩ L1_
  obtain ⟨k1, rfl, C1_, H, K1_⟩ := while_step L1_
  rw [hb1] at H
  refine T_seq ?_
  refine T_cutX (fun x => ((decide (i4 < (code0.length : Int))) && (decide (i4 < 4000))) = x) (fun (t15_2 : Bool) => [(0, (sl (tI .u8) code0)), (3, (intA h3)), (4, (intA i4)), (15, (boolA t15_2))]) (fun (t15_2 : Bool) => []) ?_ ?_
  ·skip
   refine T_region ?_
   refine pv tb 2 rfl ?_
   refine Tp rfl rfl (pur_lenT (T := (tI .u8)) sl62 rfl rfl) rfl ?_
   refine pv tb 2 rfl ?_
   refine TO_split (t := decide (i4 < (code0.length : Int))) 12 rfl (fun g_4 => ?_) (fun g_4 => ?_)
   ·skip
    refine pv tb 3 rfl ?_
    refine TO_nil ?_
    exact joined (decide (i4 < 4000)) (w0 0) (by first | exact Eq.symm ((and_T g_4 rfl)))
   ·skip
    refine pv tb 3 rfl ?_
    refine TO_nil ?_
    exact joined false (w0 0) (by first | exact Eq.symm ((and_F g_4 rfl)))
  ·rintro _ rfl
   refine T_cond (t := ((decide (i4 < (code0.length : Int))) && (decide (i4 < 4000)))) rfl (fun c_5 => ?_) (fun c_5 => ?_)
   ·replace H := cond_t c_5 H
    refine T_skip ?_
    refine T_seq ?_
    refine T_block ?_
    refine T_region ?_
    obtain ⟨v_6, h_7, H⟩ := bind_inv H
    obtain ⟨n_8, hz_9, hv_10⟩ := getI_inv h_7
    refine pv tb 4 rfl ?_
    refine Tp rfl rfl (pur_ixT (T := (tI .u8)) sl62 rfl rfl hz_9 hv_10 rfl) rfl ?_
    refine Tp rfl rfl (pur_ldT (T := (tI .u8)) (i := n_8) (off := 0) rfl one5 rfl rfl hv_10 rfl) rfl ?_
    refine Tp rfl rfl (pur_convI (k := .i64) (k' := .u8) ⟨_, Try.underlying5⟩ Try.underlying3 rfl rfl) rfl ?_
    refine pv tb 2 rfl ?_
    refine Tp rfl rfl (pur_and rfl rfl rfl) rfl ?_
    refine pv tb 1 rfl ?_
    refine TO_nil ?_
    refine T_region ?_
    refine pv tb 3 rfl ?_
    refine TO_nil ?_
    obtain rfl := some_inj H
    exact again k1 ((bitI .and .i64 (w64 ((w64 ((w64 (h3 * 131)) + (w64 v_6))) + 7)) 1073741823), (w64 (i4 + 1))) (Nat.lt_succ_self _) (w0 0) K1_
   ·replace H := cond_f c_5 H
    refine T_exit ?_
    refine then_exit ?_
    refine then_exit ?_
    refine block_exit ?_
    obtain rfl := some_inj H
    obtain rfl := some_inj K1_
    replace H := onS_l N1_
    refine sr ?_
    refine pv tb 2 rfl ?_
    refine Tp rfl rfl (pur_build bld173 rfl rfl) rfl ?_
    refine TO_cons rfl (TOp_box rfl (boxAll rfl) rfl rfl ?_)
    refine pv tb 1 rfl ?_
    refine TO_nil ?_
    refine T_ret ?_
    obtain rfl := some_inj H
    exact end_pickX (.tmp .nil) rfl [0] (by decide) (lb rfl) rfl (lb rfl) rfl rfl rfl rfl rfl rfl

set_option maxHeartbeats 1000000 in
theorem m_spec_l1Once_x (c0 : l1Cur) (n1 : Int) (r : (Bool × l1Cur)) (H : m_spec_l1Once c0 n1 = some r) : FnS prg 169 [(.b 0 0), (intA n1)] [.box [(sl (tI .u8) c0.b), (intA c0.i), (intA c0.h)]] (boolA r.1) [.box [(sl (tI .u8) r.2.b), (intA r.2.i), (intA r.2.h)]] := by
  unfold m_spec_l1Once at H
  refine fnS_of_T Try.func169 rfl rfl (Nat.le_of_ble_eq_true rfl) ?_
  refine te [(0, (.b 0 0)), (1, (intA n1))] rfl ?_
  refine T_st (σ' := [.box [(sl (tI .u8) c0.b), (intA c0.i), (intA c0.h)]]) rfl ?_
  refine sr ?_
  refine pv tb 1 rfl ?_
  refine TO_nil ?_
  refine sr ?_
  obtain ⟨r_1, h_2, H⟩ := bind_inv H
  refine pv tb 2 rfl ?_
  refine TO_cons rfl (TOp_callS [0] (call_static ent121 rfl) (by decide) rfl rfl rfl rfl rfl rfl (m_spec_l1Below_x _ _ _ h_2) rfl rfl ?_)
  refine toe [(0, (.b 0 0)), (1, (intA n1)), (5, (.b 0 0)), (6, (intA n1)), (7, (intA r_1.1))] rfl ?_
  refine TO_st (σ' := [.box [(sl (tI .u8) r_1.2.b), (intA r_1.2.i), (intA r_1.2.h)]]) rfl ?_
  refine pv tb 2 rfl ?_
  refine TO_nil ?_
  refine T_ret ?_
  obtain rfl := some_inj H
  exact end_pickX (.tmp .nil) rfl [0] (by decide) (lb rfl) rfl (lb rfl) rfl rfl rfl rfl rfl rfl

set_option maxHeartbeats 1000000 in
theorem m_spec_l4Fact_x (u : Nat) (c0 : l1Cur) (d1 : Database) (r : (Fact × l1Cur)) (H : m_spec_l4Fact u c0 d1 = some r) : FnS prg 122 [(.b 0 0), (.g (tDatabase.enc d1))] [.box [(sl (tI .u8) c0.b), (intA c0.i), (intA c0.h)]] (.g (tFact.enc r.1)) [.box [(sl (tI .u8) r.2.b), (intA r.2.i), (intA r.2.h)]] := by
  unfold m_spec_l4Fact at H
  refine fnS_of_T Try.func122 rfl rfl (Nat.le_of_ble_eq_true rfl) ?_
  refine te [(0, (.b 0 0)), (1, (.g (tDatabase.enc d1)))] rfl ?_
  refine T_st (σ' := [.box [(sl (tI .u8) c0.b), (intA c0.i), (intA c0.h)]]) rfl ?_
  refine sr ?_
  refine TO_cons rfl (TOp_box rfl (boxAll rfl) rfl rfl ?_)
  refine TO_cons rfl (TOp_alloc zero65 rfl rfl ?_)
  refine TO_nil ?_
  refine T_seq ?_
  obtain ⟨⟨t12_1, box0_1⟩, J_1, H_2⟩ := bind_inv H
  refine T_cutX (fun x => (t12_1, box0_1) = x) (fun (⟨t12_1, box0_1⟩ : Bool × l1Cur) => [(0, (.b 0 0)), (3, (.b 1 0)), (4, (.b 2 0)), (12, (boolA t12_1))]) (fun (⟨t12_1, box0_1⟩ : Bool × l1Cur) => [.box [(sl (tI .u8) box0_1.b), (intA box0_1.i), (intA box0_1.h)], .box [(sl tRelation d1.relations), (sl tFact d1.facts)], .box [(intA 0), .n]]) ?_ ?_
  ·replace H := J_1
   refine T_region ?_
   refine pv tb 2 rfl ?_
   refine Tp rfl rfl (pur_lenT (T := tFact) sl46 rfl rfl) rfl ?_
   refine pv tb 2 rfl ?_
   refine TO_split (t := decide (0 < (d1.facts.length : Int))) 9 rfl (fun g_3 => ?_) (fun g_3 => ?_)
   ·replace H := cond_t g_3 H
    obtain ⟨r_4, h_5, H⟩ := bind_inv H
    refine pv tb 1 rfl ?_
    refine TO_on rfl rfl (by decide) rfl rfl (TOp_callS [0] (call_static ent169 rfl) (by decide) rfl rfl rfl rfl rfl rfl (m_spec_l1Once_x _ _ _ h_5) rfl rfl ?_)
    refine toe [(0, (.b 0 0)), (3, (.b 1 0)), (4, (.b 2 0)), (5, (.b 1 1)), (6, (sl tFact d1.facts)), (7, (intA (d1.facts.length : Int))), (8, (boolA (decide (0 < (d1.facts.length : Int))))), (9, (boolA true)), (10, (.b 0 0)), (11, (boolA r_4.1))] rfl ?_
    refine TO_st (σ' := [.box [(sl (tI .u8) r_4.2.b), (intA r_4.2.i), (intA r_4.2.h)], .box [(sl tRelation d1.relations), (sl tFact d1.facts)], .box [(intA 0), .n]]) rfl ?_
    refine pv tb 1 rfl ?_
    refine TO_nil ?_
    exact joined (r_4.1, r_4.2) (w0 3) (some_inj H).symm
   ·replace H := cond_f g_3 H
    refine pv tb 3 rfl ?_
    refine TO_nil ?_
    exact joined (false, c0) (w0 3) (some_inj H).symm
  ·rintro _ rfl
   replace H := H_2
   refine T_cond (t := t12_1) rfl (fun c_6 => ?_) (fun c_6 => ?_)
   ·replace H := cond_t c_6 H
    obtain ⟨r_7, h_8, H⟩ := bind_inv H
    obtain ⟨v_9, h_10, H⟩ := bind_inv H
    obtain ⟨n_11, hz_12, hv_13⟩ := getI_inv h_10
    refine T_cutX (fun (_ : Unit) => True) (fun _ => [(4, (.b 2 0))]) (fun _ => [.box [(sl (tI .u8) r_7.2.b), (intA r_7.2.i), (intA r_7.2.h)], .box [(sl tRelation d1.relations), (sl tFact d1.facts)], .box [(intA v_9.relation), (sl tInt v_9.values)]]) ?_ ?_
    ·skip
     refine T_regionP 0 mixed rfl ?_
     refine TA_have 3 #[true, true, true, true, true, true, true, false, false, false] [(4, (.b 2 0)), (14, (sl tFact d1.facts)), (19, (intA r_7.1))] [.box [(sl (tI .u8) r_7.2.b), (intA r_7.2.i), (intA r_7.2.h)], .box [(sl tRelation d1.relations), (sl tFact d1.facts)], .box [(intA 0), .n]] ?_ (fun hj0_2 => ?_)
     ·skip
      refine tf 7 rfl (pur_ixT (T := tFact) sl46 rfl rfl hz_12 hv_13 rfl) rfl rfl (by kernel_rfl) ?_
      refine tf 8 rfl (pur_ldTK (T := tFact) (i := n_11) (off := 0) rfl agg65 rfl rfl hv_13 (by decide) rfl) rfl rfl (by kernel_rfl) ?_
      refine t1 9 (by kernel_rfl) rfl rfl (TOp_storeB sz65 rfl rfl rfl rfl rfl rfl rfl (by decide) (lb rfl) rfl ?_)
      refine TA_st (σ' := [.box [(sl (tI .u8) r_7.2.b), (intA r_7.2.i), (intA r_7.2.h)], .box [(sl tRelation d1.relations), (sl tFact d1.facts)], .box [(intA v_9.relation), (sl tInt v_9.values)]]) rfl ?_
      exact TA_nil (by kernel_rfl) (joined () (w0 3) trivial)
     refine TA_have 4 #[true, true, true, true, true, true, false, false, false, false] [(4, (.b 2 0)), (14, (sl tFact d1.facts)), (15, (.b 0 0)), (18, (intA (d1.facts.length : Int)))] [.box [(sl (tI .u8) box0_1.b), (intA box0_1.i), (intA box0_1.h)], .box [(sl tRelation d1.relations), (sl tFact d1.facts)], .box [(intA 0), .n]] ?_ (fun hj1_2 => ?_)
     ·skip
      refine t1 6 (by kernel_rfl) rfl rfl (TOp_callS [0] (call_static ent121 rfl) (by decide) rfl rfl rfl rfl rfl rfl (m_spec_l1Below_x _ _ _ h_8) rfl rfl ?_)
      refine tae [(4, (.b 2 0)), (14, (sl tFact d1.facts)), (15, (.b 0 0)), (18, (intA (d1.facts.length : Int))), (19, (intA r_7.1))] rfl ?_
      refine TA_st (σ' := [.box [(sl (tI .u8) r_7.2.b), (intA r_7.2.i), (intA r_7.2.h)], .box [(sl tRelation d1.relations), (sl tFact d1.facts)], .box [(intA 0), .n]]) rfl ?_
      exact tj hj0_2 rfl (w0 3)
     refine pa tb [0, 2, 3] 7 rfl (by kernel_rfl) rfl ?_
     refine TA_all [1, 4] (by kernel_rfl) (by decide) ⟨?_, ?_, trivial⟩
     ·skip
      refine ⟨_, rfl, rfl, (TOp_pure (pur_ld_b one46 rfl rfl rfl rfl) rfl ?_)⟩
      refine t1 4 (by kernel_rfl) rfl rfl (TOp_pure (pur_ld_b one46 rfl rfl rfl rfl) rfl ?_)
      refine tf 5 rfl (pur_lenT (T := tFact) sl46 rfl rfl) rfl rfl (by kernel_rfl) ?_
      exact tj hj1_2 rfl (w0 3)
     ·skip
      refine ⟨_, rfl, rfl, (TOp_pure (pur_ld_b one46 rfl rfl rfl rfl) rfl ?_)⟩
      refine tf 5 rfl (pur_lenT (T := tFact) sl46 rfl rfl) rfl rfl (by kernel_rfl) ?_
      refine TA_all [1, 6] (by kernel_rfl) (by decide) ⟨?_, ?_, trivial⟩
      ·skip
       refine ⟨_, rfl, rfl, (TOp_pure (pur_ld_b one46 rfl rfl rfl rfl) rfl ?_)⟩
       exact tj hj1_2 rfl (w0 3)
      ·skip
       refine ⟨_, rfl, rfl, (TOp_callS [0] (call_static ent121 rfl) (by decide) rfl rfl rfl rfl rfl rfl (m_spec_l1Below_x _ _ _ h_8) rfl rfl ?_)⟩
       refine tae [(0, (.b 0 0)), (3, (.b 1 0)), (4, (.b 2 0)), (12, (boolA t12_1)), (13, (.b 1 1)), (15, (.b 0 0)), (16, (.b 1 1)), (17, (sl tFact d1.facts)), (18, (intA (d1.facts.length : Int))), (19, (intA r_7.1))] rfl ?_
       refine TA_st (σ' := [.box [(sl (tI .u8) r_7.2.b), (intA r_7.2.i), (intA r_7.2.h)], .box [(sl tRelation d1.relations), (sl tFact d1.facts)], .box [(intA 0), .n]]) rfl ?_
       refine t1 1 (by kernel_rfl) rfl rfl (TOp_pure (pur_ld_b one46 rfl rfl rfl rfl) rfl ?_)
       exact tj hj0_2 rfl (w0 3)
    ·rintro _ _
     refine T_ret ?_
     refine then_ret ?_
     obtain rfl := some_inj H
     exact end_pickX (.cellK rfl agg65 rfl (lb rfl) .nil) rfl [0] (by decide) (lb rfl) rfl (lb rfl) rfl rfl rfl rfl rfl rfl
   ·replace H := cond_f c_6 H
    refine T_skip ?_
    refine sr ?_
    refine pv tb 1 rfl ?_
    refine Tp rfl rfl (pur_build bld130 rfl rfl) rfl ?_
    refine Tp rfl rfl (pur_build bld130 rfl rfl) rfl ?_
    refine Tp rfl rfl (pur_build bld130 rfl rfl) rfl ?_
    refine Tp rfl rfl (pur_build bld130 rfl rfl) rfl ?_
    refine TO_cons rfl (TOp_lit (nn := 4) (k := 3) sl45 zero130 rfl rfl rfl rfl (by decide) ?_)
    refine TO_st (σ' := [.box [(sl (tI .u8) box0_1.b), (intA box0_1.i), (intA box0_1.h)], .box [(sl tRelation d1.relations), (sl tFact d1.facts)], .box [(intA 0), .n], .row (flat tRelation.enc ([({ name := (⟨#[114]⟩ : ByteArray), arity := 2, keyLength := 0 } : Relation), ({ name := (⟨#[115]⟩ : ByteArray), arity := 2, keyLength := 0 } : Relation), ({ name := (⟨#[116]⟩ : ByteArray), arity := 2, keyLength := 0 } : Relation), ({ name := (⟨#[117]⟩ : ByteArray), arity := 3, keyLength := 0 } : Relation)] : (List Relation)))]) rfl ?_
    refine TO_frz1 3 (E' := [(0, (.b 0 0)), (4, (.b 2 0)), (22, (.b 0 0)), (23, (.g [(strA (⟨#[114]⟩ : ByteArray)), (intA 2), (intA 0)])), (24, (.g [(strA (⟨#[115]⟩ : ByteArray)), (intA 2), (intA 0)])), (25, (.g [(strA (⟨#[116]⟩ : ByteArray)), (intA 2), (intA 0)])), (26, (.g [(strA (⟨#[117]⟩ : ByteArray)), (intA 3), (intA 0)])), (27, (sl tRelation ([({ name := (⟨#[114]⟩ : ByteArray), arity := 2, keyLength := 0 } : Relation), ({ name := (⟨#[115]⟩ : ByteArray), arity := 2, keyLength := 0 } : Relation), ({ name := (⟨#[116]⟩ : ByteArray), arity := 2, keyLength := 0 } : Relation), ({ name := (⟨#[117]⟩ : ByteArray), arity := 3, keyLength := 0 } : Relation)] : (List Relation))))]) rfl rfl (lb rfl) ⟨(.keep rfl), (.keep rfl), (.keep rfl), (.keep rfl), (.keep rfl), (.keep rfl), (.keep rfl), fz1E, trivial⟩ ?_
    refine TO_st (σ' := [.box [(sl (tI .u8) box0_1.b), (intA box0_1.i), (intA box0_1.h)], .box [(sl tRelation d1.relations), (sl tFact d1.facts)], .box [(intA 0), .n], .dead]) rfl ?_
    obtain ⟨r_14, h_15, H⟩ := bind_inv H
    refine TO_cons rfl (TOp_callS [0] (call_static ent163 rfl) (by decide) rfl rfl rfl rfl rfl rfl (m_spec_l3Any_x u _ _ _ h_15) rfl rfl ?_)
    refine toe [(0, (.b 0 0)), (4, (.b 2 0)), (22, (.b 0 0)), (23, (.g [(strA (⟨#[114]⟩ : ByteArray)), (intA 2), (intA 0)])), (24, (.g [(strA (⟨#[115]⟩ : ByteArray)), (intA 2), (intA 0)])), (25, (.g [(strA (⟨#[116]⟩ : ByteArray)), (intA 2), (intA 0)])), (26, (.g [(strA (⟨#[117]⟩ : ByteArray)), (intA 3), (intA 0)])), (27, (sl tRelation ([({ name := (⟨#[114]⟩ : ByteArray), arity := 2, keyLength := 0 } : Relation), ({ name := (⟨#[115]⟩ : ByteArray), arity := 2, keyLength := 0 } : Relation), ({ name := (⟨#[116]⟩ : ByteArray), arity := 2, keyLength := 0 } : Relation), ({ name := (⟨#[117]⟩ : ByteArray), arity := 3, keyLength := 0 } : Relation)] : (List Relation)))), (28, (.g [(intA r_14.1.relation), (.m [4] 0 r_14.1.values.length tInt.k)]))] rfl ?_
    refine TO_st (σ' := [.box [(sl (tI .u8) r_14.2.b), (intA r_14.2.i), (intA r_14.2.h)], .box [(sl tRelation d1.relations), (sl tFact d1.facts)], .box [(intA 0), .n], .dead, .row (flat tInt.enc r_14.1.values)]) rfl ?_
    refine TO_cons rfl (TOp_storeB sz65 rfl rfl rfl rfl rfl rfl rfl (by decide) (lb rfl) rfl ?_)
    refine TO_st (σ' := [.box [(sl (tI .u8) r_14.2.b), (intA r_14.2.i), (intA r_14.2.h)], .box [(sl tRelation d1.relations), (sl tFact d1.facts)], .box [(intA r_14.1.relation), (.m [4] 0 r_14.1.values.length tInt.k)], .dead, .row (flat tInt.enc r_14.1.values)]) rfl ?_
    refine TO_nil ?_
    refine T_frzB 4 (E' := [(4, (.b 2 0))]) (σ' := [.box [(sl (tI .u8) r_14.2.b), (intA r_14.2.i), (intA r_14.2.h)], .box [(sl tRelation d1.relations), (sl tFact d1.facts)], .box [(intA r_14.1.relation), (sl tInt r_14.1.values)], .dead, .dead]) rfl (lb rfl) ?_ ?_ ?_
    ·exact ⟨(.keep rfl), trivial⟩
    ·exact ⟨(fzK rfl), (fzK rfl), (fzC (.keep rfl) (fzC fz1E fzN)), trivial, trivial, trivial⟩
    refine T_ret ?_
    obtain rfl := some_inj H
    exact end_pickX (.cellK rfl agg65 rfl (lb rfl) .nil) rfl [0] (by decide) (lb rfl) rfl (lb rfl) rfl rfl rfl rfl rfl rfl

set_option maxHeartbeats 1000000 in
theorem m_spec_l30Edit_x (u : Nat) (c0 : l1Cur) (d1 : Database) (r : (Edit × l1Cur)) (H : m_spec_l30Edit u c0 d1 = some r) : FnS prg 131 [(.b 0 0), (.g (tDatabase.enc d1))] [.box [(sl (tI .u8) c0.b), (intA c0.i), (intA c0.h)]] (.g (tEdit.enc r.1)) [.box [(sl (tI .u8) r.2.b), (intA r.2.i), (intA r.2.h)]] := by
  unfold m_spec_l30Edit at H
  refine fnS_of_T Try.func131 rfl rfl (Nat.le_of_ble_eq_true rfl) ?_
  refine te [(0, (.b 0 0)), (1, (.g (tDatabase.enc d1)))] rfl ?_
  refine T_st (σ' := [.box [(sl (tI .u8) c0.b), (intA c0.i), (intA c0.h)]]) rfl ?_
  refine sr ?_
  refine TO_cons rfl (TOp_box rfl (boxAll rfl) rfl rfl ?_)
  refine TO_cons rfl (TOp_alloc zero100 rfl rfl ?_)
  refine TO_nil ?_
  obtain ⟨r_1, h_2, H⟩ := bind_inv H
  obtain ⟨r_3, h_4, H⟩ := bind_inv H
  refine T_pad ?_
  refine T_cutX (fun (_ : Unit) => True) (fun _ => [(4, (.b 2 0))]) (fun _ => [.box [(sl (tI .u8) r_3.2.b), (intA r_3.2.i), (intA r_3.2.h)], .box [(sl tRelation d1.relations), (sl tFact d1.facts)], .box [(intA r_1.1), (intA r_3.1.relation), (sl tInt r_3.1.values)]]) ?_ ?_
  ·skip
   refine T_regionP 0 mixed rfl ?_
   refine TA_have 3 #[true, true, true, true, true, false, false, false] [(4, (.b 2 0)), (7, (intA r_1.1)), (8, (.b 0 0)), (9, (.g (tDatabase.enc d1)))] [.box [(sl (tI .u8) r_1.2.b), (intA r_1.2.i), (intA r_1.2.h)], .box [(sl tRelation d1.relations), (sl tFact d1.facts)], .box [(intA 0), (intA 0), .n], .dead] ?_ (fun hj0_1 => ?_)
   ·skip
    refine t1 5 (by kernel_rfl) rfl rfl (TOp_callS [0] (call_static ent122 rfl) (by decide) rfl rfl rfl rfl rfl rfl (m_spec_l4Fact_x u _ _ _ h_4) rfl rfl ?_)
    refine tae [(4, (.b 2 0)), (7, (intA r_1.1)), (8, (.b 0 0)), (9, (.g (tDatabase.enc d1))), (10, (.g (tFact.enc r_3.1)))] rfl ?_
    refine TA_st (σ' := [.box [(sl (tI .u8) r_3.2.b), (intA r_3.2.i), (intA r_3.2.h)], .box [(sl tRelation d1.relations), (sl tFact d1.facts)], .box [(intA 0), (intA 0), .n], .dead]) rfl ?_
    refine tf 6 rfl (pur_build bld100 rfl rfl) rfl rfl (by kernel_rfl) ?_
    refine t1 7 (by kernel_rfl) rfl rfl (TOp_storeB sz100 rfl rfl rfl rfl rfl rfl rfl (by decide) (lb rfl) rfl ?_)
    refine TA_st (σ' := [.box [(sl (tI .u8) r_3.2.b), (intA r_3.2.i), (intA r_3.2.h)], .box [(sl tRelation d1.relations), (sl tFact d1.facts)], .box [(intA r_1.1), (intA r_3.1.relation), (sl tInt r_3.1.values)], .dead]) rfl ?_
    exact TA_nil (by kernel_rfl) (joined () (w0 3) trivial)
   refine TA_have 4 #[true, true, false, true, true, false, false, false] [(4, (.b 2 0)), (5, (.b 0 0)), (6, (sl tInt ([1, 1, 2, 3, 1, 2, 3, 0, 4] : (List Int)))), (8, (.b 0 0)), (9, (.g (tDatabase.enc d1)))] [.box [(sl (tI .u8) c0.b), (intA c0.i), (intA c0.h)], .box [(sl tRelation d1.relations), (sl tFact d1.facts)], .box [(intA 0), (intA 0), .n], .dead] ?_ (fun hj1_1 => ?_)
   ·skip
    refine t1 2 (by kernel_rfl) rfl rfl (TOp_callS [0] (call_static ent173 rfl) (by decide) rfl rfl rfl rfl rfl rfl (m_spec_l1PickInt_x _ _ _ h_2) rfl rfl ?_)
    refine tae [(4, (.b 2 0)), (5, (.b 0 0)), (6, (sl tInt ([1, 1, 2, 3, 1, 2, 3, 0, 4] : (List Int)))), (7, (intA r_1.1)), (8, (.b 0 0)), (9, (.g (tDatabase.enc d1)))] rfl ?_
    refine TA_st (σ' := [.box [(sl (tI .u8) r_1.2.b), (intA r_1.2.i), (intA r_1.2.h)], .box [(sl tRelation d1.relations), (sl tFact d1.facts)], .box [(intA 0), (intA 0), .n], .dead]) rfl ?_
    exact tj hj0_1 rfl (w0 4)
   refine pa tb [0, 3] 6 rfl (by kernel_rfl) rfl ?_
   refine TA_all [1, 4] (by kernel_rfl) (by decide) ⟨?_, ?_, trivial⟩
   ·skip
    refine ⟨_, rfl, rfl, (TOp_lit (nn := 9) (k := 1) sl23 zero3 rfl rfl rfl rfl (by decide) ?_)⟩
    refine tmw 3 4 (by decide) (lb rfl) rfl rfl (lb rfl) rfl ?_
    refine TA_ghost (E' := [(0, (.b 0 0)), (3, (.b 1 0)), (4, (.b 2 0)), (5, (.b 0 0)), (6, (.m [3] 0 ([1, 1, 2, 3, 1, 2, 3, 0, 4] : (List Int)).length tInt.k)), (8, (.b 0 0))]) (σ' := [.box [(sl (tI .u8) c0.b), (intA c0.i), (intA c0.h)], .box [(sl tRelation d1.relations), (sl tFact d1.facts)], .box [(intA 0), (intA 0), .n], .row (flat tInt.enc ([1, 1, 2, 3, 1, 2, 3, 0, 4] : (List Int))), .dead]) (Ghost.weak (WeakL.to 5 (lb rfl) rfl rfl rfl rfl ⟨leR rfl, leR rfl, leR rfl, leR rfl, leR rfl, leR rfl, trivial⟩)) ?_
    refine TA_frz1 3 (E' := [(0, (.b 0 0)), (3, (.b 1 0)), (4, (.b 2 0)), (5, (.b 0 0)), (6, (sl tInt ([1, 1, 2, 3, 1, 2, 3, 0, 4] : (List Int)))), (8, (.b 0 0))]) rfl rfl (lb rfl) ⟨(.keep rfl), (.keep rfl), (.keep rfl), (.keep rfl), fz1E, (.keep rfl), trivial⟩ ?_
    refine TA_st (σ' := [.box [(sl (tI .u8) c0.b), (intA c0.i), (intA c0.h)], .box [(sl tRelation d1.relations), (sl tFact d1.facts)], .box [(intA 0), (intA 0), .n], .dead, .dead]) rfl ?_
    refine TA_all [2, 4] (by kernel_rfl) (by decide) ⟨?_, ?_, trivial⟩
    ·skip
     refine ⟨_, rfl, rfl, (TOp_callS [0] (call_static ent173 rfl) (by decide) rfl rfl rfl rfl rfl rfl (m_spec_l1PickInt_x _ _ _ h_2) rfl rfl ?_)⟩
     refine tae [(0, (.b 0 0)), (3, (.b 1 0)), (4, (.b 2 0)), (5, (.b 0 0)), (6, (sl tInt ([1, 1, 2, 3, 1, 2, 3, 0, 4] : (List Int)))), (7, (intA r_1.1)), (8, (.b 0 0))] rfl ?_
     refine TA_st (σ' := [.box [(sl (tI .u8) r_1.2.b), (intA r_1.2.i), (intA r_1.2.h)], .box [(sl tRelation d1.relations), (sl tFact d1.facts)], .box [(intA 0), (intA 0), .n], .dead, .dead]) rfl ?_
     refine t1 4 (by kernel_rfl) rfl rfl (TOp_pure (pur_ldK_b agg48 rfl rfl (lb rfl) rfl) rfl ?_)
     exact tj hj0_1 rfl (w0 4)
    ·skip
     refine ⟨_, rfl, rfl, (TOp_pure (pur_ldK_b agg48 rfl rfl (lb rfl) rfl) rfl ?_)⟩
     exact tj hj1_1 rfl (w0 4)
   ·skip
    refine ⟨_, rfl, rfl, (TOp_pure (pur_ldK_b agg48 rfl rfl (lb rfl) rfl) rfl ?_)⟩
    refine t1 1 (by kernel_rfl) rfl rfl (TOp_lit (nn := 9) (k := 1) sl23 zero3 rfl rfl rfl rfl (by decide) ?_)
    refine tmw 3 4 (by decide) (lb rfl) rfl rfl (lb rfl) rfl ?_
    refine TA_ghost (E' := [(0, (.b 0 0)), (3, (.b 1 0)), (4, (.b 2 0)), (5, (.b 0 0)), (6, (.m [3] 0 ([1, 1, 2, 3, 1, 2, 3, 0, 4] : (List Int)).length tInt.k)), (8, (.b 0 0)), (9, (.g (tDatabase.enc d1)))]) (σ' := [.box [(sl (tI .u8) c0.b), (intA c0.i), (intA c0.h)], .box [(sl tRelation d1.relations), (sl tFact d1.facts)], .box [(intA 0), (intA 0), .n], .row (flat tInt.enc ([1, 1, 2, 3, 1, 2, 3, 0, 4] : (List Int))), .dead]) (Ghost.weak (WeakL.to 5 (lb rfl) rfl rfl rfl rfl ⟨leR rfl, leR rfl, leR rfl, leR rfl, leR rfl, leR rfl, leR rfl, trivial⟩)) ?_
    refine TA_frz1 3 (E' := [(0, (.b 0 0)), (3, (.b 1 0)), (4, (.b 2 0)), (5, (.b 0 0)), (6, (sl tInt ([1, 1, 2, 3, 1, 2, 3, 0, 4] : (List Int)))), (8, (.b 0 0)), (9, (.g (tDatabase.enc d1)))]) rfl rfl (lb rfl) ⟨(.keep rfl), (.keep rfl), (.keep rfl), (.keep rfl), fz1E, (.keep rfl), (.keep rfl), trivial⟩ ?_
    refine TA_st (σ' := [.box [(sl (tI .u8) c0.b), (intA c0.i), (intA c0.h)], .box [(sl tRelation d1.relations), (sl tFact d1.facts)], .box [(intA 0), (intA 0), .n], .dead, .dead]) rfl ?_
    exact tj hj1_1 rfl (w0 4)
  ·rintro _ _
   refine T_ret ?_
   obtain rfl := some_inj H
   exact end_pickX (.cellK rfl agg100 rfl (lb rfl) .nil) rfl [0] (by decide) (lb rfl) rfl (lb rfl) rfl rfl rfl rfl rfl rfl

set_option maxHeartbeats 1000000 in
theorem m_spec_DrawApplyEdits_ok (u : Nat) (code0 : (List Int)) (r : (Database × (List Edit))) (H : m_spec_DrawApplyEdits u code0 = some r) : FnV prg 65 [(sl (tI .u8) code0)] (.t [(.g (tDatabase.enc r.1)), (sl tEdit r.2)]) := by
  unfold m_spec_DrawApplyEdits at H
  refine fnV_of_T Try.func65 rfl rfl (Nat.le_of_ble_eq_true rfl) ?_
  refine te [(0, (sl (tI .u8) code0))] rfl ?_
  refine sr ?_
  refine TO_cons rfl (TOp_alloc zero48 rfl rfl ?_)
  refine pv tb 1 rfl ?_
  refine TO_nil ?_
  refine sr ?_
  obtain ⟨r_1, h_2, H⟩ := bind_inv H
  refine pv tb 1 rfl ?_
  refine TO_cons rfl (TOp_callS [] (call_static ent116 rfl) (by decide) rfl rfl rfl rfl rfl rfl (m_spec_l1New_x u _ _ h_2) rfl rfl ?_)
  refine toe [(0, (sl (tI .u8) code0)), (2, (.b 0 0)), (8, (sl (tI .u8) code0)), (9, (.b 1 0))] rfl ?_
  refine TO_st (σ' := [.box [.n, .n], .box [(sl (tI .u8) r_1.b), (intA r_1.i), (intA r_1.h)]]) rfl ?_
  refine pv tb 1 rfl ?_
  refine TO_nil ?_
  refine sr ?_
  obtain ⟨r_3, h_4, H⟩ := bind_inv H
  refine pv tb 1 rfl ?_
  refine TO_cons rfl (TOp_callS [1] (call_static ent115 rfl) (by decide) rfl rfl rfl rfl rfl rfl (m_spec_l4Any_x u _ _ h_4) rfl rfl ?_)
  refine toe [(2, (.b 0 0)), (4, (.b 1 0)), (10, (.b 1 0)), (11, (.g (tDatabase.enc r_3.1)))] rfl ?_
  refine TO_st (σ' := [.box [.n, .n], .box [(sl (tI .u8) r_3.2.b), (intA r_3.2.i), (intA r_3.2.h)]]) rfl ?_
  refine TO_cons rfl (TOp_alloc zero48 rfl rfl ?_)
  refine TO_cons rfl (TOp_storeB sz48 rfl rfl rfl rfl rfl rfl rfl (by decide) (lb rfl) rfl ?_)
  refine TO_st (σ' := [.box [.n, .n], .box [(sl (tI .u8) r_3.2.b), (intA r_3.2.i), (intA r_3.2.h)], .box [(sl tRelation r_3.1.relations), (sl tFact r_3.1.facts)]]) rfl ?_
  refine TO_nil ?_
  refine sr ?_
  refine TO_cons rfl (TOp_lit (nn := 0) (k := 3) sl90 zero100 rfl rfl rfl rfl (by decide) ?_)
  refine TO_st (σ' := [.box [.n, .n], .box [(sl (tI .u8) r_3.2.b), (intA r_3.2.i), (intA r_3.2.h)], .box [(sl tRelation r_3.1.relations), (sl tFact r_3.1.facts)], .row (flat tEdit.enc ([] : (List Edit)))]) rfl ?_
  refine pv tb 1 rfl ?_
  refine TO_nil ?_
  refine T_seq ?_
  refine sr ?_
  obtain ⟨r_5, h_6, H⟩ := bind_inv H
  refine pv tb 1 rfl ?_
  refine TO_cons rfl (TOp_callS [1] (call_static ent121 rfl) (by decide) rfl rfl rfl rfl rfl rfl (m_spec_l1Below_x _ _ _ h_6) rfl rfl ?_)
  refine toe [(2, (.b 0 0)), (4, (.b 1 0)), (5, (.b 2 0)), (6, (.m [3] 0 ([] : (List Edit)).length tEdit.k)), (13, (.b 1 0)), (14, (intA r_5.1))] rfl ?_
  refine TO_st (σ' := [.box [.n, .n], .box [(sl (tI .u8) r_5.2.b), (intA r_5.2.i), (intA r_5.2.h)], .box [(sl tRelation r_3.1.relations), (sl tFact r_3.1.facts)], .row (flat tEdit.enc ([] : (List Edit)))]) rfl ?_
  refine pv tb 1 rfl ?_
  refine TO_nil ?_
  obtain ⟨O7_, L7_, N7_⟩ := bind_inv H
  clear H
  obtain ⟨B7_, hb7, L7_⟩ := gen_whileF L7_
  refine T_block ?_
  refine T_loopX (fun k => fun (⟨l6, n7, box1⟩ : (List Edit) × Int × l1Cur) => whileF B7_ k (l6, n7, box1) = some O7_) (fun (⟨l6, n7, box1⟩ : (List Edit) × Int × l1Cur) => [(2, (.b 0 0)), (4, (.b 1 0)), (5, (.b 2 0)), (6, (.m [3] 0 l6.length tEdit.k)), (7, (intA n7))]) (fun (⟨l6, n7, box1⟩ : (List Edit) × Int × l1Cur) => [.box [.n, .n], .box [(sl (tI .u8) box1.b), (intA box1.i), (intA box1.h)], .box [(sl tRelation r_3.1.relations), (sl tFact r_3.1.facts)], .row (flat tEdit.enc l6)]) u (([] : (List Edit)), r_5.1, r_5.2) (w0 4) L7_ ?_
  rintro _ ⟨l6, n7, box1⟩ L7_
  obtain ⟨k7, rfl, C7_, H, K7_⟩ := while_step L7_
  rw [hb7] at H
  refine T_seq ?_
  refine sr ?_
  refine pv tb 2 rfl ?_
  refine TO_nil ?_
  refine T_cond (t := decide (0 < n7)) rfl (fun c_8 => ?_) (fun c_8 => ?_)
  ·replace H := cond_t c_8 H
   refine T_skip ?_
   refine T_seq ?_
   refine T_block ?_
   refine T_region ?_
   obtain ⟨r_9, h_10, H⟩ := bind_inv H
   refine pv tb 3 rfl ?_
   refine TO_cons rfl (TOp_callS [1] (call_static ent131 rfl) (by decide) rfl rfl rfl rfl rfl rfl (m_spec_l30Edit_x u _ _ _ h_10) rfl rfl ?_)
   refine toe [(2, (.b 0 0)), (4, (.b 1 0)), (5, (.b 2 0)), (6, (.m [3] 0 l6.length tEdit.k)), (7, (intA n7)), (19, (.m [3] 0 l6.length tEdit.k)), (20, (.b 1 0)), (21, (.g (tDatabase.enc r_3.1))), (22, (.g (tEdit.enc r_9.1)))] rfl ?_
   refine TO_st (σ' := [.box [.n, .n], .box [(sl (tI .u8) r_9.2.b), (intA r_9.2.i), (intA r_9.2.h)], .box [(sl tRelation r_3.1.relations), (sl tFact r_3.1.facts)], .row (flat tEdit.enc l6)]) rfl ?_
   refine TO_cons rfl (TOp_lit (nn := 1) (k := 3) sl90 zero100 rfl rfl rfl rfl (by decide) ?_)
   refine TO_st (σ' := [.box [.n, .n], .box [(sl (tI .u8) r_9.2.b), (intA r_9.2.i), (intA r_9.2.h)], .box [(sl tRelation r_3.1.relations), (sl tFact r_3.1.facts)], .row (flat tEdit.enc l6), .row (flat tEdit.enc ([r_9.1] : (List Edit)))]) rfl ?_
   obtain ⟨us_11, h_12, H⟩ := bind_inv H
   refine TO_cons rfl (TOp_appZ (T := tEdit) (f := tEdit.enc) (xs := l6) (ys := ([r_9.1] : (List Edit))) tEdit.len sl90 zero100 rfl bytes100 (by decide) rfl rfl rfl rfl (src_mT (f := tEdit.enc) tEdit.len rfl rfl (flat_cell tEdit _)) (flat_cell tEdit _) h_12 (lb rfl) ?_)
   refine toe [(2, (.b 0 0)), (4, (.b 1 0)), (5, (.b 2 0)), (7, (intA n7)), (20, (.b 1 0)), (21, (.g (tDatabase.enc r_3.1))), (22, (.g (tEdit.enc r_9.1))), (23, (.m [4] 0 ([r_9.1] : (List Edit)).length tEdit.k)), (24, (.m [3] 0 us_11.length tEdit.k))] rfl ?_
   refine TO_st (σ' := [.box [.n, .n], .box [(sl (tI .u8) r_9.2.b), (intA r_9.2.i), (intA r_9.2.h)], .box [(sl tRelation r_3.1.relations), (sl tFact r_3.1.facts)], .row (flat tEdit.enc us_11), .row (flat tEdit.enc ([r_9.1] : (List Edit))), .dead]) rfl ?_
   refine pv tb 1 rfl ?_
   refine TO_nil ?_
   refine T_region ?_
   refine pv tb 3 rfl ?_
   refine TO_nil ?_
   obtain rfl := some_inj H
   exact again k7 (us_11, (w64 (n7 - 1)), r_9.2) (Nat.lt_succ_self _) (w0 4) K7_
  ·replace H := cond_f c_8 H
   refine T_exit ?_
   refine then_exit ?_
   refine then_exit ?_
   refine block_exit ?_
   obtain rfl := some_inj H
   obtain rfl := some_inj K7_
   replace H := onS_l N7_
   refine sr ?_
   refine pv tb 2 rfl ?_
   refine TO_cons rfl (TOp_storeB sz48 rfl rfl rfl rfl rfl rfl rfl (by decide) (lb rfl) rfl ?_)
   refine TO_st (σ' := [.box [(sl tRelation r_3.1.relations), (sl tFact r_3.1.facts)], .box [(sl (tI .u8) box1.b), (intA box1.i), (intA box1.h)], .box [(sl tRelation r_3.1.relations), (sl tFact r_3.1.facts)], .row (flat tEdit.enc l6)]) rfl ?_
   refine pv tb 1 rfl ?_
   refine TO_nil ?_
   refine T_frz1 3 (E' := [(2, (.b 0 0)), (3, (sl tEdit l6))]) rfl rfl (lb rfl) ⟨(.keep rfl), fz1E, trivial⟩ ?_
   refine T_st (σ' := [.box [(sl tRelation r_3.1.relations), (sl tFact r_3.1.facts)], .box [(sl (tI .u8) box1.b), (intA box1.i), (intA box1.h)], .box [(sl tRelation r_3.1.relations), (sl tFact r_3.1.facts)], .dead]) rfl ?_
   refine T_ret ?_
   obtain rfl := some_inj H
   refine end_ret (.cellK rfl agg48 rfl (lb rfl) (.tmp .nil)) rfl rfl ⟨?_, rfl⟩
   rfl

set_option maxHeartbeats 1000000 in
theorem m_slices_IndexFunc_Simpl_Fact_impl_Fact_ok (s0 : (List Fact)) (f1 : (Fact → Option Bool)) (f1_g : Nat) (f1_c : List A) (f1_E : EnT prg f1_g) (f1_l : looseL f1_c = true) (f1_m : firmL f1_c = true ∧ fzL f1_c = f1_c) (f1_H : ∀ (x0 : Fact) r, f1 x0 = some r → FnV prg f1_g ([(.g (tFact.enc x0))] ++ f1_c) (boolA r)) (r : Int) (H : m_slices_IndexFunc_Simpl_Fact_impl_Fact s0 f1 = some r) : FnV prg 158 [(sl tFact s0), (.f f1_g f1_c)] (intA r) := by
  unfold m_slices_IndexFunc_Simpl_Fact_impl_Fact at H
  refine fnV_of_T Try.func158 rfl rfl (Nat.le_of_ble_eq_true rfl) ?_
  refine te [(0, (sl tFact s0)), (1, (.f f1_g f1_c))] rfl ?_
  refine sr ?_
  refine pv tb 1 rfl ?_
  refine TO_nil ?_
  refine T_seq ?_
  refine sr ?_
  refine pv tb 1 rfl ?_
  refine Tp rfl rfl (pur_lenT (T := tFact) sl46 rfl rfl) rfl ?_
  refine pv tb 1 rfl ?_
  refine TO_nil ?_
  obtain ⟨O2_, L2_, N2_⟩ := bind_inv H
  clear H
  obtain ⟨B2_, hb2, L2_⟩ := gen_forL L2_
  refine T_block ?_
  refine T_loopX (fun k => fun (t_1 : Nat) => k = s0.length - t_1 ∧ forL B2_ (s0.drop t_1) (t_1 : Int) () = some O2_) (fun (t_1 : Nat) => [(0, (sl tFact s0)), (1, (.f f1_g f1_c)), (7, (intA (s0.length : Int))), (8, (intA (t_1 : Int)))]) (fun (t_1 : Nat) => []) _ (0 : Nat) (wp 0 (lb rfl) rfl rfl (by simp only [namesE, A.names, namesL_enc, Bool.false_or, Bool.or_false, looseL_names f1_l]) rfl rfl) ⟨rfl, L2_⟩ ?_
  rintro _ t_1 ⟨rfl, L2_⟩
  refine T_fact (len_sl (T := tFact) (.tmp 0) rfl) (fun hl2 => ?_)
  refine sr ?_
  refine pv tb 1 rfl ?_
  refine TO_nil ?_
  refine T_seq ?_
  refine T_cond (t := decide ((t_1 : Int) < (s0.length : Int))) rfl (fun d2 => ?_) (fun d2 => ?_)
  ·replace d2 := of_decide_eq_true d2
   obtain ⟨x_t_1, hx_t_1⟩ : ∃ v, (s0)[t_1]? = some v := ⟨_, List.getElem?_eq_getElem (by omega)⟩
   obtain ⟨C2_, H, K2_⟩ := forL_step L2_ hx_t_1
   rw [hb2] at H
   refine T_skip ?_
   refine T_seq ?_
   refine T_block ?_
   refine sr ?_
   refine pv tb 2 rfl ?_
   refine TO_nil ?_
   refine sr ?_
   refine pv tb 3 rfl ?_
   refine Tp rfl rfl (pur_ixT (T := tFact) sl46 rfl rfl rfl hx_t_1 rfl) rfl ?_
   refine Tp rfl rfl (pur_ldTK (T := tFact) (i := t_1) (off := 0) rfl agg65 rfl rfl hx_t_1 (by decide) rfl) rfl ?_
   obtain ⟨r_3, h_4, H⟩ := bind_inv H
   refine TO_cons rfl (TOp_callV (call_closure f1_E rfl rfl) (f1_H _  _ h_4) (looseL_app rfl f1_l) rfl rfl ?_)
   refine TO_nil ?_
   refine T_cond (t := r_3) rfl (fun c_5 => ?_) (fun c_5 => ?_)
   ·replace H := cond_t c_5 H
    refine sr ?_
    refine pv tb 2 rfl ?_
    refine TO_nil ?_
    refine T_ret ?_
    refine block_ret ?_
    refine then_ret ?_
    refine then_ret ?_
    refine block_ret ?_
    refine then_ret ?_
    obtain rfl := some_inj H
    obtain rfl := some_inj K2_
    replace H := onS_r N2_
    obtain rfl := some_inj H
    refine end_ret (.tmp .nil) rfl rfl ⟨?_, rfl⟩
    rfl
   ·replace H := cond_f c_5 H
    refine T_skip ?_
    refine T_region ?_
    refine Tp rfl rfl (pur_add rfl rfl rfl (fits64 (by omega) (by omega))) rfl ?_
    refine pv tb 1 rfl ?_
    refine TO_nil ?_
    obtain rfl := some_inj H
    exact again (s0.length - (t_1 + 1)) (t_1 + 1) (by omega) (wp 0 (lb rfl) rfl rfl (by simp only [namesE, A.names, namesL_enc, Bool.false_or, Bool.or_false, looseL_names f1_l]) rfl rfl) ⟨rfl, K2_⟩
  ·replace d2 := of_decide_eq_false d2
   obtain rfl := forL_end L2_ (by omega)
   refine T_exit ?_
   refine then_exit ?_
   refine then_exit ?_
   refine block_exit ?_
   replace H := onS_l N2_
   refine sr ?_
   refine pv tb 1 rfl ?_
   refine TO_nil ?_
   refine T_ret ?_
   obtain rfl := some_inj H
   refine end_ret (.tmp .nil) rfl rfl ⟨?_, rfl⟩
   rfl

set_option maxHeartbeats 1000000 in
theorem m_impl_compare_ok (a0 : Int) (b1 : Int) (r : Int) (H : m_impl_compare a0 b1 = some r) : FnV prg 175 [(intA a0), (intA b1)] (intA r) := by
  unfold m_impl_compare at H
  refine fnV_of_T Try.func175 rfl rfl (Nat.le_of_ble_eq_true rfl) ?_
  refine te [(0, (intA a0)), (1, (intA b1))] rfl ?_
  refine sr ?_
  refine pv tb 1 rfl ?_
  refine TO_nil ?_
  refine T_seq ?_
  refine T_block ?_
  refine sr ?_
  refine pv tb 4 rfl ?_
  refine TO_nil ?_
  refine T_cond (t := decide (a0 < b1)) rfl (fun c_1 => ?_) (fun c_1 => ?_)
  ·replace H := cond_t c_1 H
   refine sr ?_
   refine pv tb 1 rfl ?_
   refine TO_nil ?_
   refine T_ret ?_
   refine block_ret ?_
   refine then_ret ?_
   obtain rfl := some_inj H
   refine end_ret (.tmp .nil) rfl rfl ⟨?_, rfl⟩
   rfl
  ·replace H := cond_f c_1 H
   refine sr ?_
   refine pv tb 4 rfl ?_
   refine TO_nil ?_
   refine T_cond (t := decide (b1 < a0)) rfl (fun c_2 => ?_) (fun c_2 => ?_)
   ·replace H := cond_t c_2 H
    refine sr ?_
    refine pv tb 1 rfl ?_
    refine TO_nil ?_
    refine T_ret ?_
    refine block_ret ?_
    refine then_ret ?_
    obtain rfl := some_inj H
    refine end_ret (.tmp .nil) rfl rfl ⟨?_, rfl⟩
    rfl
   ·replace H := cond_f c_2 H
    refine T_skip ?_
    refine sr ?_
    refine pv tb 1 rfl ?_
    refine TO_nil ?_
    refine T_ret ?_
    obtain rfl := some_inj H
    refine end_ret (.tmp .nil) rfl rfl ⟨?_, rfl⟩
    rfl

set_option maxHeartbeats 1000000 in
theorem m_cmp_isNaN_int_ok (x0 : Int) (r : Bool) (H : m_cmp_isNaN_int x0 = some r) : FnV prg 191 [(intA x0)] (boolA r) := by
  unfold m_cmp_isNaN_int at H
  refine fnV_of_T Try.func191 rfl rfl (Nat.le_of_ble_eq_true rfl) ?_
  refine te [(0, (intA x0))] rfl ?_
  refine sr ?_
  refine pv tb 1 rfl ?_
  refine TO_nil ?_
  refine sr ?_
  refine pv tb 4 rfl ?_
  refine TO_nil ?_
  refine T_ret ?_
  obtain rfl := some_inj H
  refine end_ret (.tmp .nil) rfl rfl ⟨?_, rfl⟩
  rfl

set_option maxHeartbeats 1000000 in
theorem m_cmp_Compare_int_ok (x0 : Int) (y1 : Int) (r : Int) (H : m_cmp_Compare_int x0 y1 = some r) : FnV prg 187 [(intA x0), (intA y1)] (intA r) := by
  unfold m_cmp_Compare_int at H
  refine fnV_of_T Try.func187 rfl rfl (Nat.le_of_ble_eq_true rfl) ?_
  refine te [(0, (intA x0)), (1, (intA y1))] rfl ?_
  refine sr ?_
  refine pv tb 1 rfl ?_
  refine TO_nil ?_
  refine sr ?_
  obtain ⟨r_1, h_2, H⟩ := bind_inv H
  refine pv tb 1 rfl ?_
  refine TO_cons rfl (TOp_callV (call_static ent191 rfl) (m_cmp_isNaN_int_ok _ _ h_2) rfl rfl rfl ?_)
  refine pv tb 1 rfl ?_
  refine TO_nil ?_
  refine sr ?_
  obtain ⟨r_3, h_4, H⟩ := bind_inv H
  refine pv tb 1 rfl ?_
  refine TO_cons rfl (TOp_callV (call_static ent191 rfl) (m_cmp_isNaN_int_ok _ _ h_4) rfl rfl rfl ?_)
  refine pv tb 1 rfl ?_
  refine TO_nil ?_
  refine T_seq ?_
  refine sr ?_
  refine pv tb 1 rfl ?_
  refine TO_nil ?_
  refine T_cond (t := r_1) rfl (fun c_5 => ?_) (fun c_5 => ?_)
  ·replace H := cond_t c_5 H
   refine T_seq ?_
   refine sr ?_
   refine pv tb 1 rfl ?_
   refine TO_nil ?_
   refine T_cond (t := r_3) rfl (fun c_6 => ?_) (fun c_6 => ?_)
   ·replace H := cond_t c_6 H
    refine sr ?_
    refine pv tb 1 rfl ?_
    refine TO_nil ?_
    refine T_ret ?_
    refine then_ret ?_
    refine then_ret ?_
    obtain rfl := some_inj H
    refine end_ret (.tmp .nil) rfl rfl ⟨?_, rfl⟩
    rfl
   ·replace H := cond_f c_6 H
    refine T_skip ?_
    refine sr ?_
    refine pv tb 1 rfl ?_
    refine TO_nil ?_
    refine T_ret ?_
    refine then_ret ?_
    obtain rfl := some_inj H
    refine end_ret (.tmp .nil) rfl rfl ⟨?_, rfl⟩
    rfl
  ·replace H := cond_f c_5 H
   refine T_skip ?_
   refine T_seq ?_
   refine sr ?_
   refine pv tb 1 rfl ?_
   refine TO_nil ?_
   refine T_cond (t := r_3) rfl (fun c_7 => ?_) (fun c_7 => ?_)
   ·replace H := cond_t c_7 H
    refine sr ?_
    refine pv tb 1 rfl ?_
    refine TO_nil ?_
    refine T_ret ?_
    refine then_ret ?_
    obtain rfl := some_inj H
    refine end_ret (.tmp .nil) rfl rfl ⟨?_, rfl⟩
    rfl
   ·replace H := cond_f c_7 H
    refine T_skip ?_
    refine T_seq ?_
    refine sr ?_
    refine pv tb 3 rfl ?_
    refine TO_nil ?_
    refine T_cond (t := decide (x0 < y1)) rfl (fun c_8 => ?_) (fun c_8 => ?_)
    ·replace H := cond_t c_8 H
     refine sr ?_
     refine pv tb 1 rfl ?_
     refine TO_nil ?_
     refine T_ret ?_
     refine then_ret ?_
     obtain rfl := some_inj H
     refine end_ret (.tmp .nil) rfl rfl ⟨?_, rfl⟩
     rfl
    ·replace H := cond_f c_8 H
     refine T_skip ?_
     refine T_seq ?_
     refine sr ?_
     refine pv tb 3 rfl ?_
     refine TO_nil ?_
     refine te [(19, (boolA (decide (y1 < x0))))] rfl ?_
     refine T_cond (t := decide (y1 < x0)) rfl (fun c_9 => ?_) (fun c_9 => ?_)
     ·replace H := cond_t c_9 H
      refine sr ?_
      refine pv tb 1 rfl ?_
      refine TO_nil ?_
      refine T_ret ?_
      refine then_ret ?_
      obtain rfl := some_inj H
      refine end_ret (.tmp .nil) rfl rfl ⟨?_, rfl⟩
      rfl
     ·replace H := cond_f c_9 H
      refine T_skip ?_
      refine sr ?_
      refine pv tb 1 rfl ?_
      refine TO_nil ?_
      refine T_ret ?_
      obtain rfl := some_inj H
      refine end_ret (.tmp .nil) rfl rfl ⟨?_, rfl⟩
      rfl

set_option maxHeartbeats 1000000 in
theorem m_slices_Compare_Sint_int_ok (s10 : (List Int)) (s21 : (List Int)) (r : Int) (H : m_slices_Compare_Sint_int s10 s21 = some r) : FnV prg 176 [(sl tInt s10), (sl tInt s21)] (intA r) := by
  unfold m_slices_Compare_Sint_int at H
  refine fnV_of_T Try.func176 rfl rfl (Nat.le_of_ble_eq_true rfl) ?_
  refine te [(0, (sl tInt s10)), (1, (sl tInt s21))] rfl ?_
  refine sr ?_
  refine pv tb 1 rfl ?_
  refine TO_nil ?_
  refine T_seq ?_
  refine sr ?_
  refine pv tb 1 rfl ?_
  refine Tp rfl rfl (pur_lenT (T := tInt) sl23 rfl rfl) rfl ?_
  refine pv tb 1 rfl ?_
  refine TO_nil ?_
  obtain ⟨O2_, L2_, N2_⟩ := bind_inv H
  clear H
  obtain ⟨B2_, hb2, L2_⟩ := gen_forL L2_
  refine T_block ?_
  refine T_loopX (fun k => fun (t_1 : Nat) => k = s10.length - t_1 ∧ forL B2_ (s10.drop t_1) (t_1 : Int) () = some O2_) (fun (t_1 : Nat) => [(0, (sl tInt s10)), (1, (sl tInt s21)), (9, (sl tInt s10)), (10, (intA (s10.length : Int))), (11, (intA (t_1 : Int)))]) (fun (t_1 : Nat) => []) _ (0 : Nat) (w0 0) ⟨rfl, L2_⟩ ?_
  rintro _ t_1 ⟨rfl, L2_⟩
  refine T_fact (len_sl (T := tInt) (.tmp 0) rfl) (fun hl2 => ?_)
  refine sr ?_
  refine pv tb 1 rfl ?_
  refine TO_nil ?_
  refine T_seq ?_
  refine T_cond (t := decide ((t_1 : Int) < (s10.length : Int))) rfl (fun d2 => ?_) (fun d2 => ?_)
  ·replace d2 := of_decide_eq_true d2
   obtain ⟨x_t_1, hx_t_1⟩ : ∃ v, (s10)[t_1]? = some v := ⟨_, List.getElem?_eq_getElem (by omega)⟩
   obtain ⟨C2_, H, K2_⟩ := forL_step L2_ hx_t_1
   rw [hb2] at H
   refine T_skip ?_
   refine T_seq ?_
   refine T_block ?_
   refine sr ?_
   refine pv tb 1 rfl ?_
   refine Tp rfl rfl (pur_ixT (T := tInt) sl23 rfl rfl rfl hx_t_1 rfl) rfl ?_
   refine Tp rfl rfl (pur_ldT (T := tInt) (i := t_1) (off := 0) rfl one3 rfl rfl hx_t_1 rfl) rfl ?_
   refine pv tb 2 rfl ?_
   refine TO_nil ?_
   refine T_seq ?_
   refine sr ?_
   refine pv tb 2 rfl ?_
   refine Tp rfl rfl (pur_lenT (T := tInt) sl23 rfl rfl) rfl ?_
   refine pv tb 1 rfl ?_
   refine TO_nil ?_
   refine T_cond (t := decide ((s21.length : Int) ≤ (t_1 : Int))) rfl (fun c_3 => ?_) (fun c_3 => ?_)
   ·replace H := cond_t c_3 H
    refine sr ?_
    refine pv tb 1 rfl ?_
    refine TO_nil ?_
    refine te [(4, (intA 1))] rfl ?_
    refine T_ret ?_
    refine then_ret ?_
    refine block_ret ?_
    refine then_ret ?_
    refine then_ret ?_
    refine block_ret ?_
    refine then_ret ?_
    obtain rfl := some_inj H
    obtain rfl := some_inj K2_
    replace H := onS_r N2_
    obtain rfl := some_inj H
    refine end_ret (.tmp .nil) rfl rfl ⟨?_, rfl⟩
    rfl
   ·replace H := cond_f c_3 H
    refine T_skip ?_
    refine sr ?_
    obtain ⟨v_4, h_5, H⟩ := bind_inv H
    obtain ⟨n_6, hz_7, hv_8⟩ := getI_inv h_5
    refine pv tb 2 rfl ?_
    refine Tp rfl rfl (pur_ixT (T := tInt) sl23 rfl rfl hz_7 hv_8 rfl) rfl ?_
    refine Tp rfl rfl (pur_ldT (T := tInt) (i := n_6) (off := 0) rfl one3 rfl rfl hv_8 rfl) rfl ?_
    refine pv tb 1 rfl ?_
    refine TO_nil ?_
    refine sr ?_
    obtain ⟨r_9, h_10, H⟩ := bind_inv H
    refine pv tb 2 rfl ?_
    refine TO_cons rfl (TOp_callV (call_static ent187 rfl) (m_cmp_Compare_int_ok _ _ _ h_10) rfl rfl rfl ?_)
    refine pv tb 1 rfl ?_
    refine TO_nil ?_
    refine te [(0, (sl tInt s10)), (1, (sl tInt s21)), (8, (intA r_9)), (9, (sl tInt s10)), (10, (intA (s10.length : Int))), (11, (intA (t_1 : Int)))] rfl ?_
    refine sr ?_
    refine pv tb 2 rfl ?_
    refine TO_nil ?_
    refine T_cond (t := decide (r_9 ≠ 0)) rfl (fun c_11 => ?_) (fun c_11 => ?_)
    ·replace H := cond_t c_11 H
     refine sr ?_
     refine pv tb 2 rfl ?_
     refine TO_nil ?_
     refine T_ret ?_
     refine block_ret ?_
     refine then_ret ?_
     refine then_ret ?_
     refine block_ret ?_
     refine then_ret ?_
     obtain rfl := some_inj H
     obtain rfl := some_inj K2_
     replace H := onS_r N2_
     obtain rfl := some_inj H
     refine end_ret (.tmp .nil) rfl rfl ⟨?_, rfl⟩
     rfl
    ·replace H := cond_f c_11 H
     refine T_skip ?_
     refine T_region ?_
     refine Tp rfl rfl (pur_add rfl rfl rfl (fits64 (by omega) (by omega))) rfl ?_
     refine pv tb 1 rfl ?_
     refine TO_nil ?_
     obtain rfl := some_inj H
     exact again (s10.length - (t_1 + 1)) (t_1 + 1) (by omega) (w0 0) ⟨rfl, K2_⟩
  ·replace d2 := of_decide_eq_false d2
   obtain rfl := forL_end L2_ (by omega)
   refine T_exit ?_
   refine then_exit ?_
   refine then_exit ?_
   refine block_exit ?_
   replace H := onS_l N2_
   refine T_seq ?_
   refine sr ?_
   refine pv tb 1 rfl ?_
   refine Tp rfl rfl (pur_lenT (T := tInt) sl23 rfl rfl) rfl ?_
   refine pv tb 1 rfl ?_
   refine Tp rfl rfl (pur_lenT (T := tInt) sl23 rfl rfl) rfl ?_
   refine pv tb 1 rfl ?_
   refine TO_nil ?_
   refine T_cond (t := decide ((s10.length : Int) < (s21.length : Int))) rfl (fun c_12 => ?_) (fun c_12 => ?_)
   ·replace H := cond_t c_12 H
    refine sr ?_
    refine pv tb 1 rfl ?_
    refine TO_nil ?_
    refine T_ret ?_
    refine then_ret ?_
    obtain rfl := some_inj H
    refine end_ret (.tmp .nil) rfl rfl ⟨?_, rfl⟩
    rfl
   ·replace H := cond_f c_12 H
    refine T_skip ?_
    refine sr ?_
    refine pv tb 1 rfl ?_
    refine TO_nil ?_
    refine T_ret ?_
    obtain rfl := some_inj H
    refine end_ret (.tmp .nil) rfl rfl ⟨?_, rfl⟩
    rfl

set_option maxHeartbeats 1000000 in
theorem m_impl_CompareFacts_ok (a0 : Fact) (b1 : Fact) (r : Int) (H : m_impl_CompareFacts a0 b1 = some r) : FnV prg 152 [(.g (tFact.enc a0)), (.g (tFact.enc b1))] (intA r) := by
  unfold m_impl_CompareFacts at H
  refine fnV_of_T Try.func152 rfl rfl (Nat.le_of_ble_eq_true rfl) ?_
  refine te [(0, (.g (tFact.enc a0))), (1, (.g (tFact.enc b1)))] rfl ?_
  refine sr ?_
  refine TO_cons rfl (TOp_box rfl (boxAll rfl) rfl rfl ?_)
  refine TO_cons rfl (TOp_box rfl (boxAll rfl) rfl rfl ?_)
  refine pv tb 1 rfl ?_
  refine TO_nil ?_
  refine T_seq ?_
  refine sr ?_
  refine pv tb 5 rfl ?_
  refine TO_nil ?_
  refine T_cond (t := decide (a0.relation ≠ b1.relation)) rfl (fun c_1 => ?_) (fun c_1 => ?_)
  ·replace H := cond_t c_1 H
   refine sr ?_
   obtain ⟨r_2, h_3, H⟩ := bind_inv H
   refine pv tb 4 rfl ?_
   refine TO_cons rfl (TOp_callV (call_static ent175 rfl) (m_impl_compare_ok _ _ _ h_3) rfl rfl rfl ?_)
   refine pv tb 1 rfl ?_
   refine TO_nil ?_
   refine te [(4, (intA r_2))] rfl ?_
   refine T_ret ?_
   refine then_ret ?_
   obtain rfl := some_inj H
   refine end_ret (.tmp .nil) rfl rfl ⟨?_, rfl⟩
   rfl
  ·replace H := cond_f c_1 H
   refine T_skip ?_
   refine sr ?_
   obtain ⟨r_4, h_5, H⟩ := bind_inv H
   refine pv tb 4 rfl ?_
   refine TO_cons rfl (TOp_callV (call_static ent176 rfl) (m_slices_Compare_Sint_int_ok _ _ _ h_5) rfl rfl rfl ?_)
   refine pv tb 1 rfl ?_
   refine TO_nil ?_
   refine te [(4, (intA r_4))] rfl ?_
   refine T_ret ?_
   obtain rfl := some_inj H
   refine end_ret (.tmp .nil) rfl rfl ⟨?_, rfl⟩
   rfl

set_option maxHeartbeats 1000000 in
theorem m_impl_FactIndex_1_ok (own0 : Fact) (fv1 : Fact) (r : Bool) (H : m_impl_FactIndex_1 own0 fv1 = some r) : FnV prg 159 [(.g (tFact.enc own0)), (.q [(intA fv1.relation), (sl tInt fv1.values)] 0)] (boolA r) := by
  unfold m_impl_FactIndex_1 at H
  refine fnV_of_T Try.func159 rfl rfl (Nat.le_of_ble_eq_true rfl) ?_
  refine te [(0, (.g (tFact.enc own0))), (1, (.q [(intA fv1.relation), (sl tInt fv1.values)] 0))] rfl ?_
  refine sr ?_
  refine TO_cons rfl (TOp_box rfl (boxAll rfl) rfl rfl ?_)
  refine pv tb 1 rfl ?_
  refine TO_nil ?_
  refine sr ?_
  obtain ⟨r_1, h_2, H⟩ := bind_inv H
  refine pv tb 2 rfl ?_
  refine TO_cons rfl (TOp_callV (call_static ent152 rfl) (m_impl_CompareFacts_ok _ _ _ h_2) rfl rfl rfl ?_)
  refine pv tb 2 rfl ?_
  refine TO_nil ?_
  refine T_ret ?_
  obtain rfl := some_inj H
  refine end_ret (.tmp .nil) rfl rfl ⟨?_, rfl⟩
  rfl
end Go.Proofs.Ytjdpolnakhmkmaa

/- Walks. -/
import Derived.Test.YtlcpdlngbofgcaaM1
import Derived.Test.YtlcpdlngbofgcaaM2
set_option linter.unusedVariables false
set_option linter.unusedSimpArgs false
set_option maxRecDepth 4000
namespace Go.Proofs.Ytlcpdlngbofgcaa
open Go Go.Proofs Go.Sep
set_option maxHeartbeats 1000000 in
/-- spec.l4Copy -/
theorem m_spec_l4Copy_own (u : Nat) (d0 : Database) (r : Database) (H : m_spec_l4Copy u d0 = some r) : FnO prg 147 [(.g (tDatabase.enc d0))] (.g [(.m [0] 0 r.relations.length tRelation.k), (.m [1] 0 r.facts.length tFact.k)]) [.row (flat tRelation.enc r.relations), .row (flat tFact.enc r.facts)] := by
  unfold m_spec_l4Copy at H
  refine fnO_of_T Try.func147 rfl rfl (Nat.le_of_ble_eq_true rfl) ?_
  refine te [(0, (.g (tDatabase.enc d0)))] rfl ?_
  refine sr ?_
  refine TO_cons rfl (TOp_box rfl (boxAll rfl) rfl rfl ?_)
  refine TO_cons rfl (TOp_alloc zero32 rfl rfl ?_)
  refine TO_nil ?_
  refine te [(1, (.b 0 0)), (2, (.b 1 0))] rfl ?_
  refine sr ?_
  refine TO_cons rfl (TOp_lit (nn := 0) (k := 3) sl29 zero97 rfl rfl rfl rfl (by decide) ?_)
  refine TO_st (σ' := [.box [(sl tRelation d0.relations), (sl tFact d0.facts)], .box [.n, .n], .row (flat tRelation.enc ([] : (List Relation)))]) rfl ?_
  refine Tp rfl rfl (pur_fa_b fld32_0 rfl rfl) rfl ?_
  refine Tp rfl rfl (pur_ld_b one29 rfl rfl rfl rfl) rfl ?_
  obtain ⟨us_1, h_2, H⟩ := bind_inv H
  refine TO_cons rfl (TOp_appZ (T := tRelation) (f := tRelation.enc) (xs := ([] : (List Relation))) (ys := d0.relations) tRelation.len sl29 zero97 rfl bytes97 (by decide) rfl rfl rfl rfl (src_T (T := tRelation) rfl) (flat_cell tRelation _) h_2 (lb rfl) ?_)
  refine toe [(1, (.b 0 0)), (2, (.b 1 0)), (6, (.b 0 0)), (7, (sl tRelation d0.relations)), (8, (.m [2] 0 us_1.length tRelation.k))] rfl ?_
  refine TO_st (σ' := [.box [(sl tRelation d0.relations), (sl tFact d0.facts)], .box [.n, .n], .row (flat tRelation.enc us_1), .dead]) rfl ?_
  refine Tp rfl rfl (pur_build bld32 rfl rfl) rfl ?_
  refine TO_cons rfl (TOp_alloc zero32 rfl rfl ?_)
  refine TO_cons rfl (TOp_storeB sz32 rfl rfl rfl rfl rfl rfl rfl (by decide) (lb rfl) rfl ?_)
  refine TO_st (σ' := [.box [(sl tRelation d0.relations), (sl tFact d0.facts)], .box [.n, .n], .row (flat tRelation.enc us_1), .dead, .box [(.m [2] 0 us_1.length tRelation.k), .n]]) rfl ?_
  refine TO_nil ?_
  refine te [(1, (.b 0 0)), (2, (.b 1 0)), (3, (.b 4 0))] rfl ?_
  refine T_seq ?_
  refine sr ?_
  refine Tp rfl rfl (pur_assign rfl) rfl ?_
  refine TO_nil ?_
  refine te [(1, (.b 0 0)), (2, (.b 1 0)), (3, (.b 4 0)), (4, (intA 0))] rfl ?_
  refine T_row0 ?_
  refine T_boxle (xs := [(.m [2] 0 us_1.length tRelation.k), .n]) (ys := [(.m [2] 0 us_1.length tRelation.k), (.m [5] 0 ([] : (List Fact)).length tFact.k)]) 4 rfl (leCons (leR rfl) (leCons leM leNil)) ?_
  refine T_st (σ' := [.box [(sl tRelation d0.relations), (sl tFact d0.facts)], .box [.n, .n], .row (flat tRelation.enc us_1), .dead, .box [(.m [2] 0 us_1.length tRelation.k), (.m [5] 0 ([] : (List Fact)).length tFact.k)], .row (flat tFact.enc ([] : (List Fact)))]) rfl ?_
  obtain ⟨O3_, L3_, N3_⟩ := bind_inv H
  clear H
  obtain ⟨B3_, hb3, L3_⟩ := gen_whileF L3_
  refine T_block ?_
  refine T_loopX (fun k => fun (x_ : Int × (List Fact)) => whileF B3_ k (x_.1, x_.2) = some O3_) (fun (x_ : Int × (List Fact)) => [(1, (.b 0 0)), (2, (.b 1 0)), (3, (.b 4 0)), (4, (intA x_.1))]) (fun (x_ : Int × (List Fact)) => [.box [(sl tRelation d0.relations), (sl tFact d0.facts)], .box [.n, .n], .row (flat tRelation.enc us_1), .dead, .box [(.m [2] 0 us_1.length tRelation.k), (.m [5] 0 x_.2.length tFact.k)], .row (flat tFact.enc x_.2)]) u (0, ([] : (List Fact))) (wp 6 (lb rfl) rfl rfl rfl rfl rfl) L3_ ?_
  rintro _ ⟨i4, box4_facts⟩ L3_
  obtain ⟨k3, rfl, C3_, H, K3_⟩ := while_step L3_
  rw [hb3] at H
  refine te [(1, (.b 0 0)), (2, (.b 1 0)), (3, (.b 4 0)), (4, (intA i4))] rfl ?_
  refine T_st (σ' := [.box [(sl tRelation d0.relations), (sl tFact d0.facts)], .box [.n, .n], .row (flat tRelation.enc us_1), .dead, .box [(.m [2] 0 us_1.length tRelation.k), (.m [5] 0 box4_facts.length tFact.k)], .row (flat tFact.enc box4_facts)]) rfl ?_
  refine T_seq ?_
  refine sr ?_
  refine Tp rfl rfl (pur_move rfl) rfl ?_
  refine Tp rfl rfl (pur_fa_b fld32_1 rfl rfl) rfl ?_
  refine Tp rfl rfl (pur_ld_b one30 rfl rfl rfl rfl) rfl ?_
  refine Tp rfl rfl (pur_lenT (T := tFact) sl30 rfl rfl) rfl ?_
  refine Tp rfl rfl (pur_lss rfl rfl rfl) rfl ?_
  refine TO_nil ?_
  refine te [(1, (.b 0 0)), (2, (.b 1 0)), (3, (.b 4 0)), (4, (intA i4)), (14, (boolA (decide (i4 < (d0.facts.length : Int)))))] rfl ?_
  refine T_cond (t := decide (i4 < (d0.facts.length : Int))) rfl (fun c_4 => ?_) (fun c_4 => ?_)
  ·replace H := cond_t c_4 H
   refine T_skip ?_
   refine te [(1, (.b 0 0)), (2, (.b 1 0)), (3, (.b 4 0)), (4, (intA i4))] rfl ?_
   refine T_seq ?_
   refine T_block ?_
   obtain ⟨v_5, h_6, H⟩ := bind_inv H
   obtain ⟨n_7, hz_8, hv_9⟩ := getI_inv h_6
   obtain ⟨us_10, h_11, H⟩ := bind_inv H
   obtain ⟨us_12, h_13, H⟩ := bind_inv H
   refine T_pad ?_
   refine T_pad ?_
   refine T_regionP mixed ?_
   refine TA_have 3 #[true, true, true, true, true, true, true, true, true, true, true, true, true, true, true, true, true, true, false, false, false] [(1, (.b 0 0)), (2, (.b 1 0)), (3, (.b 4 0)), (4, (intA i4)), (18, (.m [5] 0 box4_facts.length tFact.k)), (34, (.m [7] 0 ([({ relation := v_5.relation, values := us_10 } : Fact)] : (List Fact)).length tFact.k))] [.box [(sl tRelation d0.relations), (sl tFact d0.facts)], .box [.n, .n], .row (flat tRelation.enc us_1), .dead, .box [(.m [2] 0 us_1.length tRelation.k), (.m [5] 0 box4_facts.length tFact.k)], .row (flat tFact.enc box4_facts), .dead, .row (flat tFact.enc ([({ relation := v_5.relation, values := us_10 } : Fact)] : (List Fact)))] ?_ (fun hj0_5 => ?_)
   ·skip
    refine t1 18 (by kernel_rfl) rfl rfl (TOp_appY (T := tFact) (f := tFact.enc) (xs := box4_facts) (ys := ([({ relation := v_5.relation, values := us_10 } : Fact)] : (List Fact))) tFact.len sl30 zero60 rfl bytes60 (by decide) rfl rfl rfl rfl (src_mT (f := tFact.enc) tFact.len rfl rfl (flat_cell tFact _)) (flat_cell tFact _) h_13 ?_)
    refine tmv 5 8 (by decide) (lb rfl) rfl rfl (lb rfl) ?_
    refine tf 19 rfl (purI_fa_b fld32_1 rfl rfl) rfl rfl (by kernel_rfl) ?_
    refine t1 20 (by kernel_rfl) rfl rfl (TOp_storeB sz30 rfl rfl rfl rfl rfl rfl rfl (by decide) (lb rfl) rfl ?_)
    refine TA_st (σ' := [.box [(sl tRelation d0.relations), (sl tFact d0.facts)], .box [.n, .n], .row (flat tRelation.enc us_1), .dead, .box [(.m [2] 0 us_1.length tRelation.k), (.m [5] 0 us_12.length tFact.k)], .row (flat tFact.enc us_12), .dead, .row (flat tFact.enc ([({ relation := v_5.relation, values := us_10 } : Fact)] : (List Fact))), .dead]) rfl ?_
    refine TA_nil (by kernel_rfl) ?_
    refine te [(1, (.b 0 0)), (2, (.b 1 0)), (3, (.b 4 0)), (4, (intA i4))] rfl ?_
    refine T_region ?_
    refine Tp rfl rfl (pur_move rfl) rfl ?_
    refine Tp rfl rfl (pur_wadd rfl rfl rfl) rfl ?_
    refine Tp rfl rfl (pur_assign rfl) rfl ?_
    refine TO_nil ?_
    obtain rfl := some_inj H
    exact again k3 ((w64 (i4 + 1)), us_12) (Nat.lt_succ_self _) (wp 6 (lb rfl) rfl rfl rfl rfl rfl) K3_
   refine TA_have 4 #[true, true, true, true, true, true, true, true, true, true, true, true, true, true, true, true, true, false, false, false, false] [(1, (.b 0 0)), (2, (.b 1 0)), (3, (.b 4 0)), (4, (intA i4)), (18, (.m [5] 0 box4_facts.length tFact.k)), (33, (.g [(intA v_5.relation), (sl tInt us_10)]))] [.box [(sl tRelation d0.relations), (sl tFact d0.facts)], .box [.n, .n], .row (flat tRelation.enc us_1), .dead, .box [(.m [2] 0 us_1.length tRelation.k), (.m [5] 0 box4_facts.length tFact.k)], .row (flat tFact.enc box4_facts), .dead, .dead] ?_ (fun hj1_5 => ?_)
   ·skip
    refine t1 17 (by kernel_rfl) rfl rfl (TOp_lit (nn := 1) (k := 2) sl30 zero60 rfl rfl rfl rfl (by decide) ?_)
    refine tmv 7 8 (by decide) (lb rfl) rfl rfl (lb rfl) ?_
    exact tj hj0_5 rfl (wp 8 (lb rfl) rfl rfl rfl rfl rfl)
   refine TA_have 5 #[true, true, true, true, true, true, true, true, true, true, true, true, true, true, true, true, false, false, false, false, false] [(1, (.b 0 0)), (2, (.b 1 0)), (3, (.b 4 0)), (4, (intA i4)), (18, (.m [5] 0 box4_facts.length tFact.k)), (24, (intA v_5.relation)), (32, (.m [6] 0 us_10.length tInt.k))] [.box [(sl tRelation d0.relations), (sl tFact d0.facts)], .box [.n, .n], .row (flat tRelation.enc us_1), .dead, .box [(.m [2] 0 us_1.length tRelation.k), (.m [5] 0 box4_facts.length tFact.k)], .row (flat tFact.enc box4_facts), .row (flat tInt.enc us_10), .dead] ?_ (fun hj2_5 => ?_)
   ·skip
    refine tf 16 rfl (purI_build bld60 rfl rfl) rfl rfl (by kernel_rfl) ?_
    refine TA_ghost (E' := [(1, (.b 0 0)), (2, (.b 1 0)), (3, (.b 4 0)), (4, (intA i4)), (18, (.m [5] 0 box4_facts.length tFact.k)), (24, (intA v_5.relation)), (32, (.m [6] 0 us_10.length tInt.k)), (33, (.g [(intA v_5.relation), (.m [6] 0 us_10.length tInt.k)]))]) (σ' := [.box [(sl tRelation d0.relations), (sl tFact d0.facts)], .box [.n, .n], .row (flat tRelation.enc us_1), .dead, .box [(.m [2] 0 us_1.length tRelation.k), (.m [5] 0 box4_facts.length tFact.k)], .row (flat tFact.enc box4_facts), .row (flat tInt.enc us_10), .dead]) (Ghost.weak (WeakL.to 8 (lb rfl) rfl rfl rfl rfl ⟨leR rfl, leR rfl, leR rfl, leR rfl, leR rfl, leR rfl, leR rfl, leR rfl, trivial⟩)) ?_
    refine TA_frz1 6 (E' := [(1, (.b 0 0)), (2, (.b 1 0)), (3, (.b 4 0)), (4, (intA i4)), (18, (.m [5] 0 box4_facts.length tFact.k)), (24, (intA v_5.relation)), (32, (sl tInt us_10)), (33, (.g [(intA v_5.relation), (sl tInt us_10)]))]) rfl rfl (lb rfl) ?_ ?_
    ·exact ⟨(.keep rfl), (.keep rfl), (.keep rfl), (.keep rfl), (.keep rfl), (.keep rfl), fz1E, (fz1G (fzC (.keep rfl) (fzC fz1E fzN))), trivial⟩
    refine TA_st (σ' := [.box [(sl tRelation d0.relations), (sl tFact d0.facts)], .box [.n, .n], .row (flat tRelation.enc us_1), .dead, .box [(.m [2] 0 us_1.length tRelation.k), (.m [5] 0 box4_facts.length tFact.k)], .row (flat tFact.enc box4_facts), .dead, .dead]) rfl ?_
    exact tj hj1_5 rfl (wp 8 (lb rfl) rfl rfl rfl rfl rfl)
   refine TA_have 6 #[true, false, true, true, true, true, true, true, true, true, true, true, true, true, true, true, false, false, false, false, false] [(1, (.b 0 0)), (2, (.b 1 0)), (3, (.b 4 0)), (4, (intA i4)), (17, (.b 4 1)), (24, (intA v_5.relation)), (32, (.m [6] 0 us_10.length tInt.k))] [.box [(sl tRelation d0.relations), (sl tFact d0.facts)], .box [.n, .n], .row (flat tRelation.enc us_1), .dead, .box [(.m [2] 0 us_1.length tRelation.k), (.m [5] 0 box4_facts.length tFact.k)], .row (flat tFact.enc box4_facts), .row (flat tInt.enc us_10), .dead] ?_ (fun hj3_5 => ?_)
   ·skip
    refine tf 16 rfl (purI_build bld60 rfl rfl) rfl rfl (by kernel_rfl) ?_
    refine TA_ghost (E' := [(1, (.b 0 0)), (2, (.b 1 0)), (3, (.b 4 0)), (4, (intA i4)), (17, (.b 4 1)), (24, (intA v_5.relation)), (32, (.m [6] 0 us_10.length tInt.k)), (33, (.g [(intA v_5.relation), (.m [6] 0 us_10.length tInt.k)]))]) (σ' := [.box [(sl tRelation d0.relations), (sl tFact d0.facts)], .box [.n, .n], .row (flat tRelation.enc us_1), .dead, .box [(.m [2] 0 us_1.length tRelation.k), (.m [5] 0 box4_facts.length tFact.k)], .row (flat tFact.enc box4_facts), .row (flat tInt.enc us_10), .dead]) (Ghost.weak (WeakL.to 8 (lb rfl) rfl rfl rfl rfl ⟨leR rfl, leR rfl, leR rfl, leR rfl, leR rfl, leR rfl, leR rfl, leR rfl, trivial⟩)) ?_
    refine TA_frz1 6 (E' := [(1, (.b 0 0)), (2, (.b 1 0)), (3, (.b 4 0)), (4, (intA i4)), (17, (.b 4 1)), (24, (intA v_5.relation)), (32, (sl tInt us_10)), (33, (.g [(intA v_5.relation), (sl tInt us_10)]))]) rfl rfl (lb rfl) ?_ ?_
    ·exact ⟨(.keep rfl), (.keep rfl), (.keep rfl), (.keep rfl), (.keep rfl), (.keep rfl), fz1E, (fz1G (fzC (.keep rfl) (fzC fz1E fzN))), trivial⟩
    refine TA_st (σ' := [.box [(sl tRelation d0.relations), (sl tFact d0.facts)], .box [.n, .n], .row (flat tRelation.enc us_1), .dead, .box [(.m [2] 0 us_1.length tRelation.k), (.m [5] 0 box4_facts.length tFact.k)], .row (flat tFact.enc box4_facts), .dead, .dead]) rfl ?_
    refine TA_all [1, 17] (by kernel_rfl) (by decide) ⟨?_, ?_, trivial⟩
    ·skip
     refine ⟨_, rfl, rfl, (TOp_pure (pur_ld_b one30 rfl rfl rfl rfl) rfl ?_)⟩
     exact tj hj1_5 rfl (wp 8 (lb rfl) rfl rfl rfl rfl rfl)
    ·skip
     refine ⟨_, rfl, rfl, (TOp_lit (nn := 1) (k := 2) sl30 zero60 rfl rfl rfl rfl (by decide) ?_)⟩
     refine tmv 7 8 (by decide) (lb rfl) rfl rfl (lb rfl) ?_
     refine t1 1 (by kernel_rfl) rfl rfl (TOp_pure (pur_ld_b one30 rfl rfl rfl rfl) rfl ?_)
     exact tj hj0_5 rfl (wp 8 (lb rfl) rfl rfl rfl rfl rfl)
   refine TA_have 6 #[true, true, true, true, true, true, true, false, true, true, true, true, true, true, true, true, false, false, false, false, false] [(1, (.b 0 0)), (2, (.b 1 0)), (3, (.b 4 0)), (4, (intA i4)), (18, (.m [5] 0 box4_facts.length tFact.k)), (23, (.q (flat tFact.enc d0.facts) (n_7 * tFact.k + 0))), (32, (.m [6] 0 us_10.length tInt.k))] [.box [(sl tRelation d0.relations), (sl tFact d0.facts)], .box [.n, .n], .row (flat tRelation.enc us_1), .dead, .box [(.m [2] 0 us_1.length tRelation.k), (.m [5] 0 box4_facts.length tFact.k)], .row (flat tFact.enc box4_facts), .row (flat tInt.enc us_10), .dead] ?_ (fun hj4_5 => ?_)
   ·skip
    refine t1 7 (by kernel_rfl) rfl rfl (TOp_pure (pur_ldT (T := tFact) (i := n_7) (off := 0) rfl one3 rfl rfl hv_9 rfl) rfl ?_)
    exact tj hj2_5 rfl (wp 8 (lb rfl) rfl rfl rfl rfl rfl)
   refine TA_have 6 #[true, true, true, true, true, true, true, true, true, true, true, true, true, true, true, false, false, false, false, false, false] [(1, (.b 0 0)), (2, (.b 1 0)), (3, (.b 4 0)), (4, (intA i4)), (18, (.m [5] 0 box4_facts.length tFact.k)), (24, (intA v_5.relation)), (25, (.m [6] 0 ([] : (List Int)).length tInt.k)), (31, (sl tInt v_5.values))] [.box [(sl tRelation d0.relations), (sl tFact d0.facts)], .box [.n, .n], .row (flat tRelation.enc us_1), .dead, .box [(.m [2] 0 us_1.length tRelation.k), (.m [5] 0 box4_facts.length tFact.k)], .row (flat tFact.enc box4_facts), .row (flat tInt.enc ([] : (List Int))), .dead] ?_ (fun hj5_5 => ?_)
   ·skip
    refine t1 15 (by kernel_rfl) rfl rfl (TOp_appY (T := tInt) (f := tInt.enc) (xs := ([] : (List Int))) (ys := v_5.values) tInt.len sl33 zero3 rfl bytes3 (by decide) rfl rfl rfl rfl (src_T (T := tInt) rfl) (flat_cell tInt _) h_11 ?_)
    refine tmv 6 8 (by decide) (lb rfl) rfl rfl (lb rfl) ?_
    exact tj hj2_5 rfl (wp 8 (lb rfl) rfl rfl rfl rfl rfl)
   refine TA_have 7 #[true, false, true, true, true, true, true, false, true, true, true, true, true, true, true, true, false, false, false, false, false] [(1, (.b 0 0)), (2, (.b 1 0)), (3, (.b 4 0)), (4, (intA i4)), (17, (.b 4 1)), (23, (.q (flat tFact.enc d0.facts) (n_7 * tFact.k + 0))), (32, (.m [6] 0 us_10.length tInt.k))] [.box [(sl tRelation d0.relations), (sl tFact d0.facts)], .box [.n, .n], .row (flat tRelation.enc us_1), .dead, .box [(.m [2] 0 us_1.length tRelation.k), (.m [5] 0 box4_facts.length tFact.k)], .row (flat tFact.enc box4_facts), .row (flat tInt.enc us_10), .dead] ?_ (fun hj6_5 => ?_)
   ·skip
    refine TA_all [1, 7] (by kernel_rfl) (by decide) ⟨?_, ?_, trivial⟩
    ·skip
     refine ⟨_, rfl, rfl, (TOp_pure (pur_ld_b one30 rfl rfl rfl rfl) rfl ?_)⟩
     exact tj hj4_5 rfl (wp 8 (lb rfl) rfl rfl rfl rfl rfl)
    ·skip
     refine ⟨_, rfl, rfl, (TOp_pure (pur_ldT (T := tFact) (i := n_7) (off := 0) rfl one3 rfl rfl hv_9 rfl) rfl ?_)⟩
     exact tj hj3_5 rfl (wp 8 (lb rfl) rfl rfl rfl rfl rfl)
   refine TA_have 7 #[true, false, true, true, true, true, true, true, true, true, true, true, true, true, true, false, false, false, false, false, false] [(1, (.b 0 0)), (2, (.b 1 0)), (3, (.b 4 0)), (4, (intA i4)), (17, (.b 4 1)), (24, (intA v_5.relation)), (25, (.m [6] 0 ([] : (List Int)).length tInt.k)), (31, (sl tInt v_5.values))] [.box [(sl tRelation d0.relations), (sl tFact d0.facts)], .box [.n, .n], .row (flat tRelation.enc us_1), .dead, .box [(.m [2] 0 us_1.length tRelation.k), (.m [5] 0 box4_facts.length tFact.k)], .row (flat tFact.enc box4_facts), .row (flat tInt.enc ([] : (List Int))), .dead] ?_ (fun hj7_5 => ?_)
   ·skip
    refine TA_all [1, 15] (by kernel_rfl) (by decide) ⟨?_, ?_, trivial⟩
    ·skip
     refine ⟨_, rfl, rfl, (TOp_pure (pur_ld_b one30 rfl rfl rfl rfl) rfl ?_)⟩
     exact tj hj5_5 rfl (wp 8 (lb rfl) rfl rfl rfl rfl rfl)
    ·skip
     refine ⟨_, rfl, rfl, (TOp_appY (T := tInt) (f := tInt.enc) (xs := ([] : (List Int))) (ys := v_5.values) tInt.len sl33 zero3 rfl bytes3 (by decide) rfl rfl rfl rfl (src_T (T := tInt) rfl) (flat_cell tInt _) h_11 ?_)⟩
     refine tmv 6 8 (by decide) (lb rfl) rfl rfl (lb rfl) ?_
     exact tj hj3_5 rfl (wp 8 (lb rfl) rfl rfl rfl rfl rfl)
   refine TA_have 7 #[true, true, true, true, true, true, true, false, true, true, true, true, true, true, true, false, false, false, false, false, false] [(1, (.b 0 0)), (2, (.b 1 0)), (3, (.b 4 0)), (4, (intA i4)), (18, (.m [5] 0 box4_facts.length tFact.k)), (23, (.q (flat tFact.enc d0.facts) (n_7 * tFact.k + 0))), (25, (.m [6] 0 ([] : (List Int)).length tInt.k)), (31, (sl tInt v_5.values))] [.box [(sl tRelation d0.relations), (sl tFact d0.facts)], .box [.n, .n], .row (flat tRelation.enc us_1), .dead, .box [(.m [2] 0 us_1.length tRelation.k), (.m [5] 0 box4_facts.length tFact.k)], .row (flat tFact.enc box4_facts), .row (flat tInt.enc ([] : (List Int))), .dead] ?_ (fun hj8_5 => ?_)
   ·skip
    refine TA_all [7, 15] (by kernel_rfl) (by decide) ⟨?_, ?_, trivial⟩
    ·skip
     refine ⟨_, rfl, rfl, (TOp_pure (pur_ldT (T := tFact) (i := n_7) (off := 0) rfl one3 rfl rfl hv_9 rfl) rfl ?_)⟩
     exact tj hj5_5 rfl (wp 8 (lb rfl) rfl rfl rfl rfl rfl)
    ·skip
     refine ⟨_, rfl, rfl, (TOp_appY (T := tInt) (f := tInt.enc) (xs := ([] : (List Int))) (ys := v_5.values) tInt.len sl33 zero3 rfl bytes3 (by decide) rfl rfl rfl rfl (src_T (T := tInt) rfl) (flat_cell tInt _) h_11 ?_)⟩
     refine tmv 6 8 (by decide) (lb rfl) rfl rfl (lb rfl) ?_
     exact tj hj4_5 rfl (wp 8 (lb rfl) rfl rfl rfl rfl rfl)
   refine TA_have 7 #[true, true, true, true, true, true, true, true, false, true, true, true, true, true, true, false, false, false, false, false, false] [(1, (.b 0 0)), (2, (.b 1 0)), (3, (.b 4 0)), (4, (intA i4)), (18, (.m [5] 0 box4_facts.length tFact.k)), (24, (intA v_5.relation)), (31, (sl tInt v_5.values))] [.box [(sl tRelation d0.relations), (sl tFact d0.facts)], .box [.n, .n], .row (flat tRelation.enc us_1), .dead, .box [(.m [2] 0 us_1.length tRelation.k), (.m [5] 0 box4_facts.length tFact.k)], .row (flat tFact.enc box4_facts), .dead, .dead] ?_ (fun hj9_5 => ?_)
   ·skip
    refine t1 8 (by kernel_rfl) rfl rfl (TOp_lit (nn := 0) (k := 1) sl33 zero3 rfl rfl rfl rfl (by decide) ?_)
    refine tmv 6 8 (by decide) (lb rfl) rfl rfl (lb rfl) ?_
    exact tj hj5_5 rfl (wp 8 (lb rfl) rfl rfl rfl rfl rfl)
   refine TA_have 7 #[true, true, true, true, true, true, true, true, true, true, true, true, true, true, false, false, false, false, false, false, false] [(1, (.b 0 0)), (2, (.b 1 0)), (3, (.b 4 0)), (4, (intA i4)), (18, (.m [5] 0 box4_facts.length tFact.k)), (24, (intA v_5.relation)), (25, (.m [6] 0 ([] : (List Int)).length tInt.k)), (30, (.q (flat tFact.enc d0.facts) (n_7 * tFact.k + 1)))] [.box [(sl tRelation d0.relations), (sl tFact d0.facts)], .box [.n, .n], .row (flat tRelation.enc us_1), .dead, .box [(.m [2] 0 us_1.length tRelation.k), (.m [5] 0 box4_facts.length tFact.k)], .row (flat tFact.enc box4_facts), .row (flat tInt.enc ([] : (List Int))), .dead] ?_ (fun hj10_5 => ?_)
   ·skip
    refine t1 14 (by kernel_rfl) rfl rfl (TOp_pure (pur_ldT (T := tFact) (i := n_7) (off := 1) rfl one33 rfl rfl hv_9 rfl) rfl ?_)
    exact tj hj5_5 rfl (wp 8 (lb rfl) rfl rfl rfl rfl rfl)
   refine TA_have 8 #[true, false, true, true, true, true, true, false, true, true, true, true, true, true, true, false, false, false, false, false, false] [(1, (.b 0 0)), (2, (.b 1 0)), (3, (.b 4 0)), (4, (intA i4)), (17, (.b 4 1)), (23, (.q (flat tFact.enc d0.facts) (n_7 * tFact.k + 0))), (25, (.m [6] 0 ([] : (List Int)).length tInt.k)), (31, (sl tInt v_5.values))] [.box [(sl tRelation d0.relations), (sl tFact d0.facts)], .box [.n, .n], .row (flat tRelation.enc us_1), .dead, .box [(.m [2] 0 us_1.length tRelation.k), (.m [5] 0 box4_facts.length tFact.k)], .row (flat tFact.enc box4_facts), .row (flat tInt.enc ([] : (List Int))), .dead] ?_ (fun hj11_5 => ?_)
   ·skip
    refine TA_all [1, 7, 15] (by kernel_rfl) (by decide) ⟨?_, ?_, ?_, trivial⟩
    ·skip
     refine ⟨_, rfl, rfl, (TOp_pure (pur_ld_b one30 rfl rfl rfl rfl) rfl ?_)⟩
     exact tj hj8_5 rfl (wp 8 (lb rfl) rfl rfl rfl rfl rfl)
    ·skip
     refine ⟨_, rfl, rfl, (TOp_pure (pur_ldT (T := tFact) (i := n_7) (off := 0) rfl one3 rfl rfl hv_9 rfl) rfl ?_)⟩
     exact tj hj7_5 rfl (wp 8 (lb rfl) rfl rfl rfl rfl rfl)
    ·skip
     refine ⟨_, rfl, rfl, (TOp_appY (T := tInt) (f := tInt.enc) (xs := ([] : (List Int))) (ys := v_5.values) tInt.len sl33 zero3 rfl bytes3 (by decide) rfl rfl rfl rfl (src_T (T := tInt) rfl) (flat_cell tInt _) h_11 ?_)⟩
     refine tmv 6 8 (by decide) (lb rfl) rfl rfl (lb rfl) ?_
     exact tj hj6_5 rfl (wp 8 (lb rfl) rfl rfl rfl rfl rfl)
   refine TA_have 8 #[true, false, true, true, true, true, true, true, false, true, true, true, true, true, true, false, false, false, false, false, false] [(1, (.b 0 0)), (2, (.b 1 0)), (3, (.b 4 0)), (4, (intA i4)), (17, (.b 4 1)), (24, (intA v_5.relation)), (31, (sl tInt v_5.values))] [.box [(sl tRelation d0.relations), (sl tFact d0.facts)], .box [.n, .n], .row (flat tRelation.enc us_1), .dead, .box [(.m [2] 0 us_1.length tRelation.k), (.m [5] 0 box4_facts.length tFact.k)], .row (flat tFact.enc box4_facts), .dead, .dead] ?_ (fun hj12_5 => ?_)
   ·skip
    refine TA_all [1, 8] (by kernel_rfl) (by decide) ⟨?_, ?_, trivial⟩
    ·skip
     refine ⟨_, rfl, rfl, (TOp_pure (pur_ld_b one30 rfl rfl rfl rfl) rfl ?_)⟩
     exact tj hj9_5 rfl (wp 8 (lb rfl) rfl rfl rfl rfl rfl)
    ·skip
     refine ⟨_, rfl, rfl, (TOp_lit (nn := 0) (k := 1) sl33 zero3 rfl rfl rfl rfl (by decide) ?_)⟩
     refine tmv 6 8 (by decide) (lb rfl) rfl rfl (lb rfl) ?_
     exact tj hj7_5 rfl (wp 8 (lb rfl) rfl rfl rfl rfl rfl)
   refine TA_have 8 #[true, false, true, true, true, true, true, true, true, true, true, true, true, true, false, false, false, false, false, false, false] [(1, (.b 0 0)), (2, (.b 1 0)), (3, (.b 4 0)), (4, (intA i4)), (17, (.b 4 1)), (24, (intA v_5.relation)), (25, (.m [6] 0 ([] : (List Int)).length tInt.k)), (30, (.q (flat tFact.enc d0.facts) (n_7 * tFact.k + 1)))] [.box [(sl tRelation d0.relations), (sl tFact d0.facts)], .box [.n, .n], .row (flat tRelation.enc us_1), .dead, .box [(.m [2] 0 us_1.length tRelation.k), (.m [5] 0 box4_facts.length tFact.k)], .row (flat tFact.enc box4_facts), .row (flat tInt.enc ([] : (List Int))), .dead] ?_ (fun hj13_5 => ?_)
   ·skip
    refine TA_all [1, 14] (by kernel_rfl) (by decide) ⟨?_, ?_, trivial⟩
    ·skip
     refine ⟨_, rfl, rfl, (TOp_pure (pur_ld_b one30 rfl rfl rfl rfl) rfl ?_)⟩
     exact tj hj10_5 rfl (wp 8 (lb rfl) rfl rfl rfl rfl rfl)
    ·skip
     refine ⟨_, rfl, rfl, (TOp_pure (pur_ldT (T := tFact) (i := n_7) (off := 1) rfl one33 rfl rfl hv_9 rfl) rfl ?_)⟩
     exact tj hj7_5 rfl (wp 8 (lb rfl) rfl rfl rfl rfl rfl)
   refine TA_have 8 #[true, true, true, true, true, true, true, false, false, true, true, true, true, true, true, false, false, false, false, false, false] [(1, (.b 0 0)), (2, (.b 1 0)), (3, (.b 4 0)), (4, (intA i4)), (18, (.m [5] 0 box4_facts.length tFact.k)), (23, (.q (flat tFact.enc d0.facts) (n_7 * tFact.k + 0))), (31, (sl tInt v_5.values))] [.box [(sl tRelation d0.relations), (sl tFact d0.facts)], .box [.n, .n], .row (flat tRelation.enc us_1), .dead, .box [(.m [2] 0 us_1.length tRelation.k), (.m [5] 0 box4_facts.length tFact.k)], .row (flat tFact.enc box4_facts), .dead, .dead] ?_ (fun hj14_5 => ?_)
   ·skip
    refine TA_all [7, 8] (by kernel_rfl) (by decide) ⟨?_, ?_, trivial⟩
    ·skip
     refine ⟨_, rfl, rfl, (TOp_pure (pur_ldT (T := tFact) (i := n_7) (off := 0) rfl one3 rfl rfl hv_9 rfl) rfl ?_)⟩
     exact tj hj9_5 rfl (wp 8 (lb rfl) rfl rfl rfl rfl rfl)
    ·skip
     refine ⟨_, rfl, rfl, (TOp_lit (nn := 0) (k := 1) sl33 zero3 rfl rfl rfl rfl (by decide) ?_)⟩
     refine tmv 6 8 (by decide) (lb rfl) rfl rfl (lb rfl) ?_
     exact tj hj8_5 rfl (wp 8 (lb rfl) rfl rfl rfl rfl rfl)
   refine TA_have 8 #[true, true, true, true, true, true, true, false, true, true, true, true, true, true, false, false, false, false, false, false, false] [(1, (.b 0 0)), (2, (.b 1 0)), (3, (.b 4 0)), (4, (intA i4)), (18, (.m [5] 0 box4_facts.length tFact.k)), (23, (.q (flat tFact.enc d0.facts) (n_7 * tFact.k + 0))), (25, (.m [6] 0 ([] : (List Int)).length tInt.k)), (30, (.q (flat tFact.enc d0.facts) (n_7 * tFact.k + 1)))] [.box [(sl tRelation d0.relations), (sl tFact d0.facts)], .box [.n, .n], .row (flat tRelation.enc us_1), .dead, .box [(.m [2] 0 us_1.length tRelation.k), (.m [5] 0 box4_facts.length tFact.k)], .row (flat tFact.enc box4_facts), .row (flat tInt.enc ([] : (List Int))), .dead] ?_ (fun hj15_5 => ?_)
   ·skip
    refine TA_all [7, 14] (by kernel_rfl) (by decide) ⟨?_, ?_, trivial⟩
    ·skip
     refine ⟨_, rfl, rfl, (TOp_pure (pur_ldT (T := tFact) (i := n_7) (off := 0) rfl one3 rfl rfl hv_9 rfl) rfl ?_)⟩
     exact tj hj10_5 rfl (wp 8 (lb rfl) rfl rfl rfl rfl rfl)
    ·skip
     refine ⟨_, rfl, rfl, (TOp_pure (pur_ldT (T := tFact) (i := n_7) (off := 1) rfl one33 rfl rfl hv_9 rfl) rfl ?_)⟩
     exact tj hj8_5 rfl (wp 8 (lb rfl) rfl rfl rfl rfl rfl)
   refine TA_have 8 #[true, true, true, true, true, true, true, true, false, true, true, true, true, true, false, false, false, false, false, false, false] [(1, (.b 0 0)), (2, (.b 1 0)), (3, (.b 4 0)), (4, (intA i4)), (18, (.m [5] 0 box4_facts.length tFact.k)), (24, (intA v_5.relation)), (30, (.q (flat tFact.enc d0.facts) (n_7 * tFact.k + 1)))] [.box [(sl tRelation d0.relations), (sl tFact d0.facts)], .box [.n, .n], .row (flat tRelation.enc us_1), .dead, .box [(.m [2] 0 us_1.length tRelation.k), (.m [5] 0 box4_facts.length tFact.k)], .row (flat tFact.enc box4_facts), .dead, .dead] ?_ (fun hj16_5 => ?_)
   ·skip
    refine TA_all [8, 14] (by kernel_rfl) (by decide) ⟨?_, ?_, trivial⟩
    ·skip
     refine ⟨_, rfl, rfl, (TOp_lit (nn := 0) (k := 1) sl33 zero3 rfl rfl rfl rfl (by decide) ?_)⟩
     refine tmv 6 8 (by decide) (lb rfl) rfl rfl (lb rfl) ?_
     exact tj hj10_5 rfl (wp 8 (lb rfl) rfl rfl rfl rfl rfl)
    ·skip
     refine ⟨_, rfl, rfl, (TOp_pure (pur_ldT (T := tFact) (i := n_7) (off := 1) rfl one33 rfl rfl hv_9 rfl) rfl ?_)⟩
     exact tj hj9_5 rfl (wp 8 (lb rfl) rfl rfl rfl rfl rfl)
   refine TA_have 9 #[true, false, true, true, true, true, true, false, false, true, true, true, true, true, true, false, false, false, false, false, false] [(1, (.b 0 0)), (2, (.b 1 0)), (3, (.b 4 0)), (4, (intA i4)), (17, (.b 4 1)), (23, (.q (flat tFact.enc d0.facts) (n_7 * tFact.k + 0))), (31, (sl tInt v_5.values))] [.box [(sl tRelation d0.relations), (sl tFact d0.facts)], .box [.n, .n], .row (flat tRelation.enc us_1), .dead, .box [(.m [2] 0 us_1.length tRelation.k), (.m [5] 0 box4_facts.length tFact.k)], .row (flat tFact.enc box4_facts), .dead, .dead] ?_ (fun hj17_5 => ?_)
   ·skip
    refine TA_all [1, 7, 8] (by kernel_rfl) (by decide) ⟨?_, ?_, ?_, trivial⟩
    ·skip
     refine ⟨_, rfl, rfl, (TOp_pure (pur_ld_b one30 rfl rfl rfl rfl) rfl ?_)⟩
     exact tj hj14_5 rfl (wp 8 (lb rfl) rfl rfl rfl rfl rfl)
    ·skip
     refine ⟨_, rfl, rfl, (TOp_pure (pur_ldT (T := tFact) (i := n_7) (off := 0) rfl one3 rfl rfl hv_9 rfl) rfl ?_)⟩
     exact tj hj12_5 rfl (wp 8 (lb rfl) rfl rfl rfl rfl rfl)
    ·skip
     refine ⟨_, rfl, rfl, (TOp_lit (nn := 0) (k := 1) sl33 zero3 rfl rfl rfl rfl (by decide) ?_)⟩
     refine tmv 6 8 (by decide) (lb rfl) rfl rfl (lb rfl) ?_
     exact tj hj11_5 rfl (wp 8 (lb rfl) rfl rfl rfl rfl rfl)
   refine TA_have 9 #[true, false, true, true, true, true, true, false, true, true, true, true, true, true, false, false, false, false, false, false, false] [(1, (.b 0 0)), (2, (.b 1 0)), (3, (.b 4 0)), (4, (intA i4)), (17, (.b 4 1)), (23, (.q (flat tFact.enc d0.facts) (n_7 * tFact.k + 0))), (25, (.m [6] 0 ([] : (List Int)).length tInt.k)), (30, (.q (flat tFact.enc d0.facts) (n_7 * tFact.k + 1)))] [.box [(sl tRelation d0.relations), (sl tFact d0.facts)], .box [.n, .n], .row (flat tRelation.enc us_1), .dead, .box [(.m [2] 0 us_1.length tRelation.k), (.m [5] 0 box4_facts.length tFact.k)], .row (flat tFact.enc box4_facts), .row (flat tInt.enc ([] : (List Int))), .dead] ?_ (fun hj18_5 => ?_)
   ·skip
    refine TA_all [1, 7, 14] (by kernel_rfl) (by decide) ⟨?_, ?_, ?_, trivial⟩
    ·skip
     refine ⟨_, rfl, rfl, (TOp_pure (pur_ld_b one30 rfl rfl rfl rfl) rfl ?_)⟩
     exact tj hj15_5 rfl (wp 8 (lb rfl) rfl rfl rfl rfl rfl)
    ·skip
     refine ⟨_, rfl, rfl, (TOp_pure (pur_ldT (T := tFact) (i := n_7) (off := 0) rfl one3 rfl rfl hv_9 rfl) rfl ?_)⟩
     exact tj hj13_5 rfl (wp 8 (lb rfl) rfl rfl rfl rfl rfl)
    ·skip
     refine ⟨_, rfl, rfl, (TOp_pure (pur_ldT (T := tFact) (i := n_7) (off := 1) rfl one33 rfl rfl hv_9 rfl) rfl ?_)⟩
     exact tj hj11_5 rfl (wp 8 (lb rfl) rfl rfl rfl rfl rfl)
   refine TA_have 9 #[true, false, true, true, true, true, true, true, false, true, true, true, true, true, false, false, false, false, false, false, false] [(1, (.b 0 0)), (2, (.b 1 0)), (3, (.b 4 0)), (4, (intA i4)), (17, (.b 4 1)), (24, (intA v_5.relation)), (30, (.q (flat tFact.enc d0.facts) (n_7 * tFact.k + 1)))] [.box [(sl tRelation d0.relations), (sl tFact d0.facts)], .box [.n, .n], .row (flat tRelation.enc us_1), .dead, .box [(.m [2] 0 us_1.length tRelation.k), (.m [5] 0 box4_facts.length tFact.k)], .row (flat tFact.enc box4_facts), .dead, .dead] ?_ (fun hj19_5 => ?_)
   ·skip
    refine TA_all [1, 8, 14] (by kernel_rfl) (by decide) ⟨?_, ?_, ?_, trivial⟩
    ·skip
     refine ⟨_, rfl, rfl, (TOp_pure (pur_ld_b one30 rfl rfl rfl rfl) rfl ?_)⟩
     exact tj hj16_5 rfl (wp 8 (lb rfl) rfl rfl rfl rfl rfl)
    ·skip
     refine ⟨_, rfl, rfl, (TOp_lit (nn := 0) (k := 1) sl33 zero3 rfl rfl rfl rfl (by decide) ?_)⟩
     refine tmv 6 8 (by decide) (lb rfl) rfl rfl (lb rfl) ?_
     exact tj hj13_5 rfl (wp 8 (lb rfl) rfl rfl rfl rfl rfl)
    ·skip
     refine ⟨_, rfl, rfl, (TOp_pure (pur_ldT (T := tFact) (i := n_7) (off := 1) rfl one33 rfl rfl hv_9 rfl) rfl ?_)⟩
     exact tj hj12_5 rfl (wp 8 (lb rfl) rfl rfl rfl rfl rfl)
   refine TA_have 9 #[true, true, true, false, true, false, false, false, true, true, true, true, true, true, true, true, false, false, false, false, false] [(1, (.b 0 0)), (2, (.b 1 0)), (3, (.b 4 0)), (4, (intA i4)), (18, (.m [5] 0 box4_facts.length tFact.k)), (19, (.b 0 1)), (21, (intA i4)), (32, (.m [6] 0 us_10.length tInt.k))] [.box [(sl tRelation d0.relations), (sl tFact d0.facts)], .box [.n, .n], .row (flat tRelation.enc us_1), .dead, .box [(.m [2] 0 us_1.length tRelation.k), (.m [5] 0 box4_facts.length tFact.k)], .row (flat tFact.enc box4_facts), .row (flat tInt.enc us_10), .dead] ?_ (fun hj20_5 => ?_)
   ·skip
    refine t1 3 (by kernel_rfl) rfl rfl (TOp_pure (pur_ld_b one30 rfl rfl rfl rfl) rfl ?_)
    refine tf 5 rfl (purI_ixT (T := tFact) sl30 rfl rfl hz_8 hv_9 rfl) rfl rfl (by kernel_rfl) ?_
    refine tf 6 rfl (purI_fa_q fld60_0 rfl rfl) rfl rfl (by kernel_rfl) ?_
    exact tj hj4_5 rfl (wp 8 (lb rfl) rfl rfl rfl rfl rfl)
   refine TA_have 9 #[true, true, true, true, true, true, true, false, false, true, true, true, true, true, false, false, false, false, false, false, false] [(1, (.b 0 0)), (2, (.b 1 0)), (3, (.b 4 0)), (4, (intA i4)), (18, (.m [5] 0 box4_facts.length tFact.k)), (23, (.q (flat tFact.enc d0.facts) (n_7 * tFact.k + 0))), (30, (.q (flat tFact.enc d0.facts) (n_7 * tFact.k + 1)))] [.box [(sl tRelation d0.relations), (sl tFact d0.facts)], .box [.n, .n], .row (flat tRelation.enc us_1), .dead, .box [(.m [2] 0 us_1.length tRelation.k), (.m [5] 0 box4_facts.length tFact.k)], .row (flat tFact.enc box4_facts), .dead, .dead] ?_ (fun hj21_5 => ?_)
   ·skip
    refine TA_all [7, 8, 14] (by kernel_rfl) (by decide) ⟨?_, ?_, ?_, trivial⟩
    ·skip
     refine ⟨_, rfl, rfl, (TOp_pure (pur_ldT (T := tFact) (i := n_7) (off := 0) rfl one3 rfl rfl hv_9 rfl) rfl ?_)⟩
     exact tj hj16_5 rfl (wp 8 (lb rfl) rfl rfl rfl rfl rfl)
    ·skip
     refine ⟨_, rfl, rfl, (TOp_lit (nn := 0) (k := 1) sl33 zero3 rfl rfl rfl rfl (by decide) ?_)⟩
     refine tmv 6 8 (by decide) (lb rfl) rfl rfl (lb rfl) ?_
     exact tj hj15_5 rfl (wp 8 (lb rfl) rfl rfl rfl rfl rfl)
    ·skip
     refine ⟨_, rfl, rfl, (TOp_pure (pur_ldT (T := tFact) (i := n_7) (off := 1) rfl one33 rfl rfl hv_9 rfl) rfl ?_)⟩
     exact tj hj14_5 rfl (wp 8 (lb rfl) rfl rfl rfl rfl rfl)
   refine TA_have 10 #[true, false, true, true, true, true, true, false, false, true, true, true, true, true, false, false, false, false, false, false, false] [(1, (.b 0 0)), (2, (.b 1 0)), (3, (.b 4 0)), (4, (intA i4)), (17, (.b 4 1)), (23, (.q (flat tFact.enc d0.facts) (n_7 * tFact.k + 0))), (30, (.q (flat tFact.enc d0.facts) (n_7 * tFact.k + 1)))] [.box [(sl tRelation d0.relations), (sl tFact d0.facts)], .box [.n, .n], .row (flat tRelation.enc us_1), .dead, .box [(.m [2] 0 us_1.length tRelation.k), (.m [5] 0 box4_facts.length tFact.k)], .row (flat tFact.enc box4_facts), .dead, .dead] ?_ (fun hj22_5 => ?_)
   ·skip
    refine TA_all [1, 7, 8, 14] (by kernel_rfl) (by decide) ⟨?_, ?_, ?_, ?_, trivial⟩
    ·skip
     refine ⟨_, rfl, rfl, (TOp_pure (pur_ld_b one30 rfl rfl rfl rfl) rfl ?_)⟩
     exact tj hj21_5 rfl (wp 8 (lb rfl) rfl rfl rfl rfl rfl)
    ·skip
     refine ⟨_, rfl, rfl, (TOp_pure (pur_ldT (T := tFact) (i := n_7) (off := 0) rfl one3 rfl rfl hv_9 rfl) rfl ?_)⟩
     exact tj hj19_5 rfl (wp 8 (lb rfl) rfl rfl rfl rfl rfl)
    ·skip
     refine ⟨_, rfl, rfl, (TOp_lit (nn := 0) (k := 1) sl33 zero3 rfl rfl rfl rfl (by decide) ?_)⟩
     refine tmv 6 8 (by decide) (lb rfl) rfl rfl (lb rfl) ?_
     exact tj hj18_5 rfl (wp 8 (lb rfl) rfl rfl rfl rfl rfl)
    ·skip
     refine ⟨_, rfl, rfl, (TOp_pure (pur_ldT (T := tFact) (i := n_7) (off := 1) rfl one33 rfl rfl hv_9 rfl) rfl ?_)⟩
     exact tj hj17_5 rfl (wp 8 (lb rfl) rfl rfl rfl rfl rfl)
   refine TA_have 10 #[true, true, true, false, true, false, false, false, true, true, true, true, true, true, true, false, false, false, false, false, false] [(1, (.b 0 0)), (2, (.b 1 0)), (3, (.b 4 0)), (4, (intA i4)), (18, (.m [5] 0 box4_facts.length tFact.k)), (19, (.b 0 1)), (21, (intA i4)), (25, (.m [6] 0 ([] : (List Int)).length tInt.k)), (31, (sl tInt v_5.values))] [.box [(sl tRelation d0.relations), (sl tFact d0.facts)], .box [.n, .n], .row (flat tRelation.enc us_1), .dead, .box [(.m [2] 0 us_1.length tRelation.k), (.m [5] 0 box4_facts.length tFact.k)], .row (flat tFact.enc box4_facts), .row (flat tInt.enc ([] : (List Int))), .dead] ?_ (fun hj23_5 => ?_)
   ·skip
    refine TA_all [3, 15] (by kernel_rfl) (by decide) ⟨?_, ?_, trivial⟩
    ·skip
     refine ⟨_, rfl, rfl, (TOp_pure (pur_ld_b one30 rfl rfl rfl rfl) rfl ?_)⟩
     refine tf 5 rfl (purI_ixT (T := tFact) sl30 rfl rfl hz_8 hv_9 rfl) rfl rfl (by kernel_rfl) ?_
     refine tf 6 rfl (purI_fa_q fld60_0 rfl rfl) rfl rfl (by kernel_rfl) ?_
     exact tj hj8_5 rfl (wp 8 (lb rfl) rfl rfl rfl rfl rfl)
    ·skip
     refine ⟨_, rfl, rfl, (TOp_appY (T := tInt) (f := tInt.enc) (xs := ([] : (List Int))) (ys := v_5.values) tInt.len sl33 zero3 rfl bytes3 (by decide) rfl rfl rfl rfl (src_T (T := tInt) rfl) (flat_cell tInt _) h_11 ?_)⟩
     refine tmv 6 8 (by decide) (lb rfl) rfl rfl (lb rfl) ?_
     exact tj hj20_5 rfl (wp 8 (lb rfl) rfl rfl rfl rfl rfl)
   refine TA_have 10 #[true, true, true, true, true, true, true, true, true, true, false, true, false, false, false, false, false, false, false, false, false] [(1, (.b 0 0)), (2, (.b 1 0)), (3, (.b 4 0)), (4, (intA i4)), (18, (.m [5] 0 box4_facts.length tFact.k)), (24, (intA v_5.relation)), (25, (.m [6] 0 ([] : (List Int)).length tInt.k)), (26, (.b 0 1)), (28, (intA i4))] [.box [(sl tRelation d0.relations), (sl tFact d0.facts)], .box [.n, .n], .row (flat tRelation.enc us_1), .dead, .box [(.m [2] 0 us_1.length tRelation.k), (.m [5] 0 box4_facts.length tFact.k)], .row (flat tFact.enc box4_facts), .row (flat tInt.enc ([] : (List Int))), .dead] ?_ (fun hj24_5 => ?_)
   ·skip
    refine t1 10 (by kernel_rfl) rfl rfl (TOp_pure (pur_ld_b one30 rfl rfl rfl rfl) rfl ?_)
    refine tf 12 rfl (purI_ixT (T := tFact) sl30 rfl rfl hz_8 hv_9 rfl) rfl rfl (by kernel_rfl) ?_
    refine tf 13 rfl (purI_fa_q fld60_1 rfl rfl) rfl rfl (by kernel_rfl) ?_
    exact tj hj10_5 rfl (wp 8 (lb rfl) rfl rfl rfl rfl rfl)
   refine TA_have 11 #[true, false, true, false, true, false, false, false, true, true, true, true, true, true, true, false, false, false, false, false, false] [(1, (.b 0 0)), (2, (.b 1 0)), (3, (.b 4 0)), (4, (intA i4)), (17, (.b 4 1)), (19, (.b 0 1)), (21, (intA i4)), (25, (.m [6] 0 ([] : (List Int)).length tInt.k)), (31, (sl tInt v_5.values))] [.box [(sl tRelation d0.relations), (sl tFact d0.facts)], .box [.n, .n], .row (flat tRelation.enc us_1), .dead, .box [(.m [2] 0 us_1.length tRelation.k), (.m [5] 0 box4_facts.length tFact.k)], .row (flat tFact.enc box4_facts), .row (flat tInt.enc ([] : (List Int))), .dead] ?_ (fun hj25_5 => ?_)
   ·skip
    refine TA_all [1, 3, 15] (by kernel_rfl) (by decide) ⟨?_, ?_, ?_, trivial⟩
    ·skip
     refine ⟨_, rfl, rfl, (TOp_pure (pur_ld_b one30 rfl rfl rfl rfl) rfl ?_)⟩
     exact tj hj23_5 rfl (wp 8 (lb rfl) rfl rfl rfl rfl rfl)
    ·skip
     refine ⟨_, rfl, rfl, (TOp_pure (pur_ld_b one30 rfl rfl rfl rfl) rfl ?_)⟩
     refine tf 5 rfl (purI_ixT (T := tFact) sl30 rfl rfl hz_8 hv_9 rfl) rfl rfl (by kernel_rfl) ?_
     refine tf 6 rfl (purI_fa_q fld60_0 rfl rfl) rfl rfl (by kernel_rfl) ?_
     exact tj hj11_5 rfl (wp 8 (lb rfl) rfl rfl rfl rfl rfl)
    ·skip
     refine ⟨_, rfl, rfl, (TOp_appY (T := tInt) (f := tInt.enc) (xs := ([] : (List Int))) (ys := v_5.values) tInt.len sl33 zero3 rfl bytes3 (by decide) rfl rfl rfl rfl (src_T (T := tInt) rfl) (flat_cell tInt _) h_11 ?_)⟩
     refine tmv 6 8 (by decide) (lb rfl) rfl rfl (lb rfl) ?_
     refine TA_all [1, 3] (by kernel_rfl) (by decide) ⟨?_, ?_, trivial⟩
     ·skip
      refine ⟨_, rfl, rfl, (TOp_pure (pur_ld_b one30 rfl rfl rfl rfl) rfl ?_)⟩
      exact tj hj20_5 rfl (wp 8 (lb rfl) rfl rfl rfl rfl rfl)
     ·skip
      refine ⟨_, rfl, rfl, (TOp_pure (pur_ld_b one30 rfl rfl rfl rfl) rfl ?_)⟩
      refine tf 5 rfl (purI_ixT (T := tFact) sl30 rfl rfl hz_8 hv_9 rfl) rfl rfl (by kernel_rfl) ?_
      refine tf 6 rfl (purI_fa_q fld60_0 rfl rfl) rfl rfl (by kernel_rfl) ?_
      exact tj hj6_5 rfl (wp 8 (lb rfl) rfl rfl rfl rfl rfl)
   refine TA_have 11 #[true, false, true, true, true, true, true, true, true, true, false, true, false, false, false, false, false, false, false, false, false] [(1, (.b 0 0)), (2, (.b 1 0)), (3, (.b 4 0)), (4, (intA i4)), (17, (.b 4 1)), (24, (intA v_5.relation)), (25, (.m [6] 0 ([] : (List Int)).length tInt.k)), (26, (.b 0 1)), (28, (intA i4))] [.box [(sl tRelation d0.relations), (sl tFact d0.facts)], .box [.n, .n], .row (flat tRelation.enc us_1), .dead, .box [(.m [2] 0 us_1.length tRelation.k), (.m [5] 0 box4_facts.length tFact.k)], .row (flat tFact.enc box4_facts), .row (flat tInt.enc ([] : (List Int))), .dead] ?_ (fun hj26_5 => ?_)
   ·skip
    refine TA_all [1, 10] (by kernel_rfl) (by decide) ⟨?_, ?_, trivial⟩
    ·skip
     refine ⟨_, rfl, rfl, (TOp_pure (pur_ld_b one30 rfl rfl rfl rfl) rfl ?_)⟩
     exact tj hj24_5 rfl (wp 8 (lb rfl) rfl rfl rfl rfl rfl)
    ·skip
     refine ⟨_, rfl, rfl, (TOp_pure (pur_ld_b one30 rfl rfl rfl rfl) rfl ?_)⟩
     refine tf 12 rfl (purI_ixT (T := tFact) sl30 rfl rfl hz_8 hv_9 rfl) rfl rfl (by kernel_rfl) ?_
     refine tf 13 rfl (purI_fa_q fld60_1 rfl rfl) rfl rfl (by kernel_rfl) ?_
     exact tj hj13_5 rfl (wp 8 (lb rfl) rfl rfl rfl rfl rfl)
   refine TA_have 11 #[true, true, true, false, true, false, false, false, false, true, true, true, true, true, true, false, false, false, false, false, false] [(1, (.b 0 0)), (2, (.b 1 0)), (3, (.b 4 0)), (4, (intA i4)), (18, (.m [5] 0 box4_facts.length tFact.k)), (19, (.b 0 1)), (21, (intA i4)), (31, (sl tInt v_5.values))] [.box [(sl tRelation d0.relations), (sl tFact d0.facts)], .box [.n, .n], .row (flat tRelation.enc us_1), .dead, .box [(.m [2] 0 us_1.length tRelation.k), (.m [5] 0 box4_facts.length tFact.k)], .row (flat tFact.enc box4_facts), .dead, .dead] ?_ (fun hj27_5 => ?_)
   ·skip
    refine TA_all [3, 8] (by kernel_rfl) (by decide) ⟨?_, ?_, trivial⟩
    ·skip
     refine ⟨_, rfl, rfl, (TOp_pure (pur_ld_b one30 rfl rfl rfl rfl) rfl ?_)⟩
     refine tf 5 rfl (purI_ixT (T := tFact) sl30 rfl rfl hz_8 hv_9 rfl) rfl rfl (by kernel_rfl) ?_
     refine tf 6 rfl (purI_fa_q fld60_0 rfl rfl) rfl rfl (by kernel_rfl) ?_
     exact tj hj14_5 rfl (wp 8 (lb rfl) rfl rfl rfl rfl rfl)
    ·skip
     refine ⟨_, rfl, rfl, (TOp_lit (nn := 0) (k := 1) sl33 zero3 rfl rfl rfl rfl (by decide) ?_)⟩
     refine tmv 6 8 (by decide) (lb rfl) rfl rfl (lb rfl) ?_
     exact tj hj23_5 rfl (wp 8 (lb rfl) rfl rfl rfl rfl rfl)
   refine TA_have 11 #[true, true, true, false, true, false, false, false, true, true, true, true, true, true, false, false, false, false, false, false, false] [(1, (.b 0 0)), (2, (.b 1 0)), (3, (.b 4 0)), (4, (intA i4)), (18, (.m [5] 0 box4_facts.length tFact.k)), (19, (.b 0 1)), (21, (intA i4)), (25, (.m [6] 0 ([] : (List Int)).length tInt.k)), (30, (.q (flat tFact.enc d0.facts) (n_7 * tFact.k + 1)))] [.box [(sl tRelation d0.relations), (sl tFact d0.facts)], .box [.n, .n], .row (flat tRelation.enc us_1), .dead, .box [(.m [2] 0 us_1.length tRelation.k), (.m [5] 0 box4_facts.length tFact.k)], .row (flat tFact.enc box4_facts), .row (flat tInt.enc ([] : (List Int))), .dead] ?_ (fun hj28_5 => ?_)
   ·skip
    refine TA_all [3, 14] (by kernel_rfl) (by decide) ⟨?_, ?_, trivial⟩
    ·skip
     refine ⟨_, rfl, rfl, (TOp_pure (pur_ld_b one30 rfl rfl rfl rfl) rfl ?_)⟩
     refine tf 5 rfl (purI_ixT (T := tFact) sl30 rfl rfl hz_8 hv_9 rfl) rfl rfl (by kernel_rfl) ?_
     refine tf 6 rfl (purI_fa_q fld60_0 rfl rfl) rfl rfl (by kernel_rfl) ?_
     exact tj hj15_5 rfl (wp 8 (lb rfl) rfl rfl rfl rfl rfl)
    ·skip
     refine ⟨_, rfl, rfl, (TOp_pure (pur_ldT (T := tFact) (i := n_7) (off := 1) rfl one33 rfl rfl hv_9 rfl) rfl ?_)⟩
     exact tj hj23_5 rfl (wp 8 (lb rfl) rfl rfl rfl rfl rfl)
   refine TA_have 11 #[true, true, true, true, true, true, true, false, true, true, false, true, false, false, false, false, false, false, false, false, false] [(1, (.b 0 0)), (2, (.b 1 0)), (3, (.b 4 0)), (4, (intA i4)), (18, (.m [5] 0 box4_facts.length tFact.k)), (23, (.q (flat tFact.enc d0.facts) (n_7 * tFact.k + 0))), (25, (.m [6] 0 ([] : (List Int)).length tInt.k)), (26, (.b 0 1)), (28, (intA i4))] [.box [(sl tRelation d0.relations), (sl tFact d0.facts)], .box [.n, .n], .row (flat tRelation.enc us_1), .dead, .box [(.m [2] 0 us_1.length tRelation.k), (.m [5] 0 box4_facts.length tFact.k)], .row (flat tFact.enc box4_facts), .row (flat tInt.enc ([] : (List Int))), .dead] ?_ (fun hj29_5 => ?_)
   ·skip
    refine TA_all [7, 10] (by kernel_rfl) (by decide) ⟨?_, ?_, trivial⟩
    ·skip
     refine ⟨_, rfl, rfl, (TOp_pure (pur_ldT (T := tFact) (i := n_7) (off := 0) rfl one3 rfl rfl hv_9 rfl) rfl ?_)⟩
     exact tj hj24_5 rfl (wp 8 (lb rfl) rfl rfl rfl rfl rfl)
    ·skip
     refine ⟨_, rfl, rfl, (TOp_pure (pur_ld_b one30 rfl rfl rfl rfl) rfl ?_)⟩
     refine tf 12 rfl (purI_ixT (T := tFact) sl30 rfl rfl hz_8 hv_9 rfl) rfl rfl (by kernel_rfl) ?_
     refine tf 13 rfl (purI_fa_q fld60_1 rfl rfl) rfl rfl (by kernel_rfl) ?_
     exact tj hj15_5 rfl (wp 8 (lb rfl) rfl rfl rfl rfl rfl)
   refine TA_have 11 #[true, true, true, true, true, true, true, true, false, true, false, true, false, false, false, false, false, false, false, false, false] [(1, (.b 0 0)), (2, (.b 1 0)), (3, (.b 4 0)), (4, (intA i4)), (18, (.m [5] 0 box4_facts.length tFact.k)), (24, (intA v_5.relation)), (26, (.b 0 1)), (28, (intA i4))] [.box [(sl tRelation d0.relations), (sl tFact d0.facts)], .box [.n, .n], .row (flat tRelation.enc us_1), .dead, .box [(.m [2] 0 us_1.length tRelation.k), (.m [5] 0 box4_facts.length tFact.k)], .row (flat tFact.enc box4_facts), .dead, .dead] ?_ (fun hj30_5 => ?_)
   ·skip
    refine TA_all [8, 10] (by kernel_rfl) (by decide) ⟨?_, ?_, trivial⟩
    ·skip
     refine ⟨_, rfl, rfl, (TOp_lit (nn := 0) (k := 1) sl33 zero3 rfl rfl rfl rfl (by decide) ?_)⟩
     refine tmv 6 8 (by decide) (lb rfl) rfl rfl (lb rfl) ?_
     exact tj hj24_5 rfl (wp 8 (lb rfl) rfl rfl rfl rfl rfl)
    ·skip
     refine ⟨_, rfl, rfl, (TOp_pure (pur_ld_b one30 rfl rfl rfl rfl) rfl ?_)⟩
     refine tf 12 rfl (purI_ixT (T := tFact) sl30 rfl rfl hz_8 hv_9 rfl) rfl rfl (by kernel_rfl) ?_
     refine tf 13 rfl (purI_fa_q fld60_1 rfl rfl) rfl rfl (by kernel_rfl) ?_
     exact tj hj16_5 rfl (wp 8 (lb rfl) rfl rfl rfl rfl rfl)
   refine TA_have 12 #[true, false, true, false, true, false, false, false, true, true, true, true, true, true, false, false, false, false, false, false, false] [(1, (.b 0 0)), (2, (.b 1 0)), (3, (.b 4 0)), (4, (intA i4)), (17, (.b 4 1)), (19, (.b 0 1)), (21, (intA i4)), (25, (.m [6] 0 ([] : (List Int)).length tInt.k)), (30, (.q (flat tFact.enc d0.facts) (n_7 * tFact.k + 1)))] [.box [(sl tRelation d0.relations), (sl tFact d0.facts)], .box [.n, .n], .row (flat tRelation.enc us_1), .dead, .box [(.m [2] 0 us_1.length tRelation.k), (.m [5] 0 box4_facts.length tFact.k)], .row (flat tFact.enc box4_facts), .row (flat tInt.enc ([] : (List Int))), .dead] ?_ (fun hj31_5 => ?_)
   ·skip
    refine TA_all [1, 3, 14] (by kernel_rfl) (by decide) ⟨?_, ?_, ?_, trivial⟩
    ·skip
     refine ⟨_, rfl, rfl, (TOp_pure (pur_ld_b one30 rfl rfl rfl rfl) rfl ?_)⟩
     exact tj hj28_5 rfl (wp 8 (lb rfl) rfl rfl rfl rfl rfl)
    ·skip
     refine ⟨_, rfl, rfl, (TOp_pure (pur_ld_b one30 rfl rfl rfl rfl) rfl ?_)⟩
     refine tf 5 rfl (purI_ixT (T := tFact) sl30 rfl rfl hz_8 hv_9 rfl) rfl rfl (by kernel_rfl) ?_
     refine tf 6 rfl (purI_fa_q fld60_0 rfl rfl) rfl rfl (by kernel_rfl) ?_
     exact tj hj18_5 rfl (wp 8 (lb rfl) rfl rfl rfl rfl rfl)
    ·skip
     refine ⟨_, rfl, rfl, (TOp_pure (pur_ldT (T := tFact) (i := n_7) (off := 1) rfl one33 rfl rfl hv_9 rfl) rfl ?_)⟩
     exact tj hj25_5 rfl (wp 8 (lb rfl) rfl rfl rfl rfl rfl)
   refine TA_have 12 #[true, false, true, true, true, true, true, false, true, true, false, true, false, false, false, false, false, false, false, false, false] [(1, (.b 0 0)), (2, (.b 1 0)), (3, (.b 4 0)), (4, (intA i4)), (17, (.b 4 1)), (23, (.q (flat tFact.enc d0.facts) (n_7 * tFact.k + 0))), (25, (.m [6] 0 ([] : (List Int)).length tInt.k)), (26, (.b 0 1)), (28, (intA i4))] [.box [(sl tRelation d0.relations), (sl tFact d0.facts)], .box [.n, .n], .row (flat tRelation.enc us_1), .dead, .box [(.m [2] 0 us_1.length tRelation.k), (.m [5] 0 box4_facts.length tFact.k)], .row (flat tFact.enc box4_facts), .row (flat tInt.enc ([] : (List Int))), .dead] ?_ (fun hj32_5 => ?_)
   ·skip
    refine TA_all [1, 7, 10] (by kernel_rfl) (by decide) ⟨?_, ?_, ?_, trivial⟩
    ·skip
     refine ⟨_, rfl, rfl, (TOp_pure (pur_ld_b one30 rfl rfl rfl rfl) rfl ?_)⟩
     exact tj hj29_5 rfl (wp 8 (lb rfl) rfl rfl rfl rfl rfl)
    ·skip
     refine ⟨_, rfl, rfl, (TOp_pure (pur_ldT (T := tFact) (i := n_7) (off := 0) rfl one3 rfl rfl hv_9 rfl) rfl ?_)⟩
     exact tj hj26_5 rfl (wp 8 (lb rfl) rfl rfl rfl rfl rfl)
    ·skip
     refine ⟨_, rfl, rfl, (TOp_pure (pur_ld_b one30 rfl rfl rfl rfl) rfl ?_)⟩
     refine tf 12 rfl (purI_ixT (T := tFact) sl30 rfl rfl hz_8 hv_9 rfl) rfl rfl (by kernel_rfl) ?_
     refine tf 13 rfl (purI_fa_q fld60_1 rfl rfl) rfl rfl (by kernel_rfl) ?_
     exact tj hj18_5 rfl (wp 8 (lb rfl) rfl rfl rfl rfl rfl)
   refine TA_have 12 #[true, true, true, false, true, false, false, false, false, true, true, true, true, true, false, false, false, false, false, false, false] [(1, (.b 0 0)), (2, (.b 1 0)), (3, (.b 4 0)), (4, (intA i4)), (18, (.m [5] 0 box4_facts.length tFact.k)), (19, (.b 0 1)), (21, (intA i4)), (30, (.q (flat tFact.enc d0.facts) (n_7 * tFact.k + 1)))] [.box [(sl tRelation d0.relations), (sl tFact d0.facts)], .box [.n, .n], .row (flat tRelation.enc us_1), .dead, .box [(.m [2] 0 us_1.length tRelation.k), (.m [5] 0 box4_facts.length tFact.k)], .row (flat tFact.enc box4_facts), .dead, .dead] ?_ (fun hj33_5 => ?_)
   ·skip
    refine TA_all [3, 8, 14] (by kernel_rfl) (by decide) ⟨?_, ?_, ?_, trivial⟩
    ·skip
     refine ⟨_, rfl, rfl, (TOp_pure (pur_ld_b one30 rfl rfl rfl rfl) rfl ?_)⟩
     refine tf 5 rfl (purI_ixT (T := tFact) sl30 rfl rfl hz_8 hv_9 rfl) rfl rfl (by kernel_rfl) ?_
     refine tf 6 rfl (purI_fa_q fld60_0 rfl rfl) rfl rfl (by kernel_rfl) ?_
     exact tj hj21_5 rfl (wp 8 (lb rfl) rfl rfl rfl rfl rfl)
    ·skip
     refine ⟨_, rfl, rfl, (TOp_lit (nn := 0) (k := 1) sl33 zero3 rfl rfl rfl rfl (by decide) ?_)⟩
     refine tmv 6 8 (by decide) (lb rfl) rfl rfl (lb rfl) ?_
     exact tj hj28_5 rfl (wp 8 (lb rfl) rfl rfl rfl rfl rfl)
    ·skip
     refine ⟨_, rfl, rfl, (TOp_pure (pur_ldT (T := tFact) (i := n_7) (off := 1) rfl one33 rfl rfl hv_9 rfl) rfl ?_)⟩
     exact tj hj27_5 rfl (wp 8 (lb rfl) rfl rfl rfl rfl rfl)
   refine TA_have 12 #[true, true, true, true, true, true, true, false, false, true, false, true, false, false, false, false, false, false, false, false, false] [(1, (.b 0 0)), (2, (.b 1 0)), (3, (.b 4 0)), (4, (intA i4)), (18, (.m [5] 0 box4_facts.length tFact.k)), (23, (.q (flat tFact.enc d0.facts) (n_7 * tFact.k + 0))), (26, (.b 0 1)), (28, (intA i4))] [.box [(sl tRelation d0.relations), (sl tFact d0.facts)], .box [.n, .n], .row (flat tRelation.enc us_1), .dead, .box [(.m [2] 0 us_1.length tRelation.k), (.m [5] 0 box4_facts.length tFact.k)], .row (flat tFact.enc box4_facts), .dead, .dead] ?_ (fun hj34_5 => ?_)
   ·skip
    refine TA_all [7, 8, 10] (by kernel_rfl) (by decide) ⟨?_, ?_, ?_, trivial⟩
    ·skip
     refine ⟨_, rfl, rfl, (TOp_pure (pur_ldT (T := tFact) (i := n_7) (off := 0) rfl one3 rfl rfl hv_9 rfl) rfl ?_)⟩
     exact tj hj30_5 rfl (wp 8 (lb rfl) rfl rfl rfl rfl rfl)
    ·skip
     refine ⟨_, rfl, rfl, (TOp_lit (nn := 0) (k := 1) sl33 zero3 rfl rfl rfl rfl (by decide) ?_)⟩
     refine tmv 6 8 (by decide) (lb rfl) rfl rfl (lb rfl) ?_
     exact tj hj29_5 rfl (wp 8 (lb rfl) rfl rfl rfl rfl rfl)
    ·skip
     refine ⟨_, rfl, rfl, (TOp_pure (pur_ld_b one30 rfl rfl rfl rfl) rfl ?_)⟩
     refine tf 12 rfl (purI_ixT (T := tFact) sl30 rfl rfl hz_8 hv_9 rfl) rfl rfl (by kernel_rfl) ?_
     refine tf 13 rfl (purI_fa_q fld60_1 rfl rfl) rfl rfl (by kernel_rfl) ?_
     exact tj hj21_5 rfl (wp 8 (lb rfl) rfl rfl rfl rfl rfl)
   refine TA_have 14 #[true, true, true, false, true, false, false, false, true, true, false, true, false, false, false, false, false, false, false, false, false] [(1, (.b 0 0)), (2, (.b 1 0)), (3, (.b 4 0)), (4, (intA i4)), (18, (.m [5] 0 box4_facts.length tFact.k)), (19, (.b 0 1)), (21, (intA i4)), (25, (.m [6] 0 ([] : (List Int)).length tInt.k)), (26, (.b 0 1)), (28, (intA i4))] [.box [(sl tRelation d0.relations), (sl tFact d0.facts)], .box [.n, .n], .row (flat tRelation.enc us_1), .dead, .box [(.m [2] 0 us_1.length tRelation.k), (.m [5] 0 box4_facts.length tFact.k)], .row (flat tFact.enc box4_facts), .row (flat tInt.enc ([] : (List Int))), .dead] ?_ (fun hj35_5 => ?_)
   ·skip
    refine TA_all [3, 10] (by kernel_rfl) (by decide) ⟨?_, ?_, trivial⟩
    ·skip
     refine ⟨_, rfl, rfl, (TOp_pure (pur_ld_b one30 rfl rfl rfl rfl) rfl ?_)⟩
     refine tf 5 rfl (purI_ixT (T := tFact) sl30 rfl rfl hz_8 hv_9 rfl) rfl rfl (by kernel_rfl) ?_
     refine tf 6 rfl (purI_fa_q fld60_0 rfl rfl) rfl rfl (by kernel_rfl) ?_
     exact tj hj29_5 rfl (wp 8 (lb rfl) rfl rfl rfl rfl rfl)
    ·skip
     refine ⟨_, rfl, rfl, (TOp_pure (pur_ld_b one30 rfl rfl rfl rfl) rfl ?_)⟩
     refine tf 12 rfl (purI_ixT (T := tFact) sl30 rfl rfl hz_8 hv_9 rfl) rfl rfl (by kernel_rfl) ?_
     refine tf 13 rfl (purI_fa_q fld60_1 rfl rfl) rfl rfl (by kernel_rfl) ?_
     exact tj hj28_5 rfl (wp 8 (lb rfl) rfl rfl rfl rfl rfl)
   refine tf 0 rfl (purI_fa_b fld32_1 rfl rfl) rfl rfl (by kernel_rfl) ?_
   refine tf 2 rfl (purI_fa_b fld32_1 rfl rfl) rfl rfl (by kernel_rfl) ?_
   refine tf 4 rfl (purI_move rfl) rfl rfl (by kernel_rfl) ?_
   refine tf 9 rfl (purI_fa_b fld32_1 rfl rfl) rfl rfl (by kernel_rfl) ?_
   refine tf 11 rfl (purI_move rfl) rfl rfl (by kernel_rfl) ?_
   refine TA_all [1, 3, 8, 10] (by kernel_rfl) (by decide) ⟨?_, ?_, ?_, ?_, trivial⟩
   ·skip
    refine ⟨_, rfl, rfl, (TOp_pure (pur_ld_b one30 rfl rfl rfl rfl) rfl ?_)⟩
    refine TA_all [3, 8, 10] (by kernel_rfl) (by decide) ⟨?_, ?_, ?_, trivial⟩
    ·skip
     refine ⟨_, rfl, rfl, (TOp_pure (pur_ld_b one30 rfl rfl rfl rfl) rfl ?_)⟩
     refine tf 5 rfl (purI_ixT (T := tFact) sl30 rfl rfl hz_8 hv_9 rfl) rfl rfl (by kernel_rfl) ?_
     refine tae [(1, (.b 0 0)), (2, (.b 1 0)), (3, (.b 4 0)), (4, (intA i4)), (18, (.m [5] 0 box4_facts.length tFact.k)), (22, (.q (flat tFact.enc d0.facts) (n_7 * tFact.k))), (26, (.b 0 1)), (28, (intA i4))] rfl ?_
     refine tf 6 rfl (purI_fa_q fld60_0 rfl rfl) rfl rfl (by kernel_rfl) ?_
     exact tj hj34_5 rfl (wp 8 (lb rfl) rfl rfl rfl rfl rfl)
    ·skip
     refine ⟨_, rfl, rfl, (TOp_lit (nn := 0) (k := 1) sl33 zero3 rfl rfl rfl rfl (by decide) ?_)⟩
     refine tmv 6 8 (by decide) (lb rfl) rfl rfl (lb rfl) ?_
     exact tj hj35_5 rfl (wp 8 (lb rfl) rfl rfl rfl rfl rfl)
    ·skip
     refine ⟨_, rfl, rfl, (TOp_pure (pur_ld_b one30 rfl rfl rfl rfl) rfl ?_)⟩
     refine tf 12 rfl (purI_ixT (T := tFact) sl30 rfl rfl hz_8 hv_9 rfl) rfl rfl (by kernel_rfl) ?_
     refine tae [(1, (.b 0 0)), (2, (.b 1 0)), (3, (.b 4 0)), (4, (intA i4)), (18, (.m [5] 0 box4_facts.length tFact.k)), (19, (.b 0 1)), (21, (intA i4)), (29, (.q (flat tFact.enc d0.facts) (n_7 * tFact.k)))] rfl ?_
     refine tf 13 rfl (purI_fa_q fld60_1 rfl rfl) rfl rfl (by kernel_rfl) ?_
     exact tj hj33_5 rfl (wp 8 (lb rfl) rfl rfl rfl rfl rfl)
   ·skip
    refine ⟨_, rfl, rfl, (TOp_pure (pur_ld_b one30 rfl rfl rfl rfl) rfl ?_)⟩
    refine tf 5 rfl (purI_ixT (T := tFact) sl30 rfl rfl hz_8 hv_9 rfl) rfl rfl (by kernel_rfl) ?_
    refine tae [(1, (.b 0 0)), (2, (.b 1 0)), (3, (.b 4 0)), (4, (intA i4)), (17, (.b 4 1)), (22, (.q (flat tFact.enc d0.facts) (n_7 * tFact.k))), (26, (.b 0 1)), (28, (intA i4))] rfl ?_
    refine tf 6 rfl (purI_fa_q fld60_0 rfl rfl) rfl rfl (by kernel_rfl) ?_
    refine TA_all [1, 7, 8, 10] (by kernel_rfl) (by decide) ⟨?_, ?_, ?_, ?_, trivial⟩
    ·skip
     refine ⟨_, rfl, rfl, (TOp_pure (pur_ld_b one30 rfl rfl rfl rfl) rfl ?_)⟩
     exact tj hj34_5 rfl (wp 8 (lb rfl) rfl rfl rfl rfl rfl)
    ·skip
     refine ⟨_, rfl, rfl, (TOp_pure (pur_ldT (T := tFact) (i := n_7) (off := 0) rfl one3 rfl rfl hv_9 rfl) rfl ?_)⟩
     refine TA_all [1, 8, 10] (by kernel_rfl) (by decide) ⟨?_, ?_, ?_, trivial⟩
     ·skip
      refine ⟨_, rfl, rfl, (TOp_pure (pur_ld_b one30 rfl rfl rfl rfl) rfl ?_)⟩
      exact tj hj30_5 rfl (wp 8 (lb rfl) rfl rfl rfl rfl rfl)
     ·skip
      refine ⟨_, rfl, rfl, (TOp_lit (nn := 0) (k := 1) sl33 zero3 rfl rfl rfl rfl (by decide) ?_)⟩
      refine tmv 6 8 (by decide) (lb rfl) rfl rfl (lb rfl) ?_
      exact tj hj26_5 rfl (wp 8 (lb rfl) rfl rfl rfl rfl rfl)
     ·skip
      refine ⟨_, rfl, rfl, (TOp_pure (pur_ld_b one30 rfl rfl rfl rfl) rfl ?_)⟩
      refine tf 12 rfl (purI_ixT (T := tFact) sl30 rfl rfl hz_8 hv_9 rfl) rfl rfl (by kernel_rfl) ?_
      refine tf 13 rfl (purI_fa_q fld60_1 rfl rfl) rfl rfl (by kernel_rfl) ?_
      refine tae [(1, (.b 0 0)), (2, (.b 1 0)), (3, (.b 4 0)), (4, (intA i4)), (17, (.b 4 1)), (24, (intA v_5.relation)), (30, (.q (flat tFact.enc d0.facts) (n_7 * tFact.k + 1)))] rfl ?_
      exact tj hj19_5 rfl (wp 8 (lb rfl) rfl rfl rfl rfl rfl)
    ·skip
     refine ⟨_, rfl, rfl, (TOp_lit (nn := 0) (k := 1) sl33 zero3 rfl rfl rfl rfl (by decide) ?_)⟩
     refine tmv 6 8 (by decide) (lb rfl) rfl rfl (lb rfl) ?_
     exact tj hj32_5 rfl (wp 8 (lb rfl) rfl rfl rfl rfl rfl)
    ·skip
     refine ⟨_, rfl, rfl, (TOp_pure (pur_ld_b one30 rfl rfl rfl rfl) rfl ?_)⟩
     refine tf 12 rfl (purI_ixT (T := tFact) sl30 rfl rfl hz_8 hv_9 rfl) rfl rfl (by kernel_rfl) ?_
     refine tf 13 rfl (purI_fa_q fld60_1 rfl rfl) rfl rfl (by kernel_rfl) ?_
     exact tj hj22_5 rfl (wp 8 (lb rfl) rfl rfl rfl rfl rfl)
   ·skip
    refine ⟨_, rfl, rfl, (TOp_lit (nn := 0) (k := 1) sl33 zero3 rfl rfl rfl rfl (by decide) ?_)⟩
    refine tmv 6 8 (by decide) (lb rfl) rfl rfl (lb rfl) ?_
    refine TA_all [1, 3, 10] (by kernel_rfl) (by decide) ⟨?_, ?_, ?_, trivial⟩
    ·skip
     refine ⟨_, rfl, rfl, (TOp_pure (pur_ld_b one30 rfl rfl rfl rfl) rfl ?_)⟩
     exact tj hj35_5 rfl (wp 8 (lb rfl) rfl rfl rfl rfl rfl)
    ·skip
     refine ⟨_, rfl, rfl, (TOp_pure (pur_ld_b one30 rfl rfl rfl rfl) rfl ?_)⟩
     refine tf 5 rfl (purI_ixT (T := tFact) sl30 rfl rfl hz_8 hv_9 rfl) rfl rfl (by kernel_rfl) ?_
     refine tae [(1, (.b 0 0)), (2, (.b 1 0)), (3, (.b 4 0)), (4, (intA i4)), (17, (.b 4 1)), (22, (.q (flat tFact.enc d0.facts) (n_7 * tFact.k))), (25, (.m [6] 0 ([] : (List Int)).length tInt.k)), (26, (.b 0 1)), (28, (intA i4))] rfl ?_
     refine tf 6 rfl (purI_fa_q fld60_0 rfl rfl) rfl rfl (by kernel_rfl) ?_
     exact tj hj32_5 rfl (wp 8 (lb rfl) rfl rfl rfl rfl rfl)
    ·skip
     refine ⟨_, rfl, rfl, (TOp_pure (pur_ld_b one30 rfl rfl rfl rfl) rfl ?_)⟩
     refine tf 12 rfl (purI_ixT (T := tFact) sl30 rfl rfl hz_8 hv_9 rfl) rfl rfl (by kernel_rfl) ?_
     refine tae [(1, (.b 0 0)), (2, (.b 1 0)), (3, (.b 4 0)), (4, (intA i4)), (17, (.b 4 1)), (19, (.b 0 1)), (21, (intA i4)), (25, (.m [6] 0 ([] : (List Int)).length tInt.k)), (29, (.q (flat tFact.enc d0.facts) (n_7 * tFact.k)))] rfl ?_
     refine tf 13 rfl (purI_fa_q fld60_1 rfl rfl) rfl rfl (by kernel_rfl) ?_
     exact tj hj31_5 rfl (wp 8 (lb rfl) rfl rfl rfl rfl rfl)
   ·skip
    refine ⟨_, rfl, rfl, (TOp_pure (pur_ld_b one30 rfl rfl rfl rfl) rfl ?_)⟩
    refine tf 12 rfl (purI_ixT (T := tFact) sl30 rfl rfl hz_8 hv_9 rfl) rfl rfl (by kernel_rfl) ?_
    refine tae [(1, (.b 0 0)), (2, (.b 1 0)), (3, (.b 4 0)), (4, (intA i4)), (17, (.b 4 1)), (19, (.b 0 1)), (21, (intA i4)), (29, (.q (flat tFact.enc d0.facts) (n_7 * tFact.k)))] rfl ?_
    refine tf 13 rfl (purI_fa_q fld60_1 rfl rfl) rfl rfl (by kernel_rfl) ?_
    refine TA_all [1, 3, 8, 14] (by kernel_rfl) (by decide) ⟨?_, ?_, ?_, ?_, trivial⟩
    ·skip
     refine ⟨_, rfl, rfl, (TOp_pure (pur_ld_b one30 rfl rfl rfl rfl) rfl ?_)⟩
     exact tj hj33_5 rfl (wp 8 (lb rfl) rfl rfl rfl rfl rfl)
    ·skip
     refine ⟨_, rfl, rfl, (TOp_pure (pur_ld_b one30 rfl rfl rfl rfl) rfl ?_)⟩
     refine tf 5 rfl (purI_ixT (T := tFact) sl30 rfl rfl hz_8 hv_9 rfl) rfl rfl (by kernel_rfl) ?_
     refine tf 6 rfl (purI_fa_q fld60_0 rfl rfl) rfl rfl (by kernel_rfl) ?_
     exact tj hj22_5 rfl (wp 8 (lb rfl) rfl rfl rfl rfl rfl)
    ·skip
     refine ⟨_, rfl, rfl, (TOp_lit (nn := 0) (k := 1) sl33 zero3 rfl rfl rfl rfl (by decide) ?_)⟩
     refine tmv 6 8 (by decide) (lb rfl) rfl rfl (lb rfl) ?_
     exact tj hj31_5 rfl (wp 8 (lb rfl) rfl rfl rfl rfl rfl)
    ·skip
     refine ⟨_, rfl, rfl, (TOp_pure (pur_ldT (T := tFact) (i := n_7) (off := 1) rfl one33 rfl rfl hv_9 rfl) rfl ?_)⟩
     refine TA_all [1, 3, 8] (by kernel_rfl) (by decide) ⟨?_, ?_, ?_, trivial⟩
     ·skip
      refine ⟨_, rfl, rfl, (TOp_pure (pur_ld_b one30 rfl rfl rfl rfl) rfl ?_)⟩
      exact tj hj27_5 rfl (wp 8 (lb rfl) rfl rfl rfl rfl rfl)
     ·skip
      refine ⟨_, rfl, rfl, (TOp_pure (pur_ld_b one30 rfl rfl rfl rfl) rfl ?_)⟩
      refine tf 5 rfl (purI_ixT (T := tFact) sl30 rfl rfl hz_8 hv_9 rfl) rfl rfl (by kernel_rfl) ?_
      refine tf 6 rfl (purI_fa_q fld60_0 rfl rfl) rfl rfl (by kernel_rfl) ?_
      refine tae [(1, (.b 0 0)), (2, (.b 1 0)), (3, (.b 4 0)), (4, (intA i4)), (17, (.b 4 1)), (23, (.q (flat tFact.enc d0.facts) (n_7 * tFact.k + 0))), (31, (sl tInt v_5.values))] rfl ?_
      exact tj hj17_5 rfl (wp 8 (lb rfl) rfl rfl rfl rfl rfl)
     ·skip
      refine ⟨_, rfl, rfl, (TOp_lit (nn := 0) (k := 1) sl33 zero3 rfl rfl rfl rfl (by decide) ?_)⟩
      refine tmv 6 8 (by decide) (lb rfl) rfl rfl (lb rfl) ?_
      exact tj hj25_5 rfl (wp 8 (lb rfl) rfl rfl rfl rfl rfl)
  ·replace H := cond_f c_4 H
   refine T_exit ?_
   refine then_exit ?_
   refine then_exit ?_
   refine block_exit ?_
   obtain rfl := some_inj H
   obtain rfl := some_inj K3_
   replace H := onS_l N3_
   refine te [(2, (.b 1 0)), (3, (.b 4 0))] rfl ?_
   refine sr ?_
   refine Tp rfl rfl (pur_ldK_b agg32 rfl rfl (lb rfl) rfl) rfl ?_
   refine TO_cons rfl (TOp_storeB sz32 rfl rfl rfl rfl rfl rfl rfl (by decide) (lb rfl) rfl ?_)
   refine TO_st (σ' := [.box [(sl tRelation d0.relations), (sl tFact d0.facts)], .box [(.m [2] 0 us_1.length tRelation.k), (.m [5] 0 box4_facts.length tFact.k)], .row (flat tRelation.enc us_1), .dead, .box [(.m [2] 0 us_1.length tRelation.k), (.m [5] 0 box4_facts.length tFact.k)], .row (flat tFact.enc box4_facts)]) rfl ?_
   refine TO_nil ?_
   refine te [(2, (.b 1 0))] rfl ?_
   refine T_ret ?_
   obtain rfl := some_inj H
   exact end_pick (.cellK rfl agg32 rfl (lb rfl) .nil) rfl [2, 5] (by decide) rfl rfl rfl rfl rfl rfl
theorem m_spec_l4Copy_ok (u : Nat) (d0 : Database) (r : Database) (H : m_spec_l4Copy u d0 = some r) : FnV prg 147 [(.g (tDatabase.enc d0))] (.g (tDatabase.enc r)) := (m_spec_l4Copy_own u d0 r H).frz (frzOK_g (frz_cons (frzTE (T := tRelation) rfl) (frz_cons (frzTE (T := tFact) rfl) frz_nil)).1 (frz_cons (frzTE (T := tRelation) rfl) (frz_cons (frzTE (T := tFact) rfl) frz_nil)).2)

set_option maxHeartbeats 1000000 in
/-- spec.FactIndex -/
theorem m_spec_FactIndex_ok (u : Nat) (d0 : Database) (f1 : Fact) (r : Int) (H : m_spec_FactIndex u d0 f1 = some r) : FnV prg 158 [(.g (tDatabase.enc d0)), (.g (tFact.enc f1))] (intA r) := by
  unfold m_spec_FactIndex at H
  refine fnV_of_T Try.func158 rfl rfl (Nat.le_of_ble_eq_true rfl) ?_
  refine te [(0, (.g (tDatabase.enc d0))), (1, (.g (tFact.enc f1)))] rfl ?_
  refine sr ?_
  refine TO_cons rfl (TOp_box rfl (boxAll rfl) rfl rfl ?_)
  refine TO_cons rfl (TOp_box rfl (boxAll rfl) rfl rfl ?_)
  refine Tp rfl rfl (pur_assign rfl) rfl ?_
  refine TO_nil ?_
  refine te [(2, (.b 0 0)), (3, (.b 1 0))] rfl ?_
  refine T_seq ?_
  refine sr ?_
  refine Tp rfl rfl (pur_assign rfl) rfl ?_
  refine TO_nil ?_
  refine te [(2, (.b 0 0)), (3, (.b 1 0)), (5, (intA 0))] rfl ?_
  obtain ⟨O1_, L1_, N1_⟩ := bind_inv H
  clear H
  obtain ⟨B1_, hb1, L1_⟩ := gen_whileF L1_
  refine T_block ?_
  refine T_loopX (fun k => fun (i5 : Int) => whileF B1_ k i5 = some O1_) (fun (i5 : Int) => [(2, (.b 0 0)), (3, (.b 1 0)), (5, (intA i5))]) (fun (i5 : Int) => [.box [(sl tRelation d0.relations), (sl tFact d0.facts)], .box [(intA f1.relation), (sl tInt f1.values)]]) u 0 (wp 2 (lb rfl) rfl rfl rfl rfl rfl) L1_ ?_
  rintro _ i5 L1_
  obtain ⟨k1, rfl, C1_, H, K1_⟩ := while_step L1_
  rw [hb1] at H
  refine te [(2, (.b 0 0)), (3, (.b 1 0)), (5, (intA i5))] rfl ?_
  refine T_st (σ' := [.box [(sl tRelation d0.relations), (sl tFact d0.facts)], .box [(intA f1.relation), (sl tInt f1.values)]]) rfl ?_
  refine T_seq ?_
  refine sr ?_
  refine Tp rfl rfl (pur_move rfl) rfl ?_
  refine Tp rfl rfl (pur_fa_b fld32_1 rfl rfl) rfl ?_
  refine Tp rfl rfl (pur_ld_b one30 rfl rfl rfl rfl) rfl ?_
  refine Tp rfl rfl (pur_lenT (T := tFact) sl30 rfl rfl) rfl ?_
  refine Tp rfl rfl (pur_lss rfl rfl rfl) rfl ?_
  refine TO_nil ?_
  refine te [(2, (.b 0 0)), (3, (.b 1 0)), (5, (intA i5)), (10, (boolA (decide (i5 < (d0.facts.length : Int)))))] rfl ?_
  refine T_cond (t := decide (i5 < (d0.facts.length : Int))) rfl (fun c_2 => ?_) (fun c_2 => ?_)
  ·replace H := cond_t c_2 H
   refine T_skip ?_
   refine te [(2, (.b 0 0)), (3, (.b 1 0)), (5, (intA i5))] rfl ?_
   refine T_seq ?_
   refine T_block ?_
   refine T_seq ?_
   refine T_regionD mixed (by kernel_rfl) ?_
   refine TQ_pure rfl (pur_fa_b fld32_1 rfl rfl) rfl ?_
   refine TQ_pure rfl (pur_ld_b one30 rfl rfl rfl rfl) rfl ?_
   refine TQ_pure rfl (pur_move rfl) rfl ?_
   obtain ⟨v_3, h_4, H⟩ := bind_inv H
   obtain ⟨n_5, hz_6, hv_7⟩ := getI_inv h_4
   refine TQ_pure rfl (pur_ixT (T := tFact) sl30 rfl rfl hz_6 hv_7 rfl) rfl ?_
   refine TQ_pure rfl (pur_ldTK (T := tFact) (i := n_5) (off := 0) rfl agg60 rfl rfl hv_7 (by decide) rfl) rfl ?_
   refine TQ_pure rfl (pur_ldK_b agg60 rfl rfl (lb rfl) rfl) rfl ?_
   obtain ⟨r_8, h_9, H⟩ := bind_inv H
   refine TQ_callV rfl (call_static ent103 rfl) (m_spec_CompareFacts_ok u _ _ _ h_9) rfl rfl ?_
   refine TQ_pure rfl (pur_eql rfl rfl rfl) rfl ?_
   refine TQ_nil ?_
   refine te [(2, (.b 0 0)), (3, (.b 1 0)), (5, (intA i5)), (20, (boolA (decide (r_8 = 0))))] rfl ?_
   refine T_cond (t := decide (r_8 = 0)) rfl (fun c_10 => ?_) (fun c_10 => ?_)
   ·replace H := cond_t c_10 H
    refine sr ?_
    refine Tp rfl rfl (pur_move rfl) rfl ?_
    refine Tp rfl rfl (pur_assign rfl) rfl ?_
    refine TO_nil ?_
    refine te [(4, (intA i5))] rfl ?_
    refine T_ret ?_
    refine block_ret ?_
    refine then_ret ?_
    refine then_ret ?_
    refine block_ret ?_
    refine then_ret ?_
    obtain rfl := some_inj H
    obtain rfl := some_inj K1_
    replace H := onS_r N1_
    obtain rfl := some_inj H
    refine end_ret (.tmp .nil) rfl rfl ⟨?_, rfl⟩
    rfl
   ·replace H := cond_f c_10 H
    refine T_skip ?_
    refine te [(2, (.b 0 0)), (3, (.b 1 0)), (5, (intA i5))] rfl ?_
    refine T_region ?_
    refine Tp rfl rfl (pur_move rfl) rfl ?_
    refine Tp rfl rfl (pur_wadd rfl rfl rfl) rfl ?_
    refine Tp rfl rfl (pur_assign rfl) rfl ?_
    refine TO_nil ?_
    obtain rfl := some_inj H
    exact again k1 (w64 (i5 + 1)) (Nat.lt_succ_self _) (wp 2 (lb rfl) rfl rfl rfl rfl rfl) K1_
  ·replace H := cond_f c_2 H
   refine T_exit ?_
   refine then_exit ?_
   refine then_exit ?_
   refine block_exit ?_
   obtain rfl := some_inj H
   obtain rfl := some_inj K1_
   replace H := onS_l N1_
   refine te [] rfl ?_
   refine sr ?_
   refine Tp rfl rfl (pur_assign rfl) rfl ?_
   refine TO_nil ?_
   refine te [(4, (intA (-1)))] rfl ?_
   refine T_ret ?_
   obtain rfl := some_inj H
   refine end_ret (.tmp .nil) rfl rfl ⟨?_, rfl⟩
   rfl

set_option maxHeartbeats 1000000 in
/-- spec.ContainsFact -/
theorem m_spec_ContainsFact_ok (u : Nat) (d0 : Database) (f1 : Fact) (r : Bool) (H : m_spec_ContainsFact u d0 f1 = some r) : FnV prg 148 [(.g (tDatabase.enc d0)), (.g (tFact.enc f1))] (boolA r) := by
  unfold m_spec_ContainsFact at H
  refine fnV_of_T Try.func148 rfl rfl (Nat.le_of_ble_eq_true rfl) ?_
  refine te [(0, (.g (tDatabase.enc d0))), (1, (.g (tFact.enc f1)))] rfl ?_
  refine sr ?_
  refine TO_cons rfl (TOp_box rfl (boxAll rfl) rfl rfl ?_)
  refine TO_cons rfl (TOp_box rfl (boxAll rfl) rfl rfl ?_)
  refine Tp rfl rfl (pur_assign rfl) rfl ?_
  refine TO_nil ?_
  refine te [(2, (.b 0 0)), (3, (.b 1 0))] rfl ?_
  obtain ⟨t4_1, J_1, H_2⟩ := bind_inv H
  refine T_cutX (fun x => t4_1 = x) (fun (t4_1 : Bool) => [(4, (boolA t4_1))]) (fun (t4_1 : Bool) => []) ?_ ?_
  ·replace H := J_1
   refine T_region ?_
   refine Tp rfl rfl (pur_ldK_b agg32 rfl rfl (lb rfl) rfl) rfl ?_
   obtain ⟨r_3, h_4, H⟩ := bind_inv H
   refine TO_cons rfl (TOp_callV (call_static ent76 rfl) (m_spec_IsValidDatabase_ok u _ _ h_4) rfl rfl rfl ?_)
   refine Tp rfl rfl (pur_move rfl) rfl ?_
   refine TO_split (t := r_3) 7 rfl (fun g_5 => ?_) (fun g_5 => ?_)
   ·replace H := cond_t g_5 H
    refine TO_on rfl rfl (by decide) rfl rfl (TOp_pure (pur_ldK_b agg32 rfl rfl (lb rfl) rfl) rfl ?_)
    refine TO_on rfl rfl (by decide) rfl rfl (TOp_pure (pur_ldK_b agg60 rfl rfl (lb rfl) rfl) rfl ?_)
    obtain ⟨r_6, h_7, H⟩ := bind_inv H
    refine TO_on rfl rfl (by decide) rfl rfl (TOp_callV (call_static ent158 rfl) (m_spec_FactIndex_ok u _ _ _ h_7) rfl rfl rfl ?_)
    refine TO_on rfl rfl (by decide) rfl rfl (TOp_pure (pur_geq rfl rfl rfl) rfl ?_)
    refine Tp rfl rfl (pur_pick (t := true) rfl rfl rfl) rfl ?_
    refine Tp rfl rfl (pur_assign rfl) rfl ?_
    refine TO_nil ?_
    exact joined (decide (0 ≤ r_6)) (wp 0 (lb rfl) rfl rfl rfl rfl rfl) (some_inj H).symm
   ·replace H := cond_f g_5 H
    refine TO_off rfl rfl (by decide) rfl rfl rfl ?_
    refine TO_off rfl rfl (by decide) rfl rfl rfl ?_
    refine TO_off rfl rfl (by decide) rfl rfl rfl ?_
    refine TO_off rfl rfl (by decide) rfl rfl rfl ?_
    refine Tp rfl rfl (pur_pick (t := false) rfl rfl rfl) rfl ?_
    refine Tp rfl rfl (pur_assign rfl) rfl ?_
    refine TO_nil ?_
    exact joined false (wp 0 (lb rfl) rfl rfl rfl rfl rfl) (some_inj H).symm
  ·rintro _ rfl
   replace H := H_2
   refine te [(4, (boolA t4_1))] rfl ?_
   refine T_ret ?_
   obtain rfl := some_inj H
   refine end_ret (.tmp .nil) rfl rfl ⟨?_, rfl⟩
   rfl

set_option maxHeartbeats 1000000 in
/-- spec.InsertFact -/
theorem m_spec_InsertFact_own (u : Nat) (d0 : Database) (f1 : Fact) (r : (Database × Bool)) (H : m_spec_InsertFact u d0 f1 = some r) : FnO prg 127 [(.g (tDatabase.enc d0)), (.g (tFact.enc f1))] (.t [(.g [(.m [0] 0 r.1.relations.length tRelation.k), (.m [1] 0 r.1.facts.length tFact.k)]), (boolA r.2)]) [.row (flat tRelation.enc r.1.relations), .row (flat tFact.enc r.1.facts)] := by
  unfold m_spec_InsertFact at H
  refine fnO_of_T Try.func127 rfl rfl (Nat.le_of_ble_eq_true rfl) ?_
  refine te [(0, (.g (tDatabase.enc d0))), (1, (.g (tFact.enc f1)))] rfl ?_
  refine sr ?_
  refine TO_cons rfl (TOp_box rfl (boxAll rfl) rfl rfl ?_)
  refine TO_cons rfl (TOp_box rfl (boxAll rfl) rfl rfl ?_)
  refine TO_cons rfl (TOp_alloc zero32 rfl rfl ?_)
  refine Tp rfl rfl (pur_assign rfl) rfl ?_
  refine TO_nil ?_
  refine te [(2, (.b 0 0)), (3, (.b 1 0)), (4, (.b 2 0))] rfl ?_
  refine sr ?_
  refine Tp rfl rfl (pur_ldK_b agg32 rfl rfl (lb rfl) rfl) rfl ?_
  obtain ⟨r_1, h_2, H⟩ := bind_inv H
  refine TO_cons rfl (TOp_callO (call_static ent147 rfl) rfl (m_spec_l4Copy_own u _ _ h_2) rfl rfl rfl ?_)
  refine toe [(2, (.b 0 0)), (3, (.b 1 0)), (4, (.b 2 0)), (9, (.g (tDatabase.enc d0))), (10, (.g [(.m [3] 0 r_1.relations.length tRelation.k), (.m [4] 0 r_1.facts.length tFact.k)]))] rfl ?_
  refine TO_st (σ' := [.box [(sl tRelation d0.relations), (sl tFact d0.facts)], .box [(intA f1.relation), (sl tInt f1.values)], .box [.n, .n], .row (flat tRelation.enc r_1.relations), .row (flat tFact.enc r_1.facts)]) rfl ?_
  refine TO_cons rfl (TOp_alloc zero32 rfl rfl ?_)
  refine TO_cons rfl (TOp_storeB sz32 rfl rfl rfl rfl rfl rfl rfl (by decide) (lb rfl) rfl ?_)
  refine TO_st (σ' := [.box [(sl tRelation d0.relations), (sl tFact d0.facts)], .box [(intA f1.relation), (sl tInt f1.values)], .box [.n, .n], .row (flat tRelation.enc r_1.relations), .row (flat tFact.enc r_1.facts), .box [(.m [3] 0 r_1.relations.length tRelation.k), (.m [4] 0 r_1.facts.length tFact.k)]]) rfl ?_
  refine TO_nil ?_
  refine te [(2, (.b 0 0)), (3, (.b 1 0)), (4, (.b 2 0)), (6, (.b 5 0))] rfl ?_
  refine T_seq ?_
  obtain ⟨t31_3, J_3, H_4⟩ := bind_inv H
  refine T_cutX (fun x => t31_3 = x) (fun (t31_3 : Bool) => [(3, (.b 1 0)), (4, (.b 2 0)), (6, (.b 5 0)), (31, (boolA t31_3))]) (fun (t31_3 : Bool) => [.box [(sl tRelation d0.relations), (sl tFact d0.facts)], .box [(intA f1.relation), (sl tInt f1.values)], .box [.n, .n], .row (flat tRelation.enc r_1.relations), .row (flat tFact.enc r_1.facts), .box [(.m [3] 0 r_1.relations.length tRelation.k), (.m [4] 0 r_1.facts.length tFact.k)]]) ?_ ?_
  ·replace H := J_3
   refine T_region ?_
   refine Tp rfl rfl (pur_ldK_b agg32 rfl rfl (lb rfl) rfl) rfl ?_
   obtain ⟨r_5, h_6, H⟩ := bind_inv H
   refine TO_cons rfl (TOp_callV (call_static ent76 rfl) (m_spec_IsValidDatabase_ok u _ _ h_6) rfl rfl rfl ?_)
   refine Tp rfl rfl (pur_not rfl rfl) rfl ?_
   refine Tp rfl rfl (pur_move rfl) rfl ?_
   refine TO_split (t := (!r_5)) 14 rfl (fun g_7 => ?_) (fun g_7 => ?_)
   ·replace H := cond_t g_7 H
    refine TO_off rfl rfl (by decide) rfl rfl rfl ?_
    refine TO_off rfl rfl (by decide) rfl rfl rfl ?_
    refine TO_off rfl rfl (by decide) rfl rfl rfl ?_
    refine TO_off rfl rfl (by decide) rfl rfl rfl ?_
    refine TO_off rfl rfl (by decide) rfl rfl rfl ?_
    refine Tp rfl rfl (pur_pick (t := true) rfl rfl rfl) rfl ?_
    refine Tp rfl rfl (pur_move rfl) rfl ?_
    refine TO_off rfl rfl (by decide) rfl rfl rfl ?_
    refine toe [(2, (.b 0 0)), (3, (.b 1 0)), (4, (.b 2 0)), (6, (.b 5 0)), (21, (boolA true)), (22, (.v undef))] rfl ?_
    refine TO_off rfl rfl (by decide) rfl rfl rfl ?_
    refine TO_off rfl rfl (by decide) rfl rfl rfl ?_
    refine Tp rfl rfl (pur_pick (t := true) rfl rfl rfl) rfl ?_
    refine Tp rfl rfl (pur_move rfl) rfl ?_
    refine TO_off rfl rfl (by decide) rfl rfl rfl ?_
    refine TO_off rfl rfl (by decide) rfl rfl rfl ?_
    refine TO_off rfl rfl (by decide) rfl rfl rfl ?_
    refine TO_off rfl rfl (by decide) rfl rfl rfl ?_
    refine Tp rfl rfl (pur_pick (t := true) rfl rfl rfl) rfl ?_
    refine TO_nil ?_
    exact joined true (wp 6 (lb rfl) rfl rfl rfl rfl rfl) (some_inj H).symm
   ·replace H := cond_f g_7 H
    refine TO_on rfl rfl (by decide) rfl rfl (TOp_pure (pur_fa_b fld32_0 rfl rfl) rfl ?_)
    refine TO_on rfl rfl (by decide) rfl rfl (TOp_pure (pur_ld_b one29 rfl rfl rfl rfl) rfl ?_)
    refine TO_on rfl rfl (by decide) rfl rfl (TOp_pure (pur_ldK_b agg60 rfl rfl (lb rfl) rfl) rfl ?_)
    obtain ⟨r_8, h_9, H⟩ := bind_inv H
    refine TO_on rfl rfl (by decide) rfl rfl (TOp_callV (call_static ent102 rfl) (m_spec_IsValidFact_ok u _ _ _ h_9) rfl rfl rfl ?_)
    refine TO_on rfl rfl (by decide) rfl rfl (TOp_pure (pur_not rfl rfl) rfl ?_)
    refine Tp rfl rfl (pur_pick (t := false) rfl rfl rfl) rfl ?_
    refine Tp rfl rfl (pur_move rfl) rfl ?_
    refine TO_split (t := (!r_8)) 21 rfl (fun g_10 => ?_) (fun g_10 => ?_)
    ·replace H := cond_t g_10 H
     refine TO_off rfl rfl (by decide) rfl rfl rfl ?_
     refine TO_off rfl rfl (by decide) rfl rfl rfl ?_
     refine TO_off rfl rfl (by decide) rfl rfl rfl ?_
     refine Tp rfl rfl (pur_pick (t := true) rfl rfl rfl) rfl ?_
     refine Tp rfl rfl (pur_move rfl) rfl ?_
     refine TO_off rfl rfl (by decide) rfl rfl rfl ?_
     refine TO_off rfl rfl (by decide) rfl rfl rfl ?_
     refine TO_off rfl rfl (by decide) rfl rfl rfl ?_
     refine TO_off rfl rfl (by decide) rfl rfl rfl ?_
     refine Tp rfl rfl (pur_pick (t := true) rfl rfl rfl) rfl ?_
     refine TO_nil ?_
     exact joined true (wp 6 (lb rfl) rfl rfl rfl rfl rfl) (some_inj H).symm
    ·replace H := cond_f g_10 H
     refine TO_on rfl rfl (by decide) rfl rfl (TOp_pure (pur_ldK_b agg32 rfl rfl (lb rfl) rfl) rfl ?_)
     refine TO_on rfl rfl (by decide) rfl rfl (TOp_pure (pur_ldK_b agg60 rfl rfl (lb rfl) rfl) rfl ?_)
     obtain ⟨r_11, h_12, H⟩ := bind_inv H
     refine TO_on rfl rfl (by decide) rfl rfl (TOp_callV (call_static ent148 rfl) (m_spec_ContainsFact_ok u _ _ _ h_12) rfl rfl rfl ?_)
     refine Tp rfl rfl (pur_pick (t := false) rfl rfl rfl) rfl ?_
     refine Tp rfl rfl (pur_move rfl) rfl ?_
     refine TO_split (t := r_11) 26 rfl (fun g_13 => ?_) (fun g_13 => ?_)
     ·replace H := cond_t g_13 H
      refine TO_off rfl rfl (by decide) rfl rfl rfl ?_
      refine TO_off rfl rfl (by decide) rfl rfl rfl ?_
      refine TO_off rfl rfl (by decide) rfl rfl rfl ?_
      refine TO_off rfl rfl (by decide) rfl rfl rfl ?_
      refine Tp rfl rfl (pur_pick (t := true) rfl rfl rfl) rfl ?_
      refine TO_nil ?_
      exact joined true (wp 6 (lb rfl) rfl rfl rfl rfl rfl) (some_inj H).symm
     ·replace H := cond_f g_13 H
      refine TO_on rfl rfl (by decide) rfl rfl (TOp_pure (pur_fa_b fld32_1 rfl rfl) rfl ?_)
      refine TO_on rfl rfl (by decide) rfl rfl (TOp_pure (pur_ld_b one30 rfl rfl rfl rfl) rfl ?_)
      refine TO_on rfl rfl (by decide) rfl rfl (TOp_pure (pur_lenT (T := tFact) sl30 rfl rfl) rfl ?_)
      refine TO_on rfl rfl (by decide) rfl rfl (TOp_pure (pur_eql rfl rfl rfl) rfl ?_)
      refine Tp rfl rfl (pur_pick (t := false) rfl rfl rfl) rfl ?_
      refine TO_nil ?_
      exact joined (decide ((d0.facts.length : Int) = 14)) (wp 6 (lb rfl) rfl rfl rfl rfl rfl) (some_inj H).symm
  ·rintro _ rfl
   replace H := H_4
   refine te [(3, (.b 1 0)), (4, (.b 2 0)), (6, (.b 5 0)), (31, (boolA t31_3))] rfl ?_
   refine T_cond (t := t31_3) rfl (fun c_14 => ?_) (fun c_14 => ?_)
   ·replace H := cond_t c_14 H
    refine sr ?_
    refine Tp rfl rfl (pur_ldK_b agg32 rfl rfl (lb rfl) rfl) rfl ?_
    refine TO_cons rfl (TOp_storeB sz32 rfl rfl rfl rfl rfl rfl rfl (by decide) (lb rfl) rfl ?_)
    refine TO_st (σ' := [.box [(sl tRelation d0.relations), (sl tFact d0.facts)], .box [(intA f1.relation), (sl tInt f1.values)], .box [(.m [3] 0 r_1.relations.length tRelation.k), (.m [4] 0 r_1.facts.length tFact.k)], .row (flat tRelation.enc r_1.relations), .row (flat tFact.enc r_1.facts), .box [(.m [3] 0 r_1.relations.length tRelation.k), (.m [4] 0 r_1.facts.length tFact.k)]]) rfl ?_
    refine Tp rfl rfl (pur_assign rfl) rfl ?_
    refine TO_nil ?_
    refine te [(4, (.b 2 0)), (5, (boolA false))] rfl ?_
    refine T_ret ?_
    refine then_ret ?_
    obtain rfl := some_inj H
    exact end_pick (.cellK rfl agg32 rfl (lb rfl) (.tmp .nil)) rfl [3, 4] (by decide) rfl rfl rfl rfl rfl rfl
   ·replace H := cond_f c_14 H
    refine T_skip ?_
    refine te [(3, (.b 1 0)), (4, (.b 2 0)), (6, (.b 5 0))] rfl ?_
    refine sr ?_
    refine Tp rfl rfl (pur_assign rfl) rfl ?_
    refine TO_nil ?_
    refine te [(3, (.b 1 0)), (4, (.b 2 0)), (6, (.b 5 0)), (7, (intA 0))] rfl ?_
    obtain ⟨O15_, L15_, N15_⟩ := bind_inv H
    clear H
    obtain ⟨B15_, hb15, L15_⟩ := gen_whileF L15_
    refine T_cutX (fun (x : Int) => O15_ = .inl x) (fun (k7 : Int) => [(3, (.b 1 0)), (4, (.b 2 0)), (6, (.b 5 0)), (7, (intA k7))]) (fun (k7 : Int) => [.box [(sl tRelation d0.relations), (sl tFact d0.facts)], .box [(intA f1.relation), (sl tInt f1.values)], .box [.n, .n], .row (flat tRelation.enc r_1.relations), .row (flat tFact.enc r_1.facts), .box [(.m [3] 0 r_1.relations.length tRelation.k), (.m [4] 0 r_1.facts.length tFact.k)]]) ?_ ?_
    ·skip
     refine T_block ?_
     refine T_loopX (fun k => fun (k7 : Int) => whileF B15_ k k7 = some O15_) (fun (k7 : Int) => [(3, (.b 1 0)), (4, (.b 2 0)), (6, (.b 5 0)), (7, (intA k7))]) (fun (k7 : Int) => [.box [(sl tRelation d0.relations), (sl tFact d0.facts)], .box [(intA f1.relation), (sl tInt f1.values)], .box [.n, .n], .row (flat tRelation.enc r_1.relations), .row (flat tFact.enc r_1.facts), .box [(.m [3] 0 r_1.relations.length tRelation.k), (.m [4] 0 r_1.facts.length tFact.k)]]) u 0 (wp 6 (lb rfl) rfl rfl rfl rfl rfl) L15_ ?_
     rintro _ k7 L15_
     obtain ⟨k15, rfl, C15_, H, K15_⟩ := while_step L15_
     rw [hb15] at H
     refine te [(3, (.b 1 0)), (4, (.b 2 0)), (6, (.b 5 0)), (7, (intA k7))] rfl ?_
     refine T_st (σ' := [.box [(sl tRelation d0.relations), (sl tFact d0.facts)], .box [(intA f1.relation), (sl tInt f1.values)], .box [.n, .n], .row (flat tRelation.enc r_1.relations), .row (flat tFact.enc r_1.facts), .box [(.m [3] 0 r_1.relations.length tRelation.k), (.m [4] 0 r_1.facts.length tFact.k)]]) rfl ?_
     refine T_seq ?_
     obtain ⟨t47_16, J_16, H_17⟩ := bind_inv H
     refine T_cutX (fun x => t47_16 = x) (fun (t47_16 : Bool) => [(3, (.b 1 0)), (4, (.b 2 0)), (6, (.b 5 0)), (7, (intA k7)), (47, (boolA t47_16))]) (fun (t47_16 : Bool) => [.box [(sl tRelation d0.relations), (sl tFact d0.facts)], .box [(intA f1.relation), (sl tInt f1.values)], .box [.n, .n], .row (flat tRelation.enc r_1.relations), .row (flat tFact.enc r_1.facts), .box [(.m [3] 0 r_1.relations.length tRelation.k), (.m [4] 0 r_1.facts.length tFact.k)]]) ?_ ?_
     ·replace H := J_16
      refine T_regionD mixed (by kernel_rfl) ?_
      refine TQ_pure rfl (pur_move rfl) rfl ?_
      refine TQ_pure rfl (pur_fa_b fld32_1 rfl rfl) rfl ?_
      refine TQ_pure rfl (pur_ld_b one30 rfl rfl rfl rfl) rfl ?_
      refine TQ_pure rfl (pur_len_m sl30 rfl rfl) rfl ?_
      refine TQ_pure rfl (pur_lss rfl rfl rfl) rfl ?_
      refine TQ_pure rfl (pur_move rfl) rfl ?_
      refine TQ_split (t := decide (k7 < (r_1.facts.length : Int))) 38 rfl (fun g_18 => ?_) (fun g_18 => ?_)
      ·replace H := cond_t g_18 H
       refine TQ_on rfl rfl (by decide) rfl (pur_fa_b fld32_1 rfl rfl) rfl ?_
       refine TQ_on rfl rfl (by decide) rfl (pur_ld_b one30 rfl rfl rfl rfl) rfl ?_
       refine TQ_on rfl rfl (by decide) rfl (pur_move rfl) rfl ?_
       obtain ⟨v_19, h_20, H⟩ := bind_inv H
       obtain ⟨n_21, hz_22, hv_23⟩ := getI_inv h_20
       refine TQ_on rfl rfl (by decide) rfl (pur_ixM (T := tFact) sl30 rfl rfl hz_22 hv_23 rfl) rfl ?_
       refine TQ_on rfl rfl (by decide) rfl (pur_ldEK (f := tFact.enc) (k := tFact.k) (i := n_21) (off := 0) tFact.len rfl agg60 rfl rfl rfl hv_23 (by decide) rfl) rfl ?_
       refine TQ_on rfl rfl (by decide) rfl (pur_ldK_b agg60 rfl rfl (lb rfl) rfl) rfl ?_
       obtain ⟨r_24, h_25, H⟩ := bind_inv H
       refine TQ_onV rfl rfl (by decide) rfl (call_static ent103 rfl) (m_spec_CompareFacts_ok u _ _ _ h_25) rfl rfl ?_
       refine TQ_on rfl rfl (by decide) rfl (pur_lss rfl rfl rfl) rfl ?_
       refine TQ_pure rfl (pur_pick (t := true) rfl rfl rfl) rfl ?_
       refine TQ_nil ?_
       exact joined (decide (r_24 < 0)) (wp 6 (lb rfl) rfl rfl rfl rfl rfl) (some_inj H).symm
      ·replace H := cond_f g_18 H
       refine TQ_off rfl rfl (by decide) rfl rfl rfl ?_
       refine TQ_off rfl rfl (by decide) rfl rfl rfl ?_
       refine TQ_off rfl rfl (by decide) rfl rfl rfl ?_
       refine TQ_off rfl rfl (by decide) rfl rfl rfl ?_
       refine TQ_off rfl rfl (by decide) rfl rfl rfl ?_
       refine TQ_off rfl rfl (by decide) rfl rfl rfl ?_
       refine TQ_off rfl rfl (by decide) rfl rfl rfl ?_
       refine TQ_off rfl rfl (by decide) rfl rfl rfl ?_
       refine TQ_pure rfl (pur_pick (t := false) rfl rfl rfl) rfl ?_
       refine TQ_nil ?_
       exact joined false (wp 6 (lb rfl) rfl rfl rfl rfl rfl) (some_inj H).symm
     ·rintro _ rfl
      replace H := H_17
      refine te [(3, (.b 1 0)), (4, (.b 2 0)), (6, (.b 5 0)), (7, (intA k7)), (47, (boolA t47_16))] rfl ?_
      refine T_cond (t := t47_16) rfl (fun c_26 => ?_) (fun c_26 => ?_)
      ·replace H := cond_t c_26 H
       refine T_skip ?_
       refine te [(3, (.b 1 0)), (4, (.b 2 0)), (6, (.b 5 0)), (7, (intA k7))] rfl ?_
       refine T_block ?_
       refine T_region ?_
       refine Tp rfl rfl (pur_move rfl) rfl ?_
       refine Tp rfl rfl (pur_wadd rfl rfl rfl) rfl ?_
       refine Tp rfl rfl (pur_assign rfl) rfl ?_
       refine TO_nil ?_
       obtain rfl := some_inj H
       exact again k15 (w64 (k7 + 1)) (Nat.lt_succ_self _) (wp 6 (lb rfl) rfl rfl rfl rfl rfl) K15_
      ·replace H := cond_f c_26 H
       refine T_exit ?_
       refine then_exit ?_
       refine then_exit ?_
       refine block_exit ?_
       obtain rfl := some_inj H
       obtain rfl := some_inj K15_
       exact joined k7 (wp 6 (lb rfl) rfl rfl rfl rfl rfl) rfl
    ·rintro k7 rfl
     replace H := onS_l N15_
     refine te [(3, (.b 1 0)), (4, (.b 2 0)), (6, (.b 5 0)), (7, (intA k7))] rfl ?_
     obtain ⟨us_27, h_28, H⟩ := bind_inv H
     obtain ⟨ys_29, h_30, H⟩ := bind_inv H
     obtain ⟨i_31, j_32, hi_33, hj_34, hij_35, hjl_36, hys_37, _⟩ := cutI_inv h_30
     obtain ⟨us_38, h_39, H⟩ := bind_inv H
     refine T_pad ?_
     refine T_pad ?_
     refine T_pad ?_
     refine T_cutX (fun (_ : Unit) => True) (fun _ => [(4, (.b 2 0)), (6, (.b 5 0)), (7, (intA k7)), (8, (.m [6] 0 us_38.length tFact.k))]) (fun _ => [.box [(sl tRelation d0.relations), (sl tFact d0.facts)], .box [(intA f1.relation), (sl tInt f1.values)], .box [.n, .n], .row (flat tRelation.enc r_1.relations), .row (flat tFact.enc r_1.facts), .box [(.m [3] 0 r_1.relations.length tRelation.k), (.m [4] 0 r_1.facts.length tFact.k)], .row (flat tFact.enc us_38)]) ?_ ?_
     ·skip
      refine T_regionP mixed ?_
      refine TA_have 2 #[true, true, true, true, true, true, true, true, true, true, true, true, false, false] [(4, (.b 2 0)), (6, (.b 5 0)), (7, (intA k7)), (57, (.m [8] 0 ([({ relation := f1.relation, values := us_27 } : Fact)] : (List Fact)).length tFact.k)), (61, (.m [4] (i_31 * tFact.k) (j_32 - i_31) tFact.k))] [.box [(sl tRelation d0.relations), (sl tFact d0.facts)], .box [(intA f1.relation), (sl tInt f1.values)], .box [.n, .n], .row (flat tRelation.enc r_1.relations), .row (flat tFact.enc r_1.facts), .box [(.m [3] 0 r_1.relations.length tRelation.k), (.m [4] 0 r_1.facts.length tFact.k)], .dead, .dead, .row (flat tFact.enc ([({ relation := f1.relation, values := us_27 } : Fact)] : (List Fact)))] ?_ (fun hj0_7 => ?_)
      ·skip
       refine t1 12 (by kernel_rfl) rfl rfl (TOp_appY (T := tFact) (f := tFact.enc) (xs := ([({ relation := f1.relation, values := us_27 } : Fact)] : (List Fact))) (ys := ys_29) tFact.len sl30 zero60 rfl bytes60 (by decide) rfl rfl rfl rfl (src_cut (T := tFact) (xs := r_1.facts) (i := i_31) (j := j_32) rfl rfl hij_35 hjl_36 hys_37) (flat_cell tFact _) h_39 ?_)
       refine tmv 8 9 (by decide) (lb rfl) rfl rfl (lb rfl) ?_
       refine tf 13 rfl (purI_assign rfl) rfl rfl (by kernel_rfl) ?_
       refine TA_ghost (E' := [(4, (.b 2 0)), (6, (.b 5 0)), (7, (intA k7)), (8, (.m [6] 0 us_38.length tFact.k))]) (σ' := [.box [(sl tRelation d0.relations), (sl tFact d0.facts)], .box [(intA f1.relation), (sl tInt f1.values)], .box [.n, .n], .row (flat tRelation.enc r_1.relations), .row (flat tFact.enc r_1.facts), .box [(.m [3] 0 r_1.relations.length tRelation.k), (.m [4] 0 r_1.facts.length tFact.k)], .row (flat tFact.enc us_38), .dead, .dead, .dead]) (Ghost.move 6 8 (by decide) (lb rfl) rfl rfl (lb rfl) (Ghost.weak (WeakL.to 10 (lb rfl) rfl rfl rfl rfl ⟨leR rfl, leR rfl, leR rfl, leR rfl, trivial⟩))) ?_
       exact TA_nil (by kernel_rfl) (joined () (wp 7 (lb rfl) rfl rfl rfl rfl rfl) trivial)
      refine TA_have 3 #[true, true, true, true, true, true, true, false, true, true, true, true, false, false] [(4, (.b 2 0)), (6, (.b 5 0)), (7, (intA k7)), (56, (.g [(intA f1.relation), (sl tInt us_27)])), (61, (.m [4] (i_31 * tFact.k) (j_32 - i_31) tFact.k))] [.box [(sl tRelation d0.relations), (sl tFact d0.facts)], .box [(intA f1.relation), (sl tInt f1.values)], .box [.n, .n], .row (flat tRelation.enc r_1.relations), .row (flat tFact.enc r_1.facts), .box [(.m [3] 0 r_1.relations.length tRelation.k), (.m [4] 0 r_1.facts.length tFact.k)], .dead, .dead, .dead] ?_ (fun hj1_7 => ?_)
      ·skip
       refine t1 7 (by kernel_rfl) rfl rfl (TOp_lit (nn := 1) (k := 2) sl30 zero60 rfl rfl rfl rfl (by decide) ?_)
       refine tmv 8 9 (by decide) (lb rfl) rfl rfl (lb rfl) ?_
       exact tj hj0_7 rfl (wp 9 (lb rfl) rfl rfl rfl rfl rfl)
      refine TA_have 4 #[true, true, true, true, true, true, false, false, true, true, true, true, false, false] [(4, (.b 2 0)), (6, (.b 5 0)), (7, (intA k7)), (51, (intA f1.relation)), (55, (.m [7] 0 us_27.length tInt.k)), (61, (.m [4] (i_31 * tFact.k) (j_32 - i_31) tFact.k))] [.box [(sl tRelation d0.relations), (sl tFact d0.facts)], .box [(intA f1.relation), (sl tInt f1.values)], .box [.n, .n], .row (flat tRelation.enc r_1.relations), .row (flat tFact.enc r_1.facts), .box [(.m [3] 0 r_1.relations.length tRelation.k), (.m [4] 0 r_1.facts.length tFact.k)], .dead, .row (flat tInt.enc us_27), .dead] ?_ (fun hj2_7 => ?_)
      ·skip
       refine tf 6 rfl (purI_build bld60 rfl rfl) rfl rfl (by kernel_rfl) ?_
       refine TA_ghost (E' := [(4, (.b 2 0)), (6, (.b 5 0)), (7, (intA k7)), (51, (intA f1.relation)), (55, (.m [7] 0 us_27.length tInt.k)), (56, (.g [(intA f1.relation), (.m [7] 0 us_27.length tInt.k)])), (61, (.m [4] (i_31 * tFact.k) (j_32 - i_31) tFact.k))]) (σ' := [.box [(sl tRelation d0.relations), (sl tFact d0.facts)], .box [(intA f1.relation), (sl tInt f1.values)], .box [.n, .n], .row (flat tRelation.enc r_1.relations), .row (flat tFact.enc r_1.facts), .box [(.m [3] 0 r_1.relations.length tRelation.k), (.m [4] 0 r_1.facts.length tFact.k)], .dead, .row (flat tInt.enc us_27), .dead]) (Ghost.weak (WeakL.to 9 (lb rfl) rfl rfl rfl rfl ⟨leR rfl, leR rfl, leR rfl, leR rfl, leR rfl, leR rfl, leR rfl, trivial⟩)) ?_
       refine TA_frz1 7 (E' := [(4, (.b 2 0)), (6, (.b 5 0)), (7, (intA k7)), (51, (intA f1.relation)), (55, (sl tInt us_27)), (56, (.g [(intA f1.relation), (sl tInt us_27)])), (61, (.m [4] (i_31 * tFact.k) (j_32 - i_31) tFact.k))]) rfl rfl (lb rfl) ?_ ?_
       ·exact ⟨(.keep rfl), (.keep rfl), (.keep rfl), (.keep rfl), fz1E, (fz1G (fzC (.keep rfl) (fzC fz1E fzN))), (.keep rfl), trivial⟩
       refine TA_st (σ' := [.box [(sl tRelation d0.relations), (sl tFact d0.facts)], .box [(intA f1.relation), (sl tInt f1.values)], .box [.n, .n], .row (flat tRelation.enc r_1.relations), .row (flat tFact.enc r_1.facts), .box [(.m [3] 0 r_1.relations.length tRelation.k), (.m [4] 0 r_1.facts.length tFact.k)], .dead, .dead, .dead]) rfl ?_
       exact tj hj1_7 rfl (wp 9 (lb rfl) rfl rfl rfl rfl rfl)
      refine TA_have 5 #[true, false, true, true, true, true, false, false, true, true, true, true, false, false] [(4, (.b 2 0)), (6, (.b 5 0)), (7, (intA k7)), (50, (.b 1 0)), (55, (.m [7] 0 us_27.length tInt.k)), (61, (.m [4] (i_31 * tFact.k) (j_32 - i_31) tFact.k))] [.box [(sl tRelation d0.relations), (sl tFact d0.facts)], .box [(intA f1.relation), (sl tInt f1.values)], .box [.n, .n], .row (flat tRelation.enc r_1.relations), .row (flat tFact.enc r_1.facts), .box [(.m [3] 0 r_1.relations.length tRelation.k), (.m [4] 0 r_1.facts.length tFact.k)], .dead, .row (flat tInt.enc us_27), .dead] ?_ (fun hj3_7 => ?_)
      ·skip
       refine t1 1 (by kernel_rfl) rfl rfl (TOp_pure (pur_ld_b one3 rfl rfl rfl rfl) rfl ?_)
       exact tj hj2_7 rfl (wp 9 (lb rfl) rfl rfl rfl rfl rfl)
      refine TA_have 5 #[true, true, true, true, true, false, false, false, true, true, true, true, false, false] [(4, (.b 2 0)), (6, (.b 5 0)), (7, (intA k7)), (51, (intA f1.relation)), (52, (.m [7] 0 ([] : (List Int)).length tInt.k)), (54, (sl tInt f1.values)), (61, (.m [4] (i_31 * tFact.k) (j_32 - i_31) tFact.k))] [.box [(sl tRelation d0.relations), (sl tFact d0.facts)], .box [(intA f1.relation), (sl tInt f1.values)], .box [.n, .n], .row (flat tRelation.enc r_1.relations), .row (flat tFact.enc r_1.facts), .box [(.m [3] 0 r_1.relations.length tRelation.k), (.m [4] 0 r_1.facts.length tFact.k)], .dead, .row (flat tInt.enc ([] : (List Int))), .dead] ?_ (fun hj4_7 => ?_)
      ·skip
       refine t1 5 (by kernel_rfl) rfl rfl (TOp_appY (T := tInt) (f := tInt.enc) (xs := ([] : (List Int))) (ys := f1.values) tInt.len sl33 zero3 rfl bytes3 (by decide) rfl rfl rfl rfl (src_T (T := tInt) rfl) (flat_cell tInt _) h_28 ?_)
       refine tmv 7 9 (by decide) (lb rfl) rfl rfl (lb rfl) ?_
       exact tj hj2_7 rfl (wp 9 (lb rfl) rfl rfl rfl rfl rfl)
      refine TA_have 6 #[true, false, true, true, true, false, false, false, true, true, true, true, false, false] [(4, (.b 2 0)), (6, (.b 5 0)), (7, (intA k7)), (50, (.b 1 0)), (52, (.m [7] 0 ([] : (List Int)).length tInt.k)), (54, (sl tInt f1.values)), (61, (.m [4] (i_31 * tFact.k) (j_32 - i_31) tFact.k))] [.box [(sl tRelation d0.relations), (sl tFact d0.facts)], .box [(intA f1.relation), (sl tInt f1.values)], .box [.n, .n], .row (flat tRelation.enc r_1.relations), .row (flat tFact.enc r_1.facts), .box [(.m [3] 0 r_1.relations.length tRelation.k), (.m [4] 0 r_1.facts.length tFact.k)], .dead, .row (flat tInt.enc ([] : (List Int))), .dead] ?_ (fun hj5_7 => ?_)
      ·skip
       refine TA_all [1, 5] (by kernel_rfl) (by decide) ⟨?_, ?_, trivial⟩
       ·skip
        refine ⟨_, rfl, rfl, (TOp_pure (pur_ld_b one3 rfl rfl rfl rfl) rfl ?_)⟩
        exact tj hj4_7 rfl (wp 9 (lb rfl) rfl rfl rfl rfl rfl)
       ·skip
        refine ⟨_, rfl, rfl, (TOp_appY (T := tInt) (f := tInt.enc) (xs := ([] : (List Int))) (ys := f1.values) tInt.len sl33 zero3 rfl bytes3 (by decide) rfl rfl rfl rfl (src_T (T := tInt) rfl) (flat_cell tInt _) h_28 ?_)⟩
        refine tmv 7 9 (by decide) (lb rfl) rfl rfl (lb rfl) ?_
        exact tj hj3_7 rfl (wp 9 (lb rfl) rfl rfl rfl rfl rfl)
      refine TA_have 6 #[true, true, false, true, true, false, false, false, true, true, true, true, false, false] [(4, (.b 2 0)), (6, (.b 5 0)), (7, (intA k7)), (51, (intA f1.relation)), (54, (sl tInt f1.values)), (61, (.m [4] (i_31 * tFact.k) (j_32 - i_31) tFact.k))] [.box [(sl tRelation d0.relations), (sl tFact d0.facts)], .box [(intA f1.relation), (sl tInt f1.values)], .box [.n, .n], .row (flat tRelation.enc r_1.relations), .row (flat tFact.enc r_1.facts), .box [(.m [3] 0 r_1.relations.length tRelation.k), (.m [4] 0 r_1.facts.length tFact.k)], .dead, .dead, .dead] ?_ (fun hj6_7 => ?_)
      ·skip
       refine t1 2 (by kernel_rfl) rfl rfl (TOp_lit (nn := 0) (k := 1) sl33 zero3 rfl rfl rfl rfl (by decide) ?_)
       refine tmv 7 9 (by decide) (lb rfl) rfl rfl (lb rfl) ?_
       exact tj hj4_7 rfl (wp 9 (lb rfl) rfl rfl rfl rfl rfl)
      refine TA_have 6 #[true, true, true, true, false, false, false, false, true, true, true, true, false, false] [(4, (.b 2 0)), (6, (.b 5 0)), (7, (intA k7)), (51, (intA f1.relation)), (52, (.m [7] 0 ([] : (List Int)).length tInt.k)), (53, (.b 1 1)), (61, (.m [4] (i_31 * tFact.k) (j_32 - i_31) tFact.k))] [.box [(sl tRelation d0.relations), (sl tFact d0.facts)], .box [(intA f1.relation), (sl tInt f1.values)], .box [.n, .n], .row (flat tRelation.enc r_1.relations), .row (flat tFact.enc r_1.facts), .box [(.m [3] 0 r_1.relations.length tRelation.k), (.m [4] 0 r_1.facts.length tFact.k)], .dead, .row (flat tInt.enc ([] : (List Int))), .dead] ?_ (fun hj7_7 => ?_)
      ·skip
       refine t1 4 (by kernel_rfl) rfl rfl (TOp_pure (pur_ld_b one33 rfl rfl rfl rfl) rfl ?_)
       exact tj hj4_7 rfl (wp 9 (lb rfl) rfl rfl rfl rfl rfl)
      refine TA_have 6 #[true, true, true, true, true, true, false, false, true, false, true, false, false, false] [(4, (.b 2 0)), (6, (.b 5 0)), (7, (intA k7)), (51, (intA f1.relation)), (55, (.m [7] 0 us_27.length tInt.k)), (58, (.b 5 1)), (60, (intA k7))] [.box [(sl tRelation d0.relations), (sl tFact d0.facts)], .box [(intA f1.relation), (sl tInt f1.values)], .box [.n, .n], .row (flat tRelation.enc r_1.relations), .row (flat tFact.enc r_1.facts), .box [(.m [3] 0 r_1.relations.length tRelation.k), (.m [4] 0 r_1.facts.length tFact.k)], .dead, .row (flat tInt.enc us_27), .dead] ?_ (fun hj8_7 => ?_)
      ·skip
       refine tf 6 rfl (purI_build bld60 rfl rfl) rfl rfl (by kernel_rfl) ?_
       refine TA_ghost (E' := [(4, (.b 2 0)), (6, (.b 5 0)), (7, (intA k7)), (51, (intA f1.relation)), (55, (.m [7] 0 us_27.length tInt.k)), (56, (.g [(intA f1.relation), (.m [7] 0 us_27.length tInt.k)])), (58, (.b 5 1)), (60, (intA k7))]) (σ' := [.box [(sl tRelation d0.relations), (sl tFact d0.facts)], .box [(intA f1.relation), (sl tInt f1.values)], .box [.n, .n], .row (flat tRelation.enc r_1.relations), .row (flat tFact.enc r_1.facts), .box [(.m [3] 0 r_1.relations.length tRelation.k), (.m [4] 0 r_1.facts.length tFact.k)], .dead, .row (flat tInt.enc us_27), .dead]) (Ghost.weak (WeakL.to 9 (lb rfl) rfl rfl rfl rfl ⟨leR rfl, leR rfl, leR rfl, leR rfl, leR rfl, leR rfl, leR rfl, leR rfl, trivial⟩)) ?_
       refine TA_frz1 7 (E' := [(4, (.b 2 0)), (6, (.b 5 0)), (7, (intA k7)), (51, (intA f1.relation)), (55, (sl tInt us_27)), (56, (.g [(intA f1.relation), (sl tInt us_27)])), (58, (.b 5 1)), (60, (intA k7))]) rfl rfl (lb rfl) ?_ ?_
       ·exact ⟨(.keep rfl), (.keep rfl), (.keep rfl), (.keep rfl), fz1E, (fz1G (fzC (.keep rfl) (fzC fz1E fzN))), (.keep rfl), (.keep rfl), trivial⟩
       refine TA_st (σ' := [.box [(sl tRelation d0.relations), (sl tFact d0.facts)], .box [(intA f1.relation), (sl tInt f1.values)], .box [.n, .n], .row (flat tRelation.enc r_1.relations), .row (flat tFact.enc r_1.facts), .box [(.m [3] 0 r_1.relations.length tRelation.k), (.m [4] 0 r_1.facts.length tFact.k)], .dead, .dead, .dead]) rfl ?_
       refine TA_all [7, 9] (by kernel_rfl) (by decide) ⟨?_, ?_, trivial⟩
       ·skip
        refine ⟨_, rfl, rfl, (TOp_lit (nn := 1) (k := 2) sl30 zero60 rfl rfl rfl rfl (by decide) ?_)⟩
        refine tmv 8 9 (by decide) (lb rfl) rfl rfl (lb rfl) ?_
        refine t1 9 (by kernel_rfl) rfl rfl (TOp_pure (pur_ld_b one30 rfl rfl rfl rfl) rfl ?_)
        refine tf 11 rfl (purI_cutM (lo := (some (.tmp 60))) (hi := none) sl30 rfl ⟨_, congrArg (fun z => A.v (.int .i64 z)) hi_33⟩ hj_34.symm hij_35 hjl_36 rfl) rfl rfl (by kernel_rfl) ?_
        exact tj hj0_7 rfl (wp 9 (lb rfl) rfl rfl rfl rfl rfl)
       ·skip
        refine ⟨_, rfl, rfl, (TOp_pure (pur_ld_b one30 rfl rfl rfl rfl) rfl ?_)⟩
        refine tf 11 rfl (purI_cutM (lo := (some (.tmp 60))) (hi := none) sl30 rfl ⟨_, congrArg (fun z => A.v (.int .i64 z)) hi_33⟩ hj_34.symm hij_35 hjl_36 rfl) rfl rfl (by kernel_rfl) ?_
        exact tj hj1_7 rfl (wp 9 (lb rfl) rfl rfl rfl rfl rfl)
      refine TA_have 7 #[true, false, false, true, true, false, false, false, true, true, true, true, false, false] [(4, (.b 2 0)), (6, (.b 5 0)), (7, (intA k7)), (50, (.b 1 0)), (54, (sl tInt f1.values)), (61, (.m [4] (i_31 * tFact.k) (j_32 - i_31) tFact.k))] [.box [(sl tRelation d0.relations), (sl tFact d0.facts)], .box [(intA f1.relation), (sl tInt f1.values)], .box [.n, .n], .row (flat tRelation.enc r_1.relations), .row (flat tFact.enc r_1.facts), .box [(.m [3] 0 r_1.relations.length tRelation.k), (.m [4] 0 r_1.facts.length tFact.k)], .dead, .dead, .dead] ?_ (fun hj9_7 => ?_)
      ·skip
       refine TA_all [1, 2] (by kernel_rfl) (by decide) ⟨?_, ?_, trivial⟩
       ·skip
        refine ⟨_, rfl, rfl, (TOp_pure (pur_ld_b one3 rfl rfl rfl rfl) rfl ?_)⟩
        exact tj hj6_7 rfl (wp 9 (lb rfl) rfl rfl rfl rfl rfl)
       ·skip
        refine ⟨_, rfl, rfl, (TOp_lit (nn := 0) (k := 1) sl33 zero3 rfl rfl rfl rfl (by decide) ?_)⟩
        refine tmv 7 9 (by decide) (lb rfl) rfl rfl (lb rfl) ?_
        exact tj hj5_7 rfl (wp 9 (lb rfl) rfl rfl rfl rfl rfl)
      refine TA_have 7 #[true, false, true, true, false, false, false, false, true, true, true, true, false, false] [(4, (.b 2 0)), (6, (.b 5 0)), (7, (intA k7)), (50, (.b 1 0)), (52, (.m [7] 0 ([] : (List Int)).length tInt.k)), (53, (.b 1 1)), (61, (.m [4] (i_31 * tFact.k) (j_32 - i_31) tFact.k))] [.box [(sl tRelation d0.relations), (sl tFact d0.facts)], .box [(intA f1.relation), (sl tInt f1.values)], .box [.n, .n], .row (flat tRelation.enc r_1.relations), .row (flat tFact.enc r_1.facts), .box [(.m [3] 0 r_1.relations.length tRelation.k), (.m [4] 0 r_1.facts.length tFact.k)], .dead, .row (flat tInt.enc ([] : (List Int))), .dead] ?_ (fun hj10_7 => ?_)
      ·skip
       refine TA_all [1, 4] (by kernel_rfl) (by decide) ⟨?_, ?_, trivial⟩
       ·skip
        refine ⟨_, rfl, rfl, (TOp_pure (pur_ld_b one3 rfl rfl rfl rfl) rfl ?_)⟩
        exact tj hj7_7 rfl (wp 9 (lb rfl) rfl rfl rfl rfl rfl)
       ·skip
        refine ⟨_, rfl, rfl, (TOp_pure (pur_ld_b one33 rfl rfl rfl rfl) rfl ?_)⟩
        exact tj hj5_7 rfl (wp 9 (lb rfl) rfl rfl rfl rfl rfl)
      refine TA_have 7 #[true, true, false, true, false, false, false, false, true, true, true, true, false, false] [(4, (.b 2 0)), (6, (.b 5 0)), (7, (intA k7)), (51, (intA f1.relation)), (53, (.b 1 1)), (61, (.m [4] (i_31 * tFact.k) (j_32 - i_31) tFact.k))] [.box [(sl tRelation d0.relations), (sl tFact d0.facts)], .box [(intA f1.relation), (sl tInt f1.values)], .box [.n, .n], .row (flat tRelation.enc r_1.relations), .row (flat tFact.enc r_1.facts), .box [(.m [3] 0 r_1.relations.length tRelation.k), (.m [4] 0 r_1.facts.length tFact.k)], .dead, .dead, .dead] ?_ (fun hj11_7 => ?_)
      ·skip
       refine TA_all [2, 4] (by kernel_rfl) (by decide) ⟨?_, ?_, trivial⟩
       ·skip
        refine ⟨_, rfl, rfl, (TOp_lit (nn := 0) (k := 1) sl33 zero3 rfl rfl rfl rfl (by decide) ?_)⟩
        refine tmv 7 9 (by decide) (lb rfl) rfl rfl (lb rfl) ?_
        exact tj hj7_7 rfl (wp 9 (lb rfl) rfl rfl rfl rfl rfl)
       ·skip
        refine ⟨_, rfl, rfl, (TOp_pure (pur_ld_b one33 rfl rfl rfl rfl) rfl ?_)⟩
        exact tj hj6_7 rfl (wp 9 (lb rfl) rfl rfl rfl rfl rfl)
      refine TA_have 7 #[true, true, true, true, true, false, false, false, true, false, true, false, false, false] [(4, (.b 2 0)), (6, (.b 5 0)), (7, (intA k7)), (51, (intA f1.relation)), (52, (.m [7] 0 ([] : (List Int)).length tInt.k)), (54, (sl tInt f1.values)), (58, (.b 5 1)), (60, (intA k7))] [.box [(sl tRelation d0.relations), (sl tFact d0.facts)], .box [(intA f1.relation), (sl tInt f1.values)], .box [.n, .n], .row (flat tRelation.enc r_1.relations), .row (flat tFact.enc r_1.facts), .box [(.m [3] 0 r_1.relations.length tRelation.k), (.m [4] 0 r_1.facts.length tFact.k)], .dead, .row (flat tInt.enc ([] : (List Int))), .dead] ?_ (fun hj12_7 => ?_)
      ·skip
       refine TA_all [5, 9] (by kernel_rfl) (by decide) ⟨?_, ?_, trivial⟩
       ·skip
        refine ⟨_, rfl, rfl, (TOp_appY (T := tInt) (f := tInt.enc) (xs := ([] : (List Int))) (ys := f1.values) tInt.len sl33 zero3 rfl bytes3 (by decide) rfl rfl rfl rfl (src_T (T := tInt) rfl) (flat_cell tInt _) h_28 ?_)⟩
        refine tmv 7 9 (by decide) (lb rfl) rfl rfl (lb rfl) ?_
        exact tj hj8_7 rfl (wp 9 (lb rfl) rfl rfl rfl rfl rfl)
       ·skip
        refine ⟨_, rfl, rfl, (TOp_pure (pur_ld_b one30 rfl rfl rfl rfl) rfl ?_)⟩
        refine tf 11 rfl (purI_cutM (lo := (some (.tmp 60))) (hi := none) sl30 rfl ⟨_, congrArg (fun z => A.v (.int .i64 z)) hi_33⟩ hj_34.symm hij_35 hjl_36 rfl) rfl rfl (by kernel_rfl) ?_
        exact tj hj4_7 rfl (wp 9 (lb rfl) rfl rfl rfl rfl rfl)
      refine TA_have 8 #[true, false, true, true, true, false, false, false, true, false, true, false, false, false] [(4, (.b 2 0)), (6, (.b 5 0)), (7, (intA k7)), (50, (.b 1 0)), (52, (.m [7] 0 ([] : (List Int)).length tInt.k)), (54, (sl tInt f1.values)), (58, (.b 5 1)), (60, (intA k7))] [.box [(sl tRelation d0.relations), (sl tFact d0.facts)], .box [(intA f1.relation), (sl tInt f1.values)], .box [.n, .n], .row (flat tRelation.enc r_1.relations), .row (flat tFact.enc r_1.facts), .box [(.m [3] 0 r_1.relations.length tRelation.k), (.m [4] 0 r_1.facts.length tFact.k)], .dead, .row (flat tInt.enc ([] : (List Int))), .dead] ?_ (fun hj13_7 => ?_)
      ·skip
       refine TA_all [1, 5, 9] (by kernel_rfl) (by decide) ⟨?_, ?_, ?_, trivial⟩
       ·skip
        refine ⟨_, rfl, rfl, (TOp_pure (pur_ld_b one3 rfl rfl rfl rfl) rfl ?_)⟩
        exact tj hj12_7 rfl (wp 9 (lb rfl) rfl rfl rfl rfl rfl)
       ·skip
        refine ⟨_, rfl, rfl, (TOp_appY (T := tInt) (f := tInt.enc) (xs := ([] : (List Int))) (ys := f1.values) tInt.len sl33 zero3 rfl bytes3 (by decide) rfl rfl rfl rfl (src_T (T := tInt) rfl) (flat_cell tInt _) h_28 ?_)⟩
        refine tmv 7 9 (by decide) (lb rfl) rfl rfl (lb rfl) ?_
        refine TA_all [1, 9] (by kernel_rfl) (by decide) ⟨?_, ?_, trivial⟩
        ·skip
         refine ⟨_, rfl, rfl, (TOp_pure (pur_ld_b one3 rfl rfl rfl rfl) rfl ?_)⟩
         exact tj hj8_7 rfl (wp 9 (lb rfl) rfl rfl rfl rfl rfl)
        ·skip
         refine ⟨_, rfl, rfl, (TOp_pure (pur_ld_b one30 rfl rfl rfl rfl) rfl ?_)⟩
         refine tf 11 rfl (purI_cutM (lo := (some (.tmp 60))) (hi := none) sl30 rfl ⟨_, congrArg (fun z => A.v (.int .i64 z)) hi_33⟩ hj_34.symm hij_35 hjl_36 rfl) rfl rfl (by kernel_rfl) ?_
         exact tj hj3_7 rfl (wp 9 (lb rfl) rfl rfl rfl rfl rfl)
       ·skip
        refine ⟨_, rfl, rfl, (TOp_pure (pur_ld_b one30 rfl rfl rfl rfl) rfl ?_)⟩
        refine tf 11 rfl (purI_cutM (lo := (some (.tmp 60))) (hi := none) sl30 rfl ⟨_, congrArg (fun z => A.v (.int .i64 z)) hi_33⟩ hj_34.symm hij_35 hjl_36 rfl) rfl rfl (by kernel_rfl) ?_
        exact tj hj5_7 rfl (wp 9 (lb rfl) rfl rfl rfl rfl rfl)
      refine TA_have 8 #[true, true, false, true, true, false, false, false, true, false, true, false, false, false] [(4, (.b 2 0)), (6, (.b 5 0)), (7, (intA k7)), (51, (intA f1.relation)), (54, (sl tInt f1.values)), (58, (.b 5 1)), (60, (intA k7))] [.box [(sl tRelation d0.relations), (sl tFact d0.facts)], .box [(intA f1.relation), (sl tInt f1.values)], .box [.n, .n], .row (flat tRelation.enc r_1.relations), .row (flat tFact.enc r_1.facts), .box [(.m [3] 0 r_1.relations.length tRelation.k), (.m [4] 0 r_1.facts.length tFact.k)], .dead, .dead, .dead] ?_ (fun hj14_7 => ?_)
      ·skip
       refine TA_all [2, 9] (by kernel_rfl) (by decide) ⟨?_, ?_, trivial⟩
       ·skip
        refine ⟨_, rfl, rfl, (TOp_lit (nn := 0) (k := 1) sl33 zero3 rfl rfl rfl rfl (by decide) ?_)⟩
        refine tmv 7 9 (by decide) (lb rfl) rfl rfl (lb rfl) ?_
        exact tj hj12_7 rfl (wp 9 (lb rfl) rfl rfl rfl rfl rfl)
       ·skip
        refine ⟨_, rfl, rfl, (TOp_pure (pur_ld_b one30 rfl rfl rfl rfl) rfl ?_)⟩
        refine tf 11 rfl (purI_cutM (lo := (some (.tmp 60))) (hi := none) sl30 rfl ⟨_, congrArg (fun z => A.v (.int .i64 z)) hi_33⟩ hj_34.symm hij_35 hjl_36 rfl) rfl rfl (by kernel_rfl) ?_
        exact tj hj6_7 rfl (wp 9 (lb rfl) rfl rfl rfl rfl rfl)
      refine TA_have 8 #[true, true, true, true, false, false, false, false, true, false, true, false, false, false] [(4, (.b 2 0)), (6, (.b 5 0)), (7, (intA k7)), (51, (intA f1.relation)), (52, (.m [7] 0 ([] : (List Int)).length tInt.k)), (53, (.b 1 1)), (58, (.b 5 1)), (60, (intA k7))] [.box [(sl tRelation d0.relations), (sl tFact d0.facts)], .box [(intA f1.relation), (sl tInt f1.values)], .box [.n, .n], .row (flat tRelation.enc r_1.relations), .row (flat tFact.enc r_1.facts), .box [(.m [3] 0 r_1.relations.length tRelation.k), (.m [4] 0 r_1.facts.length tFact.k)], .dead, .row (flat tInt.enc ([] : (List Int))), .dead] ?_ (fun hj15_7 => ?_)
      ·skip
       refine TA_all [4, 9] (by kernel_rfl) (by decide) ⟨?_, ?_, trivial⟩
       ·skip
        refine ⟨_, rfl, rfl, (TOp_pure (pur_ld_b one33 rfl rfl rfl rfl) rfl ?_)⟩
        exact tj hj12_7 rfl (wp 9 (lb rfl) rfl rfl rfl rfl rfl)
       ·skip
        refine ⟨_, rfl, rfl, (TOp_pure (pur_ld_b one30 rfl rfl rfl rfl) rfl ?_)⟩
        refine tf 11 rfl (purI_cutM (lo := (some (.tmp 60))) (hi := none) sl30 rfl ⟨_, congrArg (fun z => A.v (.int .i64 z)) hi_33⟩ hj_34.symm hij_35 hjl_36 rfl) rfl rfl (by kernel_rfl) ?_
        exact tj hj7_7 rfl (wp 9 (lb rfl) rfl rfl rfl rfl rfl)
      refine tf 0 rfl (purI_fa_b fld60_0 rfl rfl) rfl rfl (by kernel_rfl) ?_
      refine tf 3 rfl (purI_fa_b fld60_1 rfl rfl) rfl rfl (by kernel_rfl) ?_
      refine tf 8 rfl (purI_fa_b fld32_1 rfl rfl) rfl rfl (by kernel_rfl) ?_
      refine tf 10 rfl (purI_move rfl) rfl rfl (by kernel_rfl) ?_
      refine TA_all [1, 2, 4, 9] (by kernel_rfl) (by decide) ⟨?_, ?_, ?_, ?_, trivial⟩
      ·skip
       refine ⟨_, rfl, rfl, (TOp_pure (pur_ld_b one3 rfl rfl rfl rfl) rfl ?_)⟩
       refine TA_all [2, 4, 9] (by kernel_rfl) (by decide) ⟨?_, ?_, ?_, trivial⟩
       ·skip
        refine ⟨_, rfl, rfl, (TOp_lit (nn := 0) (k := 1) sl33 zero3 rfl rfl rfl rfl (by decide) ?_)⟩
        refine tmv 7 9 (by decide) (lb rfl) rfl rfl (lb rfl) ?_
        exact tj hj15_7 rfl (wp 9 (lb rfl) rfl rfl rfl rfl rfl)
       ·skip
        refine ⟨_, rfl, rfl, (TOp_pure (pur_ld_b one33 rfl rfl rfl rfl) rfl ?_)⟩
        exact tj hj14_7 rfl (wp 9 (lb rfl) rfl rfl rfl rfl rfl)
       ·skip
        refine ⟨_, rfl, rfl, (TOp_pure (pur_ld_b one30 rfl rfl rfl rfl) rfl ?_)⟩
        refine tf 11 rfl (purI_cutM (lo := (some (.tmp 60))) (hi := none) sl30 rfl ⟨_, congrArg (fun z => A.v (.int .i64 z)) hi_33⟩ hj_34.symm hij_35 hjl_36 rfl) rfl rfl (by kernel_rfl) ?_
        refine tae [(4, (.b 2 0)), (6, (.b 5 0)), (7, (intA k7)), (51, (intA f1.relation)), (53, (.b 1 1)), (61, (.m [4] (i_31 * tFact.k) (j_32 - i_31) tFact.k))] rfl ?_
        exact tj hj11_7 rfl (wp 9 (lb rfl) rfl rfl rfl rfl rfl)
      ·skip
       refine ⟨_, rfl, rfl, (TOp_lit (nn := 0) (k := 1) sl33 zero3 rfl rfl rfl rfl (by decide) ?_)⟩
       refine tmv 7 9 (by decide) (lb rfl) rfl rfl (lb rfl) ?_
       refine TA_all [1, 4, 9] (by kernel_rfl) (by decide) ⟨?_, ?_, ?_, trivial⟩
       ·skip
        refine ⟨_, rfl, rfl, (TOp_pure (pur_ld_b one3 rfl rfl rfl rfl) rfl ?_)⟩
        exact tj hj15_7 rfl (wp 9 (lb rfl) rfl rfl rfl rfl rfl)
       ·skip
        refine ⟨_, rfl, rfl, (TOp_pure (pur_ld_b one33 rfl rfl rfl rfl) rfl ?_)⟩
        exact tj hj13_7 rfl (wp 9 (lb rfl) rfl rfl rfl rfl rfl)
       ·skip
        refine ⟨_, rfl, rfl, (TOp_pure (pur_ld_b one30 rfl rfl rfl rfl) rfl ?_)⟩
        refine tf 11 rfl (purI_cutM (lo := (some (.tmp 60))) (hi := none) sl30 rfl ⟨_, congrArg (fun z => A.v (.int .i64 z)) hi_33⟩ hj_34.symm hij_35 hjl_36 rfl) rfl rfl (by kernel_rfl) ?_
        refine tae [(4, (.b 2 0)), (6, (.b 5 0)), (7, (intA k7)), (50, (.b 1 0)), (52, (.m [7] 0 ([] : (List Int)).length tInt.k)), (53, (.b 1 1)), (61, (.m [4] (i_31 * tFact.k) (j_32 - i_31) tFact.k))] rfl ?_
        exact tj hj10_7 rfl (wp 9 (lb rfl) rfl rfl rfl rfl rfl)
      ·skip
       refine ⟨_, rfl, rfl, (TOp_pure (pur_ld_b one33 rfl rfl rfl rfl) rfl ?_)⟩
       refine TA_all [1, 2, 9] (by kernel_rfl) (by decide) ⟨?_, ?_, ?_, trivial⟩
       ·skip
        refine ⟨_, rfl, rfl, (TOp_pure (pur_ld_b one3 rfl rfl rfl rfl) rfl ?_)⟩
        exact tj hj14_7 rfl (wp 9 (lb rfl) rfl rfl rfl rfl rfl)
       ·skip
        refine ⟨_, rfl, rfl, (TOp_lit (nn := 0) (k := 1) sl33 zero3 rfl rfl rfl rfl (by decide) ?_)⟩
        refine tmv 7 9 (by decide) (lb rfl) rfl rfl (lb rfl) ?_
        exact tj hj13_7 rfl (wp 9 (lb rfl) rfl rfl rfl rfl rfl)
       ·skip
        refine ⟨_, rfl, rfl, (TOp_pure (pur_ld_b one30 rfl rfl rfl rfl) rfl ?_)⟩
        refine tf 11 rfl (purI_cutM (lo := (some (.tmp 60))) (hi := none) sl30 rfl ⟨_, congrArg (fun z => A.v (.int .i64 z)) hi_33⟩ hj_34.symm hij_35 hjl_36 rfl) rfl rfl (by kernel_rfl) ?_
        refine tae [(4, (.b 2 0)), (6, (.b 5 0)), (7, (intA k7)), (50, (.b 1 0)), (54, (sl tInt f1.values)), (61, (.m [4] (i_31 * tFact.k) (j_32 - i_31) tFact.k))] rfl ?_
        exact tj hj9_7 rfl (wp 9 (lb rfl) rfl rfl rfl rfl rfl)
      ·skip
       refine ⟨_, rfl, rfl, (TOp_pure (pur_ld_b one30 rfl rfl rfl rfl) rfl ?_)⟩
       refine tf 11 rfl (purI_cutM (lo := (some (.tmp 60))) (hi := none) sl30 rfl ⟨_, congrArg (fun z => A.v (.int .i64 z)) hi_33⟩ hj_34.symm hij_35 hjl_36 rfl) rfl rfl (by kernel_rfl) ?_
       refine tae [(4, (.b 2 0)), (6, (.b 5 0)), (7, (intA k7)), (50, (.b 1 0)), (53, (.b 1 1)), (61, (.m [4] (i_31 * tFact.k) (j_32 - i_31) tFact.k))] rfl ?_
       refine TA_all [1, 2, 4] (by kernel_rfl) (by decide) ⟨?_, ?_, ?_, trivial⟩
       ·skip
        refine ⟨_, rfl, rfl, (TOp_pure (pur_ld_b one3 rfl rfl rfl rfl) rfl ?_)⟩
        exact tj hj11_7 rfl (wp 9 (lb rfl) rfl rfl rfl rfl rfl)
       ·skip
        refine ⟨_, rfl, rfl, (TOp_lit (nn := 0) (k := 1) sl33 zero3 rfl rfl rfl rfl (by decide) ?_)⟩
        refine tmv 7 9 (by decide) (lb rfl) rfl rfl (lb rfl) ?_
        exact tj hj10_7 rfl (wp 9 (lb rfl) rfl rfl rfl rfl rfl)
       ·skip
        refine ⟨_, rfl, rfl, (TOp_pure (pur_ld_b one33 rfl rfl rfl rfl) rfl ?_)⟩
        exact tj hj9_7 rfl (wp 9 (lb rfl) rfl rfl rfl rfl rfl)
     ·rintro _ _
      refine te [(4, (.b 2 0)), (6, (.b 5 0)), (7, (intA k7)), (8, (.m [6] 0 us_38.length tFact.k))] rfl ?_
      refine sr ?_
      refine TO_cons rfl (TOp_lit (nn := 0) (k := 2) sl30 zero60 rfl rfl rfl rfl (by decide) ?_)
      refine TO_st (σ' := [.box [(sl tRelation d0.relations), (sl tFact d0.facts)], .box [(intA f1.relation), (sl tInt f1.values)], .box [.n, .n], .row (flat tRelation.enc r_1.relations), .row (flat tFact.enc r_1.facts), .box [(.m [3] 0 r_1.relations.length tRelation.k), (.m [4] 0 r_1.facts.length tFact.k)], .row (flat tFact.enc us_38), .row (flat tFact.enc ([] : (List Fact)))]) rfl ?_
      refine Tp rfl rfl (pur_fa_b fld32_1 rfl rfl) rfl ?_
      refine Tp rfl rfl (pur_ld_b one30 rfl rfl rfl rfl) rfl ?_
      refine Tp rfl rfl (pur_move rfl) rfl ?_
      obtain ⟨ys_40, h_41, H⟩ := bind_inv H
      obtain ⟨i_42, j_43, hi_44, hj_45, hij_46, hjl_47, hys_48, _⟩ := cutI_inv h_41
      refine Tp rfl rfl (pur_cutM (lo := none) (hi := (some (.tmp 66))) sl30 rfl hi_44.symm ⟨_, congrArg (fun z => A.v (.int .i64 z)) hj_45⟩ hij_46 hjl_47 rfl) rfl ?_
      obtain ⟨us_49, h_50, H⟩ := bind_inv H
      refine TO_cons rfl (TOp_appZ (T := tFact) (f := tFact.enc) (xs := ([] : (List Fact))) (ys := ys_40) tFact.len sl30 zero60 rfl bytes60 (by decide) rfl rfl rfl rfl (src_cut (T := tFact) (xs := r_1.facts) (i := i_42) (j := j_43) rfl rfl hij_46 hjl_47 hys_48) (flat_cell tFact _) h_50 (lb rfl) ?_)
      refine toe [(4, (.b 2 0)), (6, (.b 5 0)), (7, (intA k7)), (8, (.m [6] 0 us_38.length tFact.k)), (64, (.b 5 1)), (65, (.m [4] 0 r_1.facts.length tFact.k)), (66, (intA k7)), (67, (.m [4] (i_42 * tFact.k) (j_43 - i_42) tFact.k)), (68, (.m [7] 0 us_49.length tFact.k))] rfl ?_
      refine TO_st (σ' := [.box [(sl tRelation d0.relations), (sl tFact d0.facts)], .box [(intA f1.relation), (sl tInt f1.values)], .box [.n, .n], .row (flat tRelation.enc r_1.relations), .row (flat tFact.enc r_1.facts), .box [(.m [3] 0 r_1.relations.length tRelation.k), (.m [4] 0 r_1.facts.length tFact.k)], .row (flat tFact.enc us_38), .row (flat tFact.enc us_49), .dead]) rfl ?_
      refine Tp rfl rfl (pur_move rfl) rfl ?_
      obtain ⟨us_51, h_52, H⟩ := bind_inv H
      refine TO_cons rfl (TOp_appZ (T := tFact) (f := tFact.enc) (xs := us_49) (ys := us_38) tFact.len sl30 zero60 rfl bytes60 (by decide) rfl rfl rfl rfl (src_mT (f := tFact.enc) tFact.len rfl rfl (flat_cell tFact _)) (flat_cell tFact _) h_52 (lb rfl) ?_)
      refine toe [(4, (.b 2 0)), (6, (.b 5 0)), (7, (intA k7)), (8, (.m [6] 0 us_38.length tFact.k)), (64, (.b 5 1)), (65, (.m [4] 0 r_1.facts.length tFact.k)), (66, (intA k7)), (67, (.m [4] (i_42 * tFact.k) (j_43 - i_42) tFact.k)), (69, (.m [6] 0 us_38.length tFact.k)), (70, (.m [7] 0 us_51.length tFact.k))] rfl ?_
      refine TO_st (σ' := [.box [(sl tRelation d0.relations), (sl tFact d0.facts)], .box [(intA f1.relation), (sl tInt f1.values)], .box [.n, .n], .row (flat tRelation.enc r_1.relations), .row (flat tFact.enc r_1.facts), .box [(.m [3] 0 r_1.relations.length tRelation.k), (.m [4] 0 r_1.facts.length tFact.k)], .row (flat tFact.enc us_38), .row (flat tFact.enc us_51), .dead, .dead]) rfl ?_
      refine Tp rfl rfl (pur_fa_b fld32_1 rfl rfl) rfl ?_
      refine TO_cons rfl (TOp_storeB sz30 rfl rfl rfl rfl rfl rfl rfl (by decide) (lb rfl) rfl ?_)
      refine TO_st (σ' := [.box [(sl tRelation d0.relations), (sl tFact d0.facts)], .box [(intA f1.relation), (sl tInt f1.values)], .box [.n, .n], .row (flat tRelation.enc r_1.relations), .row (flat tFact.enc r_1.facts), .box [(.m [3] 0 r_1.relations.length tRelation.k), (.m [7] 0 us_51.length tFact.k)], .row (flat tFact.enc us_38), .row (flat tFact.enc us_51), .dead, .dead]) rfl ?_
      refine TO_nil ?_
      refine te [(4, (.b 2 0)), (6, (.b 5 0))] rfl ?_
      refine sr ?_
      refine Tp rfl rfl (pur_ldK_b agg32 rfl rfl (lb rfl) rfl) rfl ?_
      refine TO_cons rfl (TOp_storeB sz32 rfl rfl rfl rfl rfl rfl rfl (by decide) (lb rfl) rfl ?_)
      refine TO_st (σ' := [.box [(sl tRelation d0.relations), (sl tFact d0.facts)], .box [(intA f1.relation), (sl tInt f1.values)], .box [(.m [3] 0 r_1.relations.length tRelation.k), (.m [7] 0 us_51.length tFact.k)], .row (flat tRelation.enc r_1.relations), .row (flat tFact.enc r_1.facts), .box [(.m [3] 0 r_1.relations.length tRelation.k), (.m [7] 0 us_51.length tFact.k)], .row (flat tFact.enc us_38), .row (flat tFact.enc us_51), .dead, .dead]) rfl ?_
      refine Tp rfl rfl (pur_assign rfl) rfl ?_
      refine TO_nil ?_
      refine te [(4, (.b 2 0)), (5, (boolA true))] rfl ?_
      refine T_ret ?_
      obtain rfl := some_inj H
      exact end_pick (.cellK rfl agg32 rfl (lb rfl) (.tmp .nil)) rfl [3, 7] (by decide) rfl rfl rfl rfl rfl rfl
theorem m_spec_InsertFact_ok (u : Nat) (d0 : Database) (f1 : Fact) (r : (Database × Bool)) (H : m_spec_InsertFact u d0 f1 = some r) : FnV prg 127 [(.g (tDatabase.enc d0)), (.g (tFact.enc f1))] (.t [(.g (tDatabase.enc r.1)), (boolA r.2)]) := (m_spec_InsertFact_own u d0 f1 r H).frz (frzOK_t (frz_cons (frzOK_g (frz_cons (frzTE (T := tRelation) rfl) (frz_cons (frzTE (T := tFact) rfl) frz_nil)).1 (frz_cons (frzTE (T := tRelation) rfl) (frz_cons (frzTE (T := tFact) rfl) frz_nil)).2) (frz_cons (frz_loose rfl) frz_nil)).1 (frz_cons (frzOK_g (frz_cons (frzTE (T := tRelation) rfl) (frz_cons (frzTE (T := tFact) rfl) frz_nil)).1 (frz_cons (frzTE (T := tRelation) rfl) (frz_cons (frzTE (T := tFact) rfl) frz_nil)).2) (frz_cons (frz_loose rfl) frz_nil)).2)
end Go.Proofs.Ytlcpdlngbofgcaa

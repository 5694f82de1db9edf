/- Walks. -/
import Derived.Test.YtjdpolnakhmkmaaM1
import Derived.Test.YtjdpolnakhmkmaaM2
import Derived.Test.YtjdpolnakhmkmaaM3
import Derived.Test.YtjdpolnakhmkmaaM4
set_option linter.unusedVariables false
set_option linter.unusedSimpArgs false
set_option maxRecDepth 4000
namespace Go.Proofs.Ytjdpolnakhmkmaa
open Go Go.Proofs Go.Sep
set_option maxHeartbeats 1000000 in
/-- impl.withoutFacts -/
theorem m_impl_withoutFacts_own (db0 : Database) (indices1 : (List Int)) (r : Database) (H : m_impl_withoutFacts db0 indices1 = some r) : FnO prg 129 [(.g (tDatabase.enc db0)), (sl tInt indices1)] (.g [(.m [0] 0 r.relations.length tRelation.k), (.m [1] 0 r.facts.length tFact.k)]) [.row (flat tRelation.own r.relations), .row (flat tFact.own r.facts)] := by
  unfold m_impl_withoutFacts at H
  refine fnO_of_T Try.func129 rfl rfl (Nat.le_of_ble_eq_true rfl) ?_
  refine te [(0, (.g (tDatabase.enc db0))), (1, (sl tInt indices1))] rfl ?_
  refine sr ?_
  refine TO_cons rfl (TOp_box rfl (boxAll rfl) rfl rfl ?_)
  refine TO_cons rfl (TOp_alloc zero48 rfl rfl ?_)
  refine TO_nil ?_
  refine sr ?_
  refine TO_cons rfl (TOp_lit (nn := 0) (k := 1) sl23 zero3 rfl rfl rfl rfl (by decide) ?_)
  refine TO_st (σ' := [.box [(sl tRelation db0.relations), (sl tFact db0.facts)], .box [.n, .n], .row (flat tInt.enc ([] : (List Int)))]) rfl ?_
  refine pv tb 1 rfl ?_
  refine TO_nil ?_
  refine T_seq ?_
  refine sr ?_
  refine pv tb 2 rfl ?_
  refine Tp rfl rfl (pur_lenT (T := tFact) sl46 rfl rfl) rfl ?_
  refine pv tb 1 rfl ?_
  refine TO_nil ?_
  obtain ⟨_, h_3, H⟩ := bind_inv H
  replace h_3 := gN_inv h_3
  obtain ⟨O2_, L2_, N2_⟩ := bind_inv H
  clear H
  obtain ⟨B2_, hb2, L2_⟩ := gen_forM L2_
  refine T_block ?_
  refine T_loopX (fun k => fun (⟨t_1, all5⟩ : Int × (List Int)) => k = ((db0.facts.length : Int) - t_1).toNat ∧ 0 ≤ t_1 ∧ forM B2_ ((db0.facts.length : Int) - t_1).toNat t_1 all5 = some O2_) (fun (⟨t_1, all5⟩ : Int × (List Int)) => [(1, (sl tInt indices1)), (2, (.b 0 0)), (4, (.b 1 0)), (5, (.m [2] 0 all5.length tInt.k)), (12, (intA (db0.facts.length : Int))), (13, (intA (t_1 : Int)))]) (fun (⟨t_1, all5⟩ : Int × (List Int)) => [.box [(sl tRelation db0.relations), (sl tFact db0.facts)], .box [.n, .n], .row (flat tInt.enc all5)]) _ (0, ([] : (List Int))) (w0 3) ⟨rfl, Int.le_refl _, L2_⟩ ?_
  rintro _ ⟨t_1, all5⟩ ⟨rfl, hi2, L2_⟩
  refine sr ?_
  refine pv tb 1 rfl ?_
  refine TO_nil ?_
  refine T_seq ?_
  refine T_cond (t := decide ((t_1 : Int) < (db0.facts.length : Int))) rfl (fun d2 => ?_) (fun d2 => ?_)
  ·replace d2 := of_decide_eq_true d2
   obtain ⟨C2_, H, K2_⟩ := forM_step L2_ d2
   rw [hb2] at H
   refine T_skip ?_
   refine T_seq ?_
   refine T_block ?_
   refine sr ?_
   refine pv tb 2 rfl ?_
   refine TO_nil ?_
   refine T_region ?_
   refine pv tb 2 rfl ?_
   refine TO_cons rfl (TOp_lit (nn := 1) (k := 1) sl23 zero3 rfl rfl rfl rfl (by decide) ?_)
   refine TO_st (σ' := [.box [(sl tRelation db0.relations), (sl tFact db0.facts)], .box [.n, .n], .row (flat tInt.enc all5), .row (flat tInt.enc ([(t_1 : Int)] : (List Int)))]) rfl ?_
   obtain ⟨us_4, h_5, H⟩ := bind_inv H
   refine TO_cons rfl (TOp_appZ (T := tInt) (f := tInt.enc) (xs := all5) (ys := ([(t_1 : Int)] : (List Int))) tInt.len sl23 zero3 rfl bytes3 (by decide) rfl rfl rfl rfl (src_mT (f := tInt.enc) tInt.len rfl rfl (flat_cell tInt _)) (flat_cell tInt _) h_5 (lb rfl) ?_)
   refine toe [(1, (sl tInt indices1)), (2, (.b 0 0)), (4, (.b 1 0)), (6, (intA (t_1 : Int))), (12, (intA (db0.facts.length : Int))), (13, (intA (t_1 : Int))), (17, (intA (t_1 : Int))), (18, (.m [3] 0 ([(t_1 : Int)] : (List Int)).length tInt.k)), (19, (.m [2] 0 us_4.length tInt.k))] rfl ?_
   refine TO_st (σ' := [.box [(sl tRelation db0.relations), (sl tFact db0.facts)], .box [.n, .n], .row (flat tInt.enc us_4), .row (flat tInt.enc ([(t_1 : Int)] : (List Int))), .dead]) rfl ?_
   refine pv tb 1 rfl ?_
   refine TO_nil ?_
   refine T_region ?_
   refine Tp rfl rfl (pur_add rfl rfl rfl (fits64 (by omega) (by omega))) rfl ?_
   refine pv tb 1 rfl ?_
   refine TO_nil ?_
   obtain rfl := some_inj H
   exact again ((db0.facts.length : Int) - (t_1 + 1)).toNat (t_1 + 1, us_4) (by omega) (w0 3) ⟨rfl, by omega, K2_⟩
  ·replace d2 := of_decide_eq_false d2
   obtain rfl := forM_end L2_ (by omega)
   refine T_exit ?_
   refine then_exit ?_
   refine then_exit ?_
   refine block_exit ?_
   replace H := N2_
   obtain ⟨r_6, h_7, H⟩ := bind_inv H
   obtain ⟨r_8, h_9, H⟩ := bind_inv H
   refine T_pad ?_
   refine T_pad ?_
   refine T_pad ?_
   refine T_pad ?_
   refine T_pad ?_
   refine T_cutX (fun (_ : Unit) => True) (fun _ => [(4, (.b 1 0)), (7, (.b 8 0))]) (fun _ => [.box [(sl tRelation db0.relations), (sl tFact db0.facts)], .box [.n, .n], .dead, .row (flat tRelation.own r_8.1.relations), .row (flat tFact.own r_8.1.facts), .dead, .dead, .dead, .box [(.m [3] 0 r_8.1.relations.length tRelation.k), (.m [4] 0 r_8.1.facts.length tFact.k)]]) ?_ ?_
   ·skip
    refine T_regionP 2 mixed rfl ?_
    refine TA_have 2 #[true, true, true, true, true, true, true, true, true, false, false] [(4, (.b 1 0)), (7, (.b 8 0)), (27, (.g [(.m [5] 0 r_8.1.relations.length tRelation.k), (.m [6] 0 r_8.1.facts.length tFact.k)])), (28, (boolA r_8.2))] [.dead, .dead, .dead, .dead, .dead, .row (flat tRelation.own r_8.1.relations), .row (flat tFact.own r_8.1.facts), .dead, .box [.n, .n]] ?_ (fun hj0_7 => ?_)
    ·skip
     refine t1 9 (by kernel_rfl) rfl rfl (TOp_storeB sz48 rfl rfl rfl rfl rfl rfl rfl (by decide) (lb rfl) rfl ?_)
     refine TA_st (σ' := [.dead, .dead, .dead, .dead, .dead, .row (flat tRelation.own r_8.1.relations), .row (flat tFact.own r_8.1.facts), .dead, .box [(.m [5] 0 r_8.1.relations.length tRelation.k), (.m [6] 0 r_8.1.facts.length tFact.k)]]) rfl ?_
     refine pa tb [10] 0 rfl (by kernel_rfl) rfl ?_
     refine TA_ghost (E' := [(4, (.b 1 0)), (7, (.b 8 0))]) (σ' := [.dead, .dead, .dead, .row (flat tRelation.own r_8.1.relations), .dead, .dead, .row (flat tFact.own r_8.1.facts), .dead, .box [(.m [3] 0 r_8.1.relations.length tRelation.k), (.m [6] 0 r_8.1.facts.length tFact.k)]]) (Ghost.move 3 5 (by decide) (lb rfl) rfl rfl (lb rfl) (Ghost.weak (WeakL.to 9 (lb rfl) rfl rfl rfl rfl ⟨leR rfl, leR rfl, trivial⟩))) ?_
     refine TA_ghost (E' := [(4, (.b 1 0)), (7, (.b 8 0))]) (σ' := [.dead, .dead, .dead, .row (flat tRelation.own r_8.1.relations), .row (flat tFact.own r_8.1.facts), .dead, .dead, .dead, .box [(.m [3] 0 r_8.1.relations.length tRelation.k), (.m [4] 0 r_8.1.facts.length tFact.k)]]) (Ghost.move 4 6 (by decide) (lb rfl) rfl rfl (lb rfl) (Ghost.weak (WeakL.to 9 (lb rfl) rfl rfl rfl rfl ⟨leR rfl, leR rfl, trivial⟩))) ?_
     exact TA_nil (by kernel_rfl) (joined () (w0 9) trivial)
    refine TA_have 6 #[true, true, true, true, false, false, false, false, true, false, false] [(4, (.b 1 0)), (7, (.b 8 0)), (22, (.g (tDatabase.enc db0))), (25, (sl tInt r_6))] [.dead, .dead, .dead, .dead, .dead, .dead, .dead, .dead, .box [.n, .n]] ?_ (fun hj1_7 => ?_)
    ·skip
     refine t1 4 (by kernel_rfl) rfl rfl (TOp_callO (call_static ent172 rfl) rfl (m_impl_SelectFacts_own _ _ _ h_9) rfl rfl rfl ?_)
     refine tae [(4, (.b 1 0)), (7, (.b 8 0)), (22, (.g (tDatabase.enc db0))), (25, (sl tInt r_6)), (26, (.t [(.g [(.m [9] 0 r_8.1.relations.length tRelation.k), (.m [10] 0 r_8.1.facts.length tFact.k)]), (boolA r_8.2)]))] rfl ?_
     refine TA_st (σ' := [.dead, .dead, .dead, .dead, .dead, .dead, .dead, .dead, .box [.n, .n], .row (flat tRelation.own r_8.1.relations), .row (flat tFact.own r_8.1.facts)]) rfl ?_
     refine TA_ghost (E' := [(4, (.b 1 0)), (7, (.b 8 0)), (22, (.g (tDatabase.enc db0))), (25, (sl tInt r_6)), (26, (.t [(.g [(.m [5] 0 r_8.1.relations.length tRelation.k), (.m [10] 0 r_8.1.facts.length tFact.k)]), (boolA r_8.2)]))]) (σ' := [.dead, .dead, .dead, .dead, .dead, .row (flat tRelation.own r_8.1.relations), .dead, .dead, .box [.n, .n], .dead, .row (flat tFact.own r_8.1.facts)]) (Ghost.move 5 9 (by decide) (lb rfl) rfl rfl (lb rfl) (Ghost.weak (WeakL.to 11 (lb rfl) rfl rfl rfl rfl ⟨leR rfl, leR rfl, leR rfl, leR rfl, leR rfl, trivial⟩))) ?_
     refine TA_ghost (E' := [(4, (.b 1 0)), (7, (.b 8 0)), (22, (.g (tDatabase.enc db0))), (25, (sl tInt r_6)), (26, (.t [(.g [(.m [5] 0 r_8.1.relations.length tRelation.k), (.m [6] 0 r_8.1.facts.length tFact.k)]), (boolA r_8.2)]))]) (σ' := [.dead, .dead, .dead, .dead, .dead, .row (flat tRelation.own r_8.1.relations), .row (flat tFact.own r_8.1.facts), .dead, .box [.n, .n]]) (Ghost.move 6 10 (by decide) (lb rfl) rfl rfl (lb rfl) (Ghost.weak (WeakL.to 9 (lb rfl) rfl rfl rfl rfl ⟨leR rfl, leR rfl, leR rfl, leR rfl, leR rfl, trivial⟩))) ?_
     refine pa tb [5, 6, 7] 2 rfl (by kernel_rfl) rfl ?_
     exact tj hj0_7 rfl (w0 9)
    refine pa tb [0, 1, 2] 8 rfl (by kernel_rfl) rfl ?_
    refine TA_ghost (E' := [(1, (sl tInt indices1)), (2, (.b 0 0)), (4, (.b 1 0)), (5, (.m [2] 0 all5.length tInt.k)), (22, (.g (tDatabase.enc db0))), (23, (.m [2] 0 all5.length tInt.k)), (24, (sl tInt indices1))]) (σ' := [.dead, .dead, .row (flat tInt.enc all5), .dead, .dead, .dead, .dead, .dead]) (Ghost.weak (WeakL.to 8 (lb rfl) rfl rfl rfl rfl ⟨leR rfl, leR rfl, leR rfl, leR rfl, leR rfl, leR rfl, leR rfl, trivial⟩)) ?_
    refine TA_frz1 2 (E' := [(1, (sl tInt indices1)), (2, (.b 0 0)), (4, (.b 1 0)), (5, (sl tInt all5)), (22, (.g (tDatabase.enc db0))), (23, (sl tInt all5)), (24, (sl tInt indices1))]) rfl rfl (lb rfl) ⟨(.keep rfl), (.keep rfl), (.keep rfl), fz1E, (.keep rfl), fz1E, (.keep rfl), trivial⟩ ?_
    refine TA_st (σ' := [.dead, .dead, .dead, .dead, .dead, .dead, .dead, .dead]) rfl ?_
    refine TA_all [3, 8] (by kernel_rfl) (by decide) ⟨?_, ?_, trivial⟩
    ·skip
     refine ⟨_, rfl, rfl, (TOp_callV (call_static ent130 rfl) (m_impl_without_ok _ _ _ h_7) rfl rfl rfl ?_)⟩
     refine TA_all [4, 8] (by kernel_rfl) (by decide) ⟨?_, ?_, trivial⟩
     ·skip
      refine ⟨_, rfl, rfl, (TOp_callO (call_static ent172 rfl) rfl (m_impl_SelectFacts_own _ _ _ h_9) rfl rfl rfl ?_)⟩
      refine tae [(1, (sl tInt indices1)), (2, (.b 0 0)), (4, (.b 1 0)), (5, (sl tInt all5)), (22, (.g (tDatabase.enc db0))), (23, (sl tInt all5)), (24, (sl tInt indices1)), (25, (sl tInt r_6)), (26, (.t [(.g [(.m [8] 0 r_8.1.relations.length tRelation.k), (.m [9] 0 r_8.1.facts.length tFact.k)]), (boolA r_8.2)]))] rfl ?_
      refine TA_st (σ' := [.dead, .dead, .dead, .dead, .dead, .dead, .dead, .dead, .row (flat tRelation.own r_8.1.relations), .row (flat tFact.own r_8.1.facts)]) rfl ?_
      refine TA_ghost (E' := [(1, (sl tInt indices1)), (2, (.b 0 0)), (4, (.b 1 0)), (5, (sl tInt all5)), (22, (.g (tDatabase.enc db0))), (23, (sl tInt all5)), (24, (sl tInt indices1)), (25, (sl tInt r_6)), (26, (.t [(.g [(.m [5] 0 r_8.1.relations.length tRelation.k), (.m [9] 0 r_8.1.facts.length tFact.k)]), (boolA r_8.2)]))]) (σ' := [.dead, .dead, .dead, .dead, .dead, .row (flat tRelation.own r_8.1.relations), .dead, .dead, .dead, .row (flat tFact.own r_8.1.facts)]) (Ghost.move 5 8 (by decide) (lb rfl) rfl rfl (lb rfl) (Ghost.weak (WeakL.to 10 (lb rfl) rfl rfl rfl rfl ⟨leR rfl, leR rfl, leR rfl, leR rfl, leR rfl, leR rfl, leR rfl, leR rfl, leR rfl, trivial⟩))) ?_
      refine TA_ghost (E' := [(1, (sl tInt indices1)), (2, (.b 0 0)), (4, (.b 1 0)), (5, (sl tInt all5)), (22, (.g (tDatabase.enc db0))), (23, (sl tInt all5)), (24, (sl tInt indices1)), (25, (sl tInt r_6)), (26, (.t [(.g [(.m [5] 0 r_8.1.relations.length tRelation.k), (.m [6] 0 r_8.1.facts.length tFact.k)]), (boolA r_8.2)]))]) (σ' := [.dead, .dead, .dead, .dead, .dead, .row (flat tRelation.own r_8.1.relations), .row (flat tFact.own r_8.1.facts), .dead]) (Ghost.move 6 9 (by decide) (lb rfl) rfl rfl (lb rfl) (Ghost.weak (WeakL.to 8 (lb rfl) rfl rfl rfl rfl ⟨leR rfl, leR rfl, leR rfl, leR rfl, leR rfl, leR rfl, leR rfl, leR rfl, leR rfl, trivial⟩))) ?_
      refine pa tb [5, 6, 7] 3 rfl (by kernel_rfl) rfl ?_
      refine t1 8 (by kernel_rfl) rfl rfl (TOp_alloc zero48 rfl rfl ?_)
      refine tae [(4, (.b 1 0)), (7, (.b 8 0)), (27, (.g [(.m [5] 0 r_8.1.relations.length tRelation.k), (.m [6] 0 r_8.1.facts.length tFact.k)])), (28, (boolA r_8.2))] rfl ?_
      refine TA_st (σ' := [.dead, .dead, .dead, .dead, .dead, .row (flat tRelation.own r_8.1.relations), .row (flat tFact.own r_8.1.facts), .dead, .box [.n, .n]]) rfl ?_
      exact tj hj0_7 rfl (w0 9)
     ·skip
      refine ⟨_, rfl, rfl, (TOp_alloc zero48 rfl rfl ?_)⟩
      exact tj hj1_7 rfl (w0 9)
    ·skip
     refine ⟨_, rfl, rfl, (TOp_alloc zero48 rfl rfl ?_)⟩
     refine t1 3 (by kernel_rfl) rfl rfl (TOp_callV (call_static ent130 rfl) (m_impl_without_ok _ _ _ h_7) rfl rfl rfl ?_)
     exact tj hj1_7 rfl (w0 9)
   ·rintro _ _
    refine sr ?_
    refine pv tb 1 rfl ?_
    refine TO_cons rfl (TOp_storeB sz48 rfl rfl rfl rfl rfl rfl rfl (by decide) (lb rfl) rfl ?_)
    refine TO_st (σ' := [.box [(sl tRelation db0.relations), (sl tFact db0.facts)], .box [(.m [3] 0 r_8.1.relations.length tRelation.k), (.m [4] 0 r_8.1.facts.length tFact.k)], .dead, .row (flat tRelation.own r_8.1.relations), .row (flat tFact.own r_8.1.facts), .dead, .dead, .dead, .box [(.m [3] 0 r_8.1.relations.length tRelation.k), (.m [4] 0 r_8.1.facts.length tFact.k)]]) rfl ?_
    refine TO_nil ?_
    refine T_ret ?_
    obtain rfl := some_inj H
    exact end_pick (.cellK rfl agg48 rfl (lb rfl) .nil) rfl [3, 4] (by decide) rfl rfl rfl rfl rfl rfl
theorem m_impl_withoutFacts_ok (db0 : Database) (indices1 : (List Int)) (r : Database) (H : m_impl_withoutFacts db0 indices1 = some r) : FnV prg 129 [(.g (tDatabase.enc db0)), (sl tInt indices1)] (.g (tDatabase.enc r)) := (m_impl_withoutFacts_own db0 indices1 r H).frz (frzOK_g (frz_cons (frzT (T := tRelation) rfl) (frz_cons (frzT (T := tFact) rfl) frz_nil)).1 (frz_cons (frzT (T := tRelation) rfl) (frz_cons (frzT (T := tFact) rfl) frz_nil)).2)

set_option maxHeartbeats 1000000 in
/-- impl.ResolveConflict -/
theorem m_impl_ResolveConflict_own (db0 : Database) (fact1 : Fact) (r : (Database × Bool)) (H : m_impl_ResolveConflict db0 fact1 = some r) : FnO prg 60 [(.g (tDatabase.enc db0)), (.g (tFact.enc fact1))] (.t [(.g [(.m [0] 0 r.1.relations.length tRelation.k), (.m [1] 0 r.1.facts.length tFact.k)]), (boolA r.2)]) [.row (flat tRelation.own r.1.relations), .row (flat tFact.own r.1.facts)] := by
  unfold m_impl_ResolveConflict at H
  refine fnO_of_T Try.func60 rfl rfl (Nat.le_of_ble_eq_true rfl) ?_
  refine te [(0, (.g (tDatabase.enc db0))), (1, (.g (tFact.enc fact1)))] rfl ?_
  refine sr ?_
  refine TO_cons rfl (TOp_box rfl (boxAll rfl) rfl rfl ?_)
  refine TO_cons rfl (TOp_box rfl (boxAll rfl) rfl rfl ?_)
  refine TO_cons rfl (TOp_alloc zero48 rfl rfl ?_)
  refine pv tb 1 rfl ?_
  refine TO_nil ?_
  refine T_seq ?_
  refine sr ?_
  obtain ⟨r_1, h_2, H⟩ := bind_inv H
  refine pv tb 2 rfl ?_
  refine TO_cons rfl (TOp_callV (call_static ent49 rfl) (m_impl_ContainsFact_ok _ _ _ h_2) rfl rfl rfl ?_)
  refine pv tb 1 rfl ?_
  refine TO_nil ?_
  refine T_cond (t := (!r_1)) rfl (fun c_3 => ?_) (fun c_3 => ?_)
  ·replace H := cond_t c_3 H
   refine sr ?_
   obtain ⟨r_4, h_5, H⟩ := bind_inv H
   refine pv tb 1 rfl ?_
   refine TO_cons rfl (TOp_callO (call_static ent107 rfl) rfl (m_impl_copyDatabase_own _ _ h_5) rfl rfl rfl ?_)
   refine toe [(2, (.b 0 0)), (3, (.b 1 0)), (4, (.b 2 0)), (10, (boolA (!r_1))), (11, (.g (tDatabase.enc db0))), (12, (.g [(.m [3] 0 r_4.relations.length tRelation.k), (.m [4] 0 r_4.facts.length tFact.k)]))] rfl ?_
   refine TO_st (σ' := [.box [(sl tRelation db0.relations), (sl tFact db0.facts)], .box [(intA fact1.relation), (sl tInt fact1.values)], .box [.n, .n], .row (flat tRelation.own r_4.relations), .row (flat tFact.own r_4.facts)]) rfl ?_
   refine TO_cons rfl (TOp_storeB sz48 rfl rfl rfl rfl rfl rfl rfl (by decide) (lb rfl) rfl ?_)
   refine TO_st (σ' := [.box [(sl tRelation db0.relations), (sl tFact db0.facts)], .box [(intA fact1.relation), (sl tInt fact1.values)], .box [(.m [3] 0 r_4.relations.length tRelation.k), (.m [4] 0 r_4.facts.length tFact.k)], .row (flat tRelation.own r_4.relations), .row (flat tFact.own r_4.facts)]) rfl ?_
   refine pv tb 1 rfl ?_
   refine TO_nil ?_
   refine T_ret ?_
   refine then_ret ?_
   obtain rfl := some_inj H
   exact end_pick (.cellK rfl agg48 rfl (lb rfl) (.tmp .nil)) rfl [3, 4] (by decide) rfl rfl rfl rfl rfl rfl
  ·replace H := cond_f c_3 H
   refine T_skip ?_
   refine sr ?_
   obtain ⟨r_6, h_7, H⟩ := bind_inv H
   refine pv tb 2 rfl ?_
   refine TO_cons rfl (TOp_callV (call_static ent106 rfl) (m_impl_FactIndex_ok _ _ _ h_7) rfl rfl rfl ?_)
   refine pv tb 1 rfl ?_
   refine TO_nil ?_
   obtain ⟨r_8, h_9, H⟩ := bind_inv H
   obtain ⟨r_10, h_11, H⟩ := bind_inv H
   obtain ⟨r_12, h_13, H⟩ := bind_inv H
   refine T_pad ?_
   refine T_pad ?_
   refine T_pad ?_
   refine T_pad ?_
   refine T_pad ?_
   refine T_cutX (fun (_ : Unit) => True) (fun _ => [(4, (.b 2 0)), (5, (boolA true))]) (fun _ => [.box [(sl tRelation db0.relations), (sl tFact db0.facts)], .box [(intA fact1.relation), (sl tInt fact1.values)], .box [(.m [3] 0 r_12.relations.length tRelation.k), (.m [4] 0 r_12.facts.length tFact.k)], .row (flat tRelation.own r_12.relations), .row (flat tFact.own r_12.facts)]) ?_ ?_
   ·skip
    refine T_regionPh 3 8 mixed rfl (by kernel_rfl) ?_
    refine TA_have 2 #[true, true, true, true, true, true, false, false] [(4, (.b 2 0)), (16, (.g (tDatabase.enc db0))), (19, (sl tInt r_8)), (21, (sl tInt ([r_6] : (List Int))))] [.dead, .dead, .dead, .dead, .dead, .dead, .dead, .dead] ?_ (fun hj0_4 => ?_)
    ·skip
     refine t1 6 (by kernel_rfl) rfl rfl (TOp_callV (call_static ent130 rfl) (m_impl_without_ok _ _ _ h_11) rfl rfl rfl ?_)
     refine t1 7 (by kernel_rfl) rfl rfl (TOp_callO (call_static ent129 rfl) rfl (m_impl_withoutFacts_own _ _ _ h_13) rfl rfl rfl ?_)
     refine tae [(4, (.b 2 0)), (16, (.g (tDatabase.enc db0))), (19, (sl tInt r_8)), (21, (sl tInt ([r_6] : (List Int)))), (22, (sl tInt r_10)), (23, (.g [(.m [8] 0 r_12.relations.length tRelation.k), (.m [9] 0 r_12.facts.length tFact.k)]))] rfl ?_
     refine TA_st (σ' := [.dead, .dead, .dead, .dead, .dead, .dead, .dead, .dead, .row (flat tRelation.own r_12.relations), .row (flat tFact.own r_12.facts)]) rfl ?_
     refine tmw 6 8 (by decide) (lb rfl) rfl rfl (lb rfl) rfl ?_
     refine tmw 7 9 (by decide) (lb rfl) rfl rfl (lb rfl) rfl ?_
     refine TA_nil (by kernel_rfl) ?_
     refine TA_st (σ' := [.box [(sl tRelation db0.relations), (sl tFact db0.facts)], .box [(intA fact1.relation), (sl tInt fact1.values)], .box [.n, .n], .dead, .dead, .dead, .row (flat tRelation.own r_12.relations), .row (flat tFact.own r_12.facts), .dead, .dead]) rfl ?_
     refine t1 8 (by kernel_rfl) rfl rfl (TOp_storeB sz48 rfl rfl rfl rfl rfl rfl rfl (by decide) (lb rfl) rfl ?_)
     refine TA_st (σ' := [.box [(sl tRelation db0.relations), (sl tFact db0.facts)], .box [(intA fact1.relation), (sl tInt fact1.values)], .box [(.m [6] 0 r_12.relations.length tRelation.k), (.m [7] 0 r_12.facts.length tFact.k)], .dead, .dead, .dead, .row (flat tRelation.own r_12.relations), .row (flat tFact.own r_12.facts), .dead, .dead]) rfl ?_
     refine pa tb [9] 0 rfl (by kernel_rfl) rfl ?_
     refine TA_ghost (E' := [(4, (.b 2 0)), (5, (boolA true))]) (σ' := [.box [(sl tRelation db0.relations), (sl tFact db0.facts)], .box [(intA fact1.relation), (sl tInt fact1.values)], .box [(.m [3] 0 r_12.relations.length tRelation.k), (.m [7] 0 r_12.facts.length tFact.k)], .row (flat tRelation.own r_12.relations), .dead, .dead, .dead, .row (flat tFact.own r_12.facts), .dead, .dead]) (Ghost.move 3 6 (by decide) (lb rfl) rfl rfl (lb rfl) (Ghost.weak (WeakL.to 10 (lb rfl) rfl rfl rfl rfl ⟨leR rfl, leR rfl, trivial⟩))) ?_
     refine TA_ghost (E' := [(4, (.b 2 0)), (5, (boolA true))]) (σ' := [.box [(sl tRelation db0.relations), (sl tFact db0.facts)], .box [(intA fact1.relation), (sl tInt fact1.values)], .box [(.m [3] 0 r_12.relations.length tRelation.k), (.m [4] 0 r_12.facts.length tFact.k)], .row (flat tRelation.own r_12.relations), .row (flat tFact.own r_12.facts), .dead, .dead, .dead, .dead, .dead]) (Ghost.move 4 7 (by decide) (lb rfl) rfl rfl (lb rfl) (Ghost.weak (WeakL.to 10 (lb rfl) rfl rfl rfl rfl ⟨leR rfl, leR rfl, trivial⟩))) ?_
     exact TA_nil (by kernel_rfl) (joined () (w0 5) trivial)
    refine pa tb [0, 1, 2, 4] 4 rfl (by kernel_rfl) rfl ?_
    refine TA_all [3, 5] (by kernel_rfl) (by decide) ⟨?_, ?_, trivial⟩
    ·skip
     refine ⟨_, rfl, rfl, (TOp_callV (call_static ent105 rfl) (m_impl_BlockOf_ok _ _ _ h_9) rfl rfl rfl ?_)⟩
     refine t1 5 (by kernel_rfl) rfl rfl (TOp_lit (nn := 1) (k := 1) sl23 zero3 rfl rfl rfl rfl (by decide) ?_)
     refine tmw 5 8 (by decide) (lb rfl) rfl rfl (lb rfl) rfl ?_
     refine TA_ghost (E' := [(2, (.b 0 0)), (4, (.b 2 0)), (6, (intA r_6)), (16, (.g (tDatabase.enc db0))), (17, (.g (tDatabase.enc db0))), (18, (intA r_6)), (19, (sl tInt r_8)), (20, (intA r_6)), (21, (.m [5] 0 ([r_6] : (List Int)).length tInt.k))]) (σ' := [.dead, .dead, .dead, .dead, .dead, .row (flat tInt.enc ([r_6] : (List Int))), .dead, .dead, .dead]) (Ghost.weak (WeakL.to 9 (lb rfl) rfl rfl rfl rfl ⟨leR rfl, leR rfl, leR rfl, leR rfl, leR rfl, leR rfl, leR rfl, leR rfl, leR rfl, trivial⟩)) ?_
     refine TA_frz1 5 (E' := [(2, (.b 0 0)), (4, (.b 2 0)), (6, (intA r_6)), (16, (.g (tDatabase.enc db0))), (17, (.g (tDatabase.enc db0))), (18, (intA r_6)), (19, (sl tInt r_8)), (20, (intA r_6)), (21, (sl tInt ([r_6] : (List Int))))]) rfl rfl (lb rfl) ⟨(.keep rfl), (.keep rfl), (.keep rfl), (.keep rfl), (.keep rfl), (.keep rfl), (.keep rfl), (.keep rfl), fz1E, trivial⟩ ?_
     refine TA_st (σ' := [.dead, .dead, .dead, .dead, .dead, .dead, .dead, .dead, .dead]) rfl ?_
     exact tj hj0_4 rfl (w0 8)
    ·skip
     refine ⟨_, rfl, rfl, (TOp_lit (nn := 1) (k := 1) sl23 zero3 rfl rfl rfl rfl (by decide) ?_)⟩
     refine tmw 5 8 (by decide) (lb rfl) rfl rfl (lb rfl) rfl ?_
     refine t1 3 (by kernel_rfl) rfl rfl (TOp_callV (call_static ent105 rfl) (m_impl_BlockOf_ok _ _ _ h_9) rfl rfl rfl ?_)
     refine TA_ghost (E' := [(2, (.b 0 0)), (4, (.b 2 0)), (6, (intA r_6)), (16, (.g (tDatabase.enc db0))), (17, (.g (tDatabase.enc db0))), (18, (intA r_6)), (19, (sl tInt r_8)), (20, (intA r_6)), (21, (.m [5] 0 ([r_6] : (List Int)).length tInt.k))]) (σ' := [.dead, .dead, .dead, .dead, .dead, .row (flat tInt.enc ([r_6] : (List Int))), .dead, .dead, .dead]) (Ghost.weak (WeakL.to 9 (lb rfl) rfl rfl rfl rfl ⟨leR rfl, leR rfl, leR rfl, leR rfl, leR rfl, leR rfl, leR rfl, leR rfl, leR rfl, trivial⟩)) ?_
     refine TA_frz1 5 (E' := [(2, (.b 0 0)), (4, (.b 2 0)), (6, (intA r_6)), (16, (.g (tDatabase.enc db0))), (17, (.g (tDatabase.enc db0))), (18, (intA r_6)), (19, (sl tInt r_8)), (20, (intA r_6)), (21, (sl tInt ([r_6] : (List Int))))]) rfl rfl (lb rfl) ⟨(.keep rfl), (.keep rfl), (.keep rfl), (.keep rfl), (.keep rfl), (.keep rfl), (.keep rfl), (.keep rfl), fz1E, trivial⟩ ?_
     refine TA_st (σ' := [.dead, .dead, .dead, .dead, .dead, .dead, .dead, .dead, .dead]) rfl ?_
     exact tj hj0_4 rfl (w0 8)
   ·rintro _ _
    refine T_ret ?_
    obtain rfl := some_inj H
    exact end_pick (.cellK rfl agg48 rfl (lb rfl) (.tmp .nil)) rfl [3, 4] (by decide) rfl rfl rfl rfl rfl rfl
theorem m_impl_ResolveConflict_ok (db0 : Database) (fact1 : Fact) (r : (Database × Bool)) (H : m_impl_ResolveConflict db0 fact1 = some r) : FnV prg 60 [(.g (tDatabase.enc db0)), (.g (tFact.enc fact1))] (.t [(.g (tDatabase.enc r.1)), (boolA r.2)]) := (m_impl_ResolveConflict_own db0 fact1 r H).frz (frzOK_t (frz_cons (frzOK_g (frz_cons (frzT (T := tRelation) rfl) (frz_cons (frzT (T := tFact) rfl) frz_nil)).1 (frz_cons (frzT (T := tRelation) rfl) (frz_cons (frzT (T := tFact) rfl) frz_nil)).2) (frz_cons (frz_loose rfl) frz_nil)).1 (frz_cons (frzOK_g (frz_cons (frzT (T := tRelation) rfl) (frz_cons (frzT (T := tFact) rfl) frz_nil)).1 (frz_cons (frzT (T := tRelation) rfl) (frz_cons (frzT (T := tFact) rfl) frz_nil)).2) (frz_cons (frz_loose rfl) frz_nil)).2)

set_option maxHeartbeats 1000000 in
/-- laws.FnExactResolveConflict -/
theorem m_laws_FnExactResolveConflict_ok (u : Nat) (aDb0 : Database) (aFact1 : Fact) (r : Bool) (H : m_laws_FnExactResolveConflict u aDb0 aFact1 = some r) : FnV prg 9 [(.g (tDatabase.enc aDb0)), (.g (tFact.enc aFact1))] (boolA r) := by
  unfold m_laws_FnExactResolveConflict at H
  refine fnV_of_T Try.func9 rfl rfl (Nat.le_of_ble_eq_true rfl) ?_
  refine te [(0, (.g (tDatabase.enc aDb0))), (1, (.g (tFact.enc aFact1)))] rfl ?_
  refine sr ?_
  refine TO_cons rfl (TOp_box rfl (boxAll rfl) rfl rfl ?_)
  refine TO_cons rfl (TOp_box rfl (boxAll rfl) rfl rfl ?_)
  refine pv tb 1 rfl ?_
  refine TO_nil ?_
  refine sr ?_
  refine pv tb 1 rfl ?_
  refine TO_nil ?_
  refine sr ?_
  obtain ⟨r_1, h_2, H⟩ := bind_inv H
  refine pv tb 2 rfl ?_
  refine TO_cons rfl (TOp_callV (call_static ent25 rfl) (m_laws_szDatabase_ok _ _ _ h_2) rfl rfl rfl ?_)
  refine pv tb 1 rfl ?_
  refine TO_nil ?_
  refine T_seq ?_
  refine sr ?_
  refine pv tb 2 rfl ?_
  refine TO_nil ?_
  refine T_cond (t := decide (r_1 < 0)) rfl (fun c_3 => ?_) (fun c_3 => ?_)
  ·replace H := cond_t c_3 H
   refine sr ?_
   refine pv tb 1 rfl ?_
   refine TO_nil ?_
   refine T_ret ?_
   refine then_ret ?_
   obtain rfl := some_inj H
   refine end_ret (.tmp .nil) rfl rfl ⟨?_, rfl⟩
   rfl
  ·replace H := cond_f c_3 H
   refine T_skip ?_
   refine sr ?_
   obtain ⟨r_4, h_5, H⟩ := bind_inv H
   refine pv tb 2 rfl ?_
   refine TO_cons rfl (TOp_callV (call_static ent54 rfl) (m_laws_szFact_ok _ _ _ h_5) rfl rfl rfl ?_)
   refine pv tb 1 rfl ?_
   refine TO_nil ?_
   refine T_seq ?_
   refine sr ?_
   refine pv tb 2 rfl ?_
   refine TO_nil ?_
   refine T_cond (t := decide (r_4 < 0)) rfl (fun c_6 => ?_) (fun c_6 => ?_)
   ·replace H := cond_t c_6 H
    refine sr ?_
    refine pv tb 1 rfl ?_
    refine TO_nil ?_
    refine te [(4, (boolA true))] rfl ?_
    refine T_ret ?_
    refine then_ret ?_
    obtain rfl := some_inj H
    refine end_ret (.tmp .nil) rfl rfl ⟨?_, rfl⟩
    rfl
   ·replace H := cond_f c_6 H
    refine T_skip ?_
    obtain ⟨r_7, h_8, H⟩ := bind_inv H
    obtain ⟨r_9, h_10, H⟩ := bind_inv H
    obtain ⟨r_11, h_12, H⟩ := bind_inv H
    refine T_pad ?_
    refine T_cutX (fun (_ : Unit) => True) (fun _ => [(2, (.b 0 0)), (3, (.b 1 0)), (6, (.b 3 0)), (7, (boolA r_11.2))]) (fun _ => [.box [(sl tRelation aDb0.relations), (sl tFact aDb0.facts)], .box [(intA aFact1.relation), (sl tInt aFact1.values)], .dead, .box [(sl tRelation r_11.1.relations), (sl tFact r_11.1.facts)]]) ?_ ?_
    ·skip
     refine T_regionP 2 mixed rfl ?_
     refine TA_have 2 #[true, true, true, true, true, true, true, true, true, false, false] [(2, (.b 0 0)), (3, (.b 1 0)), (6, (.b 3 0)), (33, (.g (tDatabase.enc r_11.1))), (34, (boolA r_11.2))] [.dead, .dead, .dead, .box [.n, .n]] ?_ (fun hj0_8 => ?_)
     ·skip
      refine t1 9 (by kernel_rfl) rfl rfl (TOp_storeB sz48 rfl rfl rfl rfl rfl rfl rfl (by decide) (lb rfl) rfl ?_)
      refine TA_st (σ' := [.dead, .dead, .dead, .box [(sl tRelation r_11.1.relations), (sl tFact r_11.1.facts)]]) rfl ?_
      refine pa tb [10] 0 rfl (by kernel_rfl) rfl ?_
      exact TA_nil (by kernel_rfl) (joined () (w0 4) trivial)
     refine TA_have 6 #[true, true, true, true, false, false, false, false, true, false, false] [(2, (.b 0 0)), (3, (.b 1 0)), (6, (.b 3 0)), (29, (.g (tDatabase.enc r_7))), (31, (.g (tFact.enc r_9)))] [.dead, .dead, .dead, .box [.n, .n]] ?_ (fun hj1_8 => ?_)
     ·skip
      refine t1 4 (by kernel_rfl) rfl rfl (TOp_callV (call_static ent59 rfl) (m_spec_ResolveConflict_ok u _ _ _ h_12) rfl rfl rfl ?_)
      refine pa tb [5, 6, 7] 2 rfl (by kernel_rfl) rfl ?_
      exact tj hj0_8 rfl (w0 4)
     refine TA_have 7 #[true, true, true, false, false, false, false, false, true, false, false] [(2, (.b 0 0)), (3, (.b 1 0)), (6, (.b 3 0)), (29, (.g (tDatabase.enc r_7))), (30, (.g (tFact.enc aFact1)))] [.dead, .dead, .dead, .box [.n, .n]] ?_ (fun hj2_8 => ?_)
     ·skip
      refine t1 3 (by kernel_rfl) rfl rfl (TOp_callV (call_static ent55 rfl) (m_laws_toFact_ok _ _ h_10) rfl rfl rfl ?_)
      exact tj hj1_8 rfl (w0 4)
     refine pa tb [0, 2] 9 rfl (by kernel_rfl) rfl ?_
     refine TA_all [1, 8] (by kernel_rfl) (by decide) ⟨?_, ?_, trivial⟩
     ·skip
      refine ⟨_, rfl, rfl, (TOp_callV (call_static ent27 rfl) (m_laws_toDatabase_ok _ _ h_8) rfl rfl rfl ?_)⟩
      refine TA_all [3, 8] (by kernel_rfl) (by decide) ⟨?_, ?_, trivial⟩
      ·skip
       refine ⟨_, rfl, rfl, (TOp_callV (call_static ent55 rfl) (m_laws_toFact_ok _ _ h_10) rfl rfl rfl ?_)⟩
       refine TA_all [4, 8] (by kernel_rfl) (by decide) ⟨?_, ?_, trivial⟩
       ·skip
        refine ⟨_, rfl, rfl, (TOp_callV (call_static ent59 rfl) (m_spec_ResolveConflict_ok u _ _ _ h_12) rfl rfl rfl ?_)⟩
        refine pa tb [5] 5 rfl (by kernel_rfl) rfl ?_
        refine tae [(2, (.b 0 0)), (3, (.b 1 0)), (27, (.t [(.g (tDatabase.enc r_11.1)), (boolA r_11.2)]))] rfl ?_
        refine pa tb [6, 7] 3 rfl (by kernel_rfl) rfl ?_
        refine t1 8 (by kernel_rfl) rfl rfl (TOp_alloc zero48 rfl rfl ?_)
        exact tj hj0_8 rfl (w0 4)
       ·skip
        refine ⟨_, rfl, rfl, (TOp_alloc zero48 rfl rfl ?_)⟩
        exact tj hj1_8 rfl (w0 4)
      ·skip
       refine ⟨_, rfl, rfl, (TOp_alloc zero48 rfl rfl ?_)⟩
       exact tj hj2_8 rfl (w0 4)
     ·skip
      refine ⟨_, rfl, rfl, (TOp_alloc zero48 rfl rfl ?_)⟩
      refine t1 1 (by kernel_rfl) rfl rfl (TOp_callV (call_static ent27 rfl) (m_laws_toDatabase_ok _ _ h_8) rfl rfl rfl ?_)
      exact tj hj2_8 rfl (w0 4)
    ·rintro _ _
     refine sr ?_
     obtain ⟨r_13, h_14, H⟩ := bind_inv H
     refine pv tb 1 rfl ?_
     refine TO_cons rfl (TOp_callO (call_static ent27 rfl) rfl (m_laws_toDatabase_own _ _ h_14) rfl rfl rfl ?_)
     refine toe [(2, (.b 0 0)), (3, (.b 1 0)), (6, (.b 3 0)), (7, (boolA r_11.2)), (35, (.g (tDatabase.enc aDb0))), (36, (.g [(.m [4] 0 r_13.relations.length tRelation.k), (.m [5] 0 r_13.facts.length tFact.k)]))] rfl ?_
     refine TO_st (σ' := [.box [(sl tRelation aDb0.relations), (sl tFact aDb0.facts)], .box [(intA aFact1.relation), (sl tInt aFact1.values)], .dead, .box [(sl tRelation r_11.1.relations), (sl tFact r_11.1.facts)], .row (flat tRelation.own r_13.relations), .row (flat tFact.own r_13.facts)]) rfl ?_
     refine TO_cons rfl (TOp_alloc zero48 rfl rfl ?_)
     refine TO_cons rfl (TOp_storeB sz48 rfl rfl rfl rfl rfl rfl rfl (by decide) (lb rfl) rfl ?_)
     refine TO_st (σ' := [.box [(sl tRelation aDb0.relations), (sl tFact aDb0.facts)], .box [(intA aFact1.relation), (sl tInt aFact1.values)], .dead, .box [(sl tRelation r_11.1.relations), (sl tFact r_11.1.facts)], .row (flat tRelation.own r_13.relations), .row (flat tFact.own r_13.facts), .box [(.m [4] 0 r_13.relations.length tRelation.k), (.m [5] 0 r_13.facts.length tFact.k)]]) rfl ?_
     refine TO_nil ?_
     refine sr ?_
     obtain ⟨r_15, h_16, H⟩ := bind_inv H
     refine pv tb 1 rfl ?_
     refine TO_cons rfl (TOp_callO (call_static ent55 rfl) rfl (m_laws_toFact_own _ _ h_16) rfl rfl rfl ?_)
     refine toe [(2, (.b 0 0)), (3, (.b 1 0)), (6, (.b 3 0)), (7, (boolA r_11.2)), (8, (.b 6 0)), (37, (.g (tFact.enc aFact1))), (38, (.g [(intA r_15.relation), (.m [7] 0 r_15.values.length tInt.k)]))] rfl ?_
     refine TO_st (σ' := [.box [(sl tRelation aDb0.relations), (sl tFact aDb0.facts)], .box [(intA aFact1.relation), (sl tInt aFact1.values)], .dead, .box [(sl tRelation r_11.1.relations), (sl tFact r_11.1.facts)], .row (flat tRelation.own r_13.relations), .row (flat tFact.own r_13.facts), .box [(.m [4] 0 r_13.relations.length tRelation.k), (.m [5] 0 r_13.facts.length tFact.k)], .row (flat tInt.own r_15.values)]) rfl ?_
     refine TO_cons rfl (TOp_alloc zero65 rfl rfl ?_)
     refine TO_cons rfl (TOp_storeB sz65 rfl rfl rfl rfl rfl rfl rfl (by decide) (lb rfl) rfl ?_)
     refine TO_st (σ' := [.box [(sl tRelation aDb0.relations), (sl tFact aDb0.facts)], .box [(intA aFact1.relation), (sl tInt aFact1.values)], .dead, .box [(sl tRelation r_11.1.relations), (sl tFact r_11.1.facts)], .row (flat tRelation.own r_13.relations), .row (flat tFact.own r_13.facts), .box [(.m [4] 0 r_13.relations.length tRelation.k), (.m [5] 0 r_13.facts.length tFact.k)], .row (flat tInt.own r_15.values), .box [(intA r_15.relation), (.m [7] 0 r_15.values.length tInt.k)]]) rfl ?_
     refine TO_nil ?_
     refine sr ?_
     obtain ⟨r_17, h_18, H⟩ := bind_inv H
     refine pv tb 2 rfl ?_
     refine TO_cons rfl (TOp_callOG (call_static ent60 rfl) (frz_cons (frzOK_g (frz_cons (frzT (T := tRelation) rfl) (frz_cons (frzT (T := tFact) rfl) frz_nil)).1 (frz_cons (frzT (T := tRelation) rfl) (frz_cons (frzT (T := tFact) rfl) frz_nil)).2) (frz_cons (frzOK_g (frz_cons (frz_loose rfl) (frz_cons (frzT (T := tInt) rfl) frz_nil)).1 (frz_cons (frz_loose rfl) (frz_cons (frzT (T := tInt) rfl) frz_nil)).2) frz_nil)).1 (frz_cons (frzOK_g (frz_cons (frzT (T := tRelation) rfl) (frz_cons (frzT (T := tFact) rfl) frz_nil)).1 (frz_cons (frzT (T := tRelation) rfl) (frz_cons (frzT (T := tFact) rfl) frz_nil)).2) (frz_cons (frzOK_g (frz_cons (frz_loose rfl) (frz_cons (frzT (T := tInt) rfl) frz_nil)).1 (frz_cons (frz_loose rfl) (frz_cons (frzT (T := tInt) rfl) frz_nil)).2) frz_nil)).2 (m_impl_ResolveConflict_own _ _ _ h_18) rfl (ownC_of (ownSB_cons (flat_ownR tRelation _) (ownSB_cons (flat_ownR tFact _) ownSB_nil))) rfl rfl rfl ?_)
     refine toe [(2, (.b 0 0)), (3, (.b 1 0)), (6, (.b 3 0)), (7, (boolA r_11.2)), (8, (.b 6 0)), (9, (.b 8 0)), (40, (.g [(.m [4] 0 r_13.relations.length tRelation.k), (.m [5] 0 r_13.facts.length tFact.k)])), (41, (.g [(intA r_15.relation), (.m [7] 0 r_15.values.length tInt.k)])), (42, (.t [(.g [(.m [9] 0 r_17.1.relations.length tRelation.k), (.m [10] 0 r_17.1.facts.length tFact.k)]), (boolA r_17.2)]))] rfl ?_
     refine TO_st (σ' := [.box [(sl tRelation aDb0.relations), (sl tFact aDb0.facts)], .box [(intA aFact1.relation), (sl tInt aFact1.values)], .dead, .box [(sl tRelation r_11.1.relations), (sl tFact r_11.1.facts)], .row (flat tRelation.own r_13.relations), .row (flat tFact.own r_13.facts), .box [(.m [4] 0 r_13.relations.length tRelation.k), (.m [5] 0 r_13.facts.length tFact.k)], .row (flat tInt.own r_15.values), .box [(intA r_15.relation), (.m [7] 0 r_15.values.length tInt.k)], .row (flat tRelation.own r_17.1.relations), .row (flat tFact.own r_17.1.facts)]) rfl ?_
     refine pv tb 3 rfl ?_
     refine TO_cons rfl (TOp_alloc zero48 rfl rfl ?_)
     refine TO_cons rfl (TOp_storeB sz48 rfl rfl rfl rfl rfl rfl rfl (by decide) (lb rfl) rfl ?_)
     refine TO_st (σ' := [.box [(sl tRelation aDb0.relations), (sl tFact aDb0.facts)], .box [(intA aFact1.relation), (sl tInt aFact1.values)], .dead, .box [(sl tRelation r_11.1.relations), (sl tFact r_11.1.facts)], .row (flat tRelation.own r_13.relations), .row (flat tFact.own r_13.facts), .box [(.m [4] 0 r_13.relations.length tRelation.k), (.m [5] 0 r_13.facts.length tFact.k)], .row (flat tInt.own r_15.values), .box [(intA r_15.relation), (.m [7] 0 r_15.values.length tInt.k)], .row (flat tRelation.own r_17.1.relations), .row (flat tFact.own r_17.1.facts), .box [(.m [9] 0 r_17.1.relations.length tRelation.k), (.m [10] 0 r_17.1.facts.length tFact.k)]]) rfl ?_
     refine pv tb 1 rfl ?_
     refine TO_nil ?_
     refine T_seq ?_
     obtain ⟨t53_19, J_19, H_20⟩ := bind_inv H
     refine T_cutX (fun x => t53_19 = x) (fun (t53_19 : Bool) => [(2, (.b 0 0)), (3, (.b 1 0)), (6, (.b 3 0)), (7, (boolA r_11.2)), (8, (.b 6 0)), (9, (.b 8 0)), (10, (.b 11 0)), (11, (boolA r_17.2)), (53, (boolA t53_19))]) (fun (t53_19 : Bool) => [.box [(sl tRelation aDb0.relations), (sl tFact aDb0.facts)], .box [(intA aFact1.relation), (sl tInt aFact1.values)], .dead, .box [(sl tRelation r_11.1.relations), (sl tFact r_11.1.facts)], .row (flat tRelation.own r_13.relations), .row (flat tFact.own r_13.facts), .box [(.m [4] 0 r_13.relations.length tRelation.k), (.m [5] 0 r_13.facts.length tFact.k)], .row (flat tInt.own r_15.values), .box [(intA r_15.relation), (.m [7] 0 r_15.values.length tInt.k)], .row (flat tRelation.own r_17.1.relations), .row (flat tFact.own r_17.1.facts), .box [(.m [9] 0 r_17.1.relations.length tRelation.k), (.m [10] 0 r_17.1.facts.length tFact.k)]]) ?_ ?_
     ·replace H := J_19
      refine T_region ?_
      obtain ⟨r_21, h_22, H⟩ := bind_inv H
      refine pv tb 2 rfl ?_
      refine TO_cons rfl (TOp_callB (call_static ent29 rfl) (frz_cons (frzOK_g (frz_cons (frzT (T := tRelation) rfl) (frz_cons (frzT (T := tFact) rfl) frz_nil)).1 (frz_cons (frzT (T := tRelation) rfl) (frz_cons (frzT (T := tFact) rfl) frz_nil)).2) (frz_cons (frz_loose rfl) frz_nil)).1 (frz_cons (frzOK_g (frz_cons (frzT (T := tRelation) rfl) (frz_cons (frzT (T := tFact) rfl) frz_nil)).1 (frz_cons (frzT (T := tRelation) rfl) (frz_cons (frzT (T := tFact) rfl) frz_nil)).2) (frz_cons (frz_loose rfl) frz_nil)).2 (m_laws_eqDatabase_ok _ _ _ h_22) rfl ?_)
      refine pv tb 2 rfl ?_
      refine TO_split (t := (!r_21)) 49 rfl (fun g_23 => ?_) (fun g_23 => ?_)
      ·replace H := cond_t g_23 H
       refine pv tb 4 rfl ?_
       refine TO_nil ?_
       exact joined true (w0 12) (some_inj H).symm
      ·replace H := cond_f g_23 H
       refine pv tb 2 rfl ?_
       refine TO_on rfl rfl (by decide) rfl rfl (TOp_pure (pur_neqB (by kernel_rfl) rfl rfl rfl) rfl ?_)
       refine pv tb 1 rfl ?_
       refine TO_nil ?_
       exact joined (r_17.2 != r_11.2) (w0 12) (some_inj H).symm
     ·rintro _ rfl
      replace H := H_20
      refine T_cond (t := t53_19) rfl (fun c_24 => ?_) (fun c_24 => ?_)
      ·replace H := cond_t c_24 H
       refine sr ?_
       refine pv tb 1 rfl ?_
       refine TO_nil ?_
       refine T_ret ?_
       refine then_ret ?_
       obtain rfl := some_inj H
       refine end_ret (.tmp .nil) rfl rfl ⟨?_, rfl⟩
       rfl
      ·replace H := cond_f c_24 H
       refine T_skip ?_
       refine T_seq ?_
       obtain ⟨r_25, h_26, H⟩ := bind_inv H
       obtain ⟨r_27, h_28, H⟩ := bind_inv H
       refine T_cutX (fun (_ : Unit) => True) (fun _ => [(2, (.b 0 0)), (3, (.b 1 0)), (6, (.b 3 0)), (7, (boolA r_11.2)), (8, (.b 6 0)), (9, (.b 8 0)), (10, (.b 11 0)), (11, (boolA r_17.2)), (58, (boolA (!r_27)))]) (fun _ => [.box [(sl tRelation aDb0.relations), (sl tFact aDb0.facts)], .box [(intA aFact1.relation), (sl tInt aFact1.values)], .dead, .box [(sl tRelation r_11.1.relations), (sl tFact r_11.1.facts)], .row (flat tRelation.own r_13.relations), .row (flat tFact.own r_13.facts), .box [(.m [4] 0 r_13.relations.length tRelation.k), (.m [5] 0 r_13.facts.length tFact.k)], .row (flat tInt.own r_15.values), .box [(intA r_15.relation), (.m [7] 0 r_15.values.length tInt.k)], .row (flat tRelation.own r_17.1.relations), .row (flat tFact.own r_17.1.facts), .box [(.m [9] 0 r_17.1.relations.length tRelation.k), (.m [10] 0 r_17.1.facts.length tFact.k)]]) ?_ ?_
       ·skip
        refine T_regionP 12 mixed rfl ?_
        refine pa tb [0, 1] 3 rfl (by kernel_rfl) rfl ?_
        refine t1 2 (by kernel_rfl) rfl rfl (TOp_callV (call_static ent27 rfl) (m_laws_toDatabase_ok _ _ h_26) rfl rfl rfl ?_)
        refine t1 3 (by kernel_rfl) rfl rfl (TOp_callB (call_static ent29 rfl) (frz_cons (frzOK_g (frz_cons (frzT (T := tRelation) rfl) (frz_cons (frzT (T := tFact) rfl) frz_nil)).1 (frz_cons (frzT (T := tRelation) rfl) (frz_cons (frzT (T := tFact) rfl) frz_nil)).2) (frz_cons (frz_loose rfl) frz_nil)).1 (frz_cons (frzOK_g (frz_cons (frzT (T := tRelation) rfl) (frz_cons (frzT (T := tFact) rfl) frz_nil)).1 (frz_cons (frzT (T := tRelation) rfl) (frz_cons (frzT (T := tFact) rfl) frz_nil)).2) (frz_cons (frz_loose rfl) frz_nil)).2 (m_laws_eqDatabase_ok _ _ _ h_28) rfl ?_)
        refine pa tb [4] 0 rfl (by kernel_rfl) rfl ?_
        exact TA_nil (by kernel_rfl) (joined () (w0 12) trivial)
       ·rintro _ _
        refine T_cond (t := (!r_27)) rfl (fun c_29 => ?_) (fun c_29 => ?_)
        ·replace H := cond_t c_29 H
         refine sr ?_
         refine pv tb 1 rfl ?_
         refine TO_nil ?_
         refine T_ret ?_
         refine then_ret ?_
         obtain rfl := some_inj H
         refine end_ret (.tmp .nil) rfl rfl ⟨?_, rfl⟩
         rfl
        ·replace H := cond_f c_29 H
         refine T_skip ?_
         refine T_seq ?_
         obtain ⟨r_30, h_31, H⟩ := bind_inv H
         obtain ⟨r_32, h_33, H⟩ := bind_inv H
         refine T_cutX (fun (_ : Unit) => True) (fun _ => [(2, (.b 0 0)), (3, (.b 1 0)), (6, (.b 3 0)), (7, (boolA r_11.2)), (8, (.b 6 0)), (9, (.b 8 0)), (10, (.b 11 0)), (11, (boolA r_17.2)), (63, (boolA (!r_32)))]) (fun _ => [.box [(sl tRelation aDb0.relations), (sl tFact aDb0.facts)], .box [(intA aFact1.relation), (sl tInt aFact1.values)], .dead, .box [(sl tRelation r_11.1.relations), (sl tFact r_11.1.facts)], .row (flat tRelation.own r_13.relations), .row (flat tFact.own r_13.facts), .box [(.m [4] 0 r_13.relations.length tRelation.k), (.m [5] 0 r_13.facts.length tFact.k)], .row (flat tInt.own r_15.values), .box [(intA r_15.relation), (.m [7] 0 r_15.values.length tInt.k)], .row (flat tRelation.own r_17.1.relations), .row (flat tFact.own r_17.1.facts), .box [(.m [9] 0 r_17.1.relations.length tRelation.k), (.m [10] 0 r_17.1.facts.length tFact.k)]]) ?_ ?_
         ·skip
          refine T_regionP 12 mixed rfl ?_
          refine pa tb [0, 1] 3 rfl (by kernel_rfl) rfl ?_
          refine t1 2 (by kernel_rfl) rfl rfl (TOp_callV (call_static ent55 rfl) (m_laws_toFact_ok _ _ h_31) rfl rfl rfl ?_)
          refine t1 3 (by kernel_rfl) rfl rfl (TOp_callB (call_static ent56 rfl) (frz_cons (frzOK_g (frz_cons (frz_loose rfl) (frz_cons (frzT (T := tInt) rfl) frz_nil)).1 (frz_cons (frz_loose rfl) (frz_cons (frzT (T := tInt) rfl) frz_nil)).2) (frz_cons (frz_loose rfl) frz_nil)).1 (frz_cons (frzOK_g (frz_cons (frz_loose rfl) (frz_cons (frzT (T := tInt) rfl) frz_nil)).1 (frz_cons (frz_loose rfl) (frz_cons (frzT (T := tInt) rfl) frz_nil)).2) (frz_cons (frz_loose rfl) frz_nil)).2 (m_laws_eqFact_ok _ _ _ h_33) rfl ?_)
          refine pa tb [4] 0 rfl (by kernel_rfl) rfl ?_
          exact TA_nil (by kernel_rfl) (joined () (w0 12) trivial)
         ·rintro _ _
          refine T_cond (t := (!r_32)) rfl (fun c_34 => ?_) (fun c_34 => ?_)
          ·replace H := cond_t c_34 H
           refine sr ?_
           refine pv tb 1 rfl ?_
           refine TO_nil ?_
           refine T_ret ?_
           refine then_ret ?_
           obtain rfl := some_inj H
           refine end_ret (.tmp .nil) rfl rfl ⟨?_, rfl⟩
           rfl
          ·replace H := cond_f c_34 H
           refine T_skip ?_
           refine sr ?_
           refine pv tb 1 rfl ?_
           refine TO_nil ?_
           refine sr ?_
           obtain ⟨r_35, h_36, H⟩ := bind_inv H
           refine pv tb 2 rfl ?_
           refine TO_cons rfl (TOp_callG (aa := [(.g [(.m [4] 0 r_13.relations.length tRelation.k), (.m [5] 0 r_13.facts.length tFact.k)]), (intA 1)]) [[4], [5]] (call_static ent30 rfl) rfl (.cons rfl rfl (by decide) (.cons rfl rfl (by decide) .nil)) rfl rfl (m_laws_markDatabase_mut u _ _ _ h_36) rfl (fun hl_37 => ?_))
           obtain ⟨hq_38, hl_37⟩ := sameLens_T (T := tRelation) hl_37
           refine TO_env (E' := [(2, (.b 0 0)), (3, (.b 1 0)), (6, (.b 3 0)), (7, (boolA r_11.2)), (8, (.b 6 0)), (9, (.b 8 0)), (10, (.b 11 0)), (11, (boolA r_17.2)), (12, (intA 1)), (64, (.g [(.m [4] 0 r_35.2.relations.length tRelation.k), (.m [5] 0 r_13.facts.length tFact.k)])), (65, (intA 1)), (66, (intA r_35.1))]) ⟨rfl, rfl, rfl, rfl, rfl, rfl, rfl, rfl, rfl, (by simp only [hq_38]; rfl), rfl, rfl, trivial⟩ ?_
           obtain ⟨hq_39, hl_37⟩ := sameLens_T (T := tFact) hl_37
           refine TO_env (E' := [(2, (.b 0 0)), (3, (.b 1 0)), (6, (.b 3 0)), (7, (boolA r_11.2)), (8, (.b 6 0)), (9, (.b 8 0)), (10, (.b 11 0)), (11, (boolA r_17.2)), (12, (intA 1)), (64, (.g [(.m [4] 0 r_35.2.relations.length tRelation.k), (.m [5] 0 r_35.2.facts.length tFact.k)])), (65, (intA 1)), (66, (intA r_35.1))]) ⟨rfl, rfl, rfl, rfl, rfl, rfl, rfl, rfl, rfl, (by simp only [hq_39]; rfl), rfl, rfl, trivial⟩ ?_
           refine TO_st (σ' := [.box [(sl tRelation aDb0.relations), (sl tFact aDb0.facts)], .box [(intA aFact1.relation), (sl tInt aFact1.values)], .dead, .box [(sl tRelation r_11.1.relations), (sl tFact r_11.1.facts)], .row (flat tRelation.own r_35.2.relations), .row (flat tFact.own r_35.2.facts), .box [(.m [4] 0 r_13.relations.length tRelation.k), (.m [5] 0 r_13.facts.length tFact.k)], .row (flat tInt.own r_15.values), .box [(intA r_15.relation), (.m [7] 0 r_15.values.length tInt.k)], .row (flat tRelation.own r_17.1.relations), .row (flat tFact.own r_17.1.facts), .box [(.m [9] 0 r_17.1.relations.length tRelation.k), (.m [10] 0 r_17.1.facts.length tFact.k)]]) rfl ?_
           refine TO_st (σ' := [.box [(sl tRelation aDb0.relations), (sl tFact aDb0.facts)], .box [(intA aFact1.relation), (sl tInt aFact1.values)], .dead, .box [(sl tRelation r_11.1.relations), (sl tFact r_11.1.facts)], .row (flat tRelation.own r_35.2.relations), .row (flat tFact.own r_35.2.facts), .box [(.m [4] 0 r_35.2.relations.length tRelation.k), (.m [5] 0 r_13.facts.length tFact.k)], .row (flat tInt.own r_15.values), .box [(intA r_15.relation), (.m [7] 0 r_15.values.length tInt.k)], .row (flat tRelation.own r_17.1.relations), .row (flat tFact.own r_17.1.facts), .box [(.m [9] 0 r_17.1.relations.length tRelation.k), (.m [10] 0 r_17.1.facts.length tFact.k)]]) (by simp only [hq_38]) ?_
           refine TO_st (σ' := [.box [(sl tRelation aDb0.relations), (sl tFact aDb0.facts)], .box [(intA aFact1.relation), (sl tInt aFact1.values)], .dead, .box [(sl tRelation r_11.1.relations), (sl tFact r_11.1.facts)], .row (flat tRelation.own r_35.2.relations), .row (flat tFact.own r_35.2.facts), .box [(.m [4] 0 r_35.2.relations.length tRelation.k), (.m [5] 0 r_35.2.facts.length tFact.k)], .row (flat tInt.own r_15.values), .box [(intA r_15.relation), (.m [7] 0 r_15.values.length tInt.k)], .row (flat tRelation.own r_17.1.relations), .row (flat tFact.own r_17.1.facts), .box [(.m [9] 0 r_17.1.relations.length tRelation.k), (.m [10] 0 r_17.1.facts.length tFact.k)]]) (by simp only [hq_39]) ?_
           refine pv tb 1 rfl ?_
           refine TO_nil ?_
           refine sr ?_
           obtain ⟨r_40, h_41, H⟩ := bind_inv H
           refine pv tb 2 rfl ?_
           refine TO_cons rfl (TOp_callG (aa := [(.g [(intA r_15.relation), (.m [7] 0 r_15.values.length tInt.k)]), (intA r_35.1)]) [[7]] (call_static ent57 rfl) rfl (.cons rfl rfl (by decide) .nil) rfl rfl (m_laws_markFact_mut _ _ _ h_41) rfl (fun hl_42 => ?_))
           obtain ⟨hq_43, hl_42⟩ := sameLens_T (T := tInt) hl_42
           refine TO_env (E' := [(2, (.b 0 0)), (3, (.b 1 0)), (6, (.b 3 0)), (7, (boolA r_11.2)), (9, (.b 8 0)), (10, (.b 11 0)), (11, (boolA r_17.2)), (12, (intA r_35.1)), (67, (.g [(intA r_15.relation), (.m [7] 0 r_40.2.values.length tInt.k)])), (68, (intA r_35.1)), (69, (intA r_40.1))]) ⟨rfl, rfl, rfl, rfl, rfl, rfl, rfl, rfl, (by simp only [hq_43]; rfl), rfl, rfl, trivial⟩ ?_
           refine TO_st (σ' := [.box [(sl tRelation aDb0.relations), (sl tFact aDb0.facts)], .box [(intA aFact1.relation), (sl tInt aFact1.values)], .dead, .box [(sl tRelation r_11.1.relations), (sl tFact r_11.1.facts)], .row (flat tRelation.own r_35.2.relations), .row (flat tFact.own r_35.2.facts), .box [(.m [4] 0 r_35.2.relations.length tRelation.k), (.m [5] 0 r_35.2.facts.length tFact.k)], .row (flat tInt.own r_40.2.values), .box [(intA r_15.relation), (.m [7] 0 r_15.values.length tInt.k)], .row (flat tRelation.own r_17.1.relations), .row (flat tFact.own r_17.1.facts), .box [(.m [9] 0 r_17.1.relations.length tRelation.k), (.m [10] 0 r_17.1.facts.length tFact.k)]]) rfl ?_
           refine TO_st (σ' := [.box [(sl tRelation aDb0.relations), (sl tFact aDb0.facts)], .box [(intA aFact1.relation), (sl tInt aFact1.values)], .dead, .box [(sl tRelation r_11.1.relations), (sl tFact r_11.1.facts)], .row (flat tRelation.own r_35.2.relations), .row (flat tFact.own r_35.2.facts), .box [(.m [4] 0 r_35.2.relations.length tRelation.k), (.m [5] 0 r_35.2.facts.length tFact.k)], .row (flat tInt.own r_40.2.values), .box [(intA r_15.relation), (.m [7] 0 r_40.2.values.length tInt.k)], .row (flat tRelation.own r_17.1.relations), .row (flat tFact.own r_17.1.facts), .box [(.m [9] 0 r_17.1.relations.length tRelation.k), (.m [10] 0 r_17.1.facts.length tFact.k)]]) (by simp only [hq_43]) ?_
           refine pv tb 1 rfl ?_
           refine TO_nil ?_
           refine T_seq ?_
           obtain ⟨t82_44, J_44, H_45⟩ := bind_inv H
           refine T_cutX (fun x => t82_44 = x) (fun (t82_44 : Bool) => [(2, (.b 0 0)), (3, (.b 1 0)), (6, (.b 3 0)), (7, (boolA r_11.2)), (10, (.b 11 0)), (82, (boolA t82_44))]) (fun (t82_44 : Bool) => [.box [(sl tRelation aDb0.relations), (sl tFact aDb0.facts)], .box [(intA aFact1.relation), (sl tInt aFact1.values)], .dead, .box [(sl tRelation r_11.1.relations), (sl tFact r_11.1.facts)], .row (flat tRelation.own r_35.2.relations), .row (flat tFact.own r_35.2.facts), .box [(.m [4] 0 r_35.2.relations.length tRelation.k), (.m [5] 0 r_35.2.facts.length tFact.k)], .row (flat tInt.own r_40.2.values), .box [(intA r_15.relation), (.m [7] 0 r_40.2.values.length tInt.k)], .row (flat tRelation.own r_17.1.relations), .row (flat tFact.own r_17.1.facts), .box [(.m [9] 0 r_17.1.relations.length tRelation.k), (.m [10] 0 r_17.1.facts.length tFact.k)]]) ?_ ?_
           ·replace H := J_44
            refine T_region ?_
            refine pv tb 3 rfl ?_
            refine TO_split (t := decide (r_40.1 < 0)) 72 rfl (fun g_46 => ?_) (fun g_46 => ?_)
            ·replace H := cond_t g_46 H
             refine pv tb 10 rfl ?_
             refine TO_nil ?_
             exact joined true (w0 12) (some_inj H).symm
            ·replace H := cond_f g_46 H
             obtain ⟨r_47, h_48, H⟩ := bind_inv H
             refine pv tb 2 rfl ?_
             refine TO_on rfl rfl (by decide) rfl rfl (TOp_callB (call_static ent29 rfl) (frz_cons (frzOK_g (frz_cons (frzT (T := tRelation) rfl) (frz_cons (frzT (T := tFact) rfl) frz_nil)).1 (frz_cons (frzT (T := tRelation) rfl) (frz_cons (frzT (T := tFact) rfl) frz_nil)).2) (frz_cons (frz_loose rfl) frz_nil)).1 (frz_cons (frzOK_g (frz_cons (frzT (T := tRelation) rfl) (frz_cons (frzT (T := tFact) rfl) frz_nil)).1 (frz_cons (frzT (T := tRelation) rfl) (frz_cons (frzT (T := tFact) rfl) frz_nil)).2) (frz_cons (frz_loose rfl) frz_nil)).2 (m_laws_eqDatabase_ok _ _ _ h_48) rfl ?_)
             refine pv tb 3 rfl ?_
             refine TO_split (t := (!r_47)) 78 rfl (fun g_49 => ?_) (fun g_49 => ?_)
             ·replace H := cond_t g_49 H
              refine pv tb 4 rfl ?_
              refine TO_nil ?_
              exact joined true (w0 12) (some_inj H).symm
             ·replace H := cond_f g_49 H
              refine pv tb 2 rfl ?_
              refine TO_on rfl rfl (by decide) rfl rfl (TOp_pure (pur_neqB (by kernel_rfl) rfl rfl rfl) rfl ?_)
              refine pv tb 1 rfl ?_
              refine TO_nil ?_
              exact joined (r_17.2 != r_11.2) (w0 12) (some_inj H).symm
           ·rintro _ rfl
            replace H := H_45
            refine T_cond (t := t82_44) rfl (fun c_50 => ?_) (fun c_50 => ?_)
            ·replace H := cond_t c_50 H
             refine sr ?_
             refine pv tb 1 rfl ?_
             refine TO_nil ?_
             refine T_ret ?_
             refine then_ret ?_
             obtain rfl := some_inj H
             refine end_ret (.tmp .nil) rfl rfl ⟨?_, rfl⟩
             rfl
            ·replace H := cond_f c_50 H
             refine T_skip ?_
             refine sr ?_
             refine pv tb 1 rfl ?_
             refine TO_nil ?_
             refine sr ?_
             obtain ⟨r_51, h_52, H⟩ := bind_inv H
             refine pv tb 2 rfl ?_
             refine TO_cons rfl (TOp_callG (aa := [(.g [(.m [9] 0 r_17.1.relations.length tRelation.k), (.m [10] 0 r_17.1.facts.length tFact.k)]), (intA 1)]) [[9], [10]] (call_static ent30 rfl) rfl (.cons rfl rfl (by decide) (.cons rfl rfl (by decide) .nil)) rfl rfl (m_laws_markDatabase_mut u _ _ _ h_52) rfl (fun hl_53 => ?_))
             obtain ⟨hq_54, hl_53⟩ := sameLens_T (T := tRelation) hl_53
             refine TO_env (E' := [(2, (.b 0 0)), (3, (.b 1 0)), (6, (.b 3 0)), (7, (boolA r_11.2)), (10, (.b 11 0)), (13, (intA 1)), (83, (.g [(.m [9] 0 r_51.2.relations.length tRelation.k), (.m [10] 0 r_17.1.facts.length tFact.k)])), (84, (intA 1)), (85, (intA r_51.1))]) ⟨rfl, rfl, rfl, rfl, rfl, rfl, (by simp only [hq_54]; rfl), rfl, rfl, trivial⟩ ?_
             obtain ⟨hq_55, hl_53⟩ := sameLens_T (T := tFact) hl_53
             refine TO_env (E' := [(2, (.b 0 0)), (3, (.b 1 0)), (6, (.b 3 0)), (7, (boolA r_11.2)), (10, (.b 11 0)), (13, (intA 1)), (83, (.g [(.m [9] 0 r_51.2.relations.length tRelation.k), (.m [10] 0 r_51.2.facts.length tFact.k)])), (84, (intA 1)), (85, (intA r_51.1))]) ⟨rfl, rfl, rfl, rfl, rfl, rfl, (by simp only [hq_55]; rfl), rfl, rfl, trivial⟩ ?_
             refine TO_st (σ' := [.box [(sl tRelation aDb0.relations), (sl tFact aDb0.facts)], .box [(intA aFact1.relation), (sl tInt aFact1.values)], .dead, .box [(sl tRelation r_11.1.relations), (sl tFact r_11.1.facts)], .row (flat tRelation.own r_35.2.relations), .row (flat tFact.own r_35.2.facts), .box [(.m [4] 0 r_35.2.relations.length tRelation.k), (.m [5] 0 r_35.2.facts.length tFact.k)], .row (flat tInt.own r_40.2.values), .box [(intA r_15.relation), (.m [7] 0 r_40.2.values.length tInt.k)], .row (flat tRelation.own r_51.2.relations), .row (flat tFact.own r_51.2.facts), .box [(.m [9] 0 r_17.1.relations.length tRelation.k), (.m [10] 0 r_17.1.facts.length tFact.k)]]) rfl ?_
             refine TO_st (σ' := [.box [(sl tRelation aDb0.relations), (sl tFact aDb0.facts)], .box [(intA aFact1.relation), (sl tInt aFact1.values)], .dead, .box [(sl tRelation r_11.1.relations), (sl tFact r_11.1.facts)], .row (flat tRelation.own r_35.2.relations), .row (flat tFact.own r_35.2.facts), .box [(.m [4] 0 r_35.2.relations.length tRelation.k), (.m [5] 0 r_35.2.facts.length tFact.k)], .row (flat tInt.own r_40.2.values), .box [(intA r_15.relation), (.m [7] 0 r_40.2.values.length tInt.k)], .row (flat tRelation.own r_51.2.relations), .row (flat tFact.own r_51.2.facts), .box [(.m [9] 0 r_51.2.relations.length tRelation.k), (.m [10] 0 r_17.1.facts.length tFact.k)]]) (by simp only [hq_54]) ?_
             refine TO_st (σ' := [.box [(sl tRelation aDb0.relations), (sl tFact aDb0.facts)], .box [(intA aFact1.relation), (sl tInt aFact1.values)], .dead, .box [(sl tRelation r_11.1.relations), (sl tFact r_11.1.facts)], .row (flat tRelation.own r_35.2.relations), .row (flat tFact.own r_35.2.facts), .box [(.m [4] 0 r_35.2.relations.length tRelation.k), (.m [5] 0 r_35.2.facts.length tFact.k)], .row (flat tInt.own r_40.2.values), .box [(intA r_15.relation), (.m [7] 0 r_40.2.values.length tInt.k)], .row (flat tRelation.own r_51.2.relations), .row (flat tFact.own r_51.2.facts), .box [(.m [9] 0 r_51.2.relations.length tRelation.k), (.m [10] 0 r_51.2.facts.length tFact.k)]]) (by simp only [hq_55]) ?_
             refine pv tb 1 rfl ?_
             refine TO_nil ?_
             refine sr ?_
             refine pv tb 1 rfl ?_
             refine TO_nil ?_
             refine sr ?_
             obtain ⟨r_56, h_57, H⟩ := bind_inv H
             refine pv tb 2 rfl ?_
             refine TO_cons rfl (TOp_callB (call_static ent58 rfl) (frz_cons (frzOK_g (frz_cons (frzT (T := tRelation) rfl) (frz_cons (frzT (T := tFact) rfl) frz_nil)).1 (frz_cons (frzT (T := tRelation) rfl) (frz_cons (frzT (T := tFact) rfl) frz_nil)).2) (frz_cons (frz_loose rfl) frz_nil)).1 (frz_cons (frzOK_g (frz_cons (frzT (T := tRelation) rfl) (frz_cons (frzT (T := tFact) rfl) frz_nil)).1 (frz_cons (frzT (T := tRelation) rfl) (frz_cons (frzT (T := tFact) rfl) frz_nil)).2) (frz_cons (frz_loose rfl) frz_nil)).2 (m_laws_heldDatabase_ok u _ _ _ h_57) rfl ?_)
             refine pv tb 1 rfl ?_
             refine TO_nil ?_
             refine T_seq ?_
             refine sr ?_
             refine pv tb 2 rfl ?_
             refine TO_nil ?_
             refine T_cond (t := decide (r_56 < 0)) rfl (fun c_58 => ?_) (fun c_58 => ?_)
             ·replace H := cond_t c_58 H
              refine sr ?_
              refine pv tb 1 rfl ?_
              refine TO_nil ?_
              refine te [(4, (boolA false))] rfl ?_
              refine T_ret ?_
              refine then_ret ?_
              obtain rfl := some_inj H
              refine end_ret (.tmp .nil) rfl rfl ⟨?_, rfl⟩
              rfl
             ·replace H := cond_f c_58 H
              refine T_skip ?_
              refine T_seq ?_
              refine sr ?_
              refine pv tb 3 rfl ?_
              refine TO_nil ?_
              refine T_cond (t := decide (r_56 ≠ r_51.1)) rfl (fun c_59 => ?_) (fun c_59 => ?_)
              ·replace H := cond_t c_59 H
               refine sr ?_
               refine pv tb 1 rfl ?_
               refine TO_nil ?_
               refine te [(4, (boolA false))] rfl ?_
               refine T_ret ?_
               refine then_ret ?_
               obtain rfl := some_inj H
               refine end_ret (.tmp .nil) rfl rfl ⟨?_, rfl⟩
               rfl
              ·replace H := cond_f c_59 H
               refine T_skip ?_
               obtain ⟨r_60, h_61, H⟩ := bind_inv H
               obtain ⟨r_62, h_63, H⟩ := bind_inv H
               obtain ⟨r_64, h_65, H⟩ := bind_inv H
               refine T_pad ?_
               refine T_cutX (fun (_ : Unit) => True) (fun _ => [(6, (.b 3 0)), (7, (boolA r_11.2)), (10, (.b 11 0)), (13, (intA r_51.1)), (15, (.b 13 0)), (16, (boolA r_64.2))]) (fun _ => [.box [(sl tRelation aDb0.relations), (sl tFact aDb0.facts)], .box [(intA aFact1.relation), (sl tInt aFact1.values)], .dead, .box [(sl tRelation r_11.1.relations), (sl tFact r_11.1.facts)], .row (flat tRelation.own r_35.2.relations), .row (flat tFact.own r_35.2.facts), .box [(.m [4] 0 r_35.2.relations.length tRelation.k), (.m [5] 0 r_35.2.facts.length tFact.k)], .row (flat tInt.own r_40.2.values), .box [(intA r_15.relation), (.m [7] 0 r_40.2.values.length tInt.k)], .row (flat tRelation.own r_51.2.relations), .row (flat tFact.own r_51.2.facts), .box [(.m [9] 0 r_51.2.relations.length tRelation.k), (.m [10] 0 r_51.2.facts.length tFact.k)], .dead, .box [(sl tRelation r_64.1.relations), (sl tFact r_64.1.facts)]]) ?_ ?_
               ·skip
                refine T_regionP 12 mixed rfl ?_
                refine TA_have 2 #[true, true, true, true, true, true, true, true, true, false, false] [(6, (.b 3 0)), (7, (boolA r_11.2)), (10, (.b 11 0)), (13, (intA r_51.1)), (15, (.b 13 0)), (100, (.g (tDatabase.enc r_64.1))), (101, (boolA r_64.2))] [.dead, .dead, .dead, .dead, .row (flat tRelation.own r_35.2.relations), .row (flat tFact.own r_35.2.facts), .dead, .row (flat tInt.own r_40.2.values), .dead, .row (flat tRelation.own r_51.2.relations), .row (flat tFact.own r_51.2.facts), .dead, .dead, .box [.n, .n]] ?_ (fun hj0_31 => ?_)
                ·skip
                 refine t1 9 (by kernel_rfl) rfl rfl (TOp_storeB sz48 rfl rfl rfl rfl rfl rfl rfl (by decide) (lb rfl) rfl ?_)
                 refine TA_st (σ' := [.dead, .dead, .dead, .dead, .row (flat tRelation.own r_35.2.relations), .row (flat tFact.own r_35.2.facts), .dead, .row (flat tInt.own r_40.2.values), .dead, .row (flat tRelation.own r_51.2.relations), .row (flat tFact.own r_51.2.facts), .dead, .dead, .box [(sl tRelation r_64.1.relations), (sl tFact r_64.1.facts)]]) rfl ?_
                 refine pa tb [10] 0 rfl (by kernel_rfl) rfl ?_
                 exact TA_nil (by kernel_rfl) (joined () (w0 14) trivial)
                refine TA_have 6 #[true, true, true, true, false, false, false, false, true, false, false] [(6, (.b 3 0)), (7, (boolA r_11.2)), (10, (.b 11 0)), (13, (intA r_51.1)), (15, (.b 13 0)), (96, (.g (tDatabase.enc r_60))), (98, (.g (tFact.enc r_62)))] [.dead, .dead, .dead, .dead, .row (flat tRelation.own r_35.2.relations), .row (flat tFact.own r_35.2.facts), .dead, .row (flat tInt.own r_40.2.values), .dead, .row (flat tRelation.own r_51.2.relations), .row (flat tFact.own r_51.2.facts), .dead, .dead, .box [.n, .n]] ?_ (fun hj1_31 => ?_)
                ·skip
                 refine t1 4 (by kernel_rfl) rfl rfl (TOp_callV (call_static ent60 rfl) (m_impl_ResolveConflict_ok _ _ _ h_65) rfl rfl rfl ?_)
                 refine pa tb [5, 6, 7] 2 rfl (by kernel_rfl) rfl ?_
                 exact tj hj0_31 rfl (w0 14)
                refine TA_have 7 #[true, true, true, false, false, false, false, false, true, false, false] [(6, (.b 3 0)), (7, (boolA r_11.2)), (10, (.b 11 0)), (13, (intA r_51.1)), (15, (.b 13 0)), (96, (.g (tDatabase.enc r_60))), (97, (.g (tFact.enc aFact1)))] [.dead, .dead, .dead, .dead, .row (flat tRelation.own r_35.2.relations), .row (flat tFact.own r_35.2.facts), .dead, .row (flat tInt.own r_40.2.values), .dead, .row (flat tRelation.own r_51.2.relations), .row (flat tFact.own r_51.2.facts), .dead, .dead, .box [.n, .n]] ?_ (fun hj2_31 => ?_)
                ·skip
                 refine t1 3 (by kernel_rfl) rfl rfl (TOp_callV (call_static ent55 rfl) (m_laws_toFact_ok _ _ h_63) rfl rfl rfl ?_)
                 exact tj hj1_31 rfl (w0 14)
                refine pa tb [0, 2] 9 rfl (by kernel_rfl) rfl ?_
                refine TA_all [1, 8] (by kernel_rfl) (by decide) ⟨?_, ?_, trivial⟩
                ·skip
                 refine ⟨_, rfl, rfl, (TOp_callV (call_static ent27 rfl) (m_laws_toDatabase_ok _ _ h_61) rfl rfl rfl ?_)⟩
                 refine TA_all [3, 8] (by kernel_rfl) (by decide) ⟨?_, ?_, trivial⟩
                 ·skip
                  refine ⟨_, rfl, rfl, (TOp_callV (call_static ent55 rfl) (m_laws_toFact_ok _ _ h_63) rfl rfl rfl ?_)⟩
                  refine TA_all [4, 8] (by kernel_rfl) (by decide) ⟨?_, ?_, trivial⟩
                  ·skip
                   refine ⟨_, rfl, rfl, (TOp_callV (call_static ent60 rfl) (m_impl_ResolveConflict_ok _ _ _ h_65) rfl rfl rfl ?_)⟩
                   refine pa tb [5] 5 rfl (by kernel_rfl) rfl ?_
                   refine tae [(6, (.b 3 0)), (7, (boolA r_11.2)), (10, (.b 11 0)), (13, (intA r_51.1)), (94, (.t [(.g (tDatabase.enc r_64.1)), (boolA r_64.2)]))] rfl ?_
                   refine pa tb [6, 7] 3 rfl (by kernel_rfl) rfl ?_
                   refine t1 8 (by kernel_rfl) rfl rfl (TOp_alloc zero48 rfl rfl ?_)
                   exact tj hj0_31 rfl (w0 14)
                  ·skip
                   refine ⟨_, rfl, rfl, (TOp_alloc zero48 rfl rfl ?_)⟩
                   exact tj hj1_31 rfl (w0 14)
                 ·skip
                  refine ⟨_, rfl, rfl, (TOp_alloc zero48 rfl rfl ?_)⟩
                  exact tj hj2_31 rfl (w0 14)
                ·skip
                 refine ⟨_, rfl, rfl, (TOp_alloc zero48 rfl rfl ?_)⟩
                 refine t1 1 (by kernel_rfl) rfl rfl (TOp_callV (call_static ent27 rfl) (m_laws_toDatabase_ok _ _ h_61) rfl rfl rfl ?_)
                 exact tj hj2_31 rfl (w0 14)
               ·rintro _ _
                refine T_seq ?_
                obtain ⟨t110_66, J_66, H_67⟩ := bind_inv H
                refine T_cutX (fun x => t110_66 = x) (fun (t110_66 : Bool) => [(10, (.b 11 0)), (13, (intA r_51.1)), (110, (boolA t110_66))]) (fun (t110_66 : Bool) => [.box [(sl tRelation aDb0.relations), (sl tFact aDb0.facts)], .box [(intA aFact1.relation), (sl tInt aFact1.values)], .dead, .box [(sl tRelation r_11.1.relations), (sl tFact r_11.1.facts)], .row (flat tRelation.own r_35.2.relations), .row (flat tFact.own r_35.2.facts), .box [(.m [4] 0 r_35.2.relations.length tRelation.k), (.m [5] 0 r_35.2.facts.length tFact.k)], .row (flat tInt.own r_40.2.values), .box [(intA r_15.relation), (.m [7] 0 r_40.2.values.length tInt.k)], .row (flat tRelation.own r_51.2.relations), .row (flat tFact.own r_51.2.facts), .box [(.m [9] 0 r_51.2.relations.length tRelation.k), (.m [10] 0 r_51.2.facts.length tFact.k)]]) ?_ ?_
                ·replace H := J_66
                 refine T_region ?_
                 obtain ⟨r_68, h_69, H⟩ := bind_inv H
                 refine pv tb 2 rfl ?_
                 refine TO_cons rfl (TOp_callV (call_static ent29 rfl) (m_laws_eqDatabase_ok _ _ _ h_69) rfl rfl rfl ?_)
                 refine pv tb 2 rfl ?_
                 refine TO_split (t := (!r_68)) 106 rfl (fun g_70 => ?_) (fun g_70 => ?_)
                 ·replace H := cond_t g_70 H
                  refine pv tb 4 rfl ?_
                  refine TO_nil ?_
                  exact joined true (w0 12) (some_inj H).symm
                 ·replace H := cond_f g_70 H
                  refine pv tb 2 rfl ?_
                  refine TO_on rfl rfl (by decide) rfl rfl (TOp_pure (pur_neqB (by kernel_rfl) rfl rfl rfl) rfl ?_)
                  refine pv tb 1 rfl ?_
                  refine TO_nil ?_
                  exact joined (r_64.2 != r_11.2) (w0 12) (some_inj H).symm
                ·rintro _ rfl
                 replace H := H_67
                 refine T_cond (t := t110_66) rfl (fun c_71 => ?_) (fun c_71 => ?_)
                 ·replace H := cond_t c_71 H
                  refine sr ?_
                  refine pv tb 1 rfl ?_
                  refine TO_nil ?_
                  refine T_ret ?_
                  refine then_ret ?_
                  obtain rfl := some_inj H
                  refine end_ret (.tmp .nil) rfl rfl ⟨?_, rfl⟩
                  rfl
                 ·replace H := cond_f c_71 H
                  refine T_skip ?_
                  refine sr ?_
                  refine pv tb 1 rfl ?_
                  refine TO_nil ?_
                  refine sr ?_
                  obtain ⟨r_72, h_73, H⟩ := bind_inv H
                  refine pv tb 2 rfl ?_
                  refine TO_cons rfl (TOp_callB (call_static ent58 rfl) (frz_cons (frzOK_g (frz_cons (frzT (T := tRelation) rfl) (frz_cons (frzT (T := tFact) rfl) frz_nil)).1 (frz_cons (frzT (T := tRelation) rfl) (frz_cons (frzT (T := tFact) rfl) frz_nil)).2) (frz_cons (frz_loose rfl) frz_nil)).1 (frz_cons (frzOK_g (frz_cons (frzT (T := tRelation) rfl) (frz_cons (frzT (T := tFact) rfl) frz_nil)).1 (frz_cons (frzT (T := tRelation) rfl) (frz_cons (frzT (T := tFact) rfl) frz_nil)).2) (frz_cons (frz_loose rfl) frz_nil)).2 (m_laws_heldDatabase_ok u _ _ _ h_73) rfl ?_)
                  refine pv tb 1 rfl ?_
                  refine TO_nil ?_
                  refine T_seq ?_
                  refine sr ?_
                  refine pv tb 2 rfl ?_
                  refine TO_nil ?_
                  refine T_cond (t := decide (r_72 < 0)) rfl (fun c_74 => ?_) (fun c_74 => ?_)
                  ·replace H := cond_t c_74 H
                   refine sr ?_
                   refine pv tb 1 rfl ?_
                   refine TO_nil ?_
                   refine T_ret ?_
                   refine then_ret ?_
                   obtain rfl := some_inj H
                   refine end_ret (.tmp .nil) rfl rfl ⟨?_, rfl⟩
                   rfl
                  ·replace H := cond_f c_74 H
                   refine T_skip ?_
                   refine T_seq ?_
                   refine sr ?_
                   refine pv tb 3 rfl ?_
                   refine TO_nil ?_
                   refine T_cond (t := decide (r_72 ≠ r_51.1)) rfl (fun c_75 => ?_) (fun c_75 => ?_)
                   ·replace H := cond_t c_75 H
                    refine sr ?_
                    refine pv tb 1 rfl ?_
                    refine TO_nil ?_
                    refine T_ret ?_
                    refine then_ret ?_
                    obtain rfl := some_inj H
                    refine end_ret (.tmp .nil) rfl rfl ⟨?_, rfl⟩
                    rfl
                   ·replace H := cond_f c_75 H
                    refine T_skip ?_
                    refine sr ?_
                    refine pv tb 1 rfl ?_
                    refine TO_nil ?_
                    refine T_ret ?_
                    obtain rfl := some_inj H
                    refine end_ret (.tmp .nil) rfl rfl ⟨?_, rfl⟩
                    rfl
end Go.Proofs.Ytjdpolnakhmkmaa

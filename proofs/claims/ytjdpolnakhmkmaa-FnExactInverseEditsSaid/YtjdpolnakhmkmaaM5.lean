import Derived.Test.YtjdpolnakhmkmaaM1
import Derived.Test.YtjdpolnakhmkmaaM4
set_option linter.unusedVariables false
set_option linter.unusedSimpArgs false
set_option maxRecDepth 4000
namespace Go.Proofs.Ytjdpolnakhmkmaa
open Go Go.Proofs Go.Sep
set_option maxHeartbeats 1000000 in
theorem m_impl_copyDatabase_enc (db0 : Database) (r : Database) (H : m_impl_copyDatabase db0 = some r) : FnO prg 107 [(.g (tDatabase.enc db0))] (.g [(.m [0] 0 r.relations.length tRelation.k), (.m [1] 0 r.facts.length tFact.k)]) [.row (flat tRelation.enc r.relations), .row (flat tFact.enc r.facts)] := by
  unfold m_impl_copyDatabase at H
  refine fnO_of_T Try.func107 rfl rfl (Nat.le_of_ble_eq_true rfl) ?_
  refine te [(0, (.g (tDatabase.enc db0)))] rfl ?_
  refine sr ?_
  refine TO_cons rfl (TOp_box rfl (boxAll rfl) rfl rfl ?_)
  refine TO_cons rfl (TOp_alloc zero48 rfl rfl ?_)
  refine TO_nil ?_
  refine sr ?_
  refine TO_cons rfl (TOp_lit (nn := 0) (k := 3) sl45 zero130 rfl rfl rfl rfl (by decide) ?_)
  refine TO_st (σ' := [.box [(sl tRelation db0.relations), (sl tFact db0.facts)], .box [.n, .n], .row (flat tRelation.enc ([] : (List Relation)))]) rfl ?_
  obtain ⟨us_1, h_2, H⟩ := bind_inv H
  refine pv tb 2 rfl ?_
  refine TO_cons rfl (TOp_appZ (T := tRelation) (f := tRelation.enc) (xs := ([] : (List Relation))) (ys := db0.relations) tRelation.len sl45 zero130 rfl bytes130 (by decide) rfl rfl rfl rfl (src_T (T := tRelation) rfl) (flat_cell tRelation _) h_2 (lb rfl) ?_)
  refine toe [(1, (.b 0 0)), (2, (.b 1 0)), (7, (.b 0 0)), (8, (sl tRelation db0.relations)), (9, (.m [2] 0 us_1.length tRelation.k))] rfl ?_
  refine TO_st (σ' := [.box [(sl tRelation db0.relations), (sl tFact db0.facts)], .box [.n, .n], .row (flat tRelation.enc us_1), .dead]) rfl ?_
  refine TO_cons rfl (TOp_lit (nn := 0) (k := 2) sl46 zero65 rfl rfl rfl rfl (by decide) ?_)
  refine TO_st (σ' := [.box [(sl tRelation db0.relations), (sl tFact db0.facts)], .box [.n, .n], .row (flat tRelation.enc us_1), .dead, .row (flat tFact.enc ([] : (List Fact)))]) rfl ?_
  refine Tp rfl rfl (pur_build bld48 rfl rfl) rfl ?_
  refine TO_cons rfl (TOp_alloc zero48 rfl rfl ?_)
  refine TO_cons rfl (TOp_storeB sz48 rfl rfl rfl rfl rfl rfl rfl (by decide) (lb rfl) rfl ?_)
  refine TO_st (σ' := [.box [(sl tRelation db0.relations), (sl tFact db0.facts)], .box [.n, .n], .row (flat tRelation.enc us_1), .dead, .row (flat tFact.enc ([] : (List Fact))), .box [(.m [2] 0 us_1.length tRelation.k), (.m [4] 0 ([] : (List Fact)).length tFact.k)]]) rfl ?_
  refine TO_nil ?_
  refine T_seq ?_
  refine sr ?_
  refine pv tb 2 rfl ?_
  refine Tp rfl rfl (pur_lenT (T := tFact) sl46 rfl rfl) rfl ?_
  refine pv tb 1 rfl ?_
  refine TO_nil ?_
  obtain ⟨O4_, L4_, N4_⟩ := bind_inv H
  clear H
  obtain ⟨B4_, hb4, L4_⟩ := gen_forS L4_
  refine T_block ?_
  refine T_loopX (fun k => fun (⟨t_3, box5_facts⟩ : Nat × (List Fact)) => k = db0.facts.length - t_3 ∧ forS B4_ (db0.facts.drop t_3) (t_3 : Int) box5_facts = some O4_) (fun (⟨t_3, box5_facts⟩ : Nat × (List Fact)) => [(2, (.b 1 0)), (3, (.b 5 0)), (13, (sl tFact db0.facts)), (14, (intA (db0.facts.length : Int))), (15, (intA (t_3 : Int)))]) (fun (⟨t_3, box5_facts⟩ : Nat × (List Fact)) => [.box [(sl tRelation db0.relations), (sl tFact db0.facts)], .box [.n, .n], .row (flat tRelation.enc us_1), .dead, .row (flat tFact.enc box5_facts), .box [(.m [2] 0 us_1.length tRelation.k), (.m [4] 0 box5_facts.length tFact.k)]]) _ (0, ([] : (List Fact))) (w0 6) ⟨rfl, L4_⟩ ?_
  rintro _ ⟨t_3, box5_facts⟩ ⟨rfl, L4_⟩
  refine T_fact (len_sl (T := tFact) (.tmp 13) rfl) (fun hl4 => ?_)
  refine sr ?_
  refine pv tb 1 rfl ?_
  refine TO_nil ?_
  refine T_seq ?_
  refine T_cond (t := decide ((t_3 : Int) < (db0.facts.length : Int))) rfl (fun d4 => ?_) (fun d4 => ?_)
  ·replace d4 := of_decide_eq_true d4
   obtain ⟨x_t_3, hx_t_3⟩ : ∃ v, (db0.facts)[t_3]? = some v := ⟨_, List.getElem?_eq_getElem (by omega)⟩
   obtain ⟨C4_, H, K4_⟩ := forS_step L4_ hx_t_3
   rw [hb4] at H
   refine T_skip ?_
   refine T_seq ?_
   refine T_block ?_
   refine sr ?_
   refine Tp rfl rfl (pur_ixT (T := tFact) sl46 rfl rfl rfl hx_t_3 rfl) rfl ?_
   refine Tp rfl rfl (pur_ldTK (T := tFact) (i := t_3) (off := 0) rfl agg65 rfl rfl hx_t_3 (by decide) rfl) rfl ?_
   refine TO_cons rfl (TOp_alloc zero65 rfl rfl ?_)
   refine TO_cons rfl (TOp_storeB sz65 rfl rfl rfl rfl rfl rfl rfl (by decide) (lb rfl) rfl ?_)
   refine TO_st (σ' := [.box [(sl tRelation db0.relations), (sl tFact db0.facts)], .box [.n, .n], .row (flat tRelation.enc us_1), .dead, .row (flat tFact.enc box5_facts), .box [(.m [2] 0 us_1.length tRelation.k), (.m [4] 0 box5_facts.length tFact.k)], .box [(intA x_t_3.relation), (sl tInt x_t_3.values)]]) rfl ?_
   refine TO_nil ?_
   obtain ⟨us_5, h_6, H⟩ := bind_inv H
   obtain ⟨us_7, h_8, H⟩ := bind_inv H
   refine T_pad ?_
   refine T_pad ?_
   refine T_pad ?_
   refine T_pad ?_
   refine T_regionPh 7 12 mixed rfl (by kernel_rfl) ?_
   refine pa tb [0, 1, 2, 3, 5, 6] 6 rfl (by kernel_rfl) rfl ?_
   refine t1 4 (by kernel_rfl) rfl rfl (TOp_lit (nn := 0) (k := 1) sl23 zero3 rfl rfl rfl rfl (by decide) ?_)
   refine tmw 7 11 (by decide) (lb rfl) rfl rfl (lb rfl) rfl ?_
   refine t1 7 (by kernel_rfl) rfl rfl (TOp_appY (T := tInt) (f := tInt.enc) (xs := ([] : (List Int))) (ys := x_t_3.values) tInt.len sl23 zero3 rfl bytes3 (by decide) rfl rfl rfl rfl (src_T (T := tInt) rfl) (flat_cell tInt _) h_6 ?_)
   refine tmw 7 12 (by decide) (lb rfl) rfl rfl (lb rfl) rfl ?_
   refine tae [(2, (.b 1 0)), (3, (.b 5 0)), (13, (sl tFact db0.facts)), (14, (intA (db0.facts.length : Int))), (15, (intA (t_3 : Int))), (20, (.m [4] 0 box5_facts.length tFact.k)), (22, (intA x_t_3.relation)), (26, (.m [7] 0 us_5.length tInt.k))] rfl ?_
   refine TA_st (σ' := [.dead, .dead, .row (flat tRelation.enc us_1), .dead, .row (flat tFact.enc box5_facts), .dead, .dead, .row (flat tInt.enc us_5), .dead, .dead, .dead, .dead, .dead]) rfl ?_
   refine tf 8 rfl (pur_build bld65 rfl rfl) rfl rfl (by kernel_rfl) ?_
   refine TA_ghost (E' := [(2, (.b 1 0)), (3, (.b 5 0)), (13, (sl tFact db0.facts)), (14, (intA (db0.facts.length : Int))), (15, (intA (t_3 : Int))), (20, (.m [4] 0 box5_facts.length tFact.k)), (22, (intA x_t_3.relation)), (26, (.m [7] 0 us_5.length tInt.k)), (27, (.g [(intA x_t_3.relation), (.m [7] 0 us_5.length tInt.k)]))]) (σ' := [.dead, .dead, .row (flat tRelation.enc us_1), .dead, .row (flat tFact.enc box5_facts), .dead, .dead, .row (flat tInt.enc us_5), .dead, .dead, .dead, .dead, .dead]) (Ghost.weak (WeakL.to 13 (lb rfl) rfl rfl rfl rfl ⟨leR rfl, leR rfl, leR rfl, leR rfl, leR rfl, leR rfl, leR rfl, leR rfl, leR rfl, trivial⟩)) ?_
   refine TA_frz1 7 (E' := [(2, (.b 1 0)), (3, (.b 5 0)), (13, (sl tFact db0.facts)), (14, (intA (db0.facts.length : Int))), (15, (intA (t_3 : Int))), (20, (.m [4] 0 box5_facts.length tFact.k)), (22, (intA x_t_3.relation)), (26, (sl tInt us_5)), (27, (.g [(intA x_t_3.relation), (sl tInt us_5)]))]) rfl rfl (lb rfl) ?_ ?_
   ·exact ⟨(.keep rfl), (.keep rfl), (.keep rfl), (.keep rfl), (.keep rfl), (.keep rfl), (.keep rfl), fz1E, (fz1G (fzC (.keep rfl) (fzC fz1E fzN))), trivial⟩
   refine TA_st (σ' := [.dead, .dead, .row (flat tRelation.enc us_1), .dead, .row (flat tFact.enc box5_facts), .dead, .dead, .dead, .dead, .dead, .dead, .dead, .dead]) rfl ?_
   refine t1 9 (by kernel_rfl) rfl rfl (TOp_lit (nn := 1) (k := 2) sl46 zero65 rfl rfl rfl rfl (by decide) ?_)
   refine tmw 9 13 (by decide) (lb rfl) rfl rfl (lb rfl) rfl ?_
   refine t1 10 (by kernel_rfl) rfl rfl (TOp_appY (T := tFact) (f := tFact.enc) (xs := box5_facts) (ys := ([({ relation := x_t_3.relation, values := us_5 } : Fact)] : (List Fact))) tFact.len sl46 zero65 rfl bytes65 (by decide) rfl rfl rfl rfl (src_mT (f := tFact.enc) tFact.len rfl rfl (flat_cell tFact _)) (flat_cell tFact _) h_8 ?_)
   refine tmw 10 14 (by decide) (lb rfl) rfl rfl (lb rfl) rfl ?_
   refine tae [(2, (.b 1 0)), (3, (.b 5 0)), (13, (sl tFact db0.facts)), (14, (intA (db0.facts.length : Int))), (15, (intA (t_3 : Int))), (29, (.m [10] 0 us_7.length tFact.k))] rfl ?_
   refine TA_st (σ' := [.dead, .dead, .row (flat tRelation.enc us_1), .dead, .dead, .dead, .dead, .dead, .dead, .row (flat tFact.enc ([({ relation := x_t_3.relation, values := us_5 } : Fact)] : (List Fact))), .row (flat tFact.enc us_7), .dead, .dead, .dead, .dead]) rfl ?_
   refine pa tb [11] 0 rfl (by kernel_rfl) rfl ?_
   refine TA_nil (by kernel_rfl) ?_
   refine TA_st (σ' := [.box [(sl tRelation db0.relations), (sl tFact db0.facts)], .box [.n, .n], .row (flat tRelation.enc us_1), .dead, .dead, .box [(.m [2] 0 us_1.length tRelation.k), (.m [4] 0 box5_facts.length tFact.k)], .box [(intA x_t_3.relation), (sl tInt x_t_3.values)], .dead, .dead, .row (flat tFact.enc ([({ relation := x_t_3.relation, values := us_5 } : Fact)] : (List Fact))), .row (flat tFact.enc us_7), .dead, .dead, .dead, .dead]) rfl ?_
   refine tmv 4 10 (by decide) (lb rfl) rfl rfl (lb rfl) ?_
   refine TA_st (σ' := [.box [(sl tRelation db0.relations), (sl tFact db0.facts)], .box [.n, .n], .row (flat tRelation.enc us_1), .dead, .row (flat tFact.enc us_7), .box [(.m [2] 0 us_1.length tRelation.k), .j], .box [(intA x_t_3.relation), (sl tInt x_t_3.values)], .dead, .dead, .row (flat tFact.enc ([({ relation := x_t_3.relation, values := us_5 } : Fact)] : (List Fact))), .dead, .dead, .dead, .dead, .dead]) rfl ?_
   refine t1 12 (by kernel_rfl) rfl rfl (TOp_storeB sz46 rfl rfl rfl rfl rfl rfl rfl (by decide) (lb rfl) rfl ?_)
   refine TA_st (σ' := [.box [(sl tRelation db0.relations), (sl tFact db0.facts)], .box [.n, .n], .row (flat tRelation.enc us_1), .dead, .row (flat tFact.enc us_7), .box [(.m [2] 0 us_1.length tRelation.k), (.m [4] 0 us_7.length tFact.k)], .box [(intA x_t_3.relation), (sl tInt x_t_3.values)], .dead, .dead, .row (flat tFact.enc ([({ relation := x_t_3.relation, values := us_5 } : Fact)] : (List Fact))), .dead, .dead, .dead, .dead, .dead]) rfl ?_
   refine TA_nil (by kernel_rfl) ?_
   refine T_region ?_
   refine Tp rfl rfl (pur_add rfl rfl rfl (fits64 (by omega) (by omega))) rfl ?_
   refine pv tb 1 rfl ?_
   refine TO_nil ?_
   obtain rfl := some_inj H
   exact again (db0.facts.length - (t_3 + 1)) (t_3 + 1, us_7) (by omega) (w0 6) ⟨rfl, K4_⟩
  ·replace d4 := of_decide_eq_false d4
   obtain rfl := forS_end L4_ (by omega)
   refine T_exit ?_
   refine then_exit ?_
   refine then_exit ?_
   refine block_exit ?_
   replace H := N4_
   refine sr ?_
   refine pv tb 1 rfl ?_
   refine TO_cons rfl (TOp_storeB sz48 rfl rfl rfl rfl rfl rfl rfl (by decide) (lb rfl) rfl ?_)
   refine TO_st (σ' := [.box [(sl tRelation db0.relations), (sl tFact db0.facts)], .box [(.m [2] 0 us_1.length tRelation.k), (.m [4] 0 box5_facts.length tFact.k)], .row (flat tRelation.enc us_1), .dead, .row (flat tFact.enc box5_facts), .box [(.m [2] 0 us_1.length tRelation.k), (.m [4] 0 box5_facts.length tFact.k)]]) rfl ?_
   refine TO_nil ?_
   refine T_ret ?_
   obtain rfl := some_inj H
   exact end_pick (.cellK rfl agg48 rfl (lb rfl) .nil) rfl [2, 4] (by decide) rfl rfl rfl rfl rfl rfl

set_option maxHeartbeats 1000000 in
theorem m_impl_without_own (a0 : (List Int)) (b1 : (List Int)) (r : (List Int)) (H : m_impl_without a0 b1 = some r) : FnO prg 130 [(sl tInt a0), (sl tInt b1)] (.m [0] 0 r.length tInt.k) [.row (flat tInt.own r)] := by
  unfold m_impl_without at H
  refine fnO_of_T Try.func130 rfl rfl (Nat.le_of_ble_eq_true rfl) ?_
  refine te [(0, (sl tInt a0)), (1, (sl tInt b1))] rfl ?_
  refine sr ?_
  refine pv tb 1 rfl ?_
  refine TO_nil ?_
  refine sr ?_
  refine TO_cons rfl (TOp_lit (nn := 0) (k := 1) sl23 zero3 rfl rfl rfl rfl (by decide) ?_)
  refine TO_st (σ' := [.row (flat tInt.enc ([] : (List Int)))]) rfl ?_
  refine pv tb 1 rfl ?_
  refine TO_nil ?_
  refine T_seq ?_
  refine sr ?_
  refine pv tb 1 rfl ?_
  refine Tp rfl rfl (pur_lenT (T := tInt) sl23 rfl rfl) rfl ?_
  refine pv tb 1 rfl ?_
  refine TO_nil ?_
  obtain ⟨O2_, L2_, N2_⟩ := bind_inv H
  clear H
  obtain ⟨B2_, hb2, L2_⟩ := gen_forS L2_
  refine T_block ?_
  refine T_loopX (fun k => fun (⟨t_1, out5⟩ : Nat × (List Int)) => k = a0.length - t_1 ∧ forS B2_ (a0.drop t_1) (t_1 : Int) out5 = some O2_) (fun (⟨t_1, out5⟩ : Nat × (List Int)) => [(1, (sl tInt b1)), (5, (.m [0] 0 out5.length tInt.k)), (9, (sl tInt a0)), (10, (intA (a0.length : Int))), (11, (intA (t_1 : Int)))]) (fun (⟨t_1, out5⟩ : Nat × (List Int)) => [.row (flat tInt.enc out5)]) _ (0, ([] : (List Int))) (w0 1) ⟨rfl, L2_⟩ ?_
  rintro _ ⟨t_1, out5⟩ ⟨rfl, L2_⟩
  refine T_fact (len_sl (T := tInt) (.tmp 9) rfl) (fun hl2 => ?_)
  refine sr ?_
  refine pv tb 1 rfl ?_
  refine TO_nil ?_
  refine T_seq ?_
  refine T_cond (t := decide ((t_1 : Int) < (a0.length : Int))) rfl (fun d2 => ?_) (fun d2 => ?_)
  ·replace d2 := of_decide_eq_true d2
   obtain ⟨x_t_1, hx_t_1⟩ : ∃ v, (a0)[t_1]? = some v := ⟨_, List.getElem?_eq_getElem (by omega)⟩
   obtain ⟨C2_, H, K2_⟩ := forS_step L2_ hx_t_1
   rw [hb2] at H
   refine T_skip ?_
   refine T_seq ?_
   refine T_block ?_
   refine sr ?_
   refine Tp rfl rfl (pur_ixT (T := tInt) sl23 rfl rfl rfl hx_t_1 rfl) rfl ?_
   refine Tp rfl rfl (pur_ldT (T := tInt) (i := t_1) (off := 0) rfl one3 rfl rfl hx_t_1 rfl) rfl ?_
   refine pv tb 1 rfl ?_
   refine TO_nil ?_
   refine sr ?_
   obtain ⟨r_3, h_4, H⟩ := bind_inv H
   refine pv tb 2 rfl ?_
   refine TO_cons rfl (TOp_callV (call_static ent157 rfl) (m_slices_Contains_Sint_int_ok _ _ _ h_4) rfl rfl rfl ?_)
   refine pv tb 1 rfl ?_
   refine TO_nil ?_
   refine T_cond (t := (!r_3)) rfl (fun c_5 => ?_) (fun c_5 => ?_)
   ·replace H := cond_t c_5 H
    refine T_region ?_
    refine pv tb 2 rfl ?_
    refine TO_cons rfl (TOp_lit (nn := 1) (k := 1) sl23 zero3 rfl rfl rfl rfl (by decide) ?_)
    refine TO_st (σ' := [.row (flat tInt.enc out5), .row (flat tInt.enc ([x_t_1] : (List Int)))]) rfl ?_
    obtain ⟨us_6, h_7, H⟩ := bind_inv H
    refine TO_cons rfl (TOp_appZ (T := tInt) (f := tInt.enc) (xs := out5) (ys := ([x_t_1] : (List Int))) tInt.len sl23 zero3 rfl bytes3 (by decide) rfl rfl rfl rfl (src_mT (f := tInt.enc) tInt.len rfl rfl (flat_cell tInt _)) (flat_cell tInt _) h_7 (lb rfl) ?_)
    refine toe [(1, (sl tInt b1)), (7, (intA x_t_1)), (9, (sl tInt a0)), (10, (intA (a0.length : Int))), (11, (intA (t_1 : Int))), (18, (boolA (!r_3))), (20, (intA x_t_1)), (21, (.m [1] 0 ([x_t_1] : (List Int)).length tInt.k)), (22, (.m [0] 0 us_6.length tInt.k))] rfl ?_
    refine TO_st (σ' := [.row (flat tInt.enc us_6), .row (flat tInt.enc ([x_t_1] : (List Int))), .dead]) rfl ?_
    refine pv tb 1 rfl ?_
    refine TO_nil ?_
    refine T_region ?_
    refine Tp rfl rfl (pur_add rfl rfl rfl (fits64 (by omega) (by omega))) rfl ?_
    refine pv tb 1 rfl ?_
    refine TO_nil ?_
    obtain rfl := some_inj H
    exact again (a0.length - (t_1 + 1)) (t_1 + 1, us_6) (by omega) (w0 1) ⟨rfl, K2_⟩
   ·replace H := cond_f c_5 H
    refine T_skip ?_
    refine T_region ?_
    refine Tp rfl rfl (pur_add rfl rfl rfl (fits64 (by omega) (by omega))) rfl ?_
    refine pv tb 1 rfl ?_
    refine TO_nil ?_
    obtain rfl := some_inj H
    exact again (a0.length - (t_1 + 1)) (t_1 + 1, out5) (by omega) (w0 1) ⟨rfl, K2_⟩
  ·replace d2 := of_decide_eq_false d2
   obtain rfl := forS_end L2_ (by omega)
   refine T_exit ?_
   refine then_exit ?_
   refine then_exit ?_
   refine block_exit ?_
   replace H := N2_
   refine sr ?_
   refine pv tb 2 rfl ?_
   refine TO_nil ?_
   refine T_ret ?_
   obtain rfl := some_inj H
   exact end_pick (.tmp .nil) rfl [0] (by decide) rfl rfl rfl rfl rfl rfl
theorem m_impl_without_ok (a0 : (List Int)) (b1 : (List Int)) (r : (List Int)) (H : m_impl_without a0 b1 = some r) : FnV prg 130 [(sl tInt a0), (sl tInt b1)] (sl tInt r) := (m_impl_without_own a0 b1 r H).frz (frzT (T := tInt) rfl)

set_option maxHeartbeats 1000000 in
theorem m_impl_areIndices_ok (indices0 : (List Int)) (n1 : Int) (r : Bool) (H : m_impl_areIndices indices0 n1 = some r) : FnV prg 184 [(sl tInt indices0), (intA n1)] (boolA r) := by
  unfold m_impl_areIndices at H
  refine fnV_of_T Try.func184 rfl rfl (Nat.le_of_ble_eq_true rfl) ?_
  refine te [(0, (sl tInt indices0)), (1, (intA n1))] rfl ?_
  refine sr ?_
  refine pv tb 1 rfl ?_
  refine TO_nil ?_
  refine T_seq ?_
  refine sr ?_
  refine pv tb 1 rfl ?_
  refine Tp rfl rfl (pur_lenT (T := tInt) sl23 rfl rfl) rfl ?_
  refine pv tb 1 rfl ?_
  refine TO_nil ?_
  obtain ⟨O2_, L2_, N2_⟩ := bind_inv H
  clear H
  obtain ⟨B2_, hb2, L2_⟩ := gen_forL L2_
  refine T_block ?_
  refine T_loopX (fun k => fun (t_1 : Nat) => k = indices0.length - t_1 ∧ forL B2_ (indices0.drop t_1) (t_1 : Int) () = some O2_) (fun (t_1 : Nat) => [(0, (sl tInt indices0)), (1, (intA n1)), (7, (sl tInt indices0)), (8, (intA (indices0.length : Int))), (9, (intA (t_1 : Int)))]) (fun (t_1 : Nat) => []) _ (0 : Nat) (w0 0) ⟨rfl, L2_⟩ ?_
  rintro _ t_1 ⟨rfl, L2_⟩
  refine T_fact (len_sl (T := tInt) (.tmp 0) rfl) (fun hl2 => ?_)
  refine sr ?_
  refine pv tb 1 rfl ?_
  refine TO_nil ?_
  refine T_seq ?_
  refine T_cond (t := decide ((t_1 : Int) < (indices0.length : Int))) rfl (fun d2 => ?_) (fun d2 => ?_)
  ·replace d2 := of_decide_eq_true d2
   obtain ⟨x_t_1, hx_t_1⟩ : ∃ v, (indices0)[t_1]? = some v := ⟨_, List.getElem?_eq_getElem (by omega)⟩
   obtain ⟨C2_, H, K2_⟩ := forL_step L2_ hx_t_1
   rw [hb2] at H
   refine T_skip ?_
   refine T_seq ?_
   refine T_block ?_
   refine sr ?_
   refine pv tb 1 rfl ?_
   refine Tp rfl rfl (pur_ixT (T := tInt) sl23 rfl rfl rfl hx_t_1 rfl) rfl ?_
   refine Tp rfl rfl (pur_ldT (T := tInt) (i := t_1) (off := 0) rfl one3 rfl rfl hx_t_1 rfl) rfl ?_
   refine pv tb 2 rfl ?_
   refine TO_nil ?_
   obtain ⟨t31_3, J_3, H_4⟩ := bind_inv H
   refine T_cutX (fun x => t31_3 = x) (fun (t31_3 : Bool) => [(0, (sl tInt indices0)), (1, (intA n1)), (7, (sl tInt indices0)), (8, (intA (indices0.length : Int))), (9, (intA (t_1 : Int))), (31, (boolA t31_3))]) (fun (t31_3 : Bool) => []) ?_ ?_
   ·replace H := J_3
    refine T_region ?_
    obtain ⟨r_5, h_6, H⟩ := bind_inv H
    refine pv tb 3 rfl ?_
    refine TO_cons rfl (TOp_callV (call_static ent140 rfl) (m_impl_within_ok _ _ _ _ h_6) rfl rfl rfl ?_)
    refine pv tb 2 rfl ?_
    refine TO_split (t := (!r_5)) 19 rfl (fun g_7 => ?_) (fun g_7 => ?_)
    ·replace H := cond_t g_7 H
     refine pv tb 8 rfl ?_
     refine toe [(0, (sl tInt indices0)), (1, (intA n1)), (6, (intA x_t_1)), (7, (sl tInt indices0)), (8, (intA (indices0.length : Int))), (9, (intA (t_1 : Int))), (19, (boolA true)), (22, (.v undef)), (27, (.v undef))] rfl ?_
     refine pv tb 4 rfl ?_
     refine TO_nil ?_
     exact joined true (w0 0) (some_inj H).symm
    ·replace H := cond_f g_7 H
     refine pv tb 3 rfl ?_
     refine TO_split (t := decide (0 < (t_1 : Int))) 22 rfl (fun g_8 => ?_) (fun g_8 => ?_)
     ·replace H := cond_t g_8 H
      refine pv tb 2 rfl ?_
      refine TO_on rfl rfl (by decide) rfl rfl (TOp_pure (pur_sub rfl rfl rfl (fits64 (by omega) (by omega))) rfl ?_)
      obtain ⟨v_9, h_10, H⟩ := bind_inv H
      obtain ⟨n_11, hz_12, hv_13⟩ := getI_inv h_10
      refine TO_on rfl rfl (by decide) rfl rfl (TOp_pure (pur_ixT (T := tInt) sl23 rfl rfl hz_12 hv_13 rfl) rfl ?_)
      refine TO_on rfl rfl (by decide) rfl rfl (TOp_pure (pur_ldT (T := tInt) (i := n_11) (off := 0) rfl one3 rfl rfl hv_13 rfl) rfl ?_)
      refine pv tb 4 rfl ?_
      refine TO_nil ?_
      exact joined (decide (x_t_1 ≤ v_9)) (w0 0) (some_inj H).symm
     ·replace H := cond_f g_8 H
      refine pv tb 9 rfl ?_
      refine TO_nil ?_
      exact joined false (w0 0) (some_inj H).symm
   ·rintro _ rfl
    replace H := H_4
    refine T_cond (t := t31_3) rfl (fun c_14 => ?_) (fun c_14 => ?_)
    ·replace H := cond_t c_14 H
     refine sr ?_
     refine pv tb 1 rfl ?_
     refine TO_nil ?_
     refine T_ret ?_
     refine block_ret ?_
     refine then_ret ?_
     refine then_ret ?_
     refine block_ret ?_
     refine then_ret ?_
     obtain rfl := some_inj H
     obtain rfl := some_inj K2_
     replace H := onS_r N2_
     obtain rfl := some_inj H
     refine end_ret (.tmp .nil) rfl rfl ⟨?_, rfl⟩
     rfl
    ·replace H := cond_f c_14 H
     refine T_skip ?_
     refine T_region ?_
     refine Tp rfl rfl (pur_add rfl rfl rfl (fits64 (by omega) (by omega))) rfl ?_
     refine pv tb 1 rfl ?_
     refine TO_nil ?_
     obtain rfl := some_inj H
     exact again (indices0.length - (t_1 + 1)) (t_1 + 1) (by omega) (w0 0) ⟨rfl, K2_⟩
  ·replace d2 := of_decide_eq_false d2
   obtain rfl := forL_end L2_ (by omega)
   refine T_exit ?_
   refine then_exit ?_
   refine then_exit ?_
   refine block_exit ?_
   replace H := onS_l N2_
   refine sr ?_
   refine pv tb 1 rfl ?_
   refine TO_nil ?_
   refine T_ret ?_
   obtain rfl := some_inj H
   refine end_ret (.tmp .nil) rfl rfl ⟨?_, rfl⟩
   rfl

set_option maxHeartbeats 1000000 in
theorem m_impl_SelectFacts_ok (db0 : Database) (indices1 : (List Int)) (r : (Database × Bool)) (H : m_impl_SelectFacts db0 indices1 = some r) : FnV prg 172 [(.g (tDatabase.enc db0)), (sl tInt indices1)] (.t [(.g (tDatabase.enc r.1)), (boolA r.2)]) := by
  unfold m_impl_SelectFacts at H
  refine fnV_of_T Try.func172 rfl rfl (Nat.le_of_ble_eq_true rfl) ?_
  refine te [(0, (.g (tDatabase.enc db0))), (1, (sl tInt indices1))] rfl ?_
  refine sr ?_
  refine TO_cons rfl (TOp_box rfl (boxAll rfl) rfl rfl ?_)
  refine TO_cons rfl (TOp_alloc zero48 rfl rfl ?_)
  refine pv tb 1 rfl ?_
  refine TO_nil ?_
  refine T_seq ?_
  obtain ⟨t20_1, J_1, H_2⟩ := bind_inv H
  refine T_cutX (fun x => t20_1 = x) (fun (t20_1 : Bool) => [(1, (sl tInt indices1)), (2, (.b 0 0)), (4, (.b 1 0)), (20, (boolA t20_1))]) (fun (t20_1 : Bool) => [.box [(sl tRelation db0.relations), (sl tFact db0.facts)], .box [.n, .n]]) ?_ ?_
  ·replace H := J_1
   refine T_region ?_
   obtain ⟨r_3, h_4, H⟩ := bind_inv H
   refine pv tb 1 rfl ?_
   refine TO_cons rfl (TOp_callV (call_static ent117 rfl) (m_impl_IsValidDatabase_ok _ _ h_4) rfl rfl rfl ?_)
   refine pv tb 2 rfl ?_
   refine TO_split (t := (!r_3)) 13 rfl (fun g_5 => ?_) (fun g_5 => ?_)
   ·replace H := cond_t g_5 H
    refine pv tb 7 rfl ?_
    refine TO_nil ?_
    exact joined true (w0 2) (some_inj H).symm
   ·replace H := cond_f g_5 H
    refine pv tb 3 rfl ?_
    refine TO_on rfl rfl (by decide) rfl rfl (TOp_pure (pur_lenT (T := tFact) sl46 rfl rfl) rfl ?_)
    obtain ⟨r_6, h_7, H⟩ := bind_inv H
    refine TO_on rfl rfl (by decide) rfl rfl (TOp_callV (call_static ent184 rfl) (m_impl_areIndices_ok _ _ _ h_7) rfl rfl rfl ?_)
    refine pv tb 2 rfl ?_
    refine TO_nil ?_
    exact joined (!r_6) (w0 2) (some_inj H).symm
  ·rintro _ rfl
   replace H := H_2
   refine T_cond (t := t20_1) rfl (fun c_8 => ?_) (fun c_8 => ?_)
   ·replace H := cond_t c_8 H
    refine sr ?_
    refine Tp rfl rfl (pur_build bld48 rfl rfl) rfl ?_
    refine TO_cons rfl (TOp_storeB sz48 rfl rfl rfl rfl rfl rfl rfl (by decide) (lb rfl) rfl ?_)
    refine TO_st (σ' := [.box [(sl tRelation db0.relations), (sl tFact db0.facts)], .box [.n, .n]]) rfl ?_
    refine pv tb 1 rfl ?_
    refine TO_nil ?_
    refine T_boxle (xs := [.n, .n]) (ys := [(sl tRelation []), (sl tFact [])]) 1 rfl (leCons leN (leCons leN leNil)) ?_
    refine T_st (σ' := [.box [(sl tRelation db0.relations), (sl tFact db0.facts)], .box [(sl tRelation []), (sl tFact [])]]) rfl ?_
    refine T_ret ?_
    refine then_ret ?_
    obtain rfl := some_inj H
    refine end_ret (.cellK rfl agg48 rfl (lb rfl) (.tmp .nil)) rfl rfl ⟨?_, rfl⟩
    rfl
   ·replace H := cond_f c_8 H
    refine T_skip ?_
    refine sr ?_
    obtain ⟨r_9, h_10, H⟩ := bind_inv H
    refine pv tb 1 rfl ?_
    refine TO_cons rfl (TOp_callO (call_static ent107 rfl) rfl (m_impl_copyDatabase_enc _ _ h_10) rfl rfl rfl ?_)
    refine toe [(1, (sl tInt indices1)), (2, (.b 0 0)), (4, (.b 1 0)), (22, (.g (tDatabase.enc db0))), (23, (.g [(.m [2] 0 r_9.relations.length tRelation.k), (.m [3] 0 r_9.facts.length tFact.k)]))] rfl ?_
    refine TO_st (σ' := [.box [(sl tRelation db0.relations), (sl tFact db0.facts)], .box [.n, .n], .row (flat tRelation.enc r_9.relations), .row (flat tFact.enc r_9.facts)]) rfl ?_
    refine TO_cons rfl (TOp_alloc zero48 rfl rfl ?_)
    refine TO_cons rfl (TOp_storeB sz48 rfl rfl rfl rfl rfl rfl rfl (by decide) (lb rfl) rfl ?_)
    refine TO_st (σ' := [.box [(sl tRelation db0.relations), (sl tFact db0.facts)], .box [.n, .n], .row (flat tRelation.enc r_9.relations), .row (flat tFact.enc r_9.facts), .box [(.m [2] 0 r_9.relations.length tRelation.k), (.m [3] 0 r_9.facts.length tFact.k)]]) rfl ?_
    refine TO_nil ?_
    refine sr ?_
    refine pv tb 2 rfl ?_
    refine Tp rfl rfl (pur_build bld48 rfl rfl) rfl ?_
    refine TO_cons rfl (TOp_alloc zero48 rfl rfl ?_)
    refine TO_cons rfl (TOp_storeB sz48 rfl rfl rfl rfl rfl rfl rfl (by decide) (lb rfl) rfl ?_)
    refine TO_st (σ' := [.box [(sl tRelation db0.relations), (sl tFact db0.facts)], .box [.n, .n], .row (flat tRelation.enc r_9.relations), .row (flat tFact.enc r_9.facts), .box [(.m [2] 0 r_9.relations.length tRelation.k), (.m [3] 0 r_9.facts.length tFact.k)], .box [(.m [2] 0 r_9.relations.length tRelation.k), .n]]) rfl ?_
    refine TO_nil ?_
    refine T_seq ?_
    refine sr ?_
    refine pv tb 1 rfl ?_
    refine Tp rfl rfl (pur_lenT (T := tInt) sl23 rfl rfl) rfl ?_
    refine pv tb 1 rfl ?_
    refine TO_nil ?_
    refine T_row0 ?_
    refine T_boxle (xs := [(.m [2] 0 r_9.relations.length tRelation.k), .n]) (ys := [(.m [2] 0 r_9.relations.length tRelation.k), (.m [6] 0 ([] : (List Fact)).length tFact.k)]) 5 rfl (leCons (leR rfl) (leCons leM leNil)) ?_
    refine T_st (σ' := [.box [(sl tRelation db0.relations), (sl tFact db0.facts)], .box [.n, .n], .row (flat tRelation.enc r_9.relations), .row (flat tFact.enc r_9.facts), .box [(.m [2] 0 r_9.relations.length tRelation.k), (.m [3] 0 r_9.facts.length tFact.k)], .box [(.m [2] 0 r_9.relations.length tRelation.k), (.m [6] 0 ([] : (List Fact)).length tFact.k)], .row (flat tFact.enc ([] : (List Fact)))]) rfl ?_
    obtain ⟨O12_, L12_, N12_⟩ := bind_inv H
    clear H
    obtain ⟨B12_, hb12, L12_⟩ := gen_forS L12_
    refine T_block ?_
    refine T_loopX (fun k => fun (⟨t_11, box5_facts⟩ : Nat × (List Fact)) => k = indices1.length - t_11 ∧ forS B12_ (indices1.drop t_11) (t_11 : Int) box5_facts = some O12_) (fun (⟨t_11, box5_facts⟩ : Nat × (List Fact)) => [(4, (.b 1 0)), (6, (.b 4 0)), (7, (.b 5 0)), (27, (sl tInt indices1)), (28, (intA (indices1.length : Int))), (29, (intA (t_11 : Int)))]) (fun (⟨t_11, box5_facts⟩ : Nat × (List Fact)) => [.box [(sl tRelation db0.relations), (sl tFact db0.facts)], .box [.n, .n], .row (flat tRelation.enc r_9.relations), .row (flat tFact.enc r_9.facts), .box [(.m [2] 0 r_9.relations.length tRelation.k), (.m [3] 0 r_9.facts.length tFact.k)], .box [(.m [2] 0 r_9.relations.length tRelation.k), (.m [6] 0 box5_facts.length tFact.k)], .row (flat tFact.enc box5_facts)]) _ (0, ([] : (List Fact))) (w0 7) ⟨rfl, L12_⟩ ?_
    rintro _ ⟨t_11, box5_facts⟩ ⟨rfl, L12_⟩
    refine T_fact (len_sl (T := tInt) (.tmp 27) rfl) (fun hl12 => ?_)
    refine sr ?_
    refine pv tb 1 rfl ?_
    refine TO_nil ?_
    refine T_seq ?_
    refine T_cond (t := decide ((t_11 : Int) < (indices1.length : Int))) rfl (fun d12 => ?_) (fun d12 => ?_)
    ·replace d12 := of_decide_eq_true d12
     obtain ⟨x_t_11, hx_t_11⟩ : ∃ v, (indices1)[t_11]? = some v := ⟨_, List.getElem?_eq_getElem (by omega)⟩
     obtain ⟨C12_, H, K12_⟩ := forS_step L12_ hx_t_11
     rw [hb12] at H
     refine T_skip ?_
     refine T_seq ?_
     refine T_block ?_
     refine sr ?_
     refine Tp rfl rfl (pur_ixT (T := tInt) sl23 rfl rfl rfl hx_t_11 rfl) rfl ?_
     refine Tp rfl rfl (pur_ldT (T := tInt) (i := t_11) (off := 0) rfl one3 rfl rfl hx_t_11 rfl) rfl ?_
     refine pv tb 1 rfl ?_
     refine TO_nil ?_
     obtain ⟨v_13, h_14, H⟩ := bind_inv H
     obtain ⟨n_15, hz_16, hv_17⟩ := getI_inv h_14
     obtain ⟨us_18, h_19, H⟩ := bind_inv H
     refine T_pad ?_
     refine T_pad ?_
     refine T_regionPh 7 10 mixed rfl (by kernel_rfl) ?_
     refine pa tb [0, 1, 2, 3, 4] 5 rfl (by kernel_rfl) rfl ?_
     refine tf 5 rfl (pur_ixM (T := tFact) sl46 rfl rfl hz_16 hv_17 rfl) rfl rfl (by kernel_rfl) ?_
     refine t1 6 (by kernel_rfl) rfl rfl (TOp_pure (pur_ldEK (f := tFact.enc) (k := tFact.k) (i := n_15) (off := 0) tFact.len rfl agg65 rfl rfl rfl hv_17 (by decide) rfl) rfl ?_)
     refine t1 7 (by kernel_rfl) rfl rfl (TOp_lit (nn := 1) (k := 2) sl46 zero65 rfl rfl rfl rfl (by decide) ?_)
     refine tmw 7 9 (by decide) (lb rfl) rfl rfl (lb rfl) rfl ?_
     refine t1 8 (by kernel_rfl) rfl rfl (TOp_appY (T := tFact) (f := tFact.enc) (xs := box5_facts) (ys := ([v_13] : (List Fact))) tFact.len sl46 zero65 rfl bytes65 (by decide) rfl rfl rfl rfl (src_mT (f := tFact.enc) tFact.len rfl rfl (flat_cell tFact _)) (flat_cell tFact _) h_19 ?_)
     refine tmw 8 10 (by decide) (lb rfl) rfl rfl (lb rfl) rfl ?_
     refine tae [(4, (.b 1 0)), (6, (.b 4 0)), (7, (.b 5 0)), (27, (sl tInt indices1)), (28, (intA (indices1.length : Int))), (29, (intA (t_11 : Int))), (41, (.m [8] 0 us_18.length tFact.k))] rfl ?_
     refine TA_st (σ' := [.dead, .dead, .row (flat tRelation.enc r_9.relations), .row (flat tFact.enc r_9.facts), .dead, .dead, .dead, .row (flat tFact.enc ([v_13] : (List Fact))), .row (flat tFact.enc us_18), .dead, .dead]) rfl ?_
     refine pa tb [9] 0 rfl (by kernel_rfl) rfl ?_
     refine TA_nil (by kernel_rfl) ?_
     refine TA_st (σ' := [.box [(sl tRelation db0.relations), (sl tFact db0.facts)], .box [.n, .n], .row (flat tRelation.enc r_9.relations), .row (flat tFact.enc r_9.facts), .box [(.m [2] 0 r_9.relations.length tRelation.k), (.m [3] 0 r_9.facts.length tFact.k)], .box [(.m [2] 0 r_9.relations.length tRelation.k), (.m [6] 0 box5_facts.length tFact.k)], .dead, .row (flat tFact.enc ([v_13] : (List Fact))), .row (flat tFact.enc us_18), .dead, .dead]) rfl ?_
     refine tmv 6 8 (by decide) (lb rfl) rfl rfl (lb rfl) ?_
     refine TA_st (σ' := [.box [(sl tRelation db0.relations), (sl tFact db0.facts)], .box [.n, .n], .row (flat tRelation.enc r_9.relations), .row (flat tFact.enc r_9.facts), .box [(.m [2] 0 r_9.relations.length tRelation.k), (.m [3] 0 r_9.facts.length tFact.k)], .box [(.m [2] 0 r_9.relations.length tRelation.k), .j], .row (flat tFact.enc us_18), .row (flat tFact.enc ([v_13] : (List Fact))), .dead, .dead, .dead]) rfl ?_
     refine t1 10 (by kernel_rfl) rfl rfl (TOp_storeB sz46 rfl rfl rfl rfl rfl rfl rfl (by decide) (lb rfl) rfl ?_)
     refine TA_st (σ' := [.box [(sl tRelation db0.relations), (sl tFact db0.facts)], .box [.n, .n], .row (flat tRelation.enc r_9.relations), .row (flat tFact.enc r_9.facts), .box [(.m [2] 0 r_9.relations.length tRelation.k), (.m [3] 0 r_9.facts.length tFact.k)], .box [(.m [2] 0 r_9.relations.length tRelation.k), (.m [6] 0 us_18.length tFact.k)], .row (flat tFact.enc us_18), .row (flat tFact.enc ([v_13] : (List Fact))), .dead, .dead, .dead]) rfl ?_
     refine TA_nil (by kernel_rfl) ?_
     refine T_region ?_
     refine Tp rfl rfl (pur_add rfl rfl rfl (fits64 (by omega) (by omega))) rfl ?_
     refine pv tb 1 rfl ?_
     refine TO_nil ?_
     obtain rfl := some_inj H
     exact again (indices1.length - (t_11 + 1)) (t_11 + 1, us_18) (by omega) (w0 7) ⟨rfl, K12_⟩
    ·replace d12 := of_decide_eq_false d12
     obtain rfl := forS_end L12_ (by omega)
     refine T_exit ?_
     refine then_exit ?_
     refine then_exit ?_
     refine block_exit ?_
     replace H := N12_
     refine sr ?_
     refine pv tb 1 rfl ?_
     refine TO_cons rfl (TOp_storeB sz48 rfl rfl rfl rfl rfl rfl rfl (by decide) (lb rfl) rfl ?_)
     refine TO_st (σ' := [.box [(sl tRelation db0.relations), (sl tFact db0.facts)], .box [(.m [2] 0 r_9.relations.length tRelation.k), (.m [6] 0 box5_facts.length tFact.k)], .row (flat tRelation.enc r_9.relations), .row (flat tFact.enc r_9.facts), .box [(.m [2] 0 r_9.relations.length tRelation.k), (.m [3] 0 r_9.facts.length tFact.k)], .box [(.m [2] 0 r_9.relations.length tRelation.k), (.m [6] 0 box5_facts.length tFact.k)], .row (flat tFact.enc box5_facts)]) rfl ?_
     refine pv tb 1 rfl ?_
     refine TO_nil ?_
     refine T_frzB 2 (E' := [(4, (.b 1 0)), (5, (boolA true))]) (σ' := [.box [(sl tRelation db0.relations), (sl tFact db0.facts)], .box [(sl tRelation r_9.relations), (.m [6] 0 box5_facts.length tFact.k)], .dead, .row (flat tFact.enc r_9.facts), .box [(sl tRelation r_9.relations), (.m [3] 0 r_9.facts.length tFact.k)], .box [(sl tRelation r_9.relations), (.m [6] 0 box5_facts.length tFact.k)], .row (flat tFact.enc box5_facts)]) rfl (lb rfl) ?_ ?_ ?_
     ·exact ⟨(.keep rfl), (.keep rfl), trivial⟩
     ·exact ⟨(fzK rfl), (fzC fz1E (fzC (.keep rfl) fzN)), trivial, rfl, (fzC fz1E (fzC (.keep rfl) fzN)), (fzC fz1E (fzC (.keep rfl) fzN)), rfl, trivial⟩
     refine T_frzB 6 (E' := [(4, (.b 1 0)), (5, (boolA true))]) (σ' := [.box [(sl tRelation db0.relations), (sl tFact db0.facts)], .box [(sl tRelation r_9.relations), (sl tFact box5_facts)], .dead, .row (flat tFact.enc r_9.facts), .box [(sl tRelation r_9.relations), (.m [3] 0 r_9.facts.length tFact.k)], .box [(sl tRelation r_9.relations), (sl tFact box5_facts)], .dead]) rfl (lb rfl) ?_ ?_ ?_
     ·exact ⟨(.keep rfl), (.keep rfl), trivial⟩
     ·exact ⟨(fzK rfl), (fzC (.keep rfl) (fzC fz1E fzN)), trivial, rfl, (fzK rfl), (fzC (.keep rfl) (fzC fz1E fzN)), trivial, trivial⟩
     refine T_ret ?_
     obtain rfl := some_inj H
     refine end_ret (.cellK rfl agg48 rfl (lb rfl) (.tmp .nil)) rfl rfl ⟨?_, rfl⟩
     rfl
def fSel : (Option (Option Nat)) × Fact → List A
  | (none, x) => tFact.own x
  | (some none, x) => [intA x.relation, .j]
  | (some (some r), x) => [intA x.relation, .m [r] 0 x.values.length tInt.k]
theorem fSel_len : ∀ y, (fSel y).length = tFact.k
  | (none, x) => tFact.lenO x
  | (some none, x) => rfl
  | (some (some r), x) => rfl
theorem asc_of {l : List Int} {n : Int} (h : m_impl_areIndices l n = some true) : ∀ (j : Nat) a b, l[j]? = some a → l[j + 1]? = some b → a < b := by
  unfold m_impl_areIndices at h
  obtain ⟨o, h1, h2⟩ := bind_inv h
  cases o with
  | inr r =>
    exfalso
    simp only [onS, Option.some.injEq] at h2
    subst h2
    have key : ∀ (f : Int → Int → Unit → Option (Ctl Unit Bool)) (hf : ∀ i x, f i x () ≠ some (.ret true)) (xs : List Int) (i : Int), forL f xs i () ≠ some (.inr true) := fun f hf xs => by
      induction xs with
      | nil => intro i h; cases h
      | cons y ys ih =>
        intro i h
        simp only [forL] at h
        cases e : f i y () with
        | none => rw [e] at h; cases h
        | some c =>
          rw [e] at h
          cases c with
          | next s => exact ih _ h
          | brk s => cases h
          | ret r => simp only [Option.bind_some, Option.some.injEq, Sum.inr.injEq] at h; subst h; exact hf i y e
    refine key _ (fun i x hh => ?_) _ _ h1
    obtain ⟨t, _, h4⟩ := bind_inv hh
    cases t <;> cases h4
  | inl s =>
    have key := forL_allN (fun i x s hh => by
      obtain ⟨t, _, h4⟩ := bind_inv hh
      cases t <;> cases h4) l 0 h1
    intro j a b ha hb
    have h3 := key (j + 1) b hb
    obtain ⟨t, h4, h5⟩ := bind_inv h3
    cases t with
    | true => cases h5
    | false =>
      obtain ⟨w, h6, h7⟩ := bind_inv h4
      cases w with
      | false => cases h7
      | true =>
        have h8 : (cond (decide (0 < ((0 : Int) + ((j + 1 : Nat) : Int)))) ((getI l ((0 : Int) + ((j + 1 : Nat) : Int) - 1)).bind fun v_9 => some (decide (b ≤ v_9))) (some false)) = some false := h7
        rw [decide_eq_true (show 0 < (0 : Int) + ((j + 1 : Nat) : Int) by omega)] at h8
        have e : (0 : Int) + ((j + 1 : Nat) : Int) - 1 = (j : Int) := by omega
        rw [e] at h8
        have hj : j < l.length := (List.getElem?_eq_some_iff.1 ha).1
        rw [show cond true ((getI l (j : Int)).bind fun v_9 => some (decide (b ≤ v_9))) (some false) = (getI l (j : Int)).bind fun v_9 => some (decide (b ≤ v_9)) from rfl, getI_lt hj] at h8
        simp only [Option.bind_some, Option.some.injEq, decide_eq_false_iff_not] at h8
        have := (List.getElem?_eq_some_iff.1 ha).2
        omega
theorem asc_lt {l : List Int} (h : ∀ (j : Nat) a b, l[j]? = some a → l[j + 1]? = some b → a < b) : ∀ (k i : Nat) a b, l[i]? = some a → l[i + 1 + k]? = some b → a < b
  | 0, i, a, b, ha, hb => h i a b ha hb
  | k + 1, i, a, b, ha, hb => by
    have hl : i + 1 + k < l.length := by have := (List.getElem?_eq_some_iff.1 hb).1; omega
    have h1 := asc_lt h k i a _ ha (List.getElem?_eq_getElem hl)
    have h2 := h (i + 1 + k) _ b (List.getElem?_eq_getElem hl) hb
    omega
set_option maxHeartbeats 1000000 in
theorem m_impl_SelectFacts_own (db0 : Database) (indices1 : (List Int)) (r : (Database × Bool)) (H : m_impl_SelectFacts db0 indices1 = some r) : FnO prg 172 [(.g (tDatabase.enc db0)), (sl tInt indices1)] (.t [(.g [(.m [0] 0 r.1.relations.length tRelation.k), (.m [1] 0 r.1.facts.length tFact.k)]), (boolA r.2)]) [.row (flat tRelation.own r.1.relations), .row (flat tFact.own r.1.facts)] := by
  unfold m_impl_SelectFacts at H
  refine fnO_of_T Try.func172 rfl rfl (Nat.le_of_ble_eq_true rfl) ?_
  refine te [(0, (.g (tDatabase.enc db0))), (1, (sl tInt indices1))] rfl ?_
  refine sr ?_
  refine TO_cons rfl (TOp_box rfl (boxAll rfl) rfl rfl ?_)
  refine TO_cons rfl (TOp_alloc zero48 rfl rfl ?_)
  refine pv tb 1 rfl ?_
  refine TO_nil ?_
  refine T_seq ?_
  obtain ⟨t20_1, J_1, H_2⟩ := bind_inv H
  have hasc : t20_1 = false → m_impl_areIndices indices1 (db0.facts.length : Int) = some true := fun e => by
    subst e
    obtain ⟨a, _, h2⟩ := bind_inv J_1
    cases a with
    | false => cases h2
    | true =>
      obtain ⟨b, h3, h4⟩ := bind_inv h2
      cases b with
      | false => cases h4
      | true => exact h3
  refine T_cutX (fun x => t20_1 = x) (fun (t20_1 : Bool) => [(1, (sl tInt indices1)), (2, (.b 0 0)), (4, (.b 1 0)), (20, (boolA t20_1))]) (fun (t20_1 : Bool) => [.box [(sl tRelation db0.relations), (sl tFact db0.facts)], .box [.n, .n]]) ?_ ?_
  ·replace H := J_1
   refine T_region ?_
   obtain ⟨r_3, h_4, H⟩ := bind_inv H
   refine pv tb 1 rfl ?_
   refine TO_cons rfl (TOp_callV (call_static ent117 rfl) (m_impl_IsValidDatabase_ok _ _ h_4) rfl rfl rfl ?_)
   refine pv tb 2 rfl ?_
   refine TO_split (t := (!r_3)) 13 rfl (fun g_5 => ?_) (fun g_5 => ?_)
   ·replace H := cond_t g_5 H
    refine pv tb 7 rfl ?_
    refine TO_nil ?_
    exact joined true (w0 2) (some_inj H).symm
   ·replace H := cond_f g_5 H
    refine pv tb 3 rfl ?_
    refine TO_on rfl rfl (by decide) rfl rfl (TOp_pure (pur_lenT (T := tFact) sl46 rfl rfl) rfl ?_)
    obtain ⟨r_6, h_7, H⟩ := bind_inv H
    refine TO_on rfl rfl (by decide) rfl rfl (TOp_callV (call_static ent184 rfl) (m_impl_areIndices_ok _ _ _ h_7) rfl rfl rfl ?_)
    refine pv tb 2 rfl ?_
    refine TO_nil ?_
    exact joined (!r_6) (w0 2) (some_inj H).symm
  ·rintro _ rfl
   replace H := H_2
   refine T_cond (t := t20_1) rfl (fun c_8 => ?_) (fun c_8 => ?_)
   ·replace H := cond_t c_8 H
    refine sr ?_
    refine Tp rfl rfl (pur_build bld48 rfl rfl) rfl ?_
    refine TO_cons rfl (TOp_storeB sz48 rfl rfl rfl rfl rfl rfl rfl (by decide) (lb rfl) rfl ?_)
    refine TO_st (σ' := [.box [(sl tRelation db0.relations), (sl tFact db0.facts)], .box [.n, .n]]) rfl ?_
    refine pv tb 1 rfl ?_
    refine TO_nil ?_
    refine T_row0 ?_
    refine T_row0 ?_
    refine T_boxle (xs := [.n, .n]) (ys := [(.m [2] 0 ([] : (List Relation)).length tRelation.k), (.m [3] 0 ([] : (List Fact)).length tFact.k)]) 1 rfl (leCons leM (leCons leM leNil)) ?_
    refine T_st (σ' := [.box [(sl tRelation db0.relations), (sl tFact db0.facts)], .box [(.m [2] 0 ([] : (List Relation)).length tRelation.k), (.m [3] 0 ([] : (List Fact)).length tFact.k)], .row (flat tRelation.own ([] : (List Relation))), .row (flat tFact.own ([] : (List Fact)))]) rfl ?_
    refine T_ret ?_
    refine then_ret ?_
    obtain rfl := some_inj H
    exact end_pick (.cellK rfl agg48 rfl (lb rfl) (.tmp .nil)) rfl [2, 3] (by decide) rfl rfl rfl rfl rfl rfl
   ·replace H := cond_f c_8 H
    have hA := asc_lt (asc_of (hasc c_8))
    refine T_skip ?_
    refine sr ?_
    obtain ⟨r_9, h_10, H⟩ := bind_inv H
    refine pv tb 1 rfl ?_
    refine TO_cons rfl (TOp_callO (call_static ent107 rfl) rfl (m_impl_copyDatabase_own _ _ h_10) rfl rfl rfl ?_)
    refine toe [(1, (sl tInt indices1)), (2, (.b 0 0)), (4, (.b 1 0)), (22, (.g (tDatabase.enc db0))), (23, (.g [(.m [2] 0 r_9.relations.length tRelation.k), (.m [3] 0 r_9.facts.length tFact.k)]))] rfl ?_
    refine TO_st (σ' := [.box [(sl tRelation db0.relations), (sl tFact db0.facts)], .box [.n, .n], .row (flat tRelation.own r_9.relations), .row (flat tFact.own r_9.facts)]) rfl ?_
    refine TO_cons rfl (TOp_alloc zero48 rfl rfl ?_)
    refine TO_cons rfl (TOp_storeB sz48 rfl rfl rfl rfl rfl rfl rfl (by decide) (lb rfl) rfl ?_)
    refine TO_st (σ' := [.box [(sl tRelation db0.relations), (sl tFact db0.facts)], .box [.n, .n], .row (flat tRelation.own r_9.relations), .row (flat tFact.own r_9.facts), .box [(.m [2] 0 r_9.relations.length tRelation.k), (.m [3] 0 r_9.facts.length tFact.k)]]) rfl ?_
    refine TO_nil ?_
    refine sr ?_
    refine pv tb 2 rfl ?_
    refine Tp rfl rfl (pur_build bld48 rfl rfl) rfl ?_
    refine TO_cons rfl (TOp_alloc zero48 rfl rfl ?_)
    refine TO_cons rfl (TOp_storeB sz48 rfl rfl rfl rfl rfl rfl rfl (by decide) (lb rfl) rfl ?_)
    refine TO_st (σ' := [.box [(sl tRelation db0.relations), (sl tFact db0.facts)], .box [.n, .n], .row (flat tRelation.own r_9.relations), .row (flat tFact.own r_9.facts), .box [(.m [2] 0 r_9.relations.length tRelation.k), (.m [3] 0 r_9.facts.length tFact.k)], .box [(.m [2] 0 r_9.relations.length tRelation.k), .n]]) rfl ?_
    refine TO_nil ?_
    refine T_seq ?_
    refine sr ?_
    refine pv tb 1 rfl ?_
    refine Tp rfl rfl (pur_lenT (T := tInt) sl23 rfl rfl) rfl ?_
    refine pv tb 1 rfl ?_
    refine TO_nil ?_
    refine T_row0 ?_
    refine T_boxle (xs := [(.m [2] 0 r_9.relations.length tRelation.k), .n]) (ys := [(.m [2] 0 r_9.relations.length tRelation.k), (.m [6] 0 ([] : (List Fact)).length tFact.k)]) 5 rfl (leCons (leR rfl) (leCons leM leNil)) ?_
    refine T_st (σ' := [.box [(sl tRelation db0.relations), (sl tFact db0.facts)], .box [.n, .n], .row (flat tRelation.own r_9.relations), .row (flat fSel (r_9.facts.map fun x => (none, x))), .box [(.m [2] 0 r_9.relations.length tRelation.k), (.m [3] 0 r_9.facts.length tFact.k)], .box [(.m [2] 0 r_9.relations.length tRelation.k), (.m [6] 0 ([] : (List Fact)).length tFact.k)], .row (flat tFact.own ([] : (List Fact)))]) (by rw [flat_none (g := tFact.own) (fun _ => rfl)]; rfl) ?_
    obtain ⟨O12_, L12_, N12_⟩ := bind_inv H
    clear H
    obtain ⟨B12_, hb12, L12_⟩ := gen_forS L12_
    refine T_block ?_
    refine T_loopX (fun k => fun (⟨t_11, box5_facts, ys⟩ : Nat × (List Fact) × List ((Option (Option Nat)) × Fact)) => k = indices1.length - t_11 ∧ forS B12_ (indices1.drop t_11) (t_11 : Int) box5_facts = some O12_ ∧ ys.map Prod.snd = r_9.facts ∧ (∀ y ∈ ys, y.1 = none ∨ y.1 = some none) ∧ ∀ (j : Nat) y, ys[j]? = some y → y.1 ≠ none → ∃ t', t' < t_11 ∧ indices1[t']? = some (j : Int)) (fun (⟨t_11, box5_facts, ys⟩ : Nat × (List Fact) × List ((Option (Option Nat)) × Fact)) => [(4, (.b 1 0)), (6, (.b 4 0)), (7, (.b 5 0)), (27, (sl tInt indices1)), (28, (intA (indices1.length : Int))), (29, (intA (t_11 : Int)))]) (fun (⟨t_11, box5_facts, ys⟩ : Nat × (List Fact) × List ((Option (Option Nat)) × Fact)) => [.box [(sl tRelation db0.relations), (sl tFact db0.facts)], .box [.n, .n], .row (flat tRelation.own r_9.relations), .row (flat fSel ys), .box [(.m [2] 0 r_9.relations.length tRelation.k), (.m [3] 0 r_9.facts.length tFact.k)], .box [(.m [2] 0 r_9.relations.length tRelation.k), (.m [6] 0 box5_facts.length tFact.k)], .row (flat tFact.own box5_facts)]) _ (0, ([] : (List Fact)), r_9.facts.map fun x => (none, x)) (w0 7) ⟨rfl, L12_, by rw [List.map_map]; exact List.map_id _, fun y hy => .inl (by obtain ⟨x, _, rfl⟩ := List.mem_map.1 hy; rfl), fun j y hj hn => absurd (by obtain ⟨x, _, rfl⟩ := List.mem_map.1 (List.mem_of_getElem? hj); rfl) hn⟩ ?_
    rintro _ ⟨t_11, box5_facts, ys⟩ ⟨rfl, L12_, hys, hcl, htk⟩
    refine T_fact (len_sl (T := tInt) (.tmp 27) rfl) (fun hl12 => ?_)
    refine sr ?_
    refine pv tb 1 rfl ?_
    refine TO_nil ?_
    refine T_seq ?_
    refine T_cond (t := decide ((t_11 : Int) < (indices1.length : Int))) rfl (fun d12 => ?_) (fun d12 => ?_)
    ·replace d12 := of_decide_eq_true d12
     obtain ⟨x_t_11, hx_t_11⟩ : ∃ v, (indices1)[t_11]? = some v := ⟨_, List.getElem?_eq_getElem (by omega)⟩
     obtain ⟨C12_, H, K12_⟩ := forS_step L12_ hx_t_11
     rw [hb12] at H
     refine T_skip ?_
     refine T_seq ?_
     refine T_block ?_
     refine sr ?_
     refine Tp rfl rfl (pur_ixT (T := tInt) sl23 rfl rfl rfl hx_t_11 rfl) rfl ?_
     refine Tp rfl rfl (pur_ldT (T := tInt) (i := t_11) (off := 0) rfl one3 rfl rfl hx_t_11 rfl) rfl ?_
     refine pv tb 1 rfl ?_
     refine TO_nil ?_
     obtain ⟨v_13, h_14, H⟩ := bind_inv H
     obtain ⟨n_15, hz_16, hv_17⟩ := getI_inv h_14
     obtain ⟨us_18, h_19, H⟩ := bind_inv H
     have hyl : n_15 < ys.length := by
       have := (List.getElem?_eq_some_iff.1 hv_17).1
       rw [← hys, List.length_map] at this; exact this
     have hy : ys[n_15]? = some (none, v_13) := by
       have e1 : (ys.map Prod.snd)[n_15]? = some v_13 := by rw [hys]; exact hv_17
       rw [List.getElem?_map, List.getElem?_eq_getElem hyl] at e1
       have e2 : (ys[n_15]).2 = v_13 := by simpa using e1
       have e3 : (ys[n_15]).1 = none := by
         cases e3 : (ys[n_15]).1 with
         | none => rfl
         | some q =>
           exfalso
           obtain ⟨t', h1, h2⟩ := htk n_15 _ (List.getElem?_eq_getElem hyl) (by rw [e3]; simp)
           have := hA (t_11 - t' - 1) t' _ x_t_11 h2 (by rw [show t' + 1 + (t_11 - t' - 1) = t_11 by omega]; exact hx_t_11)
           omega
       rw [List.getElem?_eq_getElem hyl]
       congr 1
       exact Prod.ext e3 e2
     have hcn : ∀ (p : List Nat → Bool), namesL p (flat fSel ys) = false := fun p => namesL_flatF fun y hy => by
       obtain ⟨a, x⟩ := y
       rcases hcl _ hy with e | e <;> (simp only at e; subst e; rfl)
     have hcn7 : ∀ (p : List Nat → Bool), p [7] = false → namesL p (flat fSel (ys.set n_15 (some (some 7), v_13))) = false := fun p hp => namesL_flatF fun y hy => by
       rcases List.mem_or_eq_of_mem_set hy with hy | rfl
       · obtain ⟨a, x⟩ := y
         rcases hcl _ hy with e | e <;> (simp only at e; subst e; rfl)
       · simp only [fSel, namesL, A.names, hp, Bool.or_self]
     refine T_take (f := fSel) (k := tFact.k) 3 n_15 1 (us := flat tInt.own v_13.values) (nn := v_13.values.length) (kk := tInt.k) fSel_len rfl hy rfl rfl (flat_len tInt.lenO _) tInt.pos (lb rfl) rfl (nms_box rfl (nms_box rfl (nms_row (nms_box (hcn _) (nms_box rfl (nms_box rfl (nms_row nms_nil))))))) ?_
     refine te [(4, (.b 1 0)), (6, (.b 4 0)), (7, (.b 5 0)), (9, (intA x_t_11)), (27, (sl tInt indices1)), (28, (intA (indices1.length : Int))), (29, (intA (t_11 : Int)))] rfl ?_
     refine T_pad ?_
     refine T_st (σ' := [.box [(sl tRelation db0.relations), (sl tFact db0.facts)], .box [.n, .n], .row (flat tRelation.own r_9.relations), .box (flat fSel (ys.set n_15 (some (some 7), v_13))), .box [(.m [2] 0 r_9.relations.length tRelation.k), (.m [3] 0 r_9.facts.length tFact.k)], .box [(.m [2] 0 r_9.relations.length tRelation.k), (.m [6] 0 box5_facts.length tFact.k)], .row (flat tFact.own box5_facts), .row (flat tInt.own v_13.values), .dead]) rfl ?_
     refine T_regionPhk (fun l => l != 3) 7 10 mixed rfl (by kernel_rfl) ?_
     refine pa tb [0, 1, 2, 3, 4] 5 rfl (by kernel_rfl) rfl ?_
     refine tf 5 rfl (pur_ixM (T := tFact) sl46 rfl rfl hz_16 hv_17 rfl) rfl rfl (by kernel_rfl) ?_
     refine t1 6 (by kernel_rfl) rfl rfl (TOp_pure (pur_ldEK (f := fSel) (k := tFact.k) (i := n_15) (off := 0) (xs := ys.set n_15 (some (some 7), v_13)) fSel_len rfl agg65 rfl rfl rfl (List.getElem?_set_self hyl) (by decide) rfl) rfl ?_)
     refine tae [(4, (.b 1 0)), (6, (.b 4 0)), (7, (.b 5 0)), (27, (sl tInt indices1)), (28, (intA (indices1.length : Int))), (29, (intA (t_11 : Int))), (34, (.m [6] 0 box5_facts.length tFact.k)), (39, (.g [(intA v_13.relation), (.m [7] 0 v_13.values.length tInt.k)]))] rfl ?_
     refine TA_st (σ' := [.dead, .dead, .row (flat tRelation.own r_9.relations), .box (flat fSel (ys.set n_15 (some (some 7), v_13))), .dead, .dead, .row (flat tFact.own box5_facts), .row (flat tInt.own v_13.values), .dead]) rfl ?_
     refine t1 7 (by kernel_rfl) rfl rfl (TOp_litB (nn := 1) (k := 2) sl46 zero65 rfl rfl rfl rfl (by decide) ?_)
     refine TA_st (σ' := [.dead, .dead, .row (flat tRelation.own r_9.relations), .box (flat fSel (ys.set n_15 (some (some 7), v_13))), .dead, .dead, .row (flat tFact.own box5_facts), .row (flat tInt.own v_13.values), .dead, .box [(intA v_13.relation), (.m [7] 0 v_13.values.length tInt.k)]]) rfl ?_
     refine tmw 8 6 (by decide) (lb rfl) rfl rfl (lb rfl) (noNm_dead (noNm_dead (noNm_row (noNm_box (hcn7 _ rfl) rfl)))) ?_
     refine t1 8 (by kernel_rfl) rfl rfl (TOp_boxify 8 rfl (lb rfl) (TOp_appB (T := tFact) (xs := box5_facts) (v := v_13) sl46 zero65 rfl bytes65 (by decide) rfl rfl rfl rfl rfl rfl rfl rfl h_19 (lb rfl) ?_))
     refine tae [(4, (.b 1 0)), (6, (.b 4 0)), (7, (.b 5 0)), (27, (sl tInt indices1)), (28, (intA (indices1.length : Int))), (29, (intA (t_11 : Int))), (41, .m [10] 0 (box5_facts.length + 1) tFact.k)] rfl ?_
     refine TA_st (σ' := [.dead, .dead, .row (flat tRelation.own r_9.relations), .box (flat fSel (ys.set n_15 (some (some 7), v_13))), .dead, .dead, .dead, .row (flat tInt.own v_13.values), .dead, .box [(intA v_13.relation), (.m [7] 0 v_13.values.length tInt.k)], .box (flat tFact.own box5_facts ++ [(intA v_13.relation), (.m [7] 0 v_13.values.length tInt.k)])]) rfl ?_
     refine TA_absorbA (pr := flat tFact.own box5_facts) 10 1 7 rfl rfl rfl (by decide) tInt.pos (flat_len tInt.lenO _) (lb rfl) (lb rfl) rfl (nms_dead (nms_dead (nms_row (nms_box (hcn7 _ rfl) (nms_dead (nms_dead (nms_dead (nms_row (nms_dead (nms_box rfl (nms_box (namesA namesL_own rfl) nms_nil))))))))))) ?_
     refine TA_st (σ' := [.dead, .dead, .row (flat tRelation.own r_9.relations), .box (flat fSel (ys.set n_15 (some (some 7), v_13))), .dead, .dead, .dead, .dead, .dead, .box [(intA v_13.relation), (.m [7] 0 v_13.values.length tInt.k)], .box (flat tFact.own box5_facts ++ [(intA v_13.relation), .o tInt.k (flat tInt.own v_13.values)])]) rfl ?_
     refine TA_rowifyT (T := tFact) (xs := box5_facts) (v := v_13) 10 rfl rfl h_19 (lb rfl) ?_
     refine TA_st (σ' := [.dead, .dead, .row (flat tRelation.own r_9.relations), .box (flat fSel (ys.set n_15 (some (some 7), v_13))), .dead, .dead, .dead, .dead, .dead, .box [(intA v_13.relation), (.m [7] 0 v_13.values.length tInt.k)], .row (flat tFact.own us_18)]) rfl ?_
     refine TA_kill 9 (lb rfl) ?_
     refine TA_st (σ' := [.dead, .dead, .row (flat tRelation.own r_9.relations), .box (flat fSel (ys.set n_15 (some (some 7), v_13))), .dead, .dead, .dead, .dead, .dead, .dead, .row (flat tFact.own us_18)]) rfl ?_
     refine TA_env (E' := [(4, (.b 1 0)), (6, (.b 4 0)), (7, (.b 5 0)), (27, (sl tInt indices1)), (28, (intA (indices1.length : Int))), (29, (intA (t_11 : Int))), (41, .m [10] 0 us_18.length tFact.k)]) ⟨rfl, rfl, rfl, rfl, rfl, rfl, (congrArg (fun q => A.m [10] 0 q tFact.k) (app_len h_19)), trivial⟩ ?_
     refine pa tb [9] 0 rfl (by kernel_rfl) rfl ?_
     refine TA_nil (by kernel_rfl) ?_
     refine TA_st (σ' := [.box [(sl tRelation db0.relations), (sl tFact db0.facts)], .box [.n, .n], .row (flat tRelation.own r_9.relations), .box (flat fSel (ys.set n_15 (some (some 7), v_13))), .box [(.m [2] 0 r_9.relations.length tRelation.k), (.m [3] 0 r_9.facts.length tFact.k)], .box [(.m [2] 0 r_9.relations.length tRelation.k), (.m [6] 0 box5_facts.length tFact.k)], .dead, .dead, .dead, .dead, .row (flat tFact.own us_18)]) rfl ?_
     refine t1 10 (by kernel_rfl) rfl rfl (TOp_storeB sz46 rfl rfl rfl rfl rfl rfl rfl (by decide) (lb rfl) rfl ?_)
     refine TA_st (σ' := [.box [(sl tRelation db0.relations), (sl tFact db0.facts)], .box [.n, .n], .row (flat tRelation.own r_9.relations), .box (flat fSel (ys.set n_15 (some (some 7), v_13))), .box [(.m [2] 0 r_9.relations.length tRelation.k), (.m [3] 0 r_9.facts.length tFact.k)], .box [(.m [2] 0 r_9.relations.length tRelation.k), (.m [10] 0 us_18.length tFact.k)], .dead, .dead, .dead, .dead, .row (flat tFact.own us_18)]) rfl ?_
     refine TA_nil (by kernel_rfl) ?_
     refine T_gone (f := fSel) (k := tFact.k) 3 n_15 1 fSel_len rfl hyl (by decide) rfl (fun y hy => ?_) (lb rfl) ?_
     ·rcases List.mem_or_eq_of_mem_set hy with hy | rfl
      · obtain ⟨a, x⟩ := y
        rcases hcl _ hy with e | e <;> (simp only at e; subst e; rfl)
      · rfl
     refine te [(4, (.b 1 0)), (6, (.b 4 0)), (7, (.b 5 0)), (27, (sl tInt indices1)), (28, (intA (indices1.length : Int))), (29, (intA (t_11 : Int)))] rfl ?_
     refine T_move' 6 10 (by decide) (lb rfl) rfl rfl (lb rfl) ?_
     refine te [(4, (.b 1 0)), (6, (.b 4 0)), (7, (.b 5 0)), (27, (sl tInt indices1)), (28, (intA (indices1.length : Int))), (29, (intA (t_11 : Int)))] rfl ?_
     refine T_st (σ' := [.box [(sl tRelation db0.relations), (sl tFact db0.facts)], .box [.n, .n], .row (flat tRelation.own r_9.relations), .row (flat fSel (ys.set n_15 (some none, v_13))), .box [(.m [2] 0 r_9.relations.length tRelation.k), (.m [3] 0 r_9.facts.length tFact.k)], .box [(.m [2] 0 r_9.relations.length tRelation.k), (.m [6] 0 us_18.length tFact.k)], .row (flat tFact.own us_18), .dead, .dead, .dead, .dead]) rfl ?_
     refine T_region ?_
     refine Tp rfl rfl (pur_add rfl rfl rfl (fits64 (by omega) (by omega))) rfl ?_
     refine pv tb 1 rfl ?_
     refine TO_nil ?_
     obtain rfl := some_inj H
     refine again (indices1.length - (t_11 + 1)) (t_11 + 1, us_18, ys.set n_15 (some none, v_13)) (by omega) (w0 7) ⟨rfl, K12_, ?_, fun y hy => ?_, fun j y hj hn => ?_⟩
     · rw [← hys, List.map_set]
       apply List.ext_getElem?
       intro q
       by_cases e : n_15 = q
       · subst e
         rw [List.getElem?_set_self (by simpa using hyl), List.getElem?_map, hy]; rfl
       · rw [List.getElem?_set_ne e]
     · rcases List.mem_or_eq_of_mem_set hy with hy | rfl
       · exact hcl y hy
       · exact .inr rfl
     · by_cases e : n_15 = j
       · subst e; exact ⟨t_11, by omega, by rw [hx_t_11, hz_16]⟩
       · rw [List.getElem?_set_ne e] at hj
         obtain ⟨t', h1, h2⟩ := htk j y hj hn
         exact ⟨t', by omega, h2⟩
    ·replace d12 := of_decide_eq_false d12
     obtain rfl := forS_end L12_ (by omega)
     refine T_exit ?_
     refine then_exit ?_
     refine then_exit ?_
     refine block_exit ?_
     replace H := N12_
     refine sr ?_
     refine pv tb 1 rfl ?_
     refine TO_cons rfl (TOp_storeB sz48 rfl rfl rfl rfl rfl rfl rfl (by decide) (lb rfl) rfl ?_)
     refine TO_st (σ' := [.box [(sl tRelation db0.relations), (sl tFact db0.facts)], .box [(.m [2] 0 r_9.relations.length tRelation.k), (.m [6] 0 box5_facts.length tFact.k)], .row (flat tRelation.own r_9.relations), .row (flat fSel ys), .box [(.m [2] 0 r_9.relations.length tRelation.k), (.m [3] 0 r_9.facts.length tFact.k)], .box [(.m [2] 0 r_9.relations.length tRelation.k), (.m [6] 0 box5_facts.length tFact.k)], .row (flat tFact.own box5_facts)]) rfl ?_
     refine pv tb 1 rfl ?_
     refine TO_nil ?_
     refine T_ret ?_
     obtain rfl := some_inj H
     exact end_pick (.cellK rfl agg48 rfl (lb rfl) (.tmp .nil)) rfl [2, 6] (by decide) rfl rfl rfl rfl rfl rfl


set_option maxHeartbeats 1000000 in
theorem m_impl_withoutFacts_own (db0 : Database) (indices1 : (List Int)) (r : Database) (H : m_impl_withoutFacts db0 indices1 = some r) : FnO prg 129 [(.g (tDatabase.enc db0)), (sl tInt indices1)] (.g [(.m [0] 0 r.relations.length tRelation.k), (.m [1] 0 r.facts.length tFact.k)]) [.row (flat tRelation.own r.relations), .row (flat tFact.own r.facts)] := by
  unfold m_impl_withoutFacts at H
  refine fnO_of_T Try.func129 rfl rfl (Nat.le_of_ble_eq_true rfl) ?_
  refine te [(0, (.g (tDatabase.enc db0))), (1, (sl tInt indices1))] rfl ?_
  refine sr ?_
  refine TO_cons rfl (TOp_box rfl (boxAll rfl) rfl rfl ?_)
  refine TO_cons rfl (TOp_alloc zero48 rfl rfl ?_)
  refine TO_nil ?_
  refine sr ?_
  refine TO_cons rfl (TOp_lit (nn := 0) (k := 1) sl23 zero3 rfl rfl rfl rfl (by decide) ?_)
  refine TO_st (σ' := [.box [(sl tRelation db0.relations), (sl tFact db0.facts)], .box [.n, .n], .row (flat tInt.enc ([] : (List Int)))]) rfl ?_
  refine pv tb 1 rfl ?_
  refine TO_nil ?_
  refine T_seq ?_
  refine sr ?_
  refine pv tb 2 rfl ?_
  refine Tp rfl rfl (pur_lenT (T := tFact) sl46 rfl rfl) rfl ?_
  refine pv tb 1 rfl ?_
  refine TO_nil ?_
  obtain ⟨_, h_3, H⟩ := bind_inv H
  replace h_3 := gN_inv h_3
  obtain ⟨O2_, L2_, N2_⟩ := bind_inv H
  clear H
  obtain ⟨B2_, hb2, L2_⟩ := gen_forM L2_
  refine T_block ?_
  refine T_loopX (fun k => fun (⟨t_1, all5⟩ : Int × (List Int)) => k = ((db0.facts.length : Int) - t_1).toNat ∧ 0 ≤ t_1 ∧ forM B2_ ((db0.facts.length : Int) - t_1).toNat t_1 all5 = some O2_) (fun (⟨t_1, all5⟩ : Int × (List Int)) => [(1, (sl tInt indices1)), (2, (.b 0 0)), (4, (.b 1 0)), (5, (.m [2] 0 all5.length tInt.k)), (12, (intA (db0.facts.length : Int))), (13, (intA (t_1 : Int)))]) (fun (⟨t_1, all5⟩ : Int × (List Int)) => [.box [(sl tRelation db0.relations), (sl tFact db0.facts)], .box [.n, .n], .row (flat tInt.enc all5)]) _ (0, ([] : (List Int))) (w0 3) ⟨rfl, Int.le_refl _, L2_⟩ ?_
  rintro _ ⟨t_1, all5⟩ ⟨rfl, hi2, L2_⟩
  refine sr ?_
  refine pv tb 1 rfl ?_
  refine TO_nil ?_
  refine T_seq ?_
  refine T_cond (t := decide ((t_1 : Int) < (db0.facts.length : Int))) rfl (fun d2 => ?_) (fun d2 => ?_)
  ·replace d2 := of_decide_eq_true d2
   obtain ⟨C2_, H, K2_⟩ := forM_step L2_ d2
   rw [hb2] at H
   refine T_skip ?_
   refine T_seq ?_
   refine T_block ?_
   refine sr ?_
   refine pv tb 2 rfl ?_
   refine TO_nil ?_
   refine T_region ?_
   refine pv tb 2 rfl ?_
   refine TO_cons rfl (TOp_lit (nn := 1) (k := 1) sl23 zero3 rfl rfl rfl rfl (by decide) ?_)
   refine TO_st (σ' := [.box [(sl tRelation db0.relations), (sl tFact db0.facts)], .box [.n, .n], .row (flat tInt.enc all5), .row (flat tInt.enc ([(t_1 : Int)] : (List Int)))]) rfl ?_
   obtain ⟨us_4, h_5, H⟩ := bind_inv H
   refine TO_cons rfl (TOp_appZ (T := tInt) (f := tInt.enc) (xs := all5) (ys := ([(t_1 : Int)] : (List Int))) tInt.len sl23 zero3 rfl bytes3 (by decide) rfl rfl rfl rfl (src_mT (f := tInt.enc) tInt.len rfl rfl (flat_cell tInt _)) (flat_cell tInt _) h_5 (lb rfl) ?_)
   refine toe [(1, (sl tInt indices1)), (2, (.b 0 0)), (4, (.b 1 0)), (6, (intA (t_1 : Int))), (12, (intA (db0.facts.length : Int))), (13, (intA (t_1 : Int))), (17, (intA (t_1 : Int))), (18, (.m [3] 0 ([(t_1 : Int)] : (List Int)).length tInt.k)), (19, (.m [2] 0 us_4.length tInt.k))] rfl ?_
   refine TO_st (σ' := [.box [(sl tRelation db0.relations), (sl tFact db0.facts)], .box [.n, .n], .row (flat tInt.enc us_4), .row (flat tInt.enc ([(t_1 : Int)] : (List Int))), .dead]) rfl ?_
   refine pv tb 1 rfl ?_
   refine TO_nil ?_
   refine T_region ?_
   refine Tp rfl rfl (pur_add rfl rfl rfl (fits64 (by omega) (by omega))) rfl ?_
   refine pv tb 1 rfl ?_
   refine TO_nil ?_
   obtain rfl := some_inj H
   exact again ((db0.facts.length : Int) - (t_1 + 1)).toNat (t_1 + 1, us_4) (by omega) (w0 3) ⟨rfl, by omega, K2_⟩
  ·replace d2 := of_decide_eq_false d2
   obtain rfl := forM_end L2_ (by omega)
   refine T_exit ?_
   refine then_exit ?_
   refine then_exit ?_
   refine block_exit ?_
   replace H := N2_
   obtain ⟨r_6, h_7, H⟩ := bind_inv H
   obtain ⟨r_8, h_9, H⟩ := bind_inv H
   refine T_pad ?_
   refine T_pad ?_
   refine T_pad ?_
   refine T_pad ?_
   refine T_pad ?_
   refine T_cutX (fun (_ : Unit) => True) (fun _ => [(4, (.b 1 0)), (7, (.b 8 0))]) (fun _ => [.box [(sl tRelation db0.relations), (sl tFact db0.facts)], .box [.n, .n], .dead, .row (flat tRelation.own r_8.1.relations), .row (flat tFact.own r_8.1.facts), .dead, .dead, .dead, .box [(.m [3] 0 r_8.1.relations.length tRelation.k), (.m [4] 0 r_8.1.facts.length tFact.k)]]) ?_ ?_
   ·skip
    refine T_regionP 2 mixed rfl ?_
    refine TA_have 2 #[true, true, true, true, true, true, true, true, true, false, false] [(4, (.b 1 0)), (7, (.b 8 0)), (27, (.g [(.m [5] 0 r_8.1.relations.length tRelation.k), (.m [6] 0 r_8.1.facts.length tFact.k)])), (28, (boolA r_8.2))] [.dead, .dead, .dead, .dead, .dead, .row (flat tRelation.own r_8.1.relations), .row (flat tFact.own r_8.1.facts), .dead, .box [.n, .n]] ?_ (fun hj0_7 => ?_)
    ·skip
     refine t1 9 (by kernel_rfl) rfl rfl (TOp_storeB sz48 rfl rfl rfl rfl rfl rfl rfl (by decide) (lb rfl) rfl ?_)
     refine TA_st (σ' := [.dead, .dead, .dead, .dead, .dead, .row (flat tRelation.own r_8.1.relations), .row (flat tFact.own r_8.1.facts), .dead, .box [(.m [5] 0 r_8.1.relations.length tRelation.k), (.m [6] 0 r_8.1.facts.length tFact.k)]]) rfl ?_
     refine pa tb [10] 0 rfl (by kernel_rfl) rfl ?_
     refine TA_ghost (E' := [(4, (.b 1 0)), (7, (.b 8 0))]) (σ' := [.dead, .dead, .dead, .row (flat tRelation.own r_8.1.relations), .dead, .dead, .row (flat tFact.own r_8.1.facts), .dead, .box [(.m [3] 0 r_8.1.relations.length tRelation.k), (.m [6] 0 r_8.1.facts.length tFact.k)]]) (Ghost.move 3 5 (by decide) (lb rfl) rfl rfl (lb rfl) (Ghost.weak (WeakL.to 9 (lb rfl) rfl rfl rfl rfl ⟨leR rfl, leR rfl, trivial⟩))) ?_
     refine TA_ghost (E' := [(4, (.b 1 0)), (7, (.b 8 0))]) (σ' := [.dead, .dead, .dead, .row (flat tRelation.own r_8.1.relations), .row (flat tFact.own r_8.1.facts), .dead, .dead, .dead, .box [(.m [3] 0 r_8.1.relations.length tRelation.k), (.m [4] 0 r_8.1.facts.length tFact.k)]]) (Ghost.move 4 6 (by decide) (lb rfl) rfl rfl (lb rfl) (Ghost.weak (WeakL.to 9 (lb rfl) rfl rfl rfl rfl ⟨leR rfl, leR rfl, trivial⟩))) ?_
     exact TA_nil (by kernel_rfl) (joined () (w0 9) trivial)
    refine TA_have 6 #[true, true, true, true, false, false, false, false, true, false, false] [(4, (.b 1 0)), (7, (.b 8 0)), (22, (.g (tDatabase.enc db0))), (25, (sl tInt r_6))] [.dead, .dead, .dead, .dead, .dead, .dead, .dead, .dead, .box [.n, .n]] ?_ (fun hj1_7 => ?_)
    ·skip
     refine t1 4 (by kernel_rfl) rfl rfl (TOp_callO (call_static ent172 rfl) rfl (m_impl_SelectFacts_own _ _ _ h_9) rfl rfl rfl ?_)
     refine tae [(4, (.b 1 0)), (7, (.b 8 0)), (22, (.g (tDatabase.enc db0))), (25, (sl tInt r_6)), (26, (.t [(.g [(.m [9] 0 r_8.1.relations.length tRelation.k), (.m [10] 0 r_8.1.facts.length tFact.k)]), (boolA r_8.2)]))] rfl ?_
     refine TA_st (σ' := [.dead, .dead, .dead, .dead, .dead, .dead, .dead, .dead, .box [.n, .n], .row (flat tRelation.own r_8.1.relations), .row (flat tFact.own r_8.1.facts)]) rfl ?_
     refine TA_ghost (E' := [(4, (.b 1 0)), (7, (.b 8 0)), (22, (.g (tDatabase.enc db0))), (25, (sl tInt r_6)), (26, (.t [(.g [(.m [5] 0 r_8.1.relations.length tRelation.k), (.m [10] 0 r_8.1.facts.length tFact.k)]), (boolA r_8.2)]))]) (σ' := [.dead, .dead, .dead, .dead, .dead, .row (flat tRelation.own r_8.1.relations), .dead, .dead, .box [.n, .n], .dead, .row (flat tFact.own r_8.1.facts)]) (Ghost.move 5 9 (by decide) (lb rfl) rfl rfl (lb rfl) (Ghost.weak (WeakL.to 11 (lb rfl) rfl rfl rfl rfl ⟨leR rfl, leR rfl, leR rfl, leR rfl, leR rfl, trivial⟩))) ?_
     refine TA_ghost (E' := [(4, (.b 1 0)), (7, (.b 8 0)), (22, (.g (tDatabase.enc db0))), (25, (sl tInt r_6)), (26, (.t [(.g [(.m [5] 0 r_8.1.relations.length tRelation.k), (.m [6] 0 r_8.1.facts.length tFact.k)]), (boolA r_8.2)]))]) (σ' := [.dead, .dead, .dead, .dead, .dead, .row (flat tRelation.own r_8.1.relations), .row (flat tFact.own r_8.1.facts), .dead, .box [.n, .n]]) (Ghost.move 6 10 (by decide) (lb rfl) rfl rfl (lb rfl) (Ghost.weak (WeakL.to 9 (lb rfl) rfl rfl rfl rfl ⟨leR rfl, leR rfl, leR rfl, leR rfl, leR rfl, trivial⟩))) ?_
     refine pa tb [5, 6, 7] 2 rfl (by kernel_rfl) rfl ?_
     exact tj hj0_7 rfl (w0 9)
    refine pa tb [0, 1, 2] 8 rfl (by kernel_rfl) rfl ?_
    refine TA_ghost (E' := [(1, (sl tInt indices1)), (2, (.b 0 0)), (4, (.b 1 0)), (5, (.m [2] 0 all5.length tInt.k)), (22, (.g (tDatabase.enc db0))), (23, (.m [2] 0 all5.length tInt.k)), (24, (sl tInt indices1))]) (σ' := [.dead, .dead, .row (flat tInt.enc all5), .dead, .dead, .dead, .dead, .dead]) (Ghost.weak (WeakL.to 8 (lb rfl) rfl rfl rfl rfl ⟨leR rfl, leR rfl, leR rfl, leR rfl, leR rfl, leR rfl, leR rfl, trivial⟩)) ?_
    refine TA_frz1 2 (E' := [(1, (sl tInt indices1)), (2, (.b 0 0)), (4, (.b 1 0)), (5, (sl tInt all5)), (22, (.g (tDatabase.enc db0))), (23, (sl tInt all5)), (24, (sl tInt indices1))]) rfl rfl (lb rfl) ⟨(.keep rfl), (.keep rfl), (.keep rfl), fz1E, (.keep rfl), fz1E, (.keep rfl), trivial⟩ ?_
    refine TA_st (σ' := [.dead, .dead, .dead, .dead, .dead, .dead, .dead, .dead]) rfl ?_
    refine TA_all [3, 8] (by kernel_rfl) (by decide) ⟨?_, ?_, trivial⟩
    ·skip
     refine ⟨_, rfl, rfl, (TOp_callV (call_static ent130 rfl) (m_impl_without_ok _ _ _ h_7) rfl rfl rfl ?_)⟩
     refine TA_all [4, 8] (by kernel_rfl) (by decide) ⟨?_, ?_, trivial⟩
     ·skip
      refine ⟨_, rfl, rfl, (TOp_callO (call_static ent172 rfl) rfl (m_impl_SelectFacts_own _ _ _ h_9) rfl rfl rfl ?_)⟩
      refine tae [(1, (sl tInt indices1)), (2, (.b 0 0)), (4, (.b 1 0)), (5, (sl tInt all5)), (22, (.g (tDatabase.enc db0))), (23, (sl tInt all5)), (24, (sl tInt indices1)), (25, (sl tInt r_6)), (26, (.t [(.g [(.m [8] 0 r_8.1.relations.length tRelation.k), (.m [9] 0 r_8.1.facts.length tFact.k)]), (boolA r_8.2)]))] rfl ?_
      refine TA_st (σ' := [.dead, .dead, .dead, .dead, .dead, .dead, .dead, .dead, .row (flat tRelation.own r_8.1.relations), .row (flat tFact.own r_8.1.facts)]) rfl ?_
      refine TA_ghost (E' := [(1, (sl tInt indices1)), (2, (.b 0 0)), (4, (.b 1 0)), (5, (sl tInt all5)), (22, (.g (tDatabase.enc db0))), (23, (sl tInt all5)), (24, (sl tInt indices1)), (25, (sl tInt r_6)), (26, (.t [(.g [(.m [5] 0 r_8.1.relations.length tRelation.k), (.m [9] 0 r_8.1.facts.length tFact.k)]), (boolA r_8.2)]))]) (σ' := [.dead, .dead, .dead, .dead, .dead, .row (flat tRelation.own r_8.1.relations), .dead, .dead, .dead, .row (flat tFact.own r_8.1.facts)]) (Ghost.move 5 8 (by decide) (lb rfl) rfl rfl (lb rfl) (Ghost.weak (WeakL.to 10 (lb rfl) rfl rfl rfl rfl ⟨leR rfl, leR rfl, leR rfl, leR rfl, leR rfl, leR rfl, leR rfl, leR rfl, leR rfl, trivial⟩))) ?_
      refine TA_ghost (E' := [(1, (sl tInt indices1)), (2, (.b 0 0)), (4, (.b 1 0)), (5, (sl tInt all5)), (22, (.g (tDatabase.enc db0))), (23, (sl tInt all5)), (24, (sl tInt indices1)), (25, (sl tInt r_6)), (26, (.t [(.g [(.m [5] 0 r_8.1.relations.length tRelation.k), (.m [6] 0 r_8.1.facts.length tFact.k)]), (boolA r_8.2)]))]) (σ' := [.dead, .dead, .dead, .dead, .dead, .row (flat tRelation.own r_8.1.relations), .row (flat tFact.own r_8.1.facts), .dead]) (Ghost.move 6 9 (by decide) (lb rfl) rfl rfl (lb rfl) (Ghost.weak (WeakL.to 8 (lb rfl) rfl rfl rfl rfl ⟨leR rfl, leR rfl, leR rfl, leR rfl, leR rfl, leR rfl, leR rfl, leR rfl, leR rfl, trivial⟩))) ?_
      refine pa tb [5, 6, 7] 3 rfl (by kernel_rfl) rfl ?_
      refine t1 8 (by kernel_rfl) rfl rfl (TOp_alloc zero48 rfl rfl ?_)
      refine tae [(4, (.b 1 0)), (7, (.b 8 0)), (27, (.g [(.m [5] 0 r_8.1.relations.length tRelation.k), (.m [6] 0 r_8.1.facts.length tFact.k)])), (28, (boolA r_8.2))] rfl ?_
      refine TA_st (σ' := [.dead, .dead, .dead, .dead, .dead, .row (flat tRelation.own r_8.1.relations), .row (flat tFact.own r_8.1.facts), .dead, .box [.n, .n]]) rfl ?_
      exact tj hj0_7 rfl (w0 9)
     ·skip
      refine ⟨_, rfl, rfl, (TOp_alloc zero48 rfl rfl ?_)⟩
      exact tj hj1_7 rfl (w0 9)
    ·skip
     refine ⟨_, rfl, rfl, (TOp_alloc zero48 rfl rfl ?_)⟩
     refine t1 3 (by kernel_rfl) rfl rfl (TOp_callV (call_static ent130 rfl) (m_impl_without_ok _ _ _ h_7) rfl rfl rfl ?_)
     exact tj hj1_7 rfl (w0 9)
   ·rintro _ _
    refine sr ?_
    refine pv tb 1 rfl ?_
    refine TO_cons rfl (TOp_storeB sz48 rfl rfl rfl rfl rfl rfl rfl (by decide) (lb rfl) rfl ?_)
    refine TO_st (σ' := [.box [(sl tRelation db0.relations), (sl tFact db0.facts)], .box [(.m [3] 0 r_8.1.relations.length tRelation.k), (.m [4] 0 r_8.1.facts.length tFact.k)], .dead, .row (flat tRelation.own r_8.1.relations), .row (flat tFact.own r_8.1.facts), .dead, .dead, .dead, .box [(.m [3] 0 r_8.1.relations.length tRelation.k), (.m [4] 0 r_8.1.facts.length tFact.k)]]) rfl ?_
    refine TO_nil ?_
    refine T_ret ?_
    obtain rfl := some_inj H
    exact end_pick (.cellK rfl agg48 rfl (lb rfl) .nil) rfl [3, 4] (by decide) rfl rfl rfl rfl rfl rfl
theorem m_impl_withoutFacts_ok (db0 : Database) (indices1 : (List Int)) (r : Database) (H : m_impl_withoutFacts db0 indices1 = some r) : FnV prg 129 [(.g (tDatabase.enc db0)), (sl tInt indices1)] (.g (tDatabase.enc r)) := (m_impl_withoutFacts_own db0 indices1 r H).frz (frzOK_g (frz_cons (frzT (T := tRelation) rfl) (frz_cons (frzT (T := tFact) rfl) frz_nil)).1 (frz_cons (frzT (T := tRelation) rfl) (frz_cons (frzT (T := tFact) rfl) frz_nil)).2)

set_option maxHeartbeats 1000000 in
theorem m_impl_ResolveConflict_own (db0 : Database) (fact1 : Fact) (r : (Database × Bool)) (H : m_impl_ResolveConflict db0 fact1 = some r) : FnO prg 60 [(.g (tDatabase.enc db0)), (.g (tFact.enc fact1))] (.t [(.g [(.m [0] 0 r.1.relations.length tRelation.k), (.m [1] 0 r.1.facts.length tFact.k)]), (boolA r.2)]) [.row (flat tRelation.own r.1.relations), .row (flat tFact.own r.1.facts)] := by
  unfold m_impl_ResolveConflict at H
  refine fnO_of_T Try.func60 rfl rfl (Nat.le_of_ble_eq_true rfl) ?_
  refine te [(0, (.g (tDatabase.enc db0))), (1, (.g (tFact.enc fact1)))] rfl ?_
  refine sr ?_
  refine TO_cons rfl (TOp_box rfl (boxAll rfl) rfl rfl ?_)
  refine TO_cons rfl (TOp_box rfl (boxAll rfl) rfl rfl ?_)
  refine TO_cons rfl (TOp_alloc zero48 rfl rfl ?_)
  refine pv tb 1 rfl ?_
  refine TO_nil ?_
  refine T_seq ?_
  refine sr ?_
  obtain ⟨r_1, h_2, H⟩ := bind_inv H
  refine pv tb 2 rfl ?_
  refine TO_cons rfl (TOp_callV (call_static ent49 rfl) (m_impl_ContainsFact_ok _ _ _ h_2) rfl rfl rfl ?_)
  refine pv tb 1 rfl ?_
  refine TO_nil ?_
  refine T_cond (t := (!r_1)) rfl (fun c_3 => ?_) (fun c_3 => ?_)
  ·replace H := cond_t c_3 H
   refine sr ?_
   obtain ⟨r_4, h_5, H⟩ := bind_inv H
   refine pv tb 1 rfl ?_
   refine TO_cons rfl (TOp_callO (call_static ent107 rfl) rfl (m_impl_copyDatabase_own _ _ h_5) rfl rfl rfl ?_)
   refine toe [(2, (.b 0 0)), (3, (.b 1 0)), (4, (.b 2 0)), (10, (boolA (!r_1))), (11, (.g (tDatabase.enc db0))), (12, (.g [(.m [3] 0 r_4.relations.length tRelation.k), (.m [4] 0 r_4.facts.length tFact.k)]))] rfl ?_
   refine TO_st (σ' := [.box [(sl tRelation db0.relations), (sl tFact db0.facts)], .box [(intA fact1.relation), (sl tInt fact1.values)], .box [.n, .n], .row (flat tRelation.own r_4.relations), .row (flat tFact.own r_4.facts)]) rfl ?_
   refine TO_cons rfl (TOp_storeB sz48 rfl rfl rfl rfl rfl rfl rfl (by decide) (lb rfl) rfl ?_)
   refine TO_st (σ' := [.box [(sl tRelation db0.relations), (sl tFact db0.facts)], .box [(intA fact1.relation), (sl tInt fact1.values)], .box [(.m [3] 0 r_4.relations.length tRelation.k), (.m [4] 0 r_4.facts.length tFact.k)], .row (flat tRelation.own r_4.relations), .row (flat tFact.own r_4.facts)]) rfl ?_
   refine pv tb 1 rfl ?_
   refine TO_nil ?_
   refine T_ret ?_
   refine then_ret ?_
   obtain rfl := some_inj H
   exact end_pick (.cellK rfl agg48 rfl (lb rfl) (.tmp .nil)) rfl [3, 4] (by decide) rfl rfl rfl rfl rfl rfl
  ·replace H := cond_f c_3 H
   refine T_skip ?_
   refine sr ?_
   obtain ⟨r_6, h_7, H⟩ := bind_inv H
   refine pv tb 2 rfl ?_
   refine TO_cons rfl (TOp_callV (call_static ent106 rfl) (m_impl_FactIndex_ok _ _ _ h_7) rfl rfl rfl ?_)
   refine pv tb 1 rfl ?_
   refine TO_nil ?_
   obtain ⟨r_8, h_9, H⟩ := bind_inv H
   obtain ⟨r_10, h_11, H⟩ := bind_inv H
   obtain ⟨r_12, h_13, H⟩ := bind_inv H
   refine T_pad ?_
   refine T_pad ?_
   refine T_pad ?_
   refine T_pad ?_
   refine T_pad ?_
   refine T_cutX (fun (_ : Unit) => True) (fun _ => [(4, (.b 2 0)), (5, (boolA true))]) (fun _ => [.box [(sl tRelation db0.relations), (sl tFact db0.facts)], .box [(intA fact1.relation), (sl tInt fact1.values)], .box [(.m [3] 0 r_12.relations.length tRelation.k), (.m [4] 0 r_12.facts.length tFact.k)], .row (flat tRelation.own r_12.relations), .row (flat tFact.own r_12.facts)]) ?_ ?_
   ·skip
    refine T_regionPh 3 8 mixed rfl (by kernel_rfl) ?_
    refine TA_have 2 #[true, true, true, true, true, true, false, false] [(4, (.b 2 0)), (16, (.g (tDatabase.enc db0))), (19, (sl tInt r_8)), (21, (sl tInt ([r_6] : (List Int))))] [.dead, .dead, .dead, .dead, .dead, .dead, .dead, .dead] ?_ (fun hj0_4 => ?_)
    ·skip
     refine t1 6 (by kernel_rfl) rfl rfl (TOp_callV (call_static ent130 rfl) (m_impl_without_ok _ _ _ h_11) rfl rfl rfl ?_)
     refine t1 7 (by kernel_rfl) rfl rfl (TOp_callO (call_static ent129 rfl) rfl (m_impl_withoutFacts_own _ _ _ h_13) rfl rfl rfl ?_)
     refine tae [(4, (.b 2 0)), (16, (.g (tDatabase.enc db0))), (19, (sl tInt r_8)), (21, (sl tInt ([r_6] : (List Int)))), (22, (sl tInt r_10)), (23, (.g [(.m [8] 0 r_12.relations.length tRelation.k), (.m [9] 0 r_12.facts.length tFact.k)]))] rfl ?_
     refine TA_st (σ' := [.dead, .dead, .dead, .dead, .dead, .dead, .dead, .dead, .row (flat tRelation.own r_12.relations), .row (flat tFact.own r_12.facts)]) rfl ?_
     refine tmw 6 8 (by decide) (lb rfl) rfl rfl (lb rfl) rfl ?_
     refine tmw 7 9 (by decide) (lb rfl) rfl rfl (lb rfl) rfl ?_
     refine TA_nil (by kernel_rfl) ?_
     refine TA_st (σ' := [.box [(sl tRelation db0.relations), (sl tFact db0.facts)], .box [(intA fact1.relation), (sl tInt fact1.values)], .box [.n, .n], .dead, .dead, .dead, .row (flat tRelation.own r_12.relations), .row (flat tFact.own r_12.facts), .dead, .dead]) rfl ?_
     refine t1 8 (by kernel_rfl) rfl rfl (TOp_storeB sz48 rfl rfl rfl rfl rfl rfl rfl (by decide) (lb rfl) rfl ?_)
     refine TA_st (σ' := [.box [(sl tRelation db0.relations), (sl tFact db0.facts)], .box [(intA fact1.relation), (sl tInt fact1.values)], .box [(.m [6] 0 r_12.relations.length tRelation.k), (.m [7] 0 r_12.facts.length tFact.k)], .dead, .dead, .dead, .row (flat tRelation.own r_12.relations), .row (flat tFact.own r_12.facts), .dead, .dead]) rfl ?_
     refine pa tb [9] 0 rfl (by kernel_rfl) rfl ?_
     refine TA_ghost (E' := [(4, (.b 2 0)), (5, (boolA true))]) (σ' := [.box [(sl tRelation db0.relations), (sl tFact db0.facts)], .box [(intA fact1.relation), (sl tInt fact1.values)], .box [(.m [3] 0 r_12.relations.length tRelation.k), (.m [7] 0 r_12.facts.length tFact.k)], .row (flat tRelation.own r_12.relations), .dead, .dead, .dead, .row (flat tFact.own r_12.facts), .dead, .dead]) (Ghost.move 3 6 (by decide) (lb rfl) rfl rfl (lb rfl) (Ghost.weak (WeakL.to 10 (lb rfl) rfl rfl rfl rfl ⟨leR rfl, leR rfl, trivial⟩))) ?_
     refine TA_ghost (E' := [(4, (.b 2 0)), (5, (boolA true))]) (σ' := [.box [(sl tRelation db0.relations), (sl tFact db0.facts)], .box [(intA fact1.relation), (sl tInt fact1.values)], .box [(.m [3] 0 r_12.relations.length tRelation.k), (.m [4] 0 r_12.facts.length tFact.k)], .row (flat tRelation.own r_12.relations), .row (flat tFact.own r_12.facts), .dead, .dead, .dead, .dead, .dead]) (Ghost.move 4 7 (by decide) (lb rfl) rfl rfl (lb rfl) (Ghost.weak (WeakL.to 10 (lb rfl) rfl rfl rfl rfl ⟨leR rfl, leR rfl, trivial⟩))) ?_
     exact TA_nil (by kernel_rfl) (joined () (w0 5) trivial)
    refine pa tb [0, 1, 2, 4] 4 rfl (by kernel_rfl) rfl ?_
    refine TA_all [3, 5] (by kernel_rfl) (by decide) ⟨?_, ?_, trivial⟩
    ·skip
     refine ⟨_, rfl, rfl, (TOp_callV (call_static ent105 rfl) (m_impl_BlockOf_ok _ _ _ h_9) rfl rfl rfl ?_)⟩
     refine t1 5 (by kernel_rfl) rfl rfl (TOp_lit (nn := 1) (k := 1) sl23 zero3 rfl rfl rfl rfl (by decide) ?_)
     refine tmw 5 8 (by decide) (lb rfl) rfl rfl (lb rfl) rfl ?_
     refine TA_ghost (E' := [(2, (.b 0 0)), (4, (.b 2 0)), (6, (intA r_6)), (16, (.g (tDatabase.enc db0))), (17, (.g (tDatabase.enc db0))), (18, (intA r_6)), (19, (sl tInt r_8)), (20, (intA r_6)), (21, (.m [5] 0 ([r_6] : (List Int)).length tInt.k))]) (σ' := [.dead, .dead, .dead, .dead, .dead, .row (flat tInt.enc ([r_6] : (List Int))), .dead, .dead, .dead]) (Ghost.weak (WeakL.to 9 (lb rfl) rfl rfl rfl rfl ⟨leR rfl, leR rfl, leR rfl, leR rfl, leR rfl, leR rfl, leR rfl, leR rfl, leR rfl, trivial⟩)) ?_
     refine TA_frz1 5 (E' := [(2, (.b 0 0)), (4, (.b 2 0)), (6, (intA r_6)), (16, (.g (tDatabase.enc db0))), (17, (.g (tDatabase.enc db0))), (18, (intA r_6)), (19, (sl tInt r_8)), (20, (intA r_6)), (21, (sl tInt ([r_6] : (List Int))))]) rfl rfl (lb rfl) ⟨(.keep rfl), (.keep rfl), (.keep rfl), (.keep rfl), (.keep rfl), (.keep rfl), (.keep rfl), (.keep rfl), fz1E, trivial⟩ ?_
     refine TA_st (σ' := [.dead, .dead, .dead, .dead, .dead, .dead, .dead, .dead, .dead]) rfl ?_
     exact tj hj0_4 rfl (w0 8)
    ·skip
     refine ⟨_, rfl, rfl, (TOp_lit (nn := 1) (k := 1) sl23 zero3 rfl rfl rfl rfl (by decide) ?_)⟩
     refine tmw 5 8 (by decide) (lb rfl) rfl rfl (lb rfl) rfl ?_
     refine t1 3 (by kernel_rfl) rfl rfl (TOp_callV (call_static ent105 rfl) (m_impl_BlockOf_ok _ _ _ h_9) rfl rfl rfl ?_)
     refine TA_ghost (E' := [(2, (.b 0 0)), (4, (.b 2 0)), (6, (intA r_6)), (16, (.g (tDatabase.enc db0))), (17, (.g (tDatabase.enc db0))), (18, (intA r_6)), (19, (sl tInt r_8)), (20, (intA r_6)), (21, (.m [5] 0 ([r_6] : (List Int)).length tInt.k))]) (σ' := [.dead, .dead, .dead, .dead, .dead, .row (flat tInt.enc ([r_6] : (List Int))), .dead, .dead, .dead]) (Ghost.weak (WeakL.to 9 (lb rfl) rfl rfl rfl rfl ⟨leR rfl, leR rfl, leR rfl, leR rfl, leR rfl, leR rfl, leR rfl, leR rfl, leR rfl, trivial⟩)) ?_
     refine TA_frz1 5 (E' := [(2, (.b 0 0)), (4, (.b 2 0)), (6, (intA r_6)), (16, (.g (tDatabase.enc db0))), (17, (.g (tDatabase.enc db0))), (18, (intA r_6)), (19, (sl tInt r_8)), (20, (intA r_6)), (21, (sl tInt ([r_6] : (List Int))))]) rfl rfl (lb rfl) ⟨(.keep rfl), (.keep rfl), (.keep rfl), (.keep rfl), (.keep rfl), (.keep rfl), (.keep rfl), (.keep rfl), fz1E, trivial⟩ ?_
     refine TA_st (σ' := [.dead, .dead, .dead, .dead, .dead, .dead, .dead, .dead, .dead]) rfl ?_
     exact tj hj0_4 rfl (w0 8)
   ·rintro _ _
    refine T_ret ?_
    obtain rfl := some_inj H
    exact end_pick (.cellK rfl agg48 rfl (lb rfl) (.tmp .nil)) rfl [3, 4] (by decide) rfl rfl rfl rfl rfl rfl
theorem m_impl_ResolveConflict_ok (db0 : Database) (fact1 : Fact) (r : (Database × Bool)) (H : m_impl_ResolveConflict db0 fact1 = some r) : FnV prg 60 [(.g (tDatabase.enc db0)), (.g (tFact.enc fact1))] (.t [(.g (tDatabase.enc r.1)), (boolA r.2)]) := (m_impl_ResolveConflict_own db0 fact1 r H).frz (frzOK_t (frz_cons (frzOK_g (frz_cons (frzT (T := tRelation) rfl) (frz_cons (frzT (T := tFact) rfl) frz_nil)).1 (frz_cons (frzT (T := tRelation) rfl) (frz_cons (frzT (T := tFact) rfl) frz_nil)).2) (frz_cons (frz_loose rfl) frz_nil)).1 (frz_cons (frzOK_g (frz_cons (frzT (T := tRelation) rfl) (frz_cons (frzT (T := tFact) rfl) frz_nil)).1 (frz_cons (frzT (T := tRelation) rfl) (frz_cons (frzT (T := tFact) rfl) frz_nil)).2) (frz_cons (frz_loose rfl) frz_nil)).2)

set_option maxHeartbeats 1000000 in
theorem m_slices_Delete_Simpl_Fact_impl_Fact_x (s0 : List Fact) (i1 j2 : Int) (r : List Fact) (H : m_slices_Delete_Simpl_Fact_impl_Fact s0 i1 j2 = some r) : FnS prg 160 [(.m [0] 0 s0.length tFact.k), (intA i1), (intA j2)] [.row (flat tFact.enc s0)] (.m [0] 0 r.length tFact.k) [.row (flat tFact.enc r)] := by
  unfold m_slices_Delete_Simpl_Fact_impl_Fact at H
  obtain ⟨i, j, rfl, rfl, h1, h2, rfl⟩ := cutOut_inv H
  refine fnS_of_T Try.func160 rfl rfl (lb rfl) ?_
  refine te [(0, (.m [0] 0 s0.length tFact.k)), (1, (intA (i : Int))), (2, (intA (j : Int)))] rfl ?_
  refine sr ?_
  refine Tp rfl rfl (pur_assign rfl) rfl ?_
  refine TO_nil ?_
  refine te [(0, (.m [0] 0 s0.length tFact.k)), (1, (intA (i : Int))), (2, (intA (j : Int)))] rfl ?_
  refine sr ?_
  refine Tp rfl rfl (pur_move rfl) rfl ?_
  refine Tp rfl rfl (pur_move rfl) rfl ?_
  refine Tp rfl rfl (pur_move rfl) rfl ?_
  refine Tp rfl rfl (pur_move rfl) rfl ?_
  refine Tp rfl rfl (pur_len_m sl46 rfl rfl) rfl ?_
  refine Tp rfl rfl (pur_cut3J (i := i) (j := j) (q := s0.length) sl46 rfl rfl rfl rfl h1 h2 (Nat.le_refl _) rfl) rfl ?_
  refine TO_nil ?_
  refine te [(0, (.m [0] 0 s0.length tFact.k)), (1, (intA (i : Int))), (2, (intA (j : Int)))] rfl ?_
  refine T_seq ?_
  refine sr ?_
  refine Tp rfl rfl (pur_move rfl) rfl ?_
  refine Tp rfl rfl (pur_move rfl) rfl ?_
  refine Tp rfl rfl (pur_eql rfl rfl rfl) rfl ?_
  refine TO_nil ?_
  refine te [(0, (.m [0] 0 s0.length tFact.k)), (1, (intA (i : Int))), (2, (intA (j : Int))), (16, (boolA (decide ((i : Int) = (j : Int)))))] rfl ?_
  refine T_cond (t := decide ((i : Int) = (j : Int))) rfl (fun c => ?_) (fun c => ?_)
  ·have e : i = j := by have := of_decide_eq_true c; omega
   subst e
   refine sr ?_
   refine Tp rfl rfl (pur_move rfl) rfl ?_
   refine Tp rfl rfl (pur_assign rfl) rfl ?_
   refine TO_nil ?_
   refine te [(6, (.m [0] 0 s0.length tFact.k))] rfl ?_
   refine T_ret ?_
   refine then_ret ?_
   rw [List.take_append_drop]
   exact end_pickX (.tmp .nil) rfl [0] (by decide) (lb rfl) rfl (lb rfl) rfl rfl rfl rfl rfl rfl
  ·have hij : i < j := by have := of_decide_eq_false c; omega
   refine T_skip ?_
   refine te [(0, (.m [0] 0 s0.length tFact.k)), (1, (intA (i : Int))), (2, (intA (j : Int)))] rfl ?_
   refine sr ?_
   refine Tp rfl rfl (pur_move rfl) rfl ?_
   refine Tp rfl rfl (pur_len_m sl46 rfl rfl) rfl ?_
   refine Tp rfl rfl (pur_assign rfl) rfl ?_
   refine TO_nil ?_
   refine te [(0, (.m [0] 0 s0.length tFact.k)), (1, (intA (i : Int))), (2, (intA (j : Int))), (7, (intA (s0.length : Int)))] rfl ?_
   refine T_del (Y := tFact) (i := i) (j := j) (l := 0) sl46 zero65 rfl mixed ⟨rfl, rfl, rfl⟩ ⟨rfl, rfl, rfl⟩ ⟨rfl, rfl, rfl⟩ ⟨rfl, rfl, rfl⟩ ⟨rfl, rfl, rfl⟩ ⟨rfl, rfl, rfl⟩ ⟨rfl, rfl, rfl⟩ ⟨rfl, rfl, rfl⟩
    (c := fun q => #[decide (0 < q), decide (1 < q), decide (2 < q), decide (3 < q), decide (4 < q), decide (5 < q), decide (6 < q), decide (7 < q)]) (by decide) (by decide)
    (fun q h1 h2 => match q, h1, h2 with | 0, _, _ => (by kernel_rfl) | 1, _, _ => (by kernel_rfl) | 2, _, _ => (by kernel_rfl) | 3, _, _ => (by kernel_rfl) | 4, _, _ => (by kernel_rfl) | 5, _, _ => (by kernel_rfl) | 6, _, h => absurd rfl h | 7, _, _ => (by kernel_rfl) | _ + 8, h, _ => absurd h (by omega))
    (by kernel_rfl) (by kernel_rfl) ⟨rfl, rfl, rfl⟩ ⟨rfl, rfl, rfl⟩ ⟨rfl, rfl, rfl⟩ ⟨rfl, rfl, rfl⟩ ⟨rfl, rfl, rfl⟩ ⟨rfl, rfl, rfl⟩ (by decide) hij h2 rfl rfl rfl rfl rfl ?_
   refine sr ?_
   refine Tp rfl rfl (pur_move rfl) rfl ?_
   refine Tp rfl rfl (pur_assign rfl) rfl ?_
   refine TO_nil ?_
   refine te [(6, (.m [0] 0 (s0.take i ++ s0.drop j).length tFact.k))] rfl ?_
   refine T_ret ?_
   exact end_pickX (.tmp .nil) rfl [0] (by decide) (lb rfl) rfl (lb rfl) rfl rfl rfl rfl rfl rfl


set_option maxHeartbeats 1000000 in
theorem m_slices_Delete_Simpl_Fact_impl_Fact_xo (s0 : List Fact) (i1 j2 : Int) (r : List Fact) (H : m_slices_Delete_Simpl_Fact_impl_Fact s0 i1 j2 = some r) : FnS prg 160 [(.m [0] 0 s0.length tFact.k), (intA i1), (intA j2)] [.row (flat tFact.own s0)] (.m [1] 0 r.length tFact.k) [.dead, .row (flat tFact.own r)] := by
  unfold m_slices_Delete_Simpl_Fact_impl_Fact at H
  obtain ⟨i, j, rfl, rfl, h1, h2, rfl⟩ := cutOut_inv H
  refine fnS_of_T Try.func160 rfl rfl (lb rfl) ?_
  refine te [(0, (.m [0] 0 s0.length tFact.k)), (1, (intA (i : Int))), (2, (intA (j : Int)))] rfl ?_
  refine sr ?_
  refine Tp rfl rfl (pur_assign rfl) rfl ?_
  refine TO_nil ?_
  refine te [(0, (.m [0] 0 s0.length tFact.k)), (1, (intA (i : Int))), (2, (intA (j : Int)))] rfl ?_
  refine sr ?_
  refine Tp rfl rfl (pur_move rfl) rfl ?_
  refine Tp rfl rfl (pur_move rfl) rfl ?_
  refine Tp rfl rfl (pur_move rfl) rfl ?_
  refine Tp rfl rfl (pur_move rfl) rfl ?_
  refine Tp rfl rfl (pur_len_m sl46 rfl rfl) rfl ?_
  refine Tp rfl rfl (pur_cut3J (i := i) (j := j) (q := s0.length) sl46 rfl rfl rfl rfl h1 h2 (Nat.le_refl _) rfl) rfl ?_
  refine TO_nil ?_
  refine te [(0, (.m [0] 0 s0.length tFact.k)), (1, (intA (i : Int))), (2, (intA (j : Int)))] rfl ?_
  refine T_seq ?_
  refine sr ?_
  refine Tp rfl rfl (pur_move rfl) rfl ?_
  refine Tp rfl rfl (pur_move rfl) rfl ?_
  refine Tp rfl rfl (pur_eql rfl rfl rfl) rfl ?_
  refine TO_nil ?_
  refine te [(0, (.m [0] 0 s0.length tFact.k)), (1, (intA (i : Int))), (2, (intA (j : Int))), (16, (boolA (decide ((i : Int) = (j : Int)))))] rfl ?_
  refine T_cond (t := decide ((i : Int) = (j : Int))) rfl (fun c => ?_) (fun c => ?_)
  ·have e : i = j := by have := of_decide_eq_true c; omega
   subst e
   refine T_pad ?_
   refine T_move' 1 0 (by decide) (lb rfl) rfl rfl (lb rfl) ?_
   refine te [(0, (.m [1] 0 s0.length tFact.k))] rfl ?_
   refine T_st (σ' := [.dead, .row (flat tFact.own s0)]) rfl ?_
   refine sr ?_
   refine Tp rfl rfl (pur_move rfl) rfl ?_
   refine Tp rfl rfl (pur_assign rfl) rfl ?_
   refine TO_nil ?_
   refine te [(6, (.m [1] 0 s0.length tFact.k))] rfl ?_
   refine T_ret ?_
   refine then_ret ?_
   rw [List.take_append_drop]
   exact end_pickX (.tmp .nil) rfl [0, 1] (by decide) (lb rfl) rfl (lb rfl) rfl rfl rfl rfl rfl rfl
  ·have hij : i < j := by have := of_decide_eq_false c; omega
   refine T_skip ?_
   refine te [(0, (.m [0] 0 s0.length tFact.k)), (1, (intA (i : Int))), (2, (intA (j : Int)))] rfl ?_
   refine sr ?_
   refine Tp rfl rfl (pur_move rfl) rfl ?_
   refine Tp rfl rfl (pur_len_m sl46 rfl rfl) rfl ?_
   refine Tp rfl rfl (pur_assign rfl) rfl ?_
   refine TO_nil ?_
   refine te [(0, (.m [0] 0 s0.length tFact.k)), (1, (intA (i : Int))), (2, (intA (j : Int))), (7, (intA (s0.length : Int)))] rfl ?_
   refine T_delO (Y := tFact) (i := i) (j := j) (l := 0) sl46 zero65 rfl mixed ⟨rfl, rfl, rfl⟩ ⟨rfl, rfl, rfl⟩ ⟨rfl, rfl, rfl⟩ ⟨rfl, rfl, rfl⟩ ⟨rfl, rfl, rfl⟩ ⟨rfl, rfl, rfl⟩ ⟨rfl, rfl, rfl⟩ ⟨rfl, rfl, rfl⟩
    (c := fun q => #[decide (0 < q), decide (1 < q), decide (2 < q), decide (3 < q), decide (4 < q), decide (5 < q), decide (6 < q), decide (7 < q)]) (by decide) (by decide)
    (fun q h1 h2 => match q, h1, h2 with | 0, _, _ => (by kernel_rfl) | 1, _, _ => (by kernel_rfl) | 2, _, _ => (by kernel_rfl) | 3, _, _ => (by kernel_rfl) | 4, _, _ => (by kernel_rfl) | 5, _, _ => (by kernel_rfl) | 6, _, h => absurd rfl h | 7, _, _ => (by kernel_rfl) | _ + 8, h, _ => absurd h (by omega))
    (by kernel_rfl) (by kernel_rfl) ⟨rfl, rfl, rfl⟩ ⟨rfl, rfl, rfl⟩ ⟨rfl, rfl, rfl⟩ ⟨rfl, rfl, rfl⟩ ⟨rfl, rfl, rfl⟩ ⟨rfl, rfl, rfl⟩ (by decide) hij h2 rfl rfl rfl rfl rfl ?_
   refine sr ?_
   refine Tp rfl rfl (pur_move rfl) rfl ?_
   refine Tp rfl rfl (pur_assign rfl) rfl ?_
   refine TO_nil ?_
   refine te [(6, (.m [1] 0 (s0.take i ++ s0.drop j).length tFact.k))] rfl ?_
   refine T_ret ?_
   exact end_pickX (.tmp .nil) rfl [0, 1] (by decide) (lb rfl) rfl (lb rfl) rfl rfl rfl rfl rfl rfl


set_option maxHeartbeats 1000000 in
theorem m_impl_DeleteFact_own (db0 : Database) (fact1 : Fact) (r : (Database × Bool)) (H : m_impl_DeleteFact db0 fact1 = some r) : FnO prg 108 [(.g (tDatabase.enc db0)), (.g (tFact.enc fact1))] (.t [(.g [(.m [0] 0 r.1.relations.length tRelation.k), (.m [1] 0 r.1.facts.length tFact.k)]), (boolA r.2)]) [.row (flat tRelation.own r.1.relations), .row (flat tFact.own r.1.facts)] := by
  unfold m_impl_DeleteFact at H
  refine fnO_of_T Try.func108 rfl rfl (Nat.le_of_ble_eq_true rfl) ?_
  refine te [(0, (.g (tDatabase.enc db0))), (1, (.g (tFact.enc fact1)))] rfl ?_
  refine sr ?_
  refine TO_cons rfl (TOp_box rfl (boxAll rfl) rfl rfl ?_)
  refine TO_cons rfl (TOp_box rfl (boxAll rfl) rfl rfl ?_)
  refine TO_cons rfl (TOp_alloc zero48 rfl rfl ?_)
  refine pv tb 1 rfl ?_
  refine TO_nil ?_
  refine sr ?_
  obtain ⟨r_1, h_2, H⟩ := bind_inv H
  refine pv tb 1 rfl ?_
  refine TO_cons rfl (TOp_callO (call_static ent107 rfl) rfl (m_impl_copyDatabase_own _ _ h_2) rfl rfl rfl ?_)
  refine toe [(2, (.b 0 0)), (3, (.b 1 0)), (4, (.b 2 0)), (8, (.g (tDatabase.enc db0))), (9, (.g [(.m [3] 0 r_1.relations.length tRelation.k), (.m [4] 0 r_1.facts.length tFact.k)]))] rfl ?_
  refine TO_st (σ' := [.box [(sl tRelation db0.relations), (sl tFact db0.facts)], .box [(intA fact1.relation), (sl tInt fact1.values)], .box [.n, .n], .row (flat tRelation.own r_1.relations), .row (flat tFact.own r_1.facts)]) rfl ?_
  refine TO_cons rfl (TOp_alloc zero48 rfl rfl ?_)
  refine TO_cons rfl (TOp_storeB sz48 rfl rfl rfl rfl rfl rfl rfl (by decide) (lb rfl) rfl ?_)
  refine TO_st (σ' := [.box [(sl tRelation db0.relations), (sl tFact db0.facts)], .box [(intA fact1.relation), (sl tInt fact1.values)], .box [.n, .n], .row (flat tRelation.own r_1.relations), .row (flat tFact.own r_1.facts), .box [(.m [3] 0 r_1.relations.length tRelation.k), (.m [4] 0 r_1.facts.length tFact.k)]]) rfl ?_
  refine TO_nil ?_
  refine T_seq ?_
  refine sr ?_
  obtain ⟨r_3, h_4, H⟩ := bind_inv H
  refine pv tb 2 rfl ?_
  refine TO_cons rfl (TOp_callV (call_static ent49 rfl) (m_impl_ContainsFact_ok _ _ _ h_4) rfl rfl rfl ?_)
  refine pv tb 1 rfl ?_
  refine TO_nil ?_
  refine T_cond (t := (!r_3)) rfl (fun c_5 => ?_) (fun c_5 => ?_)
  ·replace H := cond_t c_5 H
   refine sr ?_
   refine pv tb 1 rfl ?_
   refine TO_cons rfl (TOp_storeB sz48 rfl rfl rfl rfl rfl rfl rfl (by decide) (lb rfl) rfl ?_)
   refine TO_st (σ' := [.box [(sl tRelation db0.relations), (sl tFact db0.facts)], .box [(intA fact1.relation), (sl tInt fact1.values)], .box [(.m [3] 0 r_1.relations.length tRelation.k), (.m [4] 0 r_1.facts.length tFact.k)], .row (flat tRelation.own r_1.relations), .row (flat tFact.own r_1.facts), .box [(.m [3] 0 r_1.relations.length tRelation.k), (.m [4] 0 r_1.facts.length tFact.k)]]) rfl ?_
   refine pv tb 1 rfl ?_
   refine TO_nil ?_
   refine T_ret ?_
   refine then_ret ?_
   obtain rfl := some_inj H
   exact end_pick (.cellK rfl agg48 rfl (lb rfl) (.tmp .nil)) rfl [3, 4] (by decide) rfl rfl rfl rfl rfl rfl
  ·replace H := cond_f c_5 H
   refine T_skip ?_
   refine sr ?_
   obtain ⟨r_6, h_7, H⟩ := bind_inv H
   refine pv tb 2 rfl ?_
   refine TO_cons rfl (TOp_callV (call_static ent106 rfl) (m_impl_FactIndex_ok _ _ _ h_7) rfl rfl rfl ?_)
   refine pv tb 1 rfl ?_
   refine TO_nil ?_
   refine sr ?_
   obtain ⟨r_8, h_9, H⟩ := bind_inv H
   refine pv tb 5 rfl ?_
   refine TO_cons rfl (TOp_callS [4] (call_static ent160 rfl) (by decide) rfl rfl rfl rfl rfl rfl (m_slices_Delete_Simpl_Fact_impl_Fact_xo _ _ _ _ h_9) rfl rfl ?_)
   refine toe [(4, (.b 2 0)), (6, (.b 5 0)), (7, (intA r_6)), (18, (.b 5 1)), (20, (intA r_6)), (21, (intA r_6)), (22, (intA (w64 (r_6 + 1)))), (23, (.m [6] 0 r_8.length tFact.k))] rfl ?_
   refine TO_st (σ' := [.box [(sl tRelation db0.relations), (sl tFact db0.facts)], .box [(intA fact1.relation), (sl tInt fact1.values)], .box [.n, .n], .row (flat tRelation.own r_1.relations), .dead, .box [(.m [3] 0 r_1.relations.length tRelation.k), (.m [4] 0 r_1.facts.length tFact.k)], .row (flat tFact.own r_8)]) rfl ?_
   refine pv tb 1 rfl ?_
   refine TO_cons rfl (TOp_storeB sz46 rfl rfl rfl rfl rfl rfl rfl (by decide) (lb rfl) rfl ?_)
   refine TO_st (σ' := [.box [(sl tRelation db0.relations), (sl tFact db0.facts)], .box [(intA fact1.relation), (sl tInt fact1.values)], .box [.n, .n], .row (flat tRelation.own r_1.relations), .dead, .box [(.m [3] 0 r_1.relations.length tRelation.k), (.m [6] 0 r_8.length tFact.k)], .row (flat tFact.own r_8)]) rfl ?_
   refine TO_nil ?_
   refine sr ?_
   refine pv tb 1 rfl ?_
   refine TO_cons rfl (TOp_storeB sz48 rfl rfl rfl rfl rfl rfl rfl (by decide) (lb rfl) rfl ?_)
   refine TO_st (σ' := [.box [(sl tRelation db0.relations), (sl tFact db0.facts)], .box [(intA fact1.relation), (sl tInt fact1.values)], .box [(.m [3] 0 r_1.relations.length tRelation.k), (.m [6] 0 r_8.length tFact.k)], .row (flat tRelation.own r_1.relations), .dead, .box [(.m [3] 0 r_1.relations.length tRelation.k), (.m [6] 0 r_8.length tFact.k)], .row (flat tFact.own r_8)]) rfl ?_
   refine pv tb 1 rfl ?_
   refine TO_nil ?_
   refine T_ret ?_
   obtain rfl := some_inj H
   exact end_pick (.cellK rfl agg48 rfl (lb rfl) (.tmp .nil)) rfl [3, 6] (by decide) rfl rfl rfl rfl rfl rfl
theorem m_impl_DeleteFact_ok (db0 : Database) (fact1 : Fact) (r : (Database × Bool)) (H : m_impl_DeleteFact db0 fact1 = some r) : FnV prg 108 [(.g (tDatabase.enc db0)), (.g (tFact.enc fact1))] (.t [(.g (tDatabase.enc r.1)), (boolA r.2)]) := (m_impl_DeleteFact_own db0 fact1 r H).frz (frzOK_t (frz_cons (frzOK_g (frz_cons (frzT (T := tRelation) rfl) (frz_cons (frzT (T := tFact) rfl) frz_nil)).1 (frz_cons (frzT (T := tRelation) rfl) (frz_cons (frzT (T := tFact) rfl) frz_nil)).2) (frz_cons (frz_loose rfl) frz_nil)).1 (frz_cons (frzOK_g (frz_cons (frzT (T := tRelation) rfl) (frz_cons (frzT (T := tFact) rfl) frz_nil)).1 (frz_cons (frzT (T := tRelation) rfl) (frz_cons (frzT (T := tFact) rfl) frz_nil)).2) (frz_cons (frz_loose rfl) frz_nil)).2)
end Go.Proofs.Ytjdpolnakhmkmaa

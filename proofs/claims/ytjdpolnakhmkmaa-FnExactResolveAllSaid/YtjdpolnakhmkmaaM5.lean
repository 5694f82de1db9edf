/- Walks. -/
import Derived.Test.YtjdpolnakhmkmaaM1
import Derived.Test.YtjdpolnakhmkmaaM2
import Derived.Test.YtjdpolnakhmkmaaM4
set_option linter.unusedVariables false
set_option linter.unusedSimpArgs false
set_option maxRecDepth 4000
namespace Go.Proofs.Ytjdpolnakhmkmaa
open Go Go.Proofs Go.Sep
set_option maxHeartbeats 1000000 in
/-- spec.SelectFacts -/
theorem m_spec_SelectFacts_ok (u : Nat) (d0 : Database) (l1 : (List Int)) (r : (Database × Bool)) (H : m_spec_SelectFacts u d0 l1 = some r) : FnV prg 128 [(.g (tDatabase.enc d0)), (sl tInt l1)] (.t [(.g (tDatabase.enc r.1)), (boolA r.2)]) := by
  unfold m_spec_SelectFacts at H
  refine fnV_of_T Try.func128 rfl rfl (Nat.le_of_ble_eq_true rfl) ?_
  refine te [(0, (.g (tDatabase.enc d0))), (1, (sl tInt l1))] rfl ?_
  refine sr ?_
  refine TO_cons rfl (TOp_box rfl (boxAll rfl) rfl rfl ?_)
  refine TO_cons rfl (TOp_alloc zero48 rfl rfl ?_)
  refine pv tb 1 rfl ?_
  refine TO_nil ?_
  refine T_seq ?_
  obtain ⟨t17_1, J_1, H_2⟩ := bind_inv H
  refine T_cutX (fun x => t17_1 = x) (fun (t17_1 : Bool) => [(1, (sl tInt l1)), (2, (.b 0 0)), (4, (.b 1 0)), (17, (boolA t17_1))]) (fun (t17_1 : Bool) => [.box [(sl tRelation d0.relations), (sl tFact d0.facts)], .box [.n, .n]]) ?_ ?_
  ·replace H := J_1
   refine T_region ?_
   obtain ⟨r_3, h_4, H⟩ := bind_inv H
   refine pv tb 1 rfl ?_
   refine TO_cons rfl (TOp_callV (call_static ent53 rfl) (m_spec_IsValidDatabase_ok u _ _ h_4) rfl rfl rfl ?_)
   refine pv tb 2 rfl ?_
   refine TO_split (t := (!r_3)) 12 rfl (fun g_5 => ?_) (fun g_5 => ?_)
   ·replace H := cond_t g_5 H
    refine pv tb 5 rfl ?_
    refine TO_nil ?_
    exact joined true (w0 2) (some_inj H).symm
   ·replace H := cond_f g_5 H
    obtain ⟨r_6, h_7, H⟩ := bind_inv H
    refine pv tb 2 rfl ?_
    refine TO_on rfl rfl (by decide) rfl rfl (TOp_callV (call_static ent171 rfl) (m_spec_l4Set_ok _ _ _ h_7) rfl rfl rfl ?_)
    refine pv tb 2 rfl ?_
    refine TO_nil ?_
    exact joined (!r_6) (w0 2) (some_inj H).symm
  ·rintro _ rfl
   replace H := H_2
   refine T_cond (t := t17_1) rfl (fun c_8 => ?_) (fun c_8 => ?_)
   ·replace H := cond_t c_8 H
    refine sr ?_
    refine Tp rfl rfl (pur_build bld48 rfl rfl) rfl ?_
    refine TO_cons rfl (TOp_storeB sz48 rfl rfl rfl rfl rfl rfl rfl (by decide) (lb rfl) rfl ?_)
    refine TO_st (σ' := [.box [(sl tRelation d0.relations), (sl tFact d0.facts)], .box [.n, .n]]) rfl ?_
    refine pv tb 1 rfl ?_
    refine TO_nil ?_
    refine T_boxle (xs := [.n, .n]) (ys := [(sl tRelation []), (sl tFact [])]) 1 rfl (leCons leN (leCons leN leNil)) ?_
    refine T_st (σ' := [.box [(sl tRelation d0.relations), (sl tFact d0.facts)], .box [(sl tRelation []), (sl tFact [])]]) rfl ?_
    refine T_ret ?_
    refine then_ret ?_
    obtain rfl := some_inj H
    refine end_ret (.cellK rfl agg48 rfl (lb rfl) (.tmp .nil)) rfl rfl ⟨?_, rfl⟩
    rfl
   ·replace H := cond_f c_8 H
    refine T_skip ?_
    refine sr ?_
    refine TO_cons rfl (TOp_lit (nn := 0) (k := 3) sl45 zero130 rfl rfl rfl rfl (by decide) ?_)
    refine TO_st (σ' := [.box [(sl tRelation d0.relations), (sl tFact d0.facts)], .box [.n, .n], .row (flat tRelation.enc ([] : (List Relation)))]) rfl ?_
    obtain ⟨us_9, h_10, H⟩ := bind_inv H
    refine pv tb 2 rfl ?_
    refine TO_cons rfl (TOp_appZ (T := tRelation) (f := tRelation.enc) (xs := ([] : (List Relation))) (ys := d0.relations) tRelation.len sl45 zero130 rfl bytes130 (by decide) rfl rfl rfl rfl (src_T (T := tRelation) rfl) (flat_cell tRelation _) h_10 (lb rfl) ?_)
    refine toe [(1, (sl tInt l1)), (2, (.b 0 0)), (4, (.b 1 0)), (20, (.b 0 0)), (21, (sl tRelation d0.relations)), (22, (.m [2] 0 us_9.length tRelation.k))] rfl ?_
    refine TO_st (σ' := [.box [(sl tRelation d0.relations), (sl tFact d0.facts)], .box [.n, .n], .row (flat tRelation.enc us_9), .dead]) rfl ?_
    refine Tp rfl rfl (pur_build bld48 rfl rfl) rfl ?_
    refine TO_cons rfl (TOp_alloc zero48 rfl rfl ?_)
    refine TO_cons rfl (TOp_storeB sz48 rfl rfl rfl rfl rfl rfl rfl (by decide) (lb rfl) rfl ?_)
    refine TO_st (σ' := [.box [(sl tRelation d0.relations), (sl tFact d0.facts)], .box [.n, .n], .row (flat tRelation.enc us_9), .dead, .box [(.m [2] 0 us_9.length tRelation.k), .n]]) rfl ?_
    refine TO_nil ?_
    refine T_seq ?_
    refine sr ?_
    refine pv tb 1 rfl ?_
    refine TO_nil ?_
    refine T_row0 ?_
    refine T_boxle (xs := [(.m [2] 0 us_9.length tRelation.k), .n]) (ys := [(.m [2] 0 us_9.length tRelation.k), (.m [5] 0 ([] : (List Fact)).length tFact.k)]) 4 rfl (leCons (leR rfl) (leCons leM leNil)) ?_
    refine T_st (σ' := [.box [(sl tRelation d0.relations), (sl tFact d0.facts)], .box [.n, .n], .row (flat tRelation.enc us_9), .dead, .box [(.m [2] 0 us_9.length tRelation.k), (.m [5] 0 ([] : (List Fact)).length tFact.k)], .row (flat tFact.own ([] : (List Fact)))]) rfl ?_
    obtain ⟨O12_, L12_, N12_⟩ := bind_inv H
    clear H
    obtain ⟨B12_, hb12, L12_⟩ := gen_forS L12_
    refine T_block ?_
    refine T_loopX (fun k => fun (⟨i_11, box4_facts⟩ : Nat × (List Fact)) => k = l1.length - i_11 ∧ forS B12_ (l1.drop i_11) (i_11 : Int) box4_facts = some O12_) (fun (⟨i_11, box4_facts⟩ : Nat × (List Fact)) => [(1, (sl tInt l1)), (2, (.b 0 0)), (4, (.b 1 0)), (6, (.b 4 0)), (7, (intA (i_11 : Int)))]) (fun (⟨i_11, box4_facts⟩ : Nat × (List Fact)) => [.box [(sl tRelation d0.relations), (sl tFact d0.facts)], .box [.n, .n], .row (flat tRelation.enc us_9), .dead, .box [(.m [2] 0 us_9.length tRelation.k), (.m [5] 0 box4_facts.length tFact.k)], .row (flat tFact.own box4_facts)]) _ (0, ([] : (List Fact))) (w0 6) ⟨rfl, L12_⟩ ?_
    rintro _ ⟨i_11, box4_facts⟩ ⟨rfl, L12_⟩
    refine T_fact (len_sl (T := tInt) (.tmp 1) rfl) (fun hl12 => ?_)
    refine T_seq ?_
    refine sr ?_
    refine pv tb 2 rfl ?_
    refine Tp rfl rfl (pur_lenT (T := tInt) sl23 rfl rfl) rfl ?_
    refine pv tb 1 rfl ?_
    refine TO_nil ?_
    refine T_cond (t := decide ((i_11 : Int) < (l1.length : Int))) rfl (fun d12 => ?_) (fun d12 => ?_)
    ·replace d12 := of_decide_eq_true d12
     obtain ⟨x_i_11, hx_i_11⟩ : ∃ v, (l1)[i_11]? = some v := ⟨_, List.getElem?_eq_getElem (by omega)⟩
     obtain ⟨C12_, H, K12_⟩ := forS_step L12_ hx_i_11
     rw [hb12] at H
     refine T_skip ?_
     refine T_seq ?_
     refine T_block ?_
     obtain ⟨v_13, h_14, H⟩ := bind_inv H
     obtain ⟨n_15, hz_16, hv_17⟩ := getI_inv h_14
     refine T_cutX (fun (_ : Unit) => True) (fun _ => [(1, (sl tInt l1)), (2, (.b 0 0)), (4, (.b 1 0)), (6, (.b 4 0)), (7, (intA (i_11 : Int))), (8, (.b 6 0))]) (fun _ => [.box [(sl tRelation d0.relations), (sl tFact d0.facts)], .box [.n, .n], .row (flat tRelation.enc us_9), .dead, .box [(.m [2] 0 us_9.length tRelation.k), (.m [5] 0 box4_facts.length tFact.k)], .row (flat tFact.own box4_facts), .box [(intA v_13.relation), (sl tInt v_13.values)]]) ?_ ?_
     ·skip
      refine T_regionP 6 mixed rfl ?_
      refine pa tb [0, 1, 2, 3] 6 rfl (by kernel_rfl) rfl ?_
      refine tf 4 rfl (pur_ixT (T := tInt) sl23 rfl rfl rfl hx_i_11 rfl) rfl rfl (by kernel_rfl) ?_
      refine tf 5 rfl (pur_ldT (T := tInt) (i := i_11) (off := 0) rfl one3 rfl rfl hx_i_11 rfl) rfl rfl (by kernel_rfl) ?_
      refine tf 6 rfl (pur_ixT (T := tFact) sl46 rfl rfl hz_16 hv_17 rfl) rfl rfl (by kernel_rfl) ?_
      refine tf 7 rfl (pur_ldTK (T := tFact) (i := n_15) (off := 0) rfl agg65 rfl rfl hv_17 (by decide) rfl) rfl rfl (by kernel_rfl) ?_
      refine t1 8 (by kernel_rfl) rfl rfl (TOp_alloc zero65 rfl rfl ?_)
      refine t1 9 (by kernel_rfl) rfl rfl (TOp_storeB sz65 rfl rfl rfl rfl rfl rfl rfl (by decide) (lb rfl) rfl ?_)
      refine TA_st (σ' := [.dead, .dead, .row (flat tRelation.enc us_9), .dead, .dead, .row (flat tFact.own box4_facts), .box [(intA v_13.relation), (sl tInt v_13.values)]]) rfl ?_
      exact TA_nil (by kernel_rfl) (joined () (w0 7) trivial)
     ·rintro _ _
      obtain ⟨us_18, h_19, H⟩ := bind_inv H
      obtain ⟨us_20, h_21, H⟩ := bind_inv H
      refine T_pad ?_
      refine T_pad ?_
      refine T_pad ?_
      refine T_pad ?_
      refine T_regionPh 7 12 mixed rfl (by kernel_rfl) ?_
      refine pa tb [0, 1, 2, 3, 5, 6] 6 rfl (by kernel_rfl) rfl ?_
      refine t1 4 (by kernel_rfl) rfl rfl (TOp_lit (nn := 0) (k := 1) sl23 zero3 rfl rfl rfl rfl (by decide) ?_)
      refine tmw 7 11 (by decide) (lb rfl) rfl rfl (lb rfl) rfl ?_
      refine t1 7 (by kernel_rfl) rfl rfl (TOp_appY (T := tInt) (f := tInt.enc) (xs := ([] : (List Int))) (ys := v_13.values) tInt.len sl23 zero3 rfl bytes3 (by decide) rfl rfl rfl rfl (src_T (T := tInt) rfl) (flat_cell tInt _) h_19 ?_)
      refine tmw 7 12 (by decide) (lb rfl) rfl rfl (lb rfl) rfl ?_
      refine tae [(1, (sl tInt l1)), (2, (.b 0 0)), (4, (.b 1 0)), (6, (.b 4 0)), (7, (intA (i_11 : Int))), (39, (.m [5] 0 box4_facts.length tFact.k)), (41, (intA v_13.relation)), (45, (.m [7] 0 us_18.length tInt.k))] rfl ?_
      refine TA_st (σ' := [.dead, .dead, .row (flat tRelation.enc us_9), .dead, .dead, .row (flat tFact.own box4_facts), .dead, .row (flat tInt.enc us_18), .dead, .dead, .dead, .dead, .dead]) rfl ?_
      refine tf 8 rfl (pur_build bld65 rfl rfl) rfl rfl (by kernel_rfl) ?_
      refine t1 9 (by kernel_rfl) rfl rfl (TOp_litB (nn := 1) (k := 2) sl46 zero65 rfl rfl rfl rfl (by decide) ?_)
      refine TA_st (σ' := [.dead, .dead, .row (flat tRelation.enc us_9), .dead, .dead, .row (flat tFact.own box4_facts), .dead, .row (flat tInt.enc us_18), .dead, .dead, .dead, .dead, .dead, .box [(intA v_13.relation), (.m [7] 0 us_18.length tInt.k)]]) rfl ?_
      refine tmw 10 5 (by decide) (lb rfl) rfl rfl (lb rfl) rfl ?_
      refine t1 10 (by kernel_rfl) rfl rfl (TOp_boxify 10 rfl (lb rfl) (TOp_appB (T := tFact) (xs := box4_facts) (v := ({ relation := v_13.relation, values := us_18 } : Fact)) sl46 zero65 rfl bytes65 (by decide) rfl rfl rfl rfl rfl rfl rfl rfl h_21 (lb rfl) ?_))
      refine tae [(1, (sl tInt l1)), (2, (.b 0 0)), (4, (.b 1 0)), (6, (.b 4 0)), (7, (intA (i_11 : Int))), (41, (intA v_13.relation)), (48, .m [14] 0 (box4_facts.length + 1) tFact.k)] rfl ?_
      refine TA_st (σ' := [.dead, .dead, .row (flat tRelation.enc us_9), .dead, .dead, .dead, .dead, .row (flat tInt.enc us_18), .dead, .dead, .dead, .dead, .dead, .box [(intA v_13.relation), (.m [7] 0 us_18.length tInt.k)], .box (flat tFact.own box4_facts ++ [(intA v_13.relation), (.m [7] 0 us_18.length tInt.k)])]) rfl ?_
      refine TA_absorbA (pr := flat tFact.own box4_facts) 14 1 7 rfl rfl rfl (by decide) tInt.pos (flat_len tInt.len _) (lb rfl) (lb rfl) rfl (nms_dead (nms_dead (nms_row (nms_dead (nms_dead (nms_dead (nms_dead (nms_row (nms_dead (nms_dead (nms_dead (nms_dead (nms_dead (nms_box rfl (nms_box (namesA namesL_own rfl) nms_nil))))))))))))))) ?_
      refine TA_st (σ' := [.dead, .dead, .row (flat tRelation.enc us_9), .dead, .dead, .dead, .dead, .dead, .dead, .dead, .dead, .dead, .dead, .box [(intA v_13.relation), (.m [7] 0 us_18.length tInt.k)], .box (flat tFact.own box4_facts ++ [(intA v_13.relation), .o tInt.k (flat tInt.enc us_18)])]) rfl ?_
      refine TA_rowifyT (T := tFact) (xs := box4_facts) (v := ({ relation := v_13.relation, values := us_18 } : Fact)) 14 rfl rfl h_21 (lb rfl) ?_
      refine TA_st (σ' := [.dead, .dead, .row (flat tRelation.enc us_9), .dead, .dead, .dead, .dead, .dead, .dead, .dead, .dead, .dead, .dead, .box [(intA v_13.relation), (.m [7] 0 us_18.length tInt.k)], .row (flat tFact.own us_20)]) rfl ?_
      refine TA_move 10 14 (by decide) (lb rfl) rfl rfl (lb rfl) ?_
      refine TA_env (E' := [(1, (sl tInt l1)), (2, (.b 0 0)), (4, (.b 1 0)), (6, (.b 4 0)), (7, (intA (i_11 : Int))), (41, (intA v_13.relation)), (48, (.m [10] 0 us_20.length tFact.k))]) ⟨rfl, rfl, rfl, rfl, rfl, rfl, (congrArg (fun q => A.m [10] 0 q tFact.k) (app_len h_21)), trivial⟩ ?_
      refine TA_kill 13 (lb rfl) ?_
      refine TA_st (σ' := [.dead, .dead, .row (flat tRelation.enc us_9), .dead, .dead, .dead, .dead, .dead, .dead, .dead, .row (flat tFact.own us_20), .dead, .dead, .dead, .dead]) rfl ?_
      refine pa tb [11] 0 rfl (by kernel_rfl) rfl ?_
      refine TA_nil (by kernel_rfl) ?_
      refine TA_st (σ' := [.box [(sl tRelation d0.relations), (sl tFact d0.facts)], .box [.n, .n], .row (flat tRelation.enc us_9), .dead, .box [(.m [2] 0 us_9.length tRelation.k), (.m [5] 0 box4_facts.length tFact.k)], .dead, .box [(intA v_13.relation), (sl tInt v_13.values)], .dead, .dead, .dead, .row (flat tFact.own us_20), .dead, .dead, .dead, .dead]) rfl ?_
      refine tmv 5 10 (by decide) (lb rfl) rfl rfl (lb rfl) ?_
      refine TA_st (σ' := [.box [(sl tRelation d0.relations), (sl tFact d0.facts)], .box [.n, .n], .row (flat tRelation.enc us_9), .dead, .box [(.m [2] 0 us_9.length tRelation.k), .j], .row (flat tFact.own us_20), .box [(intA v_13.relation), (sl tInt v_13.values)], .dead, .dead, .dead, .dead, .dead, .dead, .dead, .dead]) rfl ?_
      refine t1 12 (by kernel_rfl) rfl rfl (TOp_storeB sz46 rfl rfl rfl rfl rfl rfl rfl (by decide) (lb rfl) rfl ?_)
      refine TA_st (σ' := [.box [(sl tRelation d0.relations), (sl tFact d0.facts)], .box [.n, .n], .row (flat tRelation.enc us_9), .dead, .box [(.m [2] 0 us_9.length tRelation.k), (.m [5] 0 us_20.length tFact.k)], .row (flat tFact.own us_20), .box [(intA v_13.relation), (sl tInt v_13.values)], .dead, .dead, .dead, .dead, .dead, .dead, .dead, .dead]) rfl ?_
      refine TA_nil (by kernel_rfl) ?_
      refine T_region ?_
      refine pv tb 1 rfl ?_
      refine Tp rfl rfl (pur_add rfl rfl rfl (fits64 (by omega) (by omega))) rfl ?_
      refine pv tb 1 rfl ?_
      refine TO_nil ?_
      obtain rfl := some_inj H
      exact again (l1.length - (i_11 + 1)) (i_11 + 1, us_20) (by omega) (w0 6) ⟨rfl, K12_⟩
    ·replace d12 := of_decide_eq_false d12
     obtain rfl := forS_end L12_ (by omega)
     refine T_exit ?_
     refine then_exit ?_
     refine then_exit ?_
     refine block_exit ?_
     replace H := N12_
     refine sr ?_
     refine pv tb 1 rfl ?_
     refine TO_cons rfl (TOp_storeB sz48 rfl rfl rfl rfl rfl rfl rfl (by decide) (lb rfl) rfl ?_)
     refine TO_st (σ' := [.box [(sl tRelation d0.relations), (sl tFact d0.facts)], .box [(.m [2] 0 us_9.length tRelation.k), (.m [5] 0 box4_facts.length tFact.k)], .row (flat tRelation.enc us_9), .dead, .box [(.m [2] 0 us_9.length tRelation.k), (.m [5] 0 box4_facts.length tFact.k)], .row (flat tFact.own box4_facts)]) rfl ?_
     refine pv tb 1 rfl ?_
     refine TO_nil ?_
     refine T_frzB 2 (E' := [(4, (.b 1 0)), (5, (boolA true))]) (σ' := [.box [(sl tRelation d0.relations), (sl tFact d0.facts)], .box [(sl tRelation us_9), (.m [5] 0 box4_facts.length tFact.k)], .dead, .dead, .box [(sl tRelation us_9), (.m [5] 0 box4_facts.length tFact.k)], .row (flat tFact.own box4_facts)]) rfl (lb rfl) ?_ ?_ ?_
     ·exact ⟨(.keep rfl), (.keep rfl), trivial⟩
     ·exact ⟨(fzK rfl), (fzC fz1E (fzC (.keep rfl) fzN)), trivial, trivial, (fzC fz1E (fzC (.keep rfl) fzN)), rfl, trivial⟩
     refine T_frzB 5 (E' := [(4, (.b 1 0)), (5, (boolA true))]) (σ' := [.box [(sl tRelation d0.relations), (sl tFact d0.facts)], .box [(sl tRelation us_9), (sl tFact box4_facts)], .dead, .dead, .box [(sl tRelation us_9), (sl tFact box4_facts)], .dead]) rfl (lb rfl) ?_ ?_ ?_
     ·exact ⟨(.keep rfl), (.keep rfl), trivial⟩
     ·exact ⟨(fzK rfl), (fzC (.keep rfl) (fzC fz1T fzN)), trivial, trivial, (fzC (.keep rfl) (fzC fz1T fzN)), trivial, trivial⟩
     refine T_ret ?_
     obtain rfl := some_inj H
     refine end_ret (.cellK rfl agg48 rfl (lb rfl) (.tmp .nil)) rfl rfl ⟨?_, rfl⟩
     rfl

set_option maxHeartbeats 1000000 in
/-- spec.ResolveConflict -/
theorem m_spec_ResolveConflict_ok (u : Nat) (d0 : Database) (f1 : Fact) (r : (Database × Bool)) (H : m_spec_ResolveConflict u d0 f1 = some r) : FnV prg 59 [(.g (tDatabase.enc d0)), (.g (tFact.enc f1))] (.t [(.g (tDatabase.enc r.1)), (boolA r.2)]) := by
  unfold m_spec_ResolveConflict at H
  refine fnV_of_T Try.func59 rfl rfl (Nat.le_of_ble_eq_true rfl) ?_
  refine te [(0, (.g (tDatabase.enc d0))), (1, (.g (tFact.enc f1)))] rfl ?_
  refine sr ?_
  refine TO_cons rfl (TOp_box rfl (boxAll rfl) rfl rfl ?_)
  refine TO_cons rfl (TOp_box rfl (boxAll rfl) rfl rfl ?_)
  refine TO_cons rfl (TOp_alloc zero48 rfl rfl ?_)
  refine pv tb 1 rfl ?_
  refine TO_nil ?_
  refine T_seq ?_
  refine sr ?_
  obtain ⟨r_1, h_2, H⟩ := bind_inv H
  refine pv tb 2 rfl ?_
  refine TO_cons rfl (TOp_callV (call_static ent109 rfl) (m_spec_ContainsFact_ok u _ _ _ h_2) rfl rfl rfl ?_)
  refine pv tb 1 rfl ?_
  refine TO_nil ?_
  refine T_cond (t := (!r_1)) rfl (fun c_3 => ?_) (fun c_3 => ?_)
  ·replace H := cond_t c_3 H
   refine sr ?_
   obtain ⟨r_4, h_5, H⟩ := bind_inv H
   refine pv tb 1 rfl ?_
   refine TO_cons rfl (TOp_callV (call_static ent112 rfl) (m_spec_l4Copy_ok u _ _ h_5) rfl rfl rfl ?_)
   refine TO_cons rfl (TOp_storeB sz48 rfl rfl rfl rfl rfl rfl rfl (by decide) (lb rfl) rfl ?_)
   refine TO_st (σ' := [.box [(sl tRelation d0.relations), (sl tFact d0.facts)], .box [(intA f1.relation), (sl tInt f1.values)], .box [(sl tRelation r_4.relations), (sl tFact r_4.facts)]]) rfl ?_
   refine pv tb 1 rfl ?_
   refine TO_nil ?_
   refine T_ret ?_
   refine then_ret ?_
   obtain rfl := some_inj H
   refine end_ret (.cellK rfl agg48 rfl (lb rfl) (.tmp .nil)) rfl rfl ⟨?_, rfl⟩
   rfl
  ·replace H := cond_f c_3 H
   refine T_skip ?_
   refine sr ?_
   obtain ⟨r_6, h_7, H⟩ := bind_inv H
   refine pv tb 2 rfl ?_
   refine TO_cons rfl (TOp_callV (call_static ent111 rfl) (m_spec_FactIndex_ok u _ _ _ h_7) rfl rfl rfl ?_)
   refine pv tb 1 rfl ?_
   refine TO_nil ?_
   refine sr ?_
   obtain ⟨r_8, h_9, H⟩ := bind_inv H
   refine pv tb 2 rfl ?_
   refine TO_cons rfl (TOp_callV (call_static ent110 rfl) (m_spec_BlockOf_ok u _ _ _ h_9) rfl rfl rfl ?_)
   refine pv tb 1 rfl ?_
   refine TO_nil ?_
   refine sr ?_
   refine TO_cons rfl (TOp_lit (nn := 0) (k := 1) sl23 zero3 rfl rfl rfl rfl (by decide) ?_)
   refine TO_st (σ' := [.box [(sl tRelation d0.relations), (sl tFact d0.facts)], .box [(intA f1.relation), (sl tInt f1.values)], .box [.n, .n], .row (flat tInt.enc ([] : (List Int)))]) rfl ?_
   refine pv tb 1 rfl ?_
   refine TO_nil ?_
   refine te [(2, (.b 0 0)), (4, (.b 2 0)), (6, (intA r_6)), (7, (sl tInt r_8)), (8, (.m [3] 0 ([] : (List Int)).length tInt.k))] rfl ?_
   refine T_seq ?_
   refine sr ?_
   refine pv tb 1 rfl ?_
   refine TO_nil ?_
   obtain ⟨O10_, L10_, N10_⟩ := bind_inv H
   clear H
   obtain ⟨B10_, hb10, L10_⟩ := gen_whileF L10_
   refine T_block ?_
   refine T_loopX (fun k => fun (⟨keep8, i9⟩ : (List Int) × Int) => whileF B10_ k (keep8, i9) = some O10_) (fun (⟨keep8, i9⟩ : (List Int) × Int) => [(2, (.b 0 0)), (4, (.b 2 0)), (6, (intA r_6)), (7, (sl tInt r_8)), (8, (.m [3] 0 keep8.length tInt.k)), (9, (intA i9))]) (fun (⟨keep8, i9⟩ : (List Int) × Int) => [.box [(sl tRelation d0.relations), (sl tFact d0.facts)], .box [(intA f1.relation), (sl tInt f1.values)], .box [.n, .n], .row (flat tInt.enc keep8)]) u (([] : (List Int)), 0) (w0 4) L10_ ?_
   rintro _ ⟨keep8, i9⟩ L10_
   obtain ⟨k10, rfl, C10_, H, K10_⟩ := while_step L10_
   rw [hb10] at H
   refine T_seq ?_
   refine sr ?_
   refine pv tb 3 rfl ?_
   refine Tp rfl rfl (pur_lenT (T := tFact) sl46 rfl rfl) rfl ?_
   refine pv tb 1 rfl ?_
   refine TO_nil ?_
   refine T_cond (t := decide (i9 < (d0.facts.length : Int))) rfl (fun c_11 => ?_) (fun c_11 => ?_)
   ·replace H := cond_t c_11 H
    refine T_skip ?_
    refine T_seq ?_
    refine T_block ?_
    obtain ⟨t40_12, J_12, H_13⟩ := bind_inv H
    refine T_cutX (fun x => t40_12 = x) (fun (t40_12 : Bool) => [(2, (.b 0 0)), (4, (.b 2 0)), (6, (intA r_6)), (7, (sl tInt r_8)), (8, (.m [3] 0 keep8.length tInt.k)), (9, (intA i9)), (40, (boolA t40_12))]) (fun (t40_12 : Bool) => [.box [(sl tRelation d0.relations), (sl tFact d0.facts)], .box [(intA f1.relation), (sl tInt f1.values)], .box [.n, .n], .row (flat tInt.enc keep8)]) ?_ ?_
    ·replace H := J_12
     refine T_region ?_
     refine pv tb 4 rfl ?_
     refine TO_split (t := decide (i9 = r_6)) 35 rfl (fun g_14 => ?_) (fun g_14 => ?_)
     ·replace H := cond_t g_14 H
      refine pv tb 5 rfl ?_
      refine TO_nil ?_
      exact joined true (w0 4) (some_inj H).symm
     ·replace H := cond_f g_14 H
      obtain ⟨r_15, h_16, H⟩ := bind_inv H
      refine pv tb 2 rfl ?_
      refine TO_on rfl rfl (by decide) rfl rfl (TOp_callV (call_static ent127 rfl) (m_spec_l7Has_ok _ _ _ h_16) rfl rfl rfl ?_)
      refine pv tb 2 rfl ?_
      refine TO_nil ?_
      exact joined (!r_15) (w0 4) (some_inj H).symm
    ·rintro _ rfl
     replace H := H_13
     refine T_cond (t := t40_12) rfl (fun c_17 => ?_) (fun c_17 => ?_)
     ·replace H := cond_t c_17 H
      refine T_region ?_
      refine pv tb 2 rfl ?_
      refine TO_cons rfl (TOp_lit (nn := 1) (k := 1) sl23 zero3 rfl rfl rfl rfl (by decide) ?_)
      refine TO_st (σ' := [.box [(sl tRelation d0.relations), (sl tFact d0.facts)], .box [(intA f1.relation), (sl tInt f1.values)], .box [.n, .n], .row (flat tInt.enc keep8), .row (flat tInt.enc ([i9] : (List Int)))]) rfl ?_
      obtain ⟨us_18, h_19, H⟩ := bind_inv H
      refine TO_cons rfl (TOp_appZ (T := tInt) (f := tInt.enc) (xs := keep8) (ys := ([i9] : (List Int))) tInt.len sl23 zero3 rfl bytes3 (by decide) rfl rfl rfl rfl (src_mT (f := tInt.enc) tInt.len rfl rfl (flat_cell tInt _)) (flat_cell tInt _) h_19 (lb rfl) ?_)
      refine toe [(2, (.b 0 0)), (4, (.b 2 0)), (6, (intA r_6)), (7, (sl tInt r_8)), (9, (intA i9)), (40, (boolA t40_12)), (42, (intA i9)), (43, (.m [4] 0 ([i9] : (List Int)).length tInt.k)), (44, (.m [3] 0 us_18.length tInt.k))] rfl ?_
      refine TO_st (σ' := [.box [(sl tRelation d0.relations), (sl tFact d0.facts)], .box [(intA f1.relation), (sl tInt f1.values)], .box [.n, .n], .row (flat tInt.enc us_18), .row (flat tInt.enc ([i9] : (List Int))), .dead]) rfl ?_
      refine pv tb 1 rfl ?_
      refine TO_nil ?_
      refine T_region ?_
      refine pv tb 3 rfl ?_
      refine TO_nil ?_
      obtain rfl := some_inj H
      exact again k10 (us_18, (w64 (i9 + 1))) (Nat.lt_succ_self _) (w0 4) K10_
     ·replace H := cond_f c_17 H
      refine T_skip ?_
      refine T_region ?_
      refine pv tb 3 rfl ?_
      refine TO_nil ?_
      obtain rfl := some_inj H
      exact again k10 (keep8, (w64 (i9 + 1))) (Nat.lt_succ_self _) (w0 4) K10_
   ·replace H := cond_f c_11 H
    refine T_exit ?_
    refine then_exit ?_
    refine then_exit ?_
    refine block_exit ?_
    obtain rfl := some_inj H
    obtain rfl := some_inj K10_
    replace H := onS_l N10_
    refine sr ?_
    refine pv tb 2 rfl ?_
    refine TO_frz1 3 (E' := [(2, (.b 0 0)), (4, (.b 2 0)), (8, (sl tInt keep8)), (46, (.g (tDatabase.enc d0))), (47, (sl tInt keep8))]) rfl rfl (lb rfl) ⟨(.keep rfl), (.keep rfl), fz1E, (.keep rfl), fz1E, trivial⟩ ?_
    refine TO_st (σ' := [.box [(sl tRelation d0.relations), (sl tFact d0.facts)], .box [(intA f1.relation), (sl tInt f1.values)], .box [.n, .n], .dead]) rfl ?_
    obtain ⟨r_20, h_21, H⟩ := bind_inv H
    refine TO_cons rfl (TOp_callV (call_static ent128 rfl) (m_spec_SelectFacts_ok u _ _ _ h_21) rfl rfl rfl ?_)
    refine pv tb 3 rfl ?_
    refine TO_cons rfl (TOp_alloc zero48 rfl rfl ?_)
    refine TO_cons rfl (TOp_storeB sz48 rfl rfl rfl rfl rfl rfl rfl (by decide) (lb rfl) rfl ?_)
    refine TO_st (σ' := [.box [(sl tRelation d0.relations), (sl tFact d0.facts)], .box [(intA f1.relation), (sl tInt f1.values)], .box [.n, .n], .dead, .box [(sl tRelation r_20.1.relations), (sl tFact r_20.1.facts)]]) rfl ?_
    refine pv tb 1 rfl ?_
    refine TO_nil ?_
    refine te [(4, (.b 2 0)), (10, (.b 4 0))] rfl ?_
    refine sr ?_
    refine pv tb 1 rfl ?_
    refine TO_cons rfl (TOp_storeB sz48 rfl rfl rfl rfl rfl rfl rfl (by decide) (lb rfl) rfl ?_)
    refine TO_st (σ' := [.box [(sl tRelation d0.relations), (sl tFact d0.facts)], .box [(intA f1.relation), (sl tInt f1.values)], .box [(sl tRelation r_20.1.relations), (sl tFact r_20.1.facts)], .dead, .box [(sl tRelation r_20.1.relations), (sl tFact r_20.1.facts)]]) rfl ?_
    refine pv tb 1 rfl ?_
    refine TO_nil ?_
    refine T_ret ?_
    obtain rfl := some_inj H
    refine end_ret (.cellK rfl agg48 rfl (lb rfl) (.tmp .nil)) rfl rfl ⟨?_, rfl⟩
    rfl

set_option maxHeartbeats 1000000 in
/-- spec.ResolveAll -/
theorem m_spec_ResolveAll_ok (u : Nat) (d0 : Database) (l1 : (List Fact)) (r : (Database × Int)) (H : m_spec_ResolveAll u d0 l1 = some r) : FnV prg 52 [(.g (tDatabase.enc d0)), (sl tFact l1)] (.t [(.g (tDatabase.enc r.1)), (intA r.2)]) := by
  unfold m_spec_ResolveAll at H
  refine fnV_of_T Try.func52 rfl rfl (Nat.le_of_ble_eq_true rfl) ?_
  refine te [(0, (.g (tDatabase.enc d0))), (1, (sl tFact l1))] rfl ?_
  refine sr ?_
  refine TO_cons rfl (TOp_box rfl (boxAll rfl) rfl rfl ?_)
  refine TO_cons rfl (TOp_alloc zero48 rfl rfl ?_)
  refine pv tb 1 rfl ?_
  refine TO_nil ?_
  refine sr ?_
  obtain ⟨r_1, h_2, H⟩ := bind_inv H
  refine pv tb 1 rfl ?_
  refine TO_cons rfl (TOp_callV (call_static ent112 rfl) (m_spec_l4Copy_ok u _ _ h_2) rfl rfl rfl ?_)
  refine TO_cons rfl (TOp_alloc zero48 rfl rfl ?_)
  refine TO_cons rfl (TOp_storeB sz48 rfl rfl rfl rfl rfl rfl rfl (by decide) (lb rfl) rfl ?_)
  refine TO_st (σ' := [.box [(sl tRelation d0.relations), (sl tFact d0.facts)], .box [.n, .n], .box [(sl tRelation r_1.relations), (sl tFact r_1.facts)]]) rfl ?_
  refine TO_nil ?_
  refine sr ?_
  refine pv tb 1 rfl ?_
  refine TO_nil ?_
  refine T_seq ?_
  refine sr ?_
  refine pv tb 1 rfl ?_
  refine TO_nil ?_
  obtain ⟨O4_, L4_, N4_⟩ := bind_inv H
  clear H
  obtain ⟨B4_, hb4, L4_⟩ := gen_forS L4_
  refine T_block ?_
  refine T_loopX (fun k => fun (⟨i_3, n7, box2⟩ : Nat × Int × Database) => k = l1.length - i_3 ∧ forS B4_ (l1.drop i_3) (i_3 : Int) (n7, box2) = some O4_) (fun (⟨i_3, n7, box2⟩ : Nat × Int × Database) => [(1, (sl tFact l1)), (4, (.b 1 0)), (6, (.b 2 0)), (7, (intA n7)), (8, (intA (i_3 : Int)))]) (fun (⟨i_3, n7, box2⟩ : Nat × Int × Database) => [.box [(sl tRelation d0.relations), (sl tFact d0.facts)], .box [.n, .n], .box [(sl tRelation box2.relations), (sl tFact box2.facts)]]) _ (0, (0, r_1)) (w0 3) ⟨rfl, L4_⟩ ?_
  rintro _ ⟨i_3, n7, box2⟩ ⟨rfl, L4_⟩
  refine T_fact (len_sl (T := tFact) (.tmp 1) rfl) (fun hl4 => ?_)
  refine T_seq ?_
  refine sr ?_
  refine pv tb 2 rfl ?_
  refine Tp rfl rfl (pur_lenT (T := tFact) sl46 rfl rfl) rfl ?_
  refine pv tb 1 rfl ?_
  refine TO_nil ?_
  refine T_cond (t := decide ((i_3 : Int) < (l1.length : Int))) rfl (fun d4 => ?_) (fun d4 => ?_)
  ·replace d4 := of_decide_eq_true d4
   obtain ⟨x_i_3, hx_i_3⟩ : ∃ v, (l1)[i_3]? = some v := ⟨_, List.getElem?_eq_getElem (by omega)⟩
   obtain ⟨C4_, H, K4_⟩ := forS_step L4_ hx_i_3
   rw [hb4] at H
   refine T_skip ?_
   refine T_seq ?_
   refine T_block ?_
   obtain ⟨r_5, h_6, H⟩ := bind_inv H
   refine T_pad ?_
   refine T_cutX (fun (_ : Unit) => True) (fun _ => [(1, (sl tFact l1)), (4, (.b 1 0)), (6, (.b 2 0)), (7, (intA n7)), (8, (intA (i_3 : Int))), (9, (.b 4 0)), (10, (boolA r_5.2))]) (fun _ => [.box [(sl tRelation d0.relations), (sl tFact d0.facts)], .box [.n, .n], .box [(sl tRelation box2.relations), (sl tFact box2.facts)], .dead, .box [(sl tRelation r_5.1.relations), (sl tFact r_5.1.facts)]]) ?_ ?_
   ·skip
    refine T_regionP 3 mixed rfl ?_
    refine TA_have 2 #[true, true, true, true, true, true, true, true, true, true, false, false] [(1, (sl tFact l1)), (4, (.b 1 0)), (6, (.b 2 0)), (7, (intA n7)), (8, (intA (i_3 : Int))), (9, (.b 4 0)), (26, (.g (tDatabase.enc r_5.1))), (27, (boolA r_5.2))] [.dead, .dead, .dead, .dead, .box [.n, .n]] ?_ (fun hj0_6 => ?_)
    ·skip
     refine t1 10 (by kernel_rfl) rfl rfl (TOp_storeB sz48 rfl rfl rfl rfl rfl rfl rfl (by decide) (lb rfl) rfl ?_)
     refine TA_st (σ' := [.dead, .dead, .dead, .dead, .box [(sl tRelation r_5.1.relations), (sl tFact r_5.1.facts)]]) rfl ?_
     refine pa tb [11] 0 rfl (by kernel_rfl) rfl ?_
     exact TA_nil (by kernel_rfl) (joined () (w0 5) trivial)
    refine pa tb [0, 1, 2] 9 rfl (by kernel_rfl) rfl ?_
    refine tf 3 rfl (pur_ixT (T := tFact) sl46 rfl rfl rfl hx_i_3 rfl) rfl rfl (by kernel_rfl) ?_
    refine tf 4 rfl (pur_ldTK (T := tFact) (i := i_3) (off := 0) rfl agg65 rfl rfl hx_i_3 (by decide) rfl) rfl rfl (by kernel_rfl) ?_
    refine TA_all [5, 9] (by kernel_rfl) (by decide) ⟨?_, ?_, trivial⟩
    ·skip
     refine ⟨_, rfl, rfl, (TOp_callV (call_static ent59 rfl) (m_spec_ResolveConflict_ok u _ _ _ h_6) rfl rfl rfl ?_)⟩
     refine pa tb [6, 7, 8] 3 rfl (by kernel_rfl) rfl ?_
     refine t1 9 (by kernel_rfl) rfl rfl (TOp_alloc zero48 rfl rfl ?_)
     exact tj hj0_6 rfl (w0 5)
    ·skip
     refine ⟨_, rfl, rfl, (TOp_alloc zero48 rfl rfl ?_)⟩
     refine t1 5 (by kernel_rfl) rfl rfl (TOp_callV (call_static ent59 rfl) (m_spec_ResolveConflict_ok u _ _ _ h_6) rfl rfl rfl ?_)
     refine pa tb [6, 7, 8] 2 rfl (by kernel_rfl) rfl ?_
     exact tj hj0_6 rfl (w0 5)
   ·rintro _ _
    refine sr ?_
    refine pv tb 1 rfl ?_
    refine TO_cons rfl (TOp_storeB sz48 rfl rfl rfl rfl rfl rfl rfl (by decide) (lb rfl) rfl ?_)
    refine TO_st (σ' := [.box [(sl tRelation d0.relations), (sl tFact d0.facts)], .box [.n, .n], .box [(sl tRelation r_5.1.relations), (sl tFact r_5.1.facts)], .dead, .box [(sl tRelation r_5.1.relations), (sl tFact r_5.1.facts)]]) rfl ?_
    refine TO_nil ?_
    refine sr ?_
    refine pv tb 1 rfl ?_
    refine TO_nil ?_
    refine T_cond (t := r_5.2) rfl (fun c_7 => ?_) (fun c_7 => ?_)
    ·replace H := cond_t c_7 H
     refine T_region ?_
     refine pv tb 3 rfl ?_
     refine TO_nil ?_
     refine T_region ?_
     refine pv tb 1 rfl ?_
     refine Tp rfl rfl (pur_add rfl rfl rfl (fits64 (by omega) (by omega))) rfl ?_
     refine pv tb 1 rfl ?_
     refine TO_nil ?_
     obtain rfl := some_inj H
     exact again (l1.length - (i_3 + 1)) (i_3 + 1, ((w64 (n7 + 1)), r_5.1)) (by omega) (w0 3) ⟨rfl, K4_⟩
    ·replace H := cond_f c_7 H
     refine T_skip ?_
     refine T_region ?_
     refine pv tb 1 rfl ?_
     refine Tp rfl rfl (pur_add rfl rfl rfl (fits64 (by omega) (by omega))) rfl ?_
     refine pv tb 1 rfl ?_
     refine TO_nil ?_
     obtain rfl := some_inj H
     exact again (l1.length - (i_3 + 1)) (i_3 + 1, (n7, r_5.1)) (by omega) (w0 3) ⟨rfl, K4_⟩
  ·replace d4 := of_decide_eq_false d4
   obtain rfl := forS_end L4_ (by omega)
   refine T_exit ?_
   refine then_exit ?_
   refine then_exit ?_
   refine block_exit ?_
   replace H := N4_
   refine sr ?_
   refine pv tb 2 rfl ?_
   refine TO_cons rfl (TOp_storeB sz48 rfl rfl rfl rfl rfl rfl rfl (by decide) (lb rfl) rfl ?_)
   refine TO_st (σ' := [.box [(sl tRelation d0.relations), (sl tFact d0.facts)], .box [(sl tRelation box2.relations), (sl tFact box2.facts)], .box [(sl tRelation box2.relations), (sl tFact box2.facts)]]) rfl ?_
   refine pv tb 1 rfl ?_
   refine TO_nil ?_
   refine T_ret ?_
   obtain rfl := some_inj H
   refine end_ret (.cellK rfl agg48 rfl (lb rfl) (.tmp .nil)) rfl rfl ⟨?_, rfl⟩
   rfl

set_option maxHeartbeats 1000000 in
/-- laws.heldRelationS -/
theorem m_laws_heldRelationS_ok (u : Nat) (a0 : (List Relation)) (k1 : Int) (r : Int) (H : m_laws_heldRelationS u a0 k1 = some r) : FnV prg 125 [(sl tRelation a0), (intA k1)] (intA r) := by
  unfold m_laws_heldRelationS at H
  refine fnV_of_T Try.func125 rfl rfl (Nat.le_of_ble_eq_true rfl) ?_
  refine te [(0, (sl tRelation a0)), (1, (intA k1))] rfl ?_
  refine sr ?_
  refine pv tb 1 rfl ?_
  refine TO_nil ?_
  refine T_seq ?_
  refine sr ?_
  refine pv tb 1 rfl ?_
  refine TO_nil ?_
  obtain ⟨O2_, L2_, N2_⟩ := bind_inv H
  clear H
  obtain ⟨B2_, hb2, L2_⟩ := gen_forL L2_
  refine T_block ?_
  refine T_loopX (fun k => fun (⟨i_1, k1⟩ : Nat × Int) => k = a0.length - i_1 ∧ forL B2_ (a0.drop i_1) (i_1 : Int) k1 = some O2_) (fun (⟨i_1, k1⟩ : Nat × Int) => [(0, (sl tRelation a0)), (1, (intA k1)), (5, (intA (i_1 : Int)))]) (fun (⟨i_1, k1⟩ : Nat × Int) => []) _ (0, k1) (w0 0) ⟨rfl, L2_⟩ ?_
  rintro _ ⟨i_1, k1⟩ ⟨rfl, L2_⟩
  refine T_fact (len_sl (T := tRelation) (.tmp 0) rfl) (fun hl2 => ?_)
  refine T_seq ?_
  refine sr ?_
  refine pv tb 2 rfl ?_
  refine Tp rfl rfl (pur_lenT (T := tRelation) sl45 rfl rfl) rfl ?_
  refine pv tb 1 rfl ?_
  refine TO_nil ?_
  refine T_cond (t := decide ((i_1 : Int) < (a0.length : Int))) rfl (fun d2 => ?_) (fun d2 => ?_)
  ·replace d2 := of_decide_eq_true d2
   obtain ⟨x_i_1, hx_i_1⟩ : ∃ v, (a0)[i_1]? = some v := ⟨_, List.getElem?_eq_getElem (by omega)⟩
   obtain ⟨C2_, H, K2_⟩ := forL_step L2_ hx_i_1
   rw [hb2] at H
   refine T_skip ?_
   refine T_seq ?_
   refine T_block ?_
   refine T_seq ?_
   refine T_seq ?_
   refine T_regionD mixed (by kernel_rfl) ?_
   refine pq tb 2 rfl ?_
   refine TQ_pure rfl (pur_ixT (T := tRelation) sl45 rfl rfl rfl hx_i_1 rfl) rfl ?_
   refine pq tb 1 rfl ?_
   refine TQ_pure rfl (pur_ldT (T := tRelation) (i := i_1) (off := 0) rfl one9 rfl rfl hx_i_1 rfl) rfl ?_
   obtain ⟨r_3, h_4, H⟩ := bind_inv H
   refine pq tb 1 rfl ?_
   refine TQ_callV rfl (call_static ent147 rfl) (m_laws_markText_ok u _ _ h_4) rfl rfl ?_
   refine TQ_pure rfl (pur_neqS rfl rfl rfl) rfl ?_
   refine TQ_nil ?_
   refine T_cond (t := decide (x_i_1.name ≠ r_3)) rfl (fun c_5 => ?_) (fun c_5 => ?_)
   ·replace H := cond_t c_5 H
    refine sr ?_
    refine pv tb 1 rfl ?_
    refine TO_nil ?_
    refine te [(4, (intA (-1)))] rfl ?_
    refine T_ret ?_
    refine then_ret ?_
    refine block_ret ?_
    refine then_ret ?_
    refine then_ret ?_
    refine block_ret ?_
    refine then_ret ?_
    obtain rfl := some_inj H
    obtain rfl := some_inj K2_
    replace H := onS_r N2_
    obtain rfl := some_inj H
    refine end_ret (.tmp .nil) rfl rfl ⟨?_, rfl⟩
    rfl
   ·replace H := cond_f c_5 H
    refine T_skip ?_
    refine sr ?_
    refine pv tb 3 rfl ?_
    refine TO_nil ?_
    refine T_seq ?_
    refine sr ?_
    refine pv tb 2 rfl ?_
    refine Tp rfl rfl (pur_ixT (T := tRelation) sl45 rfl rfl rfl hx_i_1 rfl) rfl ?_
    refine pv tb 1 rfl ?_
    refine Tp rfl rfl (pur_ldT (T := tRelation) (i := i_1) (off := 1) rfl one3 rfl rfl hx_i_1 rfl) rfl ?_
    refine pv tb 2 rfl ?_
    refine TO_nil ?_
    refine te [(0, (sl tRelation a0)), (1, (intA (w64 (k1 + 1)))), (5, (intA (i_1 : Int))), (28, (boolA (decide (x_i_1.arity ≠ (w64 (k1 + 1))))))] rfl ?_
    refine T_cond (t := decide (x_i_1.arity ≠ (w64 (k1 + 1)))) rfl (fun c_6 => ?_) (fun c_6 => ?_)
    ·replace H := cond_t c_6 H
     refine sr ?_
     refine pv tb 1 rfl ?_
     refine TO_nil ?_
     refine T_ret ?_
     refine then_ret ?_
     refine block_ret ?_
     refine then_ret ?_
     refine then_ret ?_
     refine block_ret ?_
     refine then_ret ?_
     obtain rfl := some_inj H
     obtain rfl := some_inj K2_
     replace H := onS_r N2_
     obtain rfl := some_inj H
     refine end_ret (.tmp .nil) rfl rfl ⟨?_, rfl⟩
     rfl
    ·replace H := cond_f c_6 H
     refine T_skip ?_
     refine sr ?_
     refine pv tb 3 rfl ?_
     refine TO_nil ?_
     refine T_seq ?_
     refine sr ?_
     refine pv tb 2 rfl ?_
     refine Tp rfl rfl (pur_ixT (T := tRelation) sl45 rfl rfl rfl hx_i_1 rfl) rfl ?_
     refine pv tb 1 rfl ?_
     refine Tp rfl rfl (pur_ldT (T := tRelation) (i := i_1) (off := 2) rfl one3 rfl rfl hx_i_1 rfl) rfl ?_
     refine pv tb 2 rfl ?_
     refine TO_nil ?_
     refine T_cond (t := decide (x_i_1.keyLength ≠ (w64 ((w64 (k1 + 1)) + 1)))) rfl (fun c_7 => ?_) (fun c_7 => ?_)
     ·replace H := cond_t c_7 H
      refine sr ?_
      refine pv tb 1 rfl ?_
      refine TO_nil ?_
      refine T_ret ?_
      refine then_ret ?_
      refine block_ret ?_
      refine then_ret ?_
      refine then_ret ?_
      refine block_ret ?_
      refine then_ret ?_
      obtain rfl := some_inj H
      obtain rfl := some_inj K2_
      replace H := onS_r N2_
      obtain rfl := some_inj H
      refine end_ret (.tmp .nil) rfl rfl ⟨?_, rfl⟩
      rfl
     ·replace H := cond_f c_7 H
      refine T_skip ?_
      refine T_region ?_
      refine pv tb 3 rfl ?_
      refine TO_nil ?_
      refine T_region ?_
      refine pv tb 1 rfl ?_
      refine Tp rfl rfl (pur_add rfl rfl rfl (fits64 (by omega) (by omega))) rfl ?_
      refine pv tb 1 rfl ?_
      refine TO_nil ?_
      obtain rfl := some_inj H
      exact again (a0.length - (i_1 + 1)) (i_1 + 1, (w64 ((w64 ((w64 (k1 + 1)) + 1)) + 1))) (by omega) (w0 0) ⟨rfl, K2_⟩
  ·replace d2 := of_decide_eq_false d2
   obtain rfl := forL_end L2_ (by omega)
   refine T_exit ?_
   refine then_exit ?_
   refine then_exit ?_
   refine block_exit ?_
   replace H := onS_l N2_
   refine sr ?_
   refine pv tb 2 rfl ?_
   refine TO_nil ?_
   refine T_ret ?_
   obtain rfl := some_inj H
   refine end_ret (.tmp .nil) rfl rfl ⟨?_, rfl⟩
   rfl

set_option maxHeartbeats 1000000 in
/-- laws.heldIntS -/
theorem m_laws_heldIntS_ok (a0 : (List Int)) (k1 : Int) (r : Int) (H : m_laws_heldIntS a0 k1 = some r) : FnV prg 31 [(sl tInt a0), (intA k1)] (intA r) := by
  unfold m_laws_heldIntS at H
  refine fnV_of_T Try.func31 rfl rfl (Nat.le_of_ble_eq_true rfl) ?_
  refine te [(0, (sl tInt a0)), (1, (intA k1))] rfl ?_
  refine sr ?_
  refine pv tb 1 rfl ?_
  refine TO_nil ?_
  refine T_seq ?_
  refine sr ?_
  refine pv tb 1 rfl ?_
  refine TO_nil ?_
  obtain ⟨O2_, L2_, N2_⟩ := bind_inv H
  clear H
  obtain ⟨B2_, hb2, L2_⟩ := gen_forL L2_
  refine T_block ?_
  refine T_loopX (fun k => fun (⟨i_1, k1⟩ : Nat × Int) => k = a0.length - i_1 ∧ forL B2_ (a0.drop i_1) (i_1 : Int) k1 = some O2_) (fun (⟨i_1, k1⟩ : Nat × Int) => [(0, (sl tInt a0)), (1, (intA k1)), (5, (intA (i_1 : Int)))]) (fun (⟨i_1, k1⟩ : Nat × Int) => []) _ (0, k1) (w0 0) ⟨rfl, L2_⟩ ?_
  rintro _ ⟨i_1, k1⟩ ⟨rfl, L2_⟩
  refine T_fact (len_sl (T := tInt) (.tmp 0) rfl) (fun hl2 => ?_)
  refine T_seq ?_
  refine sr ?_
  refine pv tb 2 rfl ?_
  refine Tp rfl rfl (pur_lenT (T := tInt) sl23 rfl rfl) rfl ?_
  refine pv tb 1 rfl ?_
  refine TO_nil ?_
  refine T_cond (t := decide ((i_1 : Int) < (a0.length : Int))) rfl (fun d2 => ?_) (fun d2 => ?_)
  ·replace d2 := of_decide_eq_true d2
   obtain ⟨x_i_1, hx_i_1⟩ : ∃ v, (a0)[i_1]? = some v := ⟨_, List.getElem?_eq_getElem (by omega)⟩
   obtain ⟨C2_, H, K2_⟩ := forL_step L2_ hx_i_1
   rw [hb2] at H
   refine T_skip ?_
   refine T_seq ?_
   refine T_block ?_
   refine T_seq ?_
   refine sr ?_
   refine pv tb 2 rfl ?_
   refine Tp rfl rfl (pur_ixT (T := tInt) sl23 rfl rfl rfl hx_i_1 rfl) rfl ?_
   refine Tp rfl rfl (pur_ldT (T := tInt) (i := i_1) (off := 0) rfl one3 rfl rfl hx_i_1 rfl) rfl ?_
   refine pv tb 2 rfl ?_
   refine TO_nil ?_
   refine T_cond (t := decide (x_i_1 ≠ k1)) rfl (fun c_3 => ?_) (fun c_3 => ?_)
   ·replace H := cond_t c_3 H
    refine sr ?_
    refine pv tb 1 rfl ?_
    refine TO_nil ?_
    refine T_ret ?_
    refine then_ret ?_
    refine block_ret ?_
    refine then_ret ?_
    refine then_ret ?_
    refine block_ret ?_
    refine then_ret ?_
    obtain rfl := some_inj H
    obtain rfl := some_inj K2_
    replace H := onS_r N2_
    obtain rfl := some_inj H
    refine end_ret (.tmp .nil) rfl rfl ⟨?_, rfl⟩
    rfl
   ·replace H := cond_f c_3 H
    refine T_skip ?_
    refine T_region ?_
    refine pv tb 3 rfl ?_
    refine TO_nil ?_
    refine T_region ?_
    refine pv tb 1 rfl ?_
    refine Tp rfl rfl (pur_add rfl rfl rfl (fits64 (by omega) (by omega))) rfl ?_
    refine pv tb 1 rfl ?_
    refine TO_nil ?_
    obtain rfl := some_inj H
    exact again (a0.length - (i_1 + 1)) (i_1 + 1, (w64 (k1 + 1))) (by omega) (w0 0) ⟨rfl, K2_⟩
  ·replace d2 := of_decide_eq_false d2
   obtain rfl := forL_end L2_ (by omega)
   refine T_exit ?_
   refine then_exit ?_
   refine then_exit ?_
   refine block_exit ?_
   replace H := onS_l N2_
   refine sr ?_
   refine pv tb 2 rfl ?_
   refine TO_nil ?_
   refine T_ret ?_
   obtain rfl := some_inj H
   refine end_ret (.tmp .nil) rfl rfl ⟨?_, rfl⟩
   rfl

set_option maxHeartbeats 1000000 in
/-- laws.heldFactS -/
theorem m_laws_heldFactS_ok (a0 : (List Fact)) (k1 : Int) (r : Int) (H : m_laws_heldFactS a0 k1 = some r) : FnV prg 126 [(sl tFact a0), (intA k1)] (intA r) := by
  unfold m_laws_heldFactS at H
  refine fnV_of_T Try.func126 rfl rfl (Nat.le_of_ble_eq_true rfl) ?_
  refine te [(0, (sl tFact a0)), (1, (intA k1))] rfl ?_
  refine sr ?_
  refine pv tb 1 rfl ?_
  refine TO_nil ?_
  refine T_seq ?_
  refine sr ?_
  refine pv tb 1 rfl ?_
  refine TO_nil ?_
  obtain ⟨O2_, L2_, N2_⟩ := bind_inv H
  clear H
  obtain ⟨B2_, hb2, L2_⟩ := gen_forL L2_
  refine T_block ?_
  refine T_loopX (fun k => fun (⟨i_1, k1⟩ : Nat × Int) => k = a0.length - i_1 ∧ forL B2_ (a0.drop i_1) (i_1 : Int) k1 = some O2_) (fun (⟨i_1, k1⟩ : Nat × Int) => [(0, (sl tFact a0)), (1, (intA k1)), (5, (intA (i_1 : Int)))]) (fun (⟨i_1, k1⟩ : Nat × Int) => []) _ (0, k1) (w0 0) ⟨rfl, L2_⟩ ?_
  rintro _ ⟨i_1, k1⟩ ⟨rfl, L2_⟩
  refine T_fact (len_sl (T := tFact) (.tmp 0) rfl) (fun hl2 => ?_)
  refine T_seq ?_
  refine sr ?_
  refine pv tb 2 rfl ?_
  refine Tp rfl rfl (pur_lenT (T := tFact) sl46 rfl rfl) rfl ?_
  refine pv tb 1 rfl ?_
  refine TO_nil ?_
  refine T_cond (t := decide ((i_1 : Int) < (a0.length : Int))) rfl (fun d2 => ?_) (fun d2 => ?_)
  ·replace d2 := of_decide_eq_true d2
   obtain ⟨x_i_1, hx_i_1⟩ : ∃ v, (a0)[i_1]? = some v := ⟨_, List.getElem?_eq_getElem (by omega)⟩
   obtain ⟨C2_, H, K2_⟩ := forL_step L2_ hx_i_1
   rw [hb2] at H
   refine T_skip ?_
   refine T_seq ?_
   refine T_block ?_
   refine T_seq ?_
   refine sr ?_
   refine pv tb 2 rfl ?_
   refine Tp rfl rfl (pur_ixT (T := tFact) sl46 rfl rfl rfl hx_i_1 rfl) rfl ?_
   refine pv tb 1 rfl ?_
   refine Tp rfl rfl (pur_ldT (T := tFact) (i := i_1) (off := 0) rfl one3 rfl rfl hx_i_1 rfl) rfl ?_
   refine pv tb 2 rfl ?_
   refine TO_nil ?_
   refine T_cond (t := decide (x_i_1.relation ≠ k1)) rfl (fun c_3 => ?_) (fun c_3 => ?_)
   ·replace H := cond_t c_3 H
    refine sr ?_
    refine pv tb 1 rfl ?_
    refine TO_nil ?_
    refine T_ret ?_
    refine then_ret ?_
    refine block_ret ?_
    refine then_ret ?_
    refine then_ret ?_
    refine block_ret ?_
    refine then_ret ?_
    obtain rfl := some_inj H
    obtain rfl := some_inj K2_
    replace H := onS_r N2_
    obtain rfl := some_inj H
    refine end_ret (.tmp .nil) rfl rfl ⟨?_, rfl⟩
    rfl
   ·replace H := cond_f c_3 H
    refine T_skip ?_
    refine sr ?_
    refine pv tb 3 rfl ?_
    refine TO_nil ?_
    refine sr ?_
    refine pv tb 2 rfl ?_
    refine Tp rfl rfl (pur_ixT (T := tFact) sl46 rfl rfl rfl hx_i_1 rfl) rfl ?_
    refine pv tb 1 rfl ?_
    refine Tp rfl rfl (pur_ldT (T := tFact) (i := i_1) (off := 1) rfl one23 rfl rfl hx_i_1 rfl) rfl ?_
    obtain ⟨r_4, h_5, H⟩ := bind_inv H
    refine pv tb 1 rfl ?_
    refine TO_cons rfl (TOp_callV (call_static ent31 rfl) (m_laws_heldIntS_ok _ _ _ h_5) rfl rfl rfl ?_)
    refine pv tb 1 rfl ?_
    refine TO_nil ?_
    refine te [(0, (sl tFact a0)), (1, (intA r_4)), (5, (intA (i_1 : Int)))] rfl ?_
    refine sr ?_
    refine pv tb 2 rfl ?_
    refine TO_nil ?_
    refine T_cond (t := decide (r_4 < 0)) rfl (fun c_6 => ?_) (fun c_6 => ?_)
    ·replace H := cond_t c_6 H
     refine sr ?_
     refine pv tb 1 rfl ?_
     refine TO_nil ?_
     refine T_ret ?_
     refine block_ret ?_
     refine then_ret ?_
     refine then_ret ?_
     refine block_ret ?_
     refine then_ret ?_
     obtain rfl := some_inj H
     obtain rfl := some_inj K2_
     replace H := onS_r N2_
     obtain rfl := some_inj H
     refine end_ret (.tmp .nil) rfl rfl ⟨?_, rfl⟩
     rfl
    ·replace H := cond_f c_6 H
     refine T_skip ?_
     refine T_region ?_
     refine pv tb 1 rfl ?_
     refine Tp rfl rfl (pur_add rfl rfl rfl (fits64 (by omega) (by omega))) rfl ?_
     refine pv tb 1 rfl ?_
     refine TO_nil ?_
     obtain rfl := some_inj H
     exact again (a0.length - (i_1 + 1)) (i_1 + 1, r_4) (by omega) (w0 0) ⟨rfl, K2_⟩
  ·replace d2 := of_decide_eq_false d2
   obtain rfl := forL_end L2_ (by omega)
   refine T_exit ?_
   refine then_exit ?_
   refine then_exit ?_
   refine block_exit ?_
   replace H := onS_l N2_
   refine sr ?_
   refine pv tb 2 rfl ?_
   refine TO_nil ?_
   refine T_ret ?_
   obtain rfl := some_inj H
   refine end_ret (.tmp .nil) rfl rfl ⟨?_, rfl⟩
   rfl

set_option maxHeartbeats 1000000 in
/-- laws.heldDatabase -/
theorem m_laws_heldDatabase_ok (u : Nat) (a0 : Database) (k1 : Int) (r : Int) (H : m_laws_heldDatabase u a0 k1 = some r) : FnV prg 58 [(.g (tDatabase.enc a0)), (intA k1)] (intA r) := by
  unfold m_laws_heldDatabase at H
  refine fnV_of_T Try.func58 rfl rfl (Nat.le_of_ble_eq_true rfl) ?_
  refine te [(0, (.g (tDatabase.enc a0))), (1, (intA k1))] rfl ?_
  refine sr ?_
  refine TO_cons rfl (TOp_box rfl (boxAll rfl) rfl rfl ?_)
  refine pv tb 1 rfl ?_
  refine TO_nil ?_
  refine sr ?_
  obtain ⟨r_1, h_2, H⟩ := bind_inv H
  refine pv tb 3 rfl ?_
  refine TO_cons rfl (TOp_callV (call_static ent125 rfl) (m_laws_heldRelationS_ok u _ _ _ h_2) rfl rfl rfl ?_)
  refine pv tb 1 rfl ?_
  refine TO_nil ?_
  refine T_seq ?_
  refine sr ?_
  refine pv tb 2 rfl ?_
  refine TO_nil ?_
  refine T_cond (t := decide (r_1 < 0)) rfl (fun c_3 => ?_) (fun c_3 => ?_)
  ·replace H := cond_t c_3 H
   refine sr ?_
   refine pv tb 1 rfl ?_
   refine TO_nil ?_
   refine T_ret ?_
   refine then_ret ?_
   obtain rfl := some_inj H
   refine end_ret (.tmp .nil) rfl rfl ⟨?_, rfl⟩
   rfl
  ·replace H := cond_f c_3 H
   refine T_skip ?_
   refine sr ?_
   obtain ⟨r_4, h_5, H⟩ := bind_inv H
   refine pv tb 3 rfl ?_
   refine TO_cons rfl (TOp_callV (call_static ent126 rfl) (m_laws_heldFactS_ok _ _ _ h_5) rfl rfl rfl ?_)
   refine pv tb 1 rfl ?_
   refine TO_nil ?_
   refine T_seq ?_
   refine sr ?_
   refine pv tb 2 rfl ?_
   refine TO_nil ?_
   refine T_cond (t := decide (r_4 < 0)) rfl (fun c_6 => ?_) (fun c_6 => ?_)
   ·replace H := cond_t c_6 H
    refine sr ?_
    refine pv tb 1 rfl ?_
    refine TO_nil ?_
    refine te [(4, (intA (-1)))] rfl ?_
    refine T_ret ?_
    refine then_ret ?_
    obtain rfl := some_inj H
    refine end_ret (.tmp .nil) rfl rfl ⟨?_, rfl⟩
    rfl
   ·replace H := cond_f c_6 H
    refine T_skip ?_
    refine te [(1, (intA r_4))] rfl ?_
    refine sr ?_
    refine pv tb 2 rfl ?_
    refine TO_nil ?_
    refine T_ret ?_
    obtain rfl := some_inj H
    refine end_ret (.tmp .nil) rfl rfl ⟨?_, rfl⟩
    rfl

set_option maxHeartbeats 1000000 in
/-- laws.FnExactResolveAll -/
theorem m_laws_FnExactResolveAll_ok (u : Nat) (aDb0 : Database) (aFacts1 : (List Fact)) (r : Bool) (H : m_laws_FnExactResolveAll u aDb0 aFacts1 = some r) : FnV prg 10 [(.g (tDatabase.enc aDb0)), (sl tFact aFacts1)] (boolA r) := by
  unfold m_laws_FnExactResolveAll at H
  refine fnV_of_T Try.func10 rfl rfl (Nat.le_of_ble_eq_true rfl) ?_
  refine te [(0, (.g (tDatabase.enc aDb0))), (1, (sl tFact aFacts1))] rfl ?_
  refine sr ?_
  refine TO_cons rfl (TOp_box rfl (boxAll rfl) rfl rfl ?_)
  refine pv tb 1 rfl ?_
  refine TO_nil ?_
  refine sr ?_
  refine pv tb 1 rfl ?_
  refine TO_nil ?_
  refine sr ?_
  obtain ⟨r_1, h_2, H⟩ := bind_inv H
  refine pv tb 2 rfl ?_
  refine TO_cons rfl (TOp_callV (call_static ent25 rfl) (m_laws_szDatabase_ok _ _ _ h_2) rfl rfl rfl ?_)
  refine pv tb 1 rfl ?_
  refine TO_nil ?_
  refine T_seq ?_
  refine sr ?_
  refine pv tb 2 rfl ?_
  refine TO_nil ?_
  refine T_cond (t := decide (r_1 < 0)) rfl (fun c_3 => ?_) (fun c_3 => ?_)
  ·replace H := cond_t c_3 H
   refine sr ?_
   refine pv tb 1 rfl ?_
   refine TO_nil ?_
   refine T_ret ?_
   refine then_ret ?_
   obtain rfl := some_inj H
   refine end_ret (.tmp .nil) rfl rfl ⟨?_, rfl⟩
   rfl
  ·replace H := cond_f c_3 H
   refine T_skip ?_
   refine sr ?_
   obtain ⟨r_4, h_5, H⟩ := bind_inv H
   refine pv tb 2 rfl ?_
   refine TO_cons rfl (TOp_callV (call_static ent61 rfl) (m_laws_szFactS_ok _ _ _ h_5) rfl rfl rfl ?_)
   refine pv tb 1 rfl ?_
   refine TO_nil ?_
   refine T_seq ?_
   refine sr ?_
   refine pv tb 2 rfl ?_
   refine TO_nil ?_
   refine T_cond (t := decide (r_4 < 0)) rfl (fun c_6 => ?_) (fun c_6 => ?_)
   ·replace H := cond_t c_6 H
    refine sr ?_
    refine pv tb 1 rfl ?_
    refine TO_nil ?_
    refine te [(4, (boolA true))] rfl ?_
    refine T_ret ?_
    refine then_ret ?_
    obtain rfl := some_inj H
    refine end_ret (.tmp .nil) rfl rfl ⟨?_, rfl⟩
    rfl
   ·replace H := cond_f c_6 H
    refine T_skip ?_
    refine sr ?_
    obtain ⟨r_7, h_8, H⟩ := bind_inv H
    refine pv tb 1 rfl ?_
    refine TO_cons rfl (TOp_callV (call_static ent27 rfl) (m_laws_toDatabase_ok _ _ h_8) rfl rfl rfl ?_)
    obtain ⟨r_9, h_10, H⟩ := bind_inv H
    refine pv tb 1 rfl ?_
    refine TO_cons rfl (TOp_callV (call_static ent62 rfl) (m_laws_toFactS_ok _ _ h_10) rfl rfl rfl ?_)
    obtain ⟨r_11, h_12, H⟩ := bind_inv H
    refine TO_cons rfl (TOp_callV (call_static ent52 rfl) (m_spec_ResolveAll_ok u _ _ _ h_12) rfl rfl rfl ?_)
    refine pv tb 3 rfl ?_
    refine toe [(1, (sl tFact aFacts1)), (2, (.b 0 0)), (33, (.g (tDatabase.enc r_11.1))), (34, (intA r_11.2))] rfl ?_
    refine TO_cons rfl (TOp_alloc zero48 rfl rfl ?_)
    refine TO_cons rfl (TOp_storeB sz48 rfl rfl rfl rfl rfl rfl rfl (by decide) (lb rfl) rfl ?_)
    refine TO_st (σ' := [.box [(sl tRelation aDb0.relations), (sl tFact aDb0.facts)], .box [(sl tRelation r_11.1.relations), (sl tFact r_11.1.facts)]]) rfl ?_
    refine pv tb 1 rfl ?_
    refine TO_nil ?_
    refine sr ?_
    obtain ⟨r_13, h_14, H⟩ := bind_inv H
    refine pv tb 1 rfl ?_
    refine TO_cons rfl (TOp_callO (call_static ent27 rfl) rfl (m_laws_toDatabase_own _ _ h_14) rfl rfl rfl ?_)
    refine toe [(1, (sl tFact aFacts1)), (2, (.b 0 0)), (6, (.b 1 0)), (7, (intA r_11.2)), (35, (.g (tDatabase.enc aDb0))), (36, (.g [(.m [2] 0 r_13.relations.length tRelation.k), (.m [3] 0 r_13.facts.length tFact.k)]))] rfl ?_
    refine TO_st (σ' := [.box [(sl tRelation aDb0.relations), (sl tFact aDb0.facts)], .box [(sl tRelation r_11.1.relations), (sl tFact r_11.1.facts)], .row (flat tRelation.own r_13.relations), .row (flat tFact.own r_13.facts)]) rfl ?_
    refine TO_cons rfl (TOp_alloc zero48 rfl rfl ?_)
    refine TO_cons rfl (TOp_storeB sz48 rfl rfl rfl rfl rfl rfl rfl (by decide) (lb rfl) rfl ?_)
    refine TO_st (σ' := [.box [(sl tRelation aDb0.relations), (sl tFact aDb0.facts)], .box [(sl tRelation r_11.1.relations), (sl tFact r_11.1.facts)], .row (flat tRelation.own r_13.relations), .row (flat tFact.own r_13.facts), .box [(.m [2] 0 r_13.relations.length tRelation.k), (.m [3] 0 r_13.facts.length tFact.k)]]) rfl ?_
    refine TO_nil ?_
    refine sr ?_
    obtain ⟨r_15, h_16, H⟩ := bind_inv H
    refine pv tb 1 rfl ?_
    refine TO_cons rfl (TOp_callO (call_static ent62 rfl) rfl (m_laws_toFactS_own _ _ h_16) rfl rfl rfl ?_)
    refine toe [(1, (sl tFact aFacts1)), (2, (.b 0 0)), (6, (.b 1 0)), (7, (intA r_11.2)), (8, (.b 4 0)), (37, (sl tFact aFacts1)), (38, (.m [5] 0 r_15.length tFact.k))] rfl ?_
    refine TO_st (σ' := [.box [(sl tRelation aDb0.relations), (sl tFact aDb0.facts)], .box [(sl tRelation r_11.1.relations), (sl tFact r_11.1.facts)], .row (flat tRelation.own r_13.relations), .row (flat tFact.own r_13.facts), .box [(.m [2] 0 r_13.relations.length tRelation.k), (.m [3] 0 r_13.facts.length tFact.k)], .row (flat tFact.own r_15)]) rfl ?_
    refine pv tb 1 rfl ?_
    refine TO_nil ?_
    refine sr ?_
    obtain ⟨r_17, h_18, H⟩ := bind_inv H
    refine pv tb 2 rfl ?_
    refine TO_cons rfl (TOp_callOG (call_static ent51 rfl) (frz_cons (frzOK_g (frz_cons (frzT (T := tRelation) rfl) (frz_cons (frzT (T := tFact) rfl) frz_nil)).1 (frz_cons (frzT (T := tRelation) rfl) (frz_cons (frzT (T := tFact) rfl) frz_nil)).2) (frz_cons (frzT (T := tFact) rfl) frz_nil)).1 (frz_cons (frzOK_g (frz_cons (frzT (T := tRelation) rfl) (frz_cons (frzT (T := tFact) rfl) frz_nil)).1 (frz_cons (frzT (T := tRelation) rfl) (frz_cons (frzT (T := tFact) rfl) frz_nil)).2) (frz_cons (frzT (T := tFact) rfl) frz_nil)).2 (m_impl_ResolveAll_own _ _ _ h_18) rfl (ownC_of (ownSB_cons (flat_ownR tRelation _) (ownSB_cons (flat_ownR tFact _) ownSB_nil))) rfl rfl rfl ?_)
    refine toe [(1, (sl tFact aFacts1)), (2, (.b 0 0)), (6, (.b 1 0)), (7, (intA r_11.2)), (8, (.b 4 0)), (9, (.m [5] 0 r_15.length tFact.k)), (40, (.g [(.m [2] 0 r_13.relations.length tRelation.k), (.m [3] 0 r_13.facts.length tFact.k)])), (41, (.m [5] 0 r_15.length tFact.k)), (42, (.t [(.g [(.m [6] 0 r_17.1.relations.length tRelation.k), (.m [7] 0 r_17.1.facts.length tFact.k)]), (intA r_17.2)]))] rfl ?_
    refine TO_st (σ' := [.box [(sl tRelation aDb0.relations), (sl tFact aDb0.facts)], .box [(sl tRelation r_11.1.relations), (sl tFact r_11.1.facts)], .row (flat tRelation.own r_13.relations), .row (flat tFact.own r_13.facts), .box [(.m [2] 0 r_13.relations.length tRelation.k), (.m [3] 0 r_13.facts.length tFact.k)], .row (flat tFact.own r_15), .row (flat tRelation.own r_17.1.relations), .row (flat tFact.own r_17.1.facts)]) rfl ?_
    refine pv tb 3 rfl ?_
    refine TO_cons rfl (TOp_alloc zero48 rfl rfl ?_)
    refine TO_cons rfl (TOp_storeB sz48 rfl rfl rfl rfl rfl rfl rfl (by decide) (lb rfl) rfl ?_)
    refine TO_st (σ' := [.box [(sl tRelation aDb0.relations), (sl tFact aDb0.facts)], .box [(sl tRelation r_11.1.relations), (sl tFact r_11.1.facts)], .row (flat tRelation.own r_13.relations), .row (flat tFact.own r_13.facts), .box [(.m [2] 0 r_13.relations.length tRelation.k), (.m [3] 0 r_13.facts.length tFact.k)], .row (flat tFact.own r_15), .row (flat tRelation.own r_17.1.relations), .row (flat tFact.own r_17.1.facts), .box [(.m [6] 0 r_17.1.relations.length tRelation.k), (.m [7] 0 r_17.1.facts.length tFact.k)]]) rfl ?_
    refine pv tb 1 rfl ?_
    refine TO_nil ?_
    refine T_seq ?_
    obtain ⟨t53_19, J_19, H_20⟩ := bind_inv H
    refine T_cutX (fun x => t53_19 = x) (fun (t53_19 : Bool) => [(1, (sl tFact aFacts1)), (2, (.b 0 0)), (6, (.b 1 0)), (7, (intA r_11.2)), (8, (.b 4 0)), (9, (.m [5] 0 r_15.length tFact.k)), (10, (.b 8 0)), (11, (intA r_17.2)), (53, (boolA t53_19))]) (fun (t53_19 : Bool) => [.box [(sl tRelation aDb0.relations), (sl tFact aDb0.facts)], .box [(sl tRelation r_11.1.relations), (sl tFact r_11.1.facts)], .row (flat tRelation.own r_13.relations), .row (flat tFact.own r_13.facts), .box [(.m [2] 0 r_13.relations.length tRelation.k), (.m [3] 0 r_13.facts.length tFact.k)], .row (flat tFact.own r_15), .row (flat tRelation.own r_17.1.relations), .row (flat tFact.own r_17.1.facts), .box [(.m [6] 0 r_17.1.relations.length tRelation.k), (.m [7] 0 r_17.1.facts.length tFact.k)]]) ?_ ?_
    ·replace H := J_19
     refine T_region ?_
     obtain ⟨r_21, h_22, H⟩ := bind_inv H
     refine pv tb 2 rfl ?_
     refine TO_cons rfl (TOp_callB (call_static ent29 rfl) (frz_cons (frzOK_g (frz_cons (frzT (T := tRelation) rfl) (frz_cons (frzT (T := tFact) rfl) frz_nil)).1 (frz_cons (frzT (T := tRelation) rfl) (frz_cons (frzT (T := tFact) rfl) frz_nil)).2) (frz_cons (frz_loose rfl) frz_nil)).1 (frz_cons (frzOK_g (frz_cons (frzT (T := tRelation) rfl) (frz_cons (frzT (T := tFact) rfl) frz_nil)).1 (frz_cons (frzT (T := tRelation) rfl) (frz_cons (frzT (T := tFact) rfl) frz_nil)).2) (frz_cons (frz_loose rfl) frz_nil)).2 (m_laws_eqDatabase_ok _ _ _ h_22) rfl ?_)
     refine pv tb 2 rfl ?_
     refine TO_split (t := (!r_21)) 49 rfl (fun g_23 => ?_) (fun g_23 => ?_)
     ·replace H := cond_t g_23 H
      refine pv tb 4 rfl ?_
      refine TO_nil ?_
      exact joined true (w0 9) (some_inj H).symm
     ·replace H := cond_f g_23 H
      refine pv tb 4 rfl ?_
      refine TO_nil ?_
      exact joined (decide (r_17.2 ≠ r_11.2)) (w0 9) (some_inj H).symm
    ·rintro _ rfl
     replace H := H_20
     refine T_cond (t := t53_19) rfl (fun c_24 => ?_) (fun c_24 => ?_)
     ·replace H := cond_t c_24 H
      refine sr ?_
      refine pv tb 1 rfl ?_
      refine TO_nil ?_
      refine T_ret ?_
      refine then_ret ?_
      obtain rfl := some_inj H
      refine end_ret (.tmp .nil) rfl rfl ⟨?_, rfl⟩
      rfl
     ·replace H := cond_f c_24 H
      refine T_skip ?_
      refine T_seq ?_
      obtain ⟨r_25, h_26, H⟩ := bind_inv H
      obtain ⟨r_27, h_28, H⟩ := bind_inv H
      refine T_cutX (fun (_ : Unit) => True) (fun _ => [(1, (sl tFact aFacts1)), (2, (.b 0 0)), (6, (.b 1 0)), (7, (intA r_11.2)), (8, (.b 4 0)), (9, (.m [5] 0 r_15.length tFact.k)), (10, (.b 8 0)), (11, (intA r_17.2)), (58, (boolA (!r_27)))]) (fun _ => [.box [(sl tRelation aDb0.relations), (sl tFact aDb0.facts)], .box [(sl tRelation r_11.1.relations), (sl tFact r_11.1.facts)], .row (flat tRelation.own r_13.relations), .row (flat tFact.own r_13.facts), .box [(.m [2] 0 r_13.relations.length tRelation.k), (.m [3] 0 r_13.facts.length tFact.k)], .row (flat tFact.own r_15), .row (flat tRelation.own r_17.1.relations), .row (flat tFact.own r_17.1.facts), .box [(.m [6] 0 r_17.1.relations.length tRelation.k), (.m [7] 0 r_17.1.facts.length tFact.k)]]) ?_ ?_
      ·skip
       refine T_regionP 9 mixed rfl ?_
       refine pa tb [0, 1] 3 rfl (by kernel_rfl) rfl ?_
       refine t1 2 (by kernel_rfl) rfl rfl (TOp_callV (call_static ent27 rfl) (m_laws_toDatabase_ok _ _ h_26) rfl rfl rfl ?_)
       refine t1 3 (by kernel_rfl) rfl rfl (TOp_callB (call_static ent29 rfl) (frz_cons (frzOK_g (frz_cons (frzT (T := tRelation) rfl) (frz_cons (frzT (T := tFact) rfl) frz_nil)).1 (frz_cons (frzT (T := tRelation) rfl) (frz_cons (frzT (T := tFact) rfl) frz_nil)).2) (frz_cons (frz_loose rfl) frz_nil)).1 (frz_cons (frzOK_g (frz_cons (frzT (T := tRelation) rfl) (frz_cons (frzT (T := tFact) rfl) frz_nil)).1 (frz_cons (frzT (T := tRelation) rfl) (frz_cons (frzT (T := tFact) rfl) frz_nil)).2) (frz_cons (frz_loose rfl) frz_nil)).2 (m_laws_eqDatabase_ok _ _ _ h_28) rfl ?_)
       refine pa tb [4] 0 rfl (by kernel_rfl) rfl ?_
       exact TA_nil (by kernel_rfl) (joined () (w0 9) trivial)
      ·rintro _ _
       refine T_cond (t := (!r_27)) rfl (fun c_29 => ?_) (fun c_29 => ?_)
       ·replace H := cond_t c_29 H
        refine sr ?_
        refine pv tb 1 rfl ?_
        refine TO_nil ?_
        refine T_ret ?_
        refine then_ret ?_
        obtain rfl := some_inj H
        refine end_ret (.tmp .nil) rfl rfl ⟨?_, rfl⟩
        rfl
       ·replace H := cond_f c_29 H
        refine T_skip ?_
        refine T_seq ?_
        refine sr ?_
        obtain ⟨r_30, h_31, H⟩ := bind_inv H
        refine pv tb 2 rfl ?_
        refine TO_cons rfl (TOp_callV (call_static ent62 rfl) (m_laws_toFactS_ok _ _ h_31) rfl rfl rfl ?_)
        obtain ⟨r_32, h_33, H⟩ := bind_inv H
        refine TO_cons rfl (TOp_callB (call_static ent63 rfl) (frz_cons (frzT (T := tFact) rfl) (frz_cons (frz_loose rfl) frz_nil)).1 (frz_cons (frzT (T := tFact) rfl) (frz_cons (frz_loose rfl) frz_nil)).2 (m_laws_eqFactS_ok _ _ _ h_33) rfl ?_)
        refine pv tb 1 rfl ?_
        refine TO_nil ?_
        refine T_cond (t := (!r_32)) rfl (fun c_34 => ?_) (fun c_34 => ?_)
        ·replace H := cond_t c_34 H
         refine sr ?_
         refine pv tb 1 rfl ?_
         refine TO_nil ?_
         refine T_ret ?_
         refine then_ret ?_
         obtain rfl := some_inj H
         refine end_ret (.tmp .nil) rfl rfl ⟨?_, rfl⟩
         rfl
        ·replace H := cond_f c_34 H
         refine T_skip ?_
         refine sr ?_
         refine pv tb 1 rfl ?_
         refine TO_nil ?_
         refine sr ?_
         obtain ⟨r_35, h_36, H⟩ := bind_inv H
         refine pv tb 2 rfl ?_
         refine TO_cons rfl (TOp_callG (aa := [(.g [(.m [2] 0 r_13.relations.length tRelation.k), (.m [3] 0 r_13.facts.length tFact.k)]), (intA 1)]) [[2], [3]] (call_static ent30 rfl) rfl (.cons rfl rfl (by decide) (.cons rfl rfl (by decide) .nil)) rfl rfl (m_laws_markDatabase_mut u _ _ _ h_36) rfl (fun hl_37 => ?_))
         obtain ⟨hq_38, hl_37⟩ := sameLens_T (T := tRelation) hl_37
         refine TO_env (E' := [(1, (sl tFact aFacts1)), (2, (.b 0 0)), (6, (.b 1 0)), (7, (intA r_11.2)), (8, (.b 4 0)), (9, (.m [5] 0 r_15.length tFact.k)), (10, (.b 8 0)), (11, (intA r_17.2)), (12, (intA 1)), (64, (.g [(.m [2] 0 r_35.2.relations.length tRelation.k), (.m [3] 0 r_13.facts.length tFact.k)])), (65, (intA 1)), (66, (intA r_35.1))]) ⟨rfl, rfl, rfl, rfl, rfl, rfl, rfl, rfl, rfl, (by simp only [hq_38]; rfl), rfl, rfl, trivial⟩ ?_
         obtain ⟨hq_39, hl_37⟩ := sameLens_T (T := tFact) hl_37
         refine TO_env (E' := [(1, (sl tFact aFacts1)), (2, (.b 0 0)), (6, (.b 1 0)), (7, (intA r_11.2)), (8, (.b 4 0)), (9, (.m [5] 0 r_15.length tFact.k)), (10, (.b 8 0)), (11, (intA r_17.2)), (12, (intA 1)), (64, (.g [(.m [2] 0 r_35.2.relations.length tRelation.k), (.m [3] 0 r_35.2.facts.length tFact.k)])), (65, (intA 1)), (66, (intA r_35.1))]) ⟨rfl, rfl, rfl, rfl, rfl, rfl, rfl, rfl, rfl, (by simp only [hq_39]; rfl), rfl, rfl, trivial⟩ ?_
         refine TO_st (σ' := [.box [(sl tRelation aDb0.relations), (sl tFact aDb0.facts)], .box [(sl tRelation r_11.1.relations), (sl tFact r_11.1.facts)], .row (flat tRelation.own r_35.2.relations), .row (flat tFact.own r_35.2.facts), .box [(.m [2] 0 r_13.relations.length tRelation.k), (.m [3] 0 r_13.facts.length tFact.k)], .row (flat tFact.own r_15), .row (flat tRelation.own r_17.1.relations), .row (flat tFact.own r_17.1.facts), .box [(.m [6] 0 r_17.1.relations.length tRelation.k), (.m [7] 0 r_17.1.facts.length tFact.k)]]) rfl ?_
         refine TO_st (σ' := [.box [(sl tRelation aDb0.relations), (sl tFact aDb0.facts)], .box [(sl tRelation r_11.1.relations), (sl tFact r_11.1.facts)], .row (flat tRelation.own r_35.2.relations), .row (flat tFact.own r_35.2.facts), .box [(.m [2] 0 r_35.2.relations.length tRelation.k), (.m [3] 0 r_13.facts.length tFact.k)], .row (flat tFact.own r_15), .row (flat tRelation.own r_17.1.relations), .row (flat tFact.own r_17.1.facts), .box [(.m [6] 0 r_17.1.relations.length tRelation.k), (.m [7] 0 r_17.1.facts.length tFact.k)]]) (by simp only [hq_38]) ?_
         refine TO_st (σ' := [.box [(sl tRelation aDb0.relations), (sl tFact aDb0.facts)], .box [(sl tRelation r_11.1.relations), (sl tFact r_11.1.facts)], .row (flat tRelation.own r_35.2.relations), .row (flat tFact.own r_35.2.facts), .box [(.m [2] 0 r_35.2.relations.length tRelation.k), (.m [3] 0 r_35.2.facts.length tFact.k)], .row (flat tFact.own r_15), .row (flat tRelation.own r_17.1.relations), .row (flat tFact.own r_17.1.facts), .box [(.m [6] 0 r_17.1.relations.length tRelation.k), (.m [7] 0 r_17.1.facts.length tFact.k)]]) (by simp only [hq_39]) ?_
         refine pv tb 1 rfl ?_
         refine TO_nil ?_
         refine sr ?_
         obtain ⟨r_40, h_41, H⟩ := bind_inv H
         refine pv tb 2 rfl ?_
         refine TO_cons rfl (TOp_callG (aa := [(.m [5] 0 r_15.length tFact.k), (intA r_35.1)]) [[5]] (call_static ent64 rfl) rfl (.cons rfl rfl (by decide) .nil) rfl rfl (m_laws_markFactS_mut _ _ _ h_41) rfl (fun hl_42 => ?_))
         obtain ⟨hq_43, hl_42⟩ := sameLens_T (T := tFact) hl_42
         refine TO_env (E' := [(1, (sl tFact aFacts1)), (2, (.b 0 0)), (6, (.b 1 0)), (7, (intA r_11.2)), (9, (.m [5] 0 r_40.2.length tFact.k)), (10, (.b 8 0)), (11, (intA r_17.2)), (12, (intA r_35.1)), (67, (.m [5] 0 r_40.2.length tFact.k)), (68, (intA r_35.1)), (69, (intA r_40.1))]) ⟨rfl, rfl, rfl, rfl, (congrArg (fun q => A.m [5] 0 q tFact.k) hq_43.symm), rfl, rfl, rfl, (congrArg (fun q => A.m [5] 0 q tFact.k) hq_43.symm), rfl, rfl, trivial⟩ ?_
         refine TO_st (σ' := [.box [(sl tRelation aDb0.relations), (sl tFact aDb0.facts)], .box [(sl tRelation r_11.1.relations), (sl tFact r_11.1.facts)], .row (flat tRelation.own r_35.2.relations), .row (flat tFact.own r_35.2.facts), .box [(.m [2] 0 r_35.2.relations.length tRelation.k), (.m [3] 0 r_35.2.facts.length tFact.k)], .row (flat tFact.own r_40.2), .row (flat tRelation.own r_17.1.relations), .row (flat tFact.own r_17.1.facts), .box [(.m [6] 0 r_17.1.relations.length tRelation.k), (.m [7] 0 r_17.1.facts.length tFact.k)]]) rfl ?_
         refine pv tb 1 rfl ?_
         refine TO_nil ?_
         refine T_seq ?_
         obtain ⟨t82_44, J_44, H_45⟩ := bind_inv H
         refine T_cutX (fun x => t82_44 = x) (fun (t82_44 : Bool) => [(1, (sl tFact aFacts1)), (2, (.b 0 0)), (6, (.b 1 0)), (7, (intA r_11.2)), (10, (.b 8 0)), (82, (boolA t82_44))]) (fun (t82_44 : Bool) => [.box [(sl tRelation aDb0.relations), (sl tFact aDb0.facts)], .box [(sl tRelation r_11.1.relations), (sl tFact r_11.1.facts)], .row (flat tRelation.own r_35.2.relations), .row (flat tFact.own r_35.2.facts), .box [(.m [2] 0 r_35.2.relations.length tRelation.k), (.m [3] 0 r_35.2.facts.length tFact.k)], .row (flat tFact.own r_40.2), .row (flat tRelation.own r_17.1.relations), .row (flat tFact.own r_17.1.facts), .box [(.m [6] 0 r_17.1.relations.length tRelation.k), (.m [7] 0 r_17.1.facts.length tFact.k)]]) ?_ ?_
         ·replace H := J_44
          refine T_region ?_
          refine pv tb 3 rfl ?_
          refine TO_split (t := decide (r_40.1 < 0)) 72 rfl (fun g_46 => ?_) (fun g_46 => ?_)
          ·replace H := cond_t g_46 H
           refine pv tb 10 rfl ?_
           refine TO_nil ?_
           exact joined true (w0 9) (some_inj H).symm
          ·replace H := cond_f g_46 H
           obtain ⟨r_47, h_48, H⟩ := bind_inv H
           refine pv tb 2 rfl ?_
           refine TO_on rfl rfl (by decide) rfl rfl (TOp_callB (call_static ent29 rfl) (frz_cons (frzOK_g (frz_cons (frzT (T := tRelation) rfl) (frz_cons (frzT (T := tFact) rfl) frz_nil)).1 (frz_cons (frzT (T := tRelation) rfl) (frz_cons (frzT (T := tFact) rfl) frz_nil)).2) (frz_cons (frz_loose rfl) frz_nil)).1 (frz_cons (frzOK_g (frz_cons (frzT (T := tRelation) rfl) (frz_cons (frzT (T := tFact) rfl) frz_nil)).1 (frz_cons (frzT (T := tRelation) rfl) (frz_cons (frzT (T := tFact) rfl) frz_nil)).2) (frz_cons (frz_loose rfl) frz_nil)).2 (m_laws_eqDatabase_ok _ _ _ h_48) rfl ?_)
           refine pv tb 3 rfl ?_
           refine TO_split (t := (!r_47)) 78 rfl (fun g_49 => ?_) (fun g_49 => ?_)
           ·replace H := cond_t g_49 H
            refine pv tb 4 rfl ?_
            refine TO_nil ?_
            exact joined true (w0 9) (some_inj H).symm
           ·replace H := cond_f g_49 H
            refine pv tb 4 rfl ?_
            refine TO_nil ?_
            exact joined (decide (r_17.2 ≠ r_11.2)) (w0 9) (some_inj H).symm
         ·rintro _ rfl
          replace H := H_45
          refine T_cond (t := t82_44) rfl (fun c_50 => ?_) (fun c_50 => ?_)
          ·replace H := cond_t c_50 H
           refine sr ?_
           refine pv tb 1 rfl ?_
           refine TO_nil ?_
           refine T_ret ?_
           refine then_ret ?_
           obtain rfl := some_inj H
           refine end_ret (.tmp .nil) rfl rfl ⟨?_, rfl⟩
           rfl
          ·replace H := cond_f c_50 H
           refine T_skip ?_
           refine sr ?_
           refine pv tb 1 rfl ?_
           refine TO_nil ?_
           refine sr ?_
           obtain ⟨r_51, h_52, H⟩ := bind_inv H
           refine pv tb 2 rfl ?_
           refine TO_cons rfl (TOp_callG (aa := [(.g [(.m [6] 0 r_17.1.relations.length tRelation.k), (.m [7] 0 r_17.1.facts.length tFact.k)]), (intA 1)]) [[6], [7]] (call_static ent30 rfl) rfl (.cons rfl rfl (by decide) (.cons rfl rfl (by decide) .nil)) rfl rfl (m_laws_markDatabase_mut u _ _ _ h_52) rfl (fun hl_53 => ?_))
           obtain ⟨hq_54, hl_53⟩ := sameLens_T (T := tRelation) hl_53
           refine TO_env (E' := [(1, (sl tFact aFacts1)), (2, (.b 0 0)), (6, (.b 1 0)), (7, (intA r_11.2)), (10, (.b 8 0)), (13, (intA 1)), (83, (.g [(.m [6] 0 r_51.2.relations.length tRelation.k), (.m [7] 0 r_17.1.facts.length tFact.k)])), (84, (intA 1)), (85, (intA r_51.1))]) ⟨rfl, rfl, rfl, rfl, rfl, rfl, (by simp only [hq_54]; rfl), rfl, rfl, trivial⟩ ?_
           obtain ⟨hq_55, hl_53⟩ := sameLens_T (T := tFact) hl_53
           refine TO_env (E' := [(1, (sl tFact aFacts1)), (2, (.b 0 0)), (6, (.b 1 0)), (7, (intA r_11.2)), (10, (.b 8 0)), (13, (intA 1)), (83, (.g [(.m [6] 0 r_51.2.relations.length tRelation.k), (.m [7] 0 r_51.2.facts.length tFact.k)])), (84, (intA 1)), (85, (intA r_51.1))]) ⟨rfl, rfl, rfl, rfl, rfl, rfl, (by simp only [hq_55]; rfl), rfl, rfl, trivial⟩ ?_
           refine TO_st (σ' := [.box [(sl tRelation aDb0.relations), (sl tFact aDb0.facts)], .box [(sl tRelation r_11.1.relations), (sl tFact r_11.1.facts)], .row (flat tRelation.own r_35.2.relations), .row (flat tFact.own r_35.2.facts), .box [(.m [2] 0 r_35.2.relations.length tRelation.k), (.m [3] 0 r_35.2.facts.length tFact.k)], .row (flat tFact.own r_40.2), .row (flat tRelation.own r_51.2.relations), .row (flat tFact.own r_51.2.facts), .box [(.m [6] 0 r_17.1.relations.length tRelation.k), (.m [7] 0 r_17.1.facts.length tFact.k)]]) rfl ?_
           refine TO_st (σ' := [.box [(sl tRelation aDb0.relations), (sl tFact aDb0.facts)], .box [(sl tRelation r_11.1.relations), (sl tFact r_11.1.facts)], .row (flat tRelation.own r_35.2.relations), .row (flat tFact.own r_35.2.facts), .box [(.m [2] 0 r_35.2.relations.length tRelation.k), (.m [3] 0 r_35.2.facts.length tFact.k)], .row (flat tFact.own r_40.2), .row (flat tRelation.own r_51.2.relations), .row (flat tFact.own r_51.2.facts), .box [(.m [6] 0 r_51.2.relations.length tRelation.k), (.m [7] 0 r_17.1.facts.length tFact.k)]]) (by simp only [hq_54]) ?_
           refine TO_st (σ' := [.box [(sl tRelation aDb0.relations), (sl tFact aDb0.facts)], .box [(sl tRelation r_11.1.relations), (sl tFact r_11.1.facts)], .row (flat tRelation.own r_35.2.relations), .row (flat tFact.own r_35.2.facts), .box [(.m [2] 0 r_35.2.relations.length tRelation.k), (.m [3] 0 r_35.2.facts.length tFact.k)], .row (flat tFact.own r_40.2), .row (flat tRelation.own r_51.2.relations), .row (flat tFact.own r_51.2.facts), .box [(.m [6] 0 r_51.2.relations.length tRelation.k), (.m [7] 0 r_51.2.facts.length tFact.k)]]) (by simp only [hq_55]) ?_
           refine pv tb 1 rfl ?_
           refine TO_nil ?_
           refine sr ?_
           refine pv tb 1 rfl ?_
           refine TO_nil ?_
           refine sr ?_
           obtain ⟨r_56, h_57, H⟩ := bind_inv H
           refine pv tb 2 rfl ?_
           refine TO_cons rfl (TOp_callB (call_static ent58 rfl) (frz_cons (frzOK_g (frz_cons (frzT (T := tRelation) rfl) (frz_cons (frzT (T := tFact) rfl) frz_nil)).1 (frz_cons (frzT (T := tRelation) rfl) (frz_cons (frzT (T := tFact) rfl) frz_nil)).2) (frz_cons (frz_loose rfl) frz_nil)).1 (frz_cons (frzOK_g (frz_cons (frzT (T := tRelation) rfl) (frz_cons (frzT (T := tFact) rfl) frz_nil)).1 (frz_cons (frzT (T := tRelation) rfl) (frz_cons (frzT (T := tFact) rfl) frz_nil)).2) (frz_cons (frz_loose rfl) frz_nil)).2 (m_laws_heldDatabase_ok u _ _ _ h_57) rfl ?_)
           refine pv tb 1 rfl ?_
           refine TO_nil ?_
           refine T_seq ?_
           refine sr ?_
           refine pv tb 2 rfl ?_
           refine TO_nil ?_
           refine T_cond (t := decide (r_56 < 0)) rfl (fun c_58 => ?_) (fun c_58 => ?_)
           ·replace H := cond_t c_58 H
            refine sr ?_
            refine pv tb 1 rfl ?_
            refine TO_nil ?_
            refine te [(4, (boolA false))] rfl ?_
            refine T_ret ?_
            refine then_ret ?_
            obtain rfl := some_inj H
            refine end_ret (.tmp .nil) rfl rfl ⟨?_, rfl⟩
            rfl
           ·replace H := cond_f c_58 H
            refine T_skip ?_
            refine T_seq ?_
            refine sr ?_
            refine pv tb 3 rfl ?_
            refine TO_nil ?_
            refine T_cond (t := decide (r_56 ≠ r_51.1)) rfl (fun c_59 => ?_) (fun c_59 => ?_)
            ·replace H := cond_t c_59 H
             refine sr ?_
             refine pv tb 1 rfl ?_
             refine TO_nil ?_
             refine te [(4, (boolA false))] rfl ?_
             refine T_ret ?_
             refine then_ret ?_
             obtain rfl := some_inj H
             refine end_ret (.tmp .nil) rfl rfl ⟨?_, rfl⟩
             rfl
            ·replace H := cond_f c_59 H
             refine T_skip ?_
             refine sr ?_
             obtain ⟨r_60, h_61, H⟩ := bind_inv H
             refine pv tb 1 rfl ?_
             refine TO_cons rfl (TOp_callV (call_static ent27 rfl) (m_laws_toDatabase_ok _ _ h_61) rfl rfl rfl ?_)
             obtain ⟨r_62, h_63, H⟩ := bind_inv H
             refine pv tb 1 rfl ?_
             refine TO_cons rfl (TOp_callV (call_static ent62 rfl) (m_laws_toFactS_ok _ _ h_63) rfl rfl rfl ?_)
             obtain ⟨r_64, h_65, H⟩ := bind_inv H
             refine TO_cons rfl (TOp_callV (call_static ent51 rfl) (m_impl_ResolveAll_ok _ _ _ h_65) rfl rfl rfl ?_)
             refine pv tb 3 rfl ?_
             refine toe [(6, (.b 1 0)), (7, (intA r_11.2)), (10, (.b 8 0)), (13, (intA r_51.1)), (100, (.g (tDatabase.enc r_64.1))), (101, (intA r_64.2))] rfl ?_
             refine TO_cons rfl (TOp_alloc zero48 rfl rfl ?_)
             refine TO_cons rfl (TOp_storeB sz48 rfl rfl rfl rfl rfl rfl rfl (by decide) (lb rfl) rfl ?_)
             refine TO_st (σ' := [.box [(sl tRelation aDb0.relations), (sl tFact aDb0.facts)], .box [(sl tRelation r_11.1.relations), (sl tFact r_11.1.facts)], .row (flat tRelation.own r_35.2.relations), .row (flat tFact.own r_35.2.facts), .box [(.m [2] 0 r_35.2.relations.length tRelation.k), (.m [3] 0 r_35.2.facts.length tFact.k)], .row (flat tFact.own r_40.2), .row (flat tRelation.own r_51.2.relations), .row (flat tFact.own r_51.2.facts), .box [(.m [6] 0 r_51.2.relations.length tRelation.k), (.m [7] 0 r_51.2.facts.length tFact.k)], .box [(sl tRelation r_64.1.relations), (sl tFact r_64.1.facts)]]) rfl ?_
             refine pv tb 1 rfl ?_
             refine TO_nil ?_
             refine T_seq ?_
             obtain ⟨t110_66, J_66, H_67⟩ := bind_inv H
             refine T_cutX (fun x => t110_66 = x) (fun (t110_66 : Bool) => [(10, (.b 8 0)), (13, (intA r_51.1)), (110, (boolA t110_66))]) (fun (t110_66 : Bool) => [.box [(sl tRelation aDb0.relations), (sl tFact aDb0.facts)], .box [(sl tRelation r_11.1.relations), (sl tFact r_11.1.facts)], .row (flat tRelation.own r_35.2.relations), .row (flat tFact.own r_35.2.facts), .box [(.m [2] 0 r_35.2.relations.length tRelation.k), (.m [3] 0 r_35.2.facts.length tFact.k)], .row (flat tFact.own r_40.2), .row (flat tRelation.own r_51.2.relations), .row (flat tFact.own r_51.2.facts), .box [(.m [6] 0 r_51.2.relations.length tRelation.k), (.m [7] 0 r_51.2.facts.length tFact.k)]]) ?_ ?_
             ·replace H := J_66
              refine T_region ?_
              obtain ⟨r_68, h_69, H⟩ := bind_inv H
              refine pv tb 2 rfl ?_
              refine TO_cons rfl (TOp_callV (call_static ent29 rfl) (m_laws_eqDatabase_ok _ _ _ h_69) rfl rfl rfl ?_)
              refine pv tb 2 rfl ?_
              refine TO_split (t := (!r_68)) 106 rfl (fun g_70 => ?_) (fun g_70 => ?_)
              ·replace H := cond_t g_70 H
               refine pv tb 4 rfl ?_
               refine TO_nil ?_
               exact joined true (w0 9) (some_inj H).symm
              ·replace H := cond_f g_70 H
               refine pv tb 4 rfl ?_
               refine TO_nil ?_
               exact joined (decide (r_64.2 ≠ r_11.2)) (w0 9) (some_inj H).symm
             ·rintro _ rfl
              replace H := H_67
              refine T_cond (t := t110_66) rfl (fun c_71 => ?_) (fun c_71 => ?_)
              ·replace H := cond_t c_71 H
               refine sr ?_
               refine pv tb 1 rfl ?_
               refine TO_nil ?_
               refine T_ret ?_
               refine then_ret ?_
               obtain rfl := some_inj H
               refine end_ret (.tmp .nil) rfl rfl ⟨?_, rfl⟩
               rfl
              ·replace H := cond_f c_71 H
               refine T_skip ?_
               refine sr ?_
               refine pv tb 1 rfl ?_
               refine TO_nil ?_
               refine sr ?_
               obtain ⟨r_72, h_73, H⟩ := bind_inv H
               refine pv tb 2 rfl ?_
               refine TO_cons rfl (TOp_callB (call_static ent58 rfl) (frz_cons (frzOK_g (frz_cons (frzT (T := tRelation) rfl) (frz_cons (frzT (T := tFact) rfl) frz_nil)).1 (frz_cons (frzT (T := tRelation) rfl) (frz_cons (frzT (T := tFact) rfl) frz_nil)).2) (frz_cons (frz_loose rfl) frz_nil)).1 (frz_cons (frzOK_g (frz_cons (frzT (T := tRelation) rfl) (frz_cons (frzT (T := tFact) rfl) frz_nil)).1 (frz_cons (frzT (T := tRelation) rfl) (frz_cons (frzT (T := tFact) rfl) frz_nil)).2) (frz_cons (frz_loose rfl) frz_nil)).2 (m_laws_heldDatabase_ok u _ _ _ h_73) rfl ?_)
               refine pv tb 1 rfl ?_
               refine TO_nil ?_
               refine T_seq ?_
               refine sr ?_
               refine pv tb 2 rfl ?_
               refine TO_nil ?_
               refine T_cond (t := decide (r_72 < 0)) rfl (fun c_74 => ?_) (fun c_74 => ?_)
               ·replace H := cond_t c_74 H
                refine sr ?_
                refine pv tb 1 rfl ?_
                refine TO_nil ?_
                refine T_ret ?_
                refine then_ret ?_
                obtain rfl := some_inj H
                refine end_ret (.tmp .nil) rfl rfl ⟨?_, rfl⟩
                rfl
               ·replace H := cond_f c_74 H
                refine T_skip ?_
                refine T_seq ?_
                refine sr ?_
                refine pv tb 3 rfl ?_
                refine TO_nil ?_
                refine T_cond (t := decide (r_72 ≠ r_51.1)) rfl (fun c_75 => ?_) (fun c_75 => ?_)
                ·replace H := cond_t c_75 H
                 refine sr ?_
                 refine pv tb 1 rfl ?_
                 refine TO_nil ?_
                 refine T_ret ?_
                 refine then_ret ?_
                 obtain rfl := some_inj H
                 refine end_ret (.tmp .nil) rfl rfl ⟨?_, rfl⟩
                 rfl
                ·replace H := cond_f c_75 H
                 refine T_skip ?_
                 refine sr ?_
                 refine pv tb 1 rfl ?_
                 refine TO_nil ?_
                 refine T_ret ?_
                 obtain rfl := some_inj H
                 refine end_ret (.tmp .nil) rfl rfl ⟨?_, rfl⟩
                 rfl
end Go.Proofs.Ytjdpolnakhmkmaa

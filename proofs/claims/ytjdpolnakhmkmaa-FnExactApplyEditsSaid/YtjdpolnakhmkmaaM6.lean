import Derived.Test.YtjdpolnakhmkmaaM1
import Derived.Test.YtjdpolnakhmkmaaM2
import Derived.Test.YtjdpolnakhmkmaaM5
set_option linter.unusedVariables false
set_option linter.unusedSimpArgs false
set_option maxRecDepth 4000
namespace Go.Proofs.Ytjdpolnakhmkmaa
open Go Go.Proofs Go.Sep
set_option maxHeartbeats 1000000 in
theorem m_spec_SelectFacts_ok (u : Nat) (d0 : Database) (l1 : (List Int)) (r : (Database × Bool)) (H : m_spec_SelectFacts u d0 l1 = some r) : FnV prg 128 [(.g (tDatabase.enc d0)), (sl tInt l1)] (.t [(.g (tDatabase.enc r.1)), (boolA r.2)]) := by
  unfold m_spec_SelectFacts at H
  refine fnV_of_T Try.func128 rfl rfl (Nat.le_of_ble_eq_true rfl) ?_
  refine te [(0, (.g (tDatabase.enc d0))), (1, (sl tInt l1))] rfl ?_
  refine sr ?_
  refine TO_cons rfl (TOp_box rfl (boxAll rfl) rfl rfl ?_)
  refine TO_cons rfl (TOp_alloc zero48 rfl rfl ?_)
  refine pv tb 1 rfl ?_
  refine TO_nil ?_
  refine T_seq ?_
  obtain ⟨t17_1, J_1, H_2⟩ := bind_inv H
  refine T_cutX (fun x => t17_1 = x) (fun (t17_1 : Bool) => [(1, (sl tInt l1)), (2, (.b 0 0)), (4, (.b 1 0)), (17, (boolA t17_1))]) (fun (t17_1 : Bool) => [.box [(sl tRelation d0.relations), (sl tFact d0.facts)], .box [.n, .n]]) ?_ ?_
  ·replace H := J_1
   refine T_region ?_
   obtain ⟨r_3, h_4, H⟩ := bind_inv H
   refine pv tb 1 rfl ?_
   refine TO_cons rfl (TOp_callV (call_static ent53 rfl) (m_spec_IsValidDatabase_ok u _ _ h_4) rfl rfl rfl ?_)
   refine pv tb 2 rfl ?_
   refine TO_split (t := (!r_3)) 12 rfl (fun g_5 => ?_) (fun g_5 => ?_)
   ·replace H := cond_t g_5 H
    refine pv tb 5 rfl ?_
    refine TO_nil ?_
    exact joined true (w0 2) (some_inj H).symm
   ·replace H := cond_f g_5 H
    obtain ⟨r_6, h_7, H⟩ := bind_inv H
    refine pv tb 2 rfl ?_
    refine TO_on rfl rfl (by decide) rfl rfl (TOp_callV (call_static ent171 rfl) (m_spec_l4Set_ok _ _ _ h_7) rfl rfl rfl ?_)
    refine pv tb 2 rfl ?_
    refine TO_nil ?_
    exact joined (!r_6) (w0 2) (some_inj H).symm
  ·rintro _ rfl
   replace H := H_2
   refine T_cond (t := t17_1) rfl (fun c_8 => ?_) (fun c_8 => ?_)
   ·replace H := cond_t c_8 H
    refine sr ?_
    refine Tp rfl rfl (pur_build bld48 rfl rfl) rfl ?_
    refine TO_cons rfl (TOp_storeB sz48 rfl rfl rfl rfl rfl rfl rfl (by decide) (lb rfl) rfl ?_)
    refine TO_st (σ' := [.box [(sl tRelation d0.relations), (sl tFact d0.facts)], .box [.n, .n]]) rfl ?_
    refine pv tb 1 rfl ?_
    refine TO_nil ?_
    refine T_boxle (xs := [.n, .n]) (ys := [(sl tRelation []), (sl tFact [])]) 1 rfl (leCons leN (leCons leN leNil)) ?_
    refine T_st (σ' := [.box [(sl tRelation d0.relations), (sl tFact d0.facts)], .box [(sl tRelation []), (sl tFact [])]]) rfl ?_
    refine T_ret ?_
    refine then_ret ?_
    obtain rfl := some_inj H
    refine end_ret (.cellK rfl agg48 rfl (lb rfl) (.tmp .nil)) rfl rfl ⟨?_, rfl⟩
    rfl
   ·replace H := cond_f c_8 H
    refine T_skip ?_
    refine sr ?_
    refine TO_cons rfl (TOp_lit (nn := 0) (k := 3) sl45 zero130 rfl rfl rfl rfl (by decide) ?_)
    refine TO_st (σ' := [.box [(sl tRelation d0.relations), (sl tFact d0.facts)], .box [.n, .n], .row (flat tRelation.enc ([] : (List Relation)))]) rfl ?_
    obtain ⟨us_9, h_10, H⟩ := bind_inv H
    refine pv tb 2 rfl ?_
    refine TO_cons rfl (TOp_appZ (T := tRelation) (f := tRelation.enc) (xs := ([] : (List Relation))) (ys := d0.relations) tRelation.len sl45 zero130 rfl bytes130 (by decide) rfl rfl rfl rfl (src_T (T := tRelation) rfl) (flat_cell tRelation _) h_10 (lb rfl) ?_)
    refine toe [(1, (sl tInt l1)), (2, (.b 0 0)), (4, (.b 1 0)), (20, (.b 0 0)), (21, (sl tRelation d0.relations)), (22, (.m [2] 0 us_9.length tRelation.k))] rfl ?_
    refine TO_st (σ' := [.box [(sl tRelation d0.relations), (sl tFact d0.facts)], .box [.n, .n], .row (flat tRelation.enc us_9), .dead]) rfl ?_
    refine Tp rfl rfl (pur_build bld48 rfl rfl) rfl ?_
    refine TO_cons rfl (TOp_alloc zero48 rfl rfl ?_)
    refine TO_cons rfl (TOp_storeB sz48 rfl rfl rfl rfl rfl rfl rfl (by decide) (lb rfl) rfl ?_)
    refine TO_st (σ' := [.box [(sl tRelation d0.relations), (sl tFact d0.facts)], .box [.n, .n], .row (flat tRelation.enc us_9), .dead, .box [(.m [2] 0 us_9.length tRelation.k), .n]]) rfl ?_
    refine TO_nil ?_
    refine T_seq ?_
    refine sr ?_
    refine pv tb 1 rfl ?_
    refine TO_nil ?_
    refine T_row0 ?_
    refine T_boxle (xs := [(.m [2] 0 us_9.length tRelation.k), .n]) (ys := [(.m [2] 0 us_9.length tRelation.k), (.m [5] 0 ([] : (List Fact)).length tFact.k)]) 4 rfl (leCons (leR rfl) (leCons leM leNil)) ?_
    refine T_st (σ' := [.box [(sl tRelation d0.relations), (sl tFact d0.facts)], .box [.n, .n], .row (flat tRelation.enc us_9), .dead, .box [(.m [2] 0 us_9.length tRelation.k), (.m [5] 0 ([] : (List Fact)).length tFact.k)], .row (flat tFact.own ([] : (List Fact)))]) rfl ?_
    obtain ⟨O12_, L12_, N12_⟩ := bind_inv H
    clear H
    obtain ⟨B12_, hb12, L12_⟩ := gen_forS L12_
    refine T_block ?_
    refine T_loopX (fun k => fun (⟨i_11, box4_facts⟩ : Nat × (List Fact)) => k = l1.length - i_11 ∧ forS B12_ (l1.drop i_11) (i_11 : Int) box4_facts = some O12_) (fun (⟨i_11, box4_facts⟩ : Nat × (List Fact)) => [(1, (sl tInt l1)), (2, (.b 0 0)), (4, (.b 1 0)), (6, (.b 4 0)), (7, (intA (i_11 : Int)))]) (fun (⟨i_11, box4_facts⟩ : Nat × (List Fact)) => [.box [(sl tRelation d0.relations), (sl tFact d0.facts)], .box [.n, .n], .row (flat tRelation.enc us_9), .dead, .box [(.m [2] 0 us_9.length tRelation.k), (.m [5] 0 box4_facts.length tFact.k)], .row (flat tFact.own box4_facts)]) _ (0, ([] : (List Fact))) (w0 6) ⟨rfl, L12_⟩ ?_
    rintro _ ⟨i_11, box4_facts⟩ ⟨rfl, L12_⟩
    refine T_fact (len_sl (T := tInt) (.tmp 1) rfl) (fun hl12 => ?_)
    refine T_seq ?_
    refine sr ?_
    refine pv tb 2 rfl ?_
    refine Tp rfl rfl (pur_lenT (T := tInt) sl23 rfl rfl) rfl ?_
    refine pv tb 1 rfl ?_
    refine TO_nil ?_
    refine T_cond (t := decide ((i_11 : Int) < (l1.length : Int))) rfl (fun d12 => ?_) (fun d12 => ?_)
    ·replace d12 := of_decide_eq_true d12
     obtain ⟨x_i_11, hx_i_11⟩ : ∃ v, (l1)[i_11]? = some v := ⟨_, List.getElem?_eq_getElem (by omega)⟩
     obtain ⟨C12_, H, K12_⟩ := forS_step L12_ hx_i_11
     rw [hb12] at H
     refine T_skip ?_
     refine T_seq ?_
     refine T_block ?_
     obtain ⟨v_13, h_14, H⟩ := bind_inv H
     obtain ⟨n_15, hz_16, hv_17⟩ := getI_inv h_14
     refine T_cutX (fun (_ : Unit) => True) (fun _ => [(1, (sl tInt l1)), (2, (.b 0 0)), (4, (.b 1 0)), (6, (.b 4 0)), (7, (intA (i_11 : Int))), (8, (.b 6 0))]) (fun _ => [.box [(sl tRelation d0.relations), (sl tFact d0.facts)], .box [.n, .n], .row (flat tRelation.enc us_9), .dead, .box [(.m [2] 0 us_9.length tRelation.k), (.m [5] 0 box4_facts.length tFact.k)], .row (flat tFact.own box4_facts), .box [(intA v_13.relation), (sl tInt v_13.values)]]) ?_ ?_
     ·skip
      refine T_regionP 6 mixed rfl ?_
      refine pa tb [0, 1, 2, 3] 6 rfl (by kernel_rfl) rfl ?_
      refine tf 4 rfl (pur_ixT (T := tInt) sl23 rfl rfl rfl hx_i_11 rfl) rfl rfl (by kernel_rfl) ?_
      refine tf 5 rfl (pur_ldT (T := tInt) (i := i_11) (off := 0) rfl one3 rfl rfl hx_i_11 rfl) rfl rfl (by kernel_rfl) ?_
      refine tf 6 rfl (pur_ixT (T := tFact) sl46 rfl rfl hz_16 hv_17 rfl) rfl rfl (by kernel_rfl) ?_
      refine tf 7 rfl (pur_ldTK (T := tFact) (i := n_15) (off := 0) rfl agg65 rfl rfl hv_17 (by decide) rfl) rfl rfl (by kernel_rfl) ?_
      refine t1 8 (by kernel_rfl) rfl rfl (TOp_alloc zero65 rfl rfl ?_)
      refine t1 9 (by kernel_rfl) rfl rfl (TOp_storeB sz65 rfl rfl rfl rfl rfl rfl rfl (by decide) (lb rfl) rfl ?_)
      refine TA_st (σ' := [.dead, .dead, .row (flat tRelation.enc us_9), .dead, .dead, .row (flat tFact.own box4_facts), .box [(intA v_13.relation), (sl tInt v_13.values)]]) rfl ?_
      exact TA_nil (by kernel_rfl) (joined () (w0 7) trivial)
     ·rintro _ _
      obtain ⟨us_18, h_19, H⟩ := bind_inv H
      obtain ⟨us_20, h_21, H⟩ := bind_inv H
      refine T_pad ?_
      refine T_pad ?_
      refine T_pad ?_
      refine T_pad ?_
      refine T_regionPh 7 12 mixed rfl (by kernel_rfl) ?_
      refine pa tb [0, 1, 2, 3, 5, 6] 6 rfl (by kernel_rfl) rfl ?_
      refine t1 4 (by kernel_rfl) rfl rfl (TOp_lit (nn := 0) (k := 1) sl23 zero3 rfl rfl rfl rfl (by decide) ?_)
      refine tmw 7 11 (by decide) (lb rfl) rfl rfl (lb rfl) rfl ?_
      refine t1 7 (by kernel_rfl) rfl rfl (TOp_appY (T := tInt) (f := tInt.enc) (xs := ([] : (List Int))) (ys := v_13.values) tInt.len sl23 zero3 rfl bytes3 (by decide) rfl rfl rfl rfl (src_T (T := tInt) rfl) (flat_cell tInt _) h_19 ?_)
      refine tmw 7 12 (by decide) (lb rfl) rfl rfl (lb rfl) rfl ?_
      refine tae [(1, (sl tInt l1)), (2, (.b 0 0)), (4, (.b 1 0)), (6, (.b 4 0)), (7, (intA (i_11 : Int))), (39, (.m [5] 0 box4_facts.length tFact.k)), (41, (intA v_13.relation)), (45, (.m [7] 0 us_18.length tInt.k))] rfl ?_
      refine TA_st (σ' := [.dead, .dead, .row (flat tRelation.enc us_9), .dead, .dead, .row (flat tFact.own box4_facts), .dead, .row (flat tInt.enc us_18), .dead, .dead, .dead, .dead, .dead]) rfl ?_
      refine tf 8 rfl (pur_build bld65 rfl rfl) rfl rfl (by kernel_rfl) ?_
      refine t1 9 (by kernel_rfl) rfl rfl (TOp_ghost (E' := [(1, (sl tInt l1)), (2, (.b 0 0)), (4, (.b 1 0)), (6, (.b 4 0)), (7, (intA (i_11 : Int))), (39, (.m [5] 0 box4_facts.length tFact.k)), (41, (intA v_13.relation)), (45, (.m [7] 0 us_18.length tInt.k)), (46, (.g [(intA v_13.relation), (.m [7] 0 us_18.length tInt.k)]))]) (σ' := [.dead, .dead, .row (flat tRelation.enc us_9), .dead, .dead, .row (flat tFact.own box4_facts), .dead, .row (flat tInt.enc us_18), .dead, .dead, .dead]) (by exact Ghost.weak (w0 11)) (TOp_litB (nn := 1) (k := 2) sl46 zero65 rfl rfl rfl rfl (by decide) ?_))
      refine TA_st (σ' := [.dead, .dead, .row (flat tRelation.enc us_9), .dead, .dead, .row (flat tFact.own box4_facts), .dead, .row (flat tInt.enc us_18), .dead, .dead, .dead, .box [(intA v_13.relation), (.m [7] 0 us_18.length tInt.k)]]) rfl ?_
      refine tmw 10 5 (by decide) (lb rfl) rfl rfl (lb rfl) rfl ?_
      refine t1 10 (by kernel_rfl) rfl rfl (TOp_boxify 10 rfl (lb rfl) (TOp_appB (T := tFact) (xs := box4_facts) (v := ({ relation := v_13.relation, values := us_18 } : Fact)) sl46 zero65 rfl bytes65 (by decide) rfl rfl rfl rfl rfl rfl rfl rfl h_21 (lb rfl) ?_))
      refine tae [(1, (sl tInt l1)), (2, (.b 0 0)), (4, (.b 1 0)), (6, (.b 4 0)), (7, (intA (i_11 : Int))), (41, (intA v_13.relation)), (48, .m [12] 0 (box4_facts.length + 1) tFact.k)] rfl ?_
      refine TA_st (σ' := [.dead, .dead, .row (flat tRelation.enc us_9), .dead, .dead, .dead, .dead, .row (flat tInt.enc us_18), .dead, .dead, .dead, .box [(intA v_13.relation), (.m [7] 0 us_18.length tInt.k)], .box (flat tFact.own box4_facts ++ [(intA v_13.relation), (.m [7] 0 us_18.length tInt.k)])]) rfl ?_
      refine TA_absorbA (pr := flat tFact.own box4_facts) 12 1 7 rfl rfl rfl (by decide) tInt.pos (flat_len tInt.len _) (lb rfl) (lb rfl) rfl (nms_dead (nms_dead (nms_row (nms_dead (nms_dead (nms_dead (nms_dead (nms_row (nms_dead (nms_dead (nms_dead (nms_box rfl (nms_box (namesA namesL_own rfl) nms_nil))))))))))))) ?_
      refine TA_st (σ' := [.dead, .dead, .row (flat tRelation.enc us_9), .dead, .dead, .dead, .dead, .dead, .dead, .dead, .dead, .box [(intA v_13.relation), (.m [7] 0 us_18.length tInt.k)], .box (flat tFact.own box4_facts ++ [(intA v_13.relation), .o tInt.k (flat tInt.enc us_18)])]) rfl ?_
      refine TA_rowifyT (T := tFact) (xs := box4_facts) (v := ({ relation := v_13.relation, values := us_18 } : Fact)) 12 rfl rfl h_21 (lb rfl) ?_
      refine TA_st (σ' := [.dead, .dead, .row (flat tRelation.enc us_9), .dead, .dead, .dead, .dead, .dead, .dead, .dead, .dead, .box [(intA v_13.relation), (.m [7] 0 us_18.length tInt.k)], .row (flat tFact.own us_20)]) rfl ?_
      refine TA_move 10 12 (by decide) (lb rfl) rfl rfl (lb rfl) ?_
      refine TA_env (E' := [(1, (sl tInt l1)), (2, (.b 0 0)), (4, (.b 1 0)), (6, (.b 4 0)), (7, (intA (i_11 : Int))), (41, (intA v_13.relation)), (48, (.m [10] 0 us_20.length tFact.k))]) ⟨rfl, rfl, rfl, rfl, rfl, rfl, (congrArg (fun q => A.m [10] 0 q tFact.k) (app_len h_21)), trivial⟩ ?_
      refine TA_kill 11 (lb rfl) ?_
      refine TA_st (σ' := [.dead, .dead, .row (flat tRelation.enc us_9), .dead, .dead, .dead, .dead, .dead, .dead, .dead, .row (flat tFact.own us_20), .dead, .dead]) rfl ?_
      refine pa tb [11] 0 rfl (by kernel_rfl) rfl ?_
      refine TA_nil (by kernel_rfl) ?_
      refine TA_st (σ' := [.box [(sl tRelation d0.relations), (sl tFact d0.facts)], .box [.n, .n], .row (flat tRelation.enc us_9), .dead, .box [(.m [2] 0 us_9.length tRelation.k), (.m [5] 0 box4_facts.length tFact.k)], .dead, .box [(intA v_13.relation), (sl tInt v_13.values)], .dead, .dead, .dead, .row (flat tFact.own us_20), .dead, .dead]) rfl ?_
      refine tmv 5 10 (by decide) (lb rfl) rfl rfl (lb rfl) ?_
      refine TA_st (σ' := [.box [(sl tRelation d0.relations), (sl tFact d0.facts)], .box [.n, .n], .row (flat tRelation.enc us_9), .dead, .box [(.m [2] 0 us_9.length tRelation.k), .j], .row (flat tFact.own us_20), .box [(intA v_13.relation), (sl tInt v_13.values)], .dead, .dead, .dead, .dead, .dead, .dead]) rfl ?_
      refine t1 12 (by kernel_rfl) rfl rfl (TOp_storeB sz46 rfl rfl rfl rfl rfl rfl rfl (by decide) (lb rfl) rfl ?_)
      refine TA_st (σ' := [.box [(sl tRelation d0.relations), (sl tFact d0.facts)], .box [.n, .n], .row (flat tRelation.enc us_9), .dead, .box [(.m [2] 0 us_9.length tRelation.k), (.m [5] 0 us_20.length tFact.k)], .row (flat tFact.own us_20), .box [(intA v_13.relation), (sl tInt v_13.values)], .dead, .dead, .dead, .dead, .dead, .dead]) rfl ?_
      refine TA_nil (by kernel_rfl) ?_
      refine T_region ?_
      refine pv tb 1 rfl ?_
      refine Tp rfl rfl (pur_add rfl rfl rfl (fits64 (by omega) (by omega))) rfl ?_
      refine pv tb 1 rfl ?_
      refine TO_nil ?_
      obtain rfl := some_inj H
      exact again (l1.length - (i_11 + 1)) (i_11 + 1, us_20) (by omega) (w0 6) ⟨rfl, K12_⟩
    ·replace d12 := of_decide_eq_false d12
     obtain rfl := forS_end L12_ (by omega)
     refine T_exit ?_
     refine then_exit ?_
     refine then_exit ?_
     refine block_exit ?_
     replace H := N12_
     refine sr ?_
     refine pv tb 1 rfl ?_
     refine TO_cons rfl (TOp_storeB sz48 rfl rfl rfl rfl rfl rfl rfl (by decide) (lb rfl) rfl ?_)
     refine TO_st (σ' := [.box [(sl tRelation d0.relations), (sl tFact d0.facts)], .box [(.m [2] 0 us_9.length tRelation.k), (.m [5] 0 box4_facts.length tFact.k)], .row (flat tRelation.enc us_9), .dead, .box [(.m [2] 0 us_9.length tRelation.k), (.m [5] 0 box4_facts.length tFact.k)], .row (flat tFact.own box4_facts)]) rfl ?_
     refine pv tb 1 rfl ?_
     refine TO_nil ?_
     refine T_frzB 2 (E' := [(4, (.b 1 0)), (5, (boolA true))]) (σ' := [.box [(sl tRelation d0.relations), (sl tFact d0.facts)], .box [(sl tRelation us_9), (.m [5] 0 box4_facts.length tFact.k)], .dead, .dead, .box [(sl tRelation us_9), (.m [5] 0 box4_facts.length tFact.k)], .row (flat tFact.own box4_facts)]) rfl (lb rfl) ?_ ?_ ?_
     ·exact ⟨(.keep rfl), (.keep rfl), trivial⟩
     ·exact ⟨(fzK rfl), (fzC fz1E (fzC (.keep rfl) fzN)), trivial, trivial, (fzC fz1E (fzC (.keep rfl) fzN)), rfl, trivial⟩
     refine T_frzB 5 (E' := [(4, (.b 1 0)), (5, (boolA true))]) (σ' := [.box [(sl tRelation d0.relations), (sl tFact d0.facts)], .box [(sl tRelation us_9), (sl tFact box4_facts)], .dead, .dead, .box [(sl tRelation us_9), (sl tFact box4_facts)], .dead]) rfl (lb rfl) ?_ ?_ ?_
     ·exact ⟨(.keep rfl), (.keep rfl), trivial⟩
     ·exact ⟨(fzK rfl), (fzC (.keep rfl) (fzC fz1T fzN)), trivial, trivial, (fzC (.keep rfl) (fzC fz1T fzN)), trivial, trivial⟩
     refine T_ret ?_
     obtain rfl := some_inj H
     refine end_ret (.cellK rfl agg48 rfl (lb rfl) (.tmp .nil)) rfl rfl ⟨?_, rfl⟩
     rfl

set_option maxHeartbeats 1000000 in
theorem m_spec_ResolveConflict_ok (u : Nat) (d0 : Database) (f1 : Fact) (r : (Database × Bool)) (H : m_spec_ResolveConflict u d0 f1 = some r) : FnV prg 59 [(.g (tDatabase.enc d0)), (.g (tFact.enc f1))] (.t [(.g (tDatabase.enc r.1)), (boolA r.2)]) := by
  unfold m_spec_ResolveConflict at H
  refine fnV_of_T Try.func59 rfl rfl (Nat.le_of_ble_eq_true rfl) ?_
  refine te [(0, (.g (tDatabase.enc d0))), (1, (.g (tFact.enc f1)))] rfl ?_
  refine sr ?_
  refine TO_cons rfl (TOp_box rfl (boxAll rfl) rfl rfl ?_)
  refine TO_cons rfl (TOp_box rfl (boxAll rfl) rfl rfl ?_)
  refine TO_cons rfl (TOp_alloc zero48 rfl rfl ?_)
  refine pv tb 1 rfl ?_
  refine TO_nil ?_
  refine T_seq ?_
  refine sr ?_
  obtain ⟨r_1, h_2, H⟩ := bind_inv H
  refine pv tb 2 rfl ?_
  refine TO_cons rfl (TOp_callV (call_static ent109 rfl) (m_spec_ContainsFact_ok u _ _ _ h_2) rfl rfl rfl ?_)
  refine pv tb 1 rfl ?_
  refine TO_nil ?_
  refine T_cond (t := (!r_1)) rfl (fun c_3 => ?_) (fun c_3 => ?_)
  ·replace H := cond_t c_3 H
   refine sr ?_
   obtain ⟨r_4, h_5, H⟩ := bind_inv H
   refine pv tb 1 rfl ?_
   refine TO_cons rfl (TOp_callV (call_static ent112 rfl) (m_spec_l4Copy_ok u _ _ h_5) rfl rfl rfl ?_)
   refine TO_cons rfl (TOp_storeB sz48 rfl rfl rfl rfl rfl rfl rfl (by decide) (lb rfl) rfl ?_)
   refine TO_st (σ' := [.box [(sl tRelation d0.relations), (sl tFact d0.facts)], .box [(intA f1.relation), (sl tInt f1.values)], .box [(sl tRelation r_4.relations), (sl tFact r_4.facts)]]) rfl ?_
   refine pv tb 1 rfl ?_
   refine TO_nil ?_
   refine T_ret ?_
   refine then_ret ?_
   obtain rfl := some_inj H
   refine end_ret (.cellK rfl agg48 rfl (lb rfl) (.tmp .nil)) rfl rfl ⟨?_, rfl⟩
   rfl
  ·replace H := cond_f c_3 H
   refine T_skip ?_
   refine sr ?_
   obtain ⟨r_6, h_7, H⟩ := bind_inv H
   refine pv tb 2 rfl ?_
   refine TO_cons rfl (TOp_callV (call_static ent111 rfl) (m_spec_FactIndex_ok u _ _ _ h_7) rfl rfl rfl ?_)
   refine pv tb 1 rfl ?_
   refine TO_nil ?_
   refine sr ?_
   obtain ⟨r_8, h_9, H⟩ := bind_inv H
   refine pv tb 2 rfl ?_
   refine TO_cons rfl (TOp_callV (call_static ent110 rfl) (m_spec_BlockOf_ok u _ _ _ h_9) rfl rfl rfl ?_)
   refine pv tb 1 rfl ?_
   refine TO_nil ?_
   refine sr ?_
   refine TO_cons rfl (TOp_lit (nn := 0) (k := 1) sl23 zero3 rfl rfl rfl rfl (by decide) ?_)
   refine TO_st (σ' := [.box [(sl tRelation d0.relations), (sl tFact d0.facts)], .box [(intA f1.relation), (sl tInt f1.values)], .box [.n, .n], .row (flat tInt.enc ([] : (List Int)))]) rfl ?_
   refine pv tb 1 rfl ?_
   refine TO_nil ?_
   refine te [(2, (.b 0 0)), (4, (.b 2 0)), (6, (intA r_6)), (7, (sl tInt r_8)), (8, (.m [3] 0 ([] : (List Int)).length tInt.k))] rfl ?_
   refine T_seq ?_
   refine sr ?_
   refine pv tb 1 rfl ?_
   refine TO_nil ?_
   obtain ⟨O10_, L10_, N10_⟩ := bind_inv H
   clear H
   obtain ⟨B10_, hb10, L10_⟩ := gen_whileF L10_
   refine T_block ?_
   refine T_loopX (fun k => fun (⟨keep8, i9⟩ : (List Int) × Int) => whileF B10_ k (keep8, i9) = some O10_) (fun (⟨keep8, i9⟩ : (List Int) × Int) => [(2, (.b 0 0)), (4, (.b 2 0)), (6, (intA r_6)), (7, (sl tInt r_8)), (8, (.m [3] 0 keep8.length tInt.k)), (9, (intA i9))]) (fun (⟨keep8, i9⟩ : (List Int) × Int) => [.box [(sl tRelation d0.relations), (sl tFact d0.facts)], .box [(intA f1.relation), (sl tInt f1.values)], .box [.n, .n], .row (flat tInt.enc keep8)]) u (([] : (List Int)), 0) (w0 4) L10_ ?_
   rintro _ ⟨keep8, i9⟩ L10_
   obtain ⟨k10, rfl, C10_, H, K10_⟩ := while_step L10_
   rw [hb10] at H
   refine T_seq ?_
   refine sr ?_
   refine pv tb 3 rfl ?_
   refine Tp rfl rfl (pur_lenT (T := tFact) sl46 rfl rfl) rfl ?_
   refine pv tb 1 rfl ?_
   refine TO_nil ?_
   refine T_cond (t := decide (i9 < (d0.facts.length : Int))) rfl (fun c_11 => ?_) (fun c_11 => ?_)
   ·replace H := cond_t c_11 H
    refine T_skip ?_
    refine T_seq ?_
    refine T_block ?_
    obtain ⟨t40_12, J_12, H_13⟩ := bind_inv H
    refine T_cutX (fun x => t40_12 = x) (fun (t40_12 : Bool) => [(2, (.b 0 0)), (4, (.b 2 0)), (6, (intA r_6)), (7, (sl tInt r_8)), (8, (.m [3] 0 keep8.length tInt.k)), (9, (intA i9)), (40, (boolA t40_12))]) (fun (t40_12 : Bool) => [.box [(sl tRelation d0.relations), (sl tFact d0.facts)], .box [(intA f1.relation), (sl tInt f1.values)], .box [.n, .n], .row (flat tInt.enc keep8)]) ?_ ?_
    ·replace H := J_12
     refine T_region ?_
     refine pv tb 4 rfl ?_
     refine TO_split (t := decide (i9 = r_6)) 35 rfl (fun g_14 => ?_) (fun g_14 => ?_)
     ·replace H := cond_t g_14 H
      refine pv tb 5 rfl ?_
      refine TO_nil ?_
      exact joined true (w0 4) (some_inj H).symm
     ·replace H := cond_f g_14 H
      obtain ⟨r_15, h_16, H⟩ := bind_inv H
      refine pv tb 2 rfl ?_
      refine TO_on rfl rfl (by decide) rfl rfl (TOp_callV (call_static ent127 rfl) (m_spec_l7Has_ok _ _ _ h_16) rfl rfl rfl ?_)
      refine pv tb 2 rfl ?_
      refine TO_nil ?_
      exact joined (!r_15) (w0 4) (some_inj H).symm
    ·rintro _ rfl
     replace H := H_13
     refine T_cond (t := t40_12) rfl (fun c_17 => ?_) (fun c_17 => ?_)
     ·replace H := cond_t c_17 H
      refine T_region ?_
      refine pv tb 2 rfl ?_
      refine TO_cons rfl (TOp_lit (nn := 1) (k := 1) sl23 zero3 rfl rfl rfl rfl (by decide) ?_)
      refine TO_st (σ' := [.box [(sl tRelation d0.relations), (sl tFact d0.facts)], .box [(intA f1.relation), (sl tInt f1.values)], .box [.n, .n], .row (flat tInt.enc keep8), .row (flat tInt.enc ([i9] : (List Int)))]) rfl ?_
      obtain ⟨us_18, h_19, H⟩ := bind_inv H
      refine TO_cons rfl (TOp_appZ (T := tInt) (f := tInt.enc) (xs := keep8) (ys := ([i9] : (List Int))) tInt.len sl23 zero3 rfl bytes3 (by decide) rfl rfl rfl rfl (src_mT (f := tInt.enc) tInt.len rfl rfl (flat_cell tInt _)) (flat_cell tInt _) h_19 (lb rfl) ?_)
      refine toe [(2, (.b 0 0)), (4, (.b 2 0)), (6, (intA r_6)), (7, (sl tInt r_8)), (9, (intA i9)), (40, (boolA t40_12)), (42, (intA i9)), (43, (.m [4] 0 ([i9] : (List Int)).length tInt.k)), (44, (.m [3] 0 us_18.length tInt.k))] rfl ?_
      refine TO_st (σ' := [.box [(sl tRelation d0.relations), (sl tFact d0.facts)], .box [(intA f1.relation), (sl tInt f1.values)], .box [.n, .n], .row (flat tInt.enc us_18), .row (flat tInt.enc ([i9] : (List Int))), .dead]) rfl ?_
      refine pv tb 1 rfl ?_
      refine TO_nil ?_
      refine T_region ?_
      refine pv tb 3 rfl ?_
      refine TO_nil ?_
      obtain rfl := some_inj H
      exact again k10 (us_18, (w64 (i9 + 1))) (Nat.lt_succ_self _) (w0 4) K10_
     ·replace H := cond_f c_17 H
      refine T_skip ?_
      refine T_region ?_
      refine pv tb 3 rfl ?_
      refine TO_nil ?_
      obtain rfl := some_inj H
      exact again k10 (keep8, (w64 (i9 + 1))) (Nat.lt_succ_self _) (w0 4) K10_
   ·replace H := cond_f c_11 H
    refine T_exit ?_
    refine then_exit ?_
    refine then_exit ?_
    refine block_exit ?_
    obtain rfl := some_inj H
    obtain rfl := some_inj K10_
    replace H := onS_l N10_
    refine sr ?_
    refine pv tb 2 rfl ?_
    refine TO_frz1 3 (E' := [(2, (.b 0 0)), (4, (.b 2 0)), (8, (sl tInt keep8)), (46, (.g (tDatabase.enc d0))), (47, (sl tInt keep8))]) rfl rfl (lb rfl) ⟨(.keep rfl), (.keep rfl), fz1E, (.keep rfl), fz1E, trivial⟩ ?_
    refine TO_st (σ' := [.box [(sl tRelation d0.relations), (sl tFact d0.facts)], .box [(intA f1.relation), (sl tInt f1.values)], .box [.n, .n], .dead]) rfl ?_
    obtain ⟨r_20, h_21, H⟩ := bind_inv H
    refine TO_cons rfl (TOp_callV (call_static ent128 rfl) (m_spec_SelectFacts_ok u _ _ _ h_21) rfl rfl rfl ?_)
    refine pv tb 3 rfl ?_
    refine TO_cons rfl (TOp_alloc zero48 rfl rfl ?_)
    refine TO_cons rfl (TOp_storeB sz48 rfl rfl rfl rfl rfl rfl rfl (by decide) (lb rfl) rfl ?_)
    refine TO_st (σ' := [.box [(sl tRelation d0.relations), (sl tFact d0.facts)], .box [(intA f1.relation), (sl tInt f1.values)], .box [.n, .n], .dead, .box [(sl tRelation r_20.1.relations), (sl tFact r_20.1.facts)]]) rfl ?_
    refine pv tb 1 rfl ?_
    refine TO_nil ?_
    refine te [(4, (.b 2 0)), (10, (.b 4 0))] rfl ?_
    refine sr ?_
    refine pv tb 1 rfl ?_
    refine TO_cons rfl (TOp_storeB sz48 rfl rfl rfl rfl rfl rfl rfl (by decide) (lb rfl) rfl ?_)
    refine TO_st (σ' := [.box [(sl tRelation d0.relations), (sl tFact d0.facts)], .box [(intA f1.relation), (sl tInt f1.values)], .box [(sl tRelation r_20.1.relations), (sl tFact r_20.1.facts)], .dead, .box [(sl tRelation r_20.1.relations), (sl tFact r_20.1.facts)]]) rfl ?_
    refine pv tb 1 rfl ?_
    refine TO_nil ?_
    refine T_ret ?_
    obtain rfl := some_inj H
    refine end_ret (.cellK rfl agg48 rfl (lb rfl) (.tmp .nil)) rfl rfl ⟨?_, rfl⟩
    rfl

set_option maxHeartbeats 1000000 in
theorem m_spec_DeleteFact_own (u : Nat) (d0 : Database) (f1 : Fact) (r : (Database × Bool)) (H : m_spec_DeleteFact u d0 f1 = some r) : FnO prg 113 [(.g (tDatabase.enc d0)), (.g (tFact.enc f1))] (.t [(.g [(.m [0] 0 r.1.relations.length tRelation.k), (.m [1] 0 r.1.facts.length tFact.k)]), (boolA r.2)]) [.row (flat tRelation.enc r.1.relations), .row (flat tFact.enc r.1.facts)] := by
  unfold m_spec_DeleteFact at H
  refine fnO_of_T Try.func113 rfl rfl (Nat.le_of_ble_eq_true rfl) ?_
  refine te [(0, (.g (tDatabase.enc d0))), (1, (.g (tFact.enc f1)))] rfl ?_
  refine sr ?_
  refine TO_cons rfl (TOp_box rfl (boxAll rfl) rfl rfl ?_)
  refine TO_cons rfl (TOp_box rfl (boxAll rfl) rfl rfl ?_)
  refine TO_cons rfl (TOp_alloc zero48 rfl rfl ?_)
  refine pv tb 1 rfl ?_
  refine TO_nil ?_
  refine sr ?_
  obtain ⟨r_1, h_2, H⟩ := bind_inv H
  refine pv tb 1 rfl ?_
  refine TO_cons rfl (TOp_callO (call_static ent112 rfl) rfl (m_spec_l4Copy_enc u _ _ h_2) rfl rfl rfl ?_)
  refine toe [(2, (.b 0 0)), (3, (.b 1 0)), (4, (.b 2 0)), (8, (.g (tDatabase.enc d0))), (9, (.g [(.m [3] 0 r_1.relations.length tRelation.k), (.m [4] 0 r_1.facts.length tFact.k)]))] rfl ?_
  refine TO_st (σ' := [.box [(sl tRelation d0.relations), (sl tFact d0.facts)], .box [(intA f1.relation), (sl tInt f1.values)], .box [.n, .n], .row (flat tRelation.enc r_1.relations), .row (flat tFact.enc r_1.facts)]) rfl ?_
  refine TO_cons rfl (TOp_alloc zero48 rfl rfl ?_)
  refine TO_cons rfl (TOp_storeB sz48 rfl rfl rfl rfl rfl rfl rfl (by decide) (lb rfl) rfl ?_)
  refine TO_st (σ' := [.box [(sl tRelation d0.relations), (sl tFact d0.facts)], .box [(intA f1.relation), (sl tInt f1.values)], .box [.n, .n], .row (flat tRelation.enc r_1.relations), .row (flat tFact.enc r_1.facts), .box [(.m [3] 0 r_1.relations.length tRelation.k), (.m [4] 0 r_1.facts.length tFact.k)]]) rfl ?_
  refine TO_nil ?_
  refine T_seq ?_
  refine sr ?_
  obtain ⟨r_3, h_4, H⟩ := bind_inv H
  refine pv tb 2 rfl ?_
  refine TO_cons rfl (TOp_callV (call_static ent109 rfl) (m_spec_ContainsFact_ok u _ _ _ h_4) rfl rfl rfl ?_)
  refine pv tb 1 rfl ?_
  refine TO_nil ?_
  refine T_cond (t := (!r_3)) rfl (fun c_5 => ?_) (fun c_5 => ?_)
  ·replace H := cond_t c_5 H
   refine sr ?_
   refine pv tb 1 rfl ?_
   refine TO_cons rfl (TOp_storeB sz48 rfl rfl rfl rfl rfl rfl rfl (by decide) (lb rfl) rfl ?_)
   refine TO_st (σ' := [.box [(sl tRelation d0.relations), (sl tFact d0.facts)], .box [(intA f1.relation), (sl tInt f1.values)], .box [(.m [3] 0 r_1.relations.length tRelation.k), (.m [4] 0 r_1.facts.length tFact.k)], .row (flat tRelation.enc r_1.relations), .row (flat tFact.enc r_1.facts), .box [(.m [3] 0 r_1.relations.length tRelation.k), (.m [4] 0 r_1.facts.length tFact.k)]]) rfl ?_
   refine pv tb 1 rfl ?_
   refine TO_nil ?_
   refine T_ret ?_
   refine then_ret ?_
   obtain rfl := some_inj H
   exact end_pick (.cellK rfl agg48 rfl (lb rfl) (.tmp .nil)) rfl [3, 4] (by decide) rfl rfl rfl rfl rfl rfl
  ·replace H := cond_f c_5 H
   refine T_skip ?_
   refine sr ?_
   obtain ⟨r_6, h_7, H⟩ := bind_inv H
   refine pv tb 2 rfl ?_
   refine TO_cons rfl (TOp_callV (call_static ent111 rfl) (m_spec_FactIndex_ok u _ _ _ h_7) rfl rfl rfl ?_)
   refine pv tb 1 rfl ?_
   refine TO_nil ?_
   obtain ⟨ys_8, h_9, H⟩ := bind_inv H
   obtain ⟨i_10, j_11, hi_12, hj_13, hij_14, hjl_15, hys_16, _⟩ := cutI_inv h_9
   obtain ⟨us_17, h_18, H⟩ := bind_inv H
   obtain ⟨ys_19, h_20, H⟩ := bind_inv H
   obtain ⟨i_21, j_22, hi_23, hj_24, hij_25, hjl_26, hys_27, _⟩ := cutI_inv h_20
   obtain ⟨us_28, h_29, H⟩ := bind_inv H
   refine T_pad ?_
   refine T_cutX (fun (_ : Unit) => True) (fun _ => [(4, (.b 2 0)), (6, (.b 5 0))]) (fun _ => [.box [(sl tRelation d0.relations), (sl tFact d0.facts)], .box [(intA f1.relation), (sl tInt f1.values)], .box [.n, .n], .row (flat tRelation.enc r_1.relations), .row (flat tFact.enc r_1.facts), .box [(.m [3] 0 r_1.relations.length tRelation.k), (.m [6] 0 us_28.length tFact.k)], .row (flat tFact.enc us_28)]) ?_ ?_
   ·skip
    refine T_regionPh 6 13 mixed rfl (by kernel_rfl) ?_
    refine pa tb [1, 2, 3] 10 rfl (by kernel_rfl) rfl ?_
    refine tf 4 rfl (pur_cutM (lo := none) (hi := (some (.tmp 21))) sl46 rfl hi_12.symm ⟨_, congrArg (fun z => A.v (.int .i64 z)) hj_13⟩ hij_14 hjl_15 rfl) rfl rfl (by kernel_rfl) ?_
    refine pa tb [6, 7] 7 rfl (by kernel_rfl) rfl ?_
    refine tae [(4, (.b 2 0)), (6, (.b 5 0)), (7, (intA r_6)), (22, (.m [4] (i_10 * tFact.k) (j_11 - i_10) tFact.k)), (25, (.m [4] 0 r_1.facts.length tFact.k))] rfl ?_
    refine pa tb [8, 9] 5 rfl (by kernel_rfl) rfl ?_
    refine tf 10 rfl (pur_cutM (lo := (some (.tmp 27))) (hi := none) sl46 rfl ⟨_, congrArg (fun z => A.v (.int .i64 z)) hi_23⟩ hj_24.symm hij_25 hjl_26 rfl) rfl rfl (by kernel_rfl) ?_
    refine t1 0 (by kernel_rfl) rfl rfl (TOp_lit (nn := 0) (k := 2) sl46 zero65 rfl rfl rfl rfl (by decide) ?_)
    refine t1 5 (by kernel_rfl) rfl rfl (TOp_appY (T := tFact) (f := tFact.enc) (xs := ([] : (List Fact))) (ys := ys_8) tFact.len sl46 zero65 rfl bytes65 (by decide) rfl rfl rfl rfl (src_cut (T := tFact) (xs := r_1.facts) (i := i_10) (j := j_11) rfl rfl hij_14 hjl_15 hys_16) (flat_cell tFact _) h_18 ?_)
    refine tmw 7 8 (by decide) (lb rfl) rfl rfl (lb rfl) rfl ?_
    refine t1 11 (by kernel_rfl) rfl rfl (TOp_appY (T := tFact) (f := tFact.enc) (xs := us_17) (ys := ys_19) tFact.len sl46 zero65 rfl bytes65 (by decide) rfl rfl rfl rfl (src_cut (T := tFact) (xs := r_1.facts) (i := i_21) (j := j_22) rfl rfl hij_25 hjl_26 hys_27) (flat_cell tFact _) h_29 ?_)
    refine tmw 7 9 (by decide) (lb rfl) rfl rfl (lb rfl) rfl ?_
    refine pa tb [12] 0 rfl (by kernel_rfl) rfl ?_
    refine TA_nil (by kernel_rfl) ?_
    refine TA_st (σ' := [.box [(sl tRelation d0.relations), (sl tFact d0.facts)], .box [(intA f1.relation), (sl tInt f1.values)], .box [.n, .n], .row (flat tRelation.enc r_1.relations), .row (flat tFact.enc r_1.facts), .box [(.m [3] 0 r_1.relations.length tRelation.k), (.m [4] 0 r_1.facts.length tFact.k)], .dead, .row (flat tFact.enc us_28), .dead, .dead]) rfl ?_
    refine t1 13 (by kernel_rfl) rfl rfl (TOp_storeB sz46 rfl rfl rfl rfl rfl rfl rfl (by decide) (lb rfl) rfl ?_)
    refine TA_st (σ' := [.box [(sl tRelation d0.relations), (sl tFact d0.facts)], .box [(intA f1.relation), (sl tInt f1.values)], .box [.n, .n], .row (flat tRelation.enc r_1.relations), .row (flat tFact.enc r_1.facts), .box [(.m [3] 0 r_1.relations.length tRelation.k), (.m [7] 0 us_28.length tFact.k)], .dead, .row (flat tFact.enc us_28), .dead, .dead]) rfl ?_
    refine TA_ghost (E' := [(4, (.b 2 0)), (6, (.b 5 0))]) (σ' := [.box [(sl tRelation d0.relations), (sl tFact d0.facts)], .box [(intA f1.relation), (sl tInt f1.values)], .box [.n, .n], .row (flat tRelation.enc r_1.relations), .row (flat tFact.enc r_1.facts), .box [(.m [3] 0 r_1.relations.length tRelation.k), (.m [6] 0 us_28.length tFact.k)], .row (flat tFact.enc us_28), .dead, .dead, .dead]) (Ghost.move 6 7 (by decide) (lb rfl) rfl rfl (lb rfl) (Ghost.weak (WeakL.to 10 (lb rfl) rfl rfl rfl rfl ⟨leR rfl, leR rfl, trivial⟩))) ?_
    exact TA_nil (by kernel_rfl) (joined () (w0 7) trivial)
   ·rintro _ _
    refine sr ?_
    refine pv tb 1 rfl ?_
    refine TO_cons rfl (TOp_storeB sz48 rfl rfl rfl rfl rfl rfl rfl (by decide) (lb rfl) rfl ?_)
    refine TO_st (σ' := [.box [(sl tRelation d0.relations), (sl tFact d0.facts)], .box [(intA f1.relation), (sl tInt f1.values)], .box [(.m [3] 0 r_1.relations.length tRelation.k), (.m [6] 0 us_28.length tFact.k)], .row (flat tRelation.enc r_1.relations), .row (flat tFact.enc r_1.facts), .box [(.m [3] 0 r_1.relations.length tRelation.k), (.m [6] 0 us_28.length tFact.k)], .row (flat tFact.enc us_28)]) rfl ?_
    refine pv tb 1 rfl ?_
    refine TO_nil ?_
    refine T_ret ?_
    obtain rfl := some_inj H
    exact end_pick (.cellK rfl agg48 rfl (lb rfl) (.tmp .nil)) rfl [3, 6] (by decide) rfl rfl rfl rfl rfl rfl
theorem m_spec_DeleteFact_ok (u : Nat) (d0 : Database) (f1 : Fact) (r : (Database × Bool)) (H : m_spec_DeleteFact u d0 f1 = some r) : FnV prg 113 [(.g (tDatabase.enc d0)), (.g (tFact.enc f1))] (.t [(.g (tDatabase.enc r.1)), (boolA r.2)]) := (m_spec_DeleteFact_own u d0 f1 r H).frz (frzOK_t (frz_cons (frzOK_g (frz_cons (frzTE (T := tRelation) rfl) (frz_cons (frzTE (T := tFact) rfl) frz_nil)).1 (frz_cons (frzTE (T := tRelation) rfl) (frz_cons (frzTE (T := tFact) rfl) frz_nil)).2) (frz_cons (frz_loose rfl) frz_nil)).1 (frz_cons (frzOK_g (frz_cons (frzTE (T := tRelation) rfl) (frz_cons (frzTE (T := tFact) rfl) frz_nil)).1 (frz_cons (frzTE (T := tRelation) rfl) (frz_cons (frzTE (T := tFact) rfl) frz_nil)).2) (frz_cons (frz_loose rfl) frz_nil)).2)

set_option maxHeartbeats 1000000 in
theorem m_spec_InsertFact_own (u : Nat) (d0 : Database) (f1 : Fact) (r : (Database × Bool)) (H : m_spec_InsertFact u d0 f1 = some r) : FnO prg 133 [(.g (tDatabase.enc d0)), (.g (tFact.enc f1))] (.t [(.g [(.m [0] 0 r.1.relations.length tRelation.k), (.m [1] 0 r.1.facts.length tFact.k)]), (boolA r.2)]) [.row (flat tRelation.enc r.1.relations), .row (flat tFact.enc r.1.facts)] := by
  unfold m_spec_InsertFact at H
  refine fnO_of_T Try.func133 rfl rfl (Nat.le_of_ble_eq_true rfl) ?_
  refine te [(0, (.g (tDatabase.enc d0))), (1, (.g (tFact.enc f1)))] rfl ?_
  refine sr ?_
  refine TO_cons rfl (TOp_box rfl (boxAll rfl) rfl rfl ?_)
  refine TO_cons rfl (TOp_box rfl (boxAll rfl) rfl rfl ?_)
  refine TO_cons rfl (TOp_alloc zero48 rfl rfl ?_)
  refine pv tb 1 rfl ?_
  refine TO_nil ?_
  refine sr ?_
  obtain ⟨r_1, h_2, H⟩ := bind_inv H
  refine pv tb 1 rfl ?_
  refine TO_cons rfl (TOp_callO (call_static ent112 rfl) rfl (m_spec_l4Copy_enc u _ _ h_2) rfl rfl rfl ?_)
  refine toe [(2, (.b 0 0)), (3, (.b 1 0)), (4, (.b 2 0)), (9, (.g (tDatabase.enc d0))), (10, (.g [(.m [3] 0 r_1.relations.length tRelation.k), (.m [4] 0 r_1.facts.length tFact.k)]))] rfl ?_
  refine TO_st (σ' := [.box [(sl tRelation d0.relations), (sl tFact d0.facts)], .box [(intA f1.relation), (sl tInt f1.values)], .box [.n, .n], .row (flat tRelation.enc r_1.relations), .row (flat tFact.enc r_1.facts)]) rfl ?_
  refine TO_cons rfl (TOp_alloc zero48 rfl rfl ?_)
  refine TO_cons rfl (TOp_storeB sz48 rfl rfl rfl rfl rfl rfl rfl (by decide) (lb rfl) rfl ?_)
  refine TO_st (σ' := [.box [(sl tRelation d0.relations), (sl tFact d0.facts)], .box [(intA f1.relation), (sl tInt f1.values)], .box [.n, .n], .row (flat tRelation.enc r_1.relations), .row (flat tFact.enc r_1.facts), .box [(.m [3] 0 r_1.relations.length tRelation.k), (.m [4] 0 r_1.facts.length tFact.k)]]) rfl ?_
  refine TO_nil ?_
  refine T_seq ?_
  obtain ⟨t31_3, J_3, H_4⟩ := bind_inv H
  refine T_cutX (fun x => t31_3 = x) (fun (t31_3 : Bool) => [(3, (.b 1 0)), (4, (.b 2 0)), (6, (.b 5 0)), (31, (boolA t31_3))]) (fun (t31_3 : Bool) => [.box [(sl tRelation d0.relations), (sl tFact d0.facts)], .box [(intA f1.relation), (sl tInt f1.values)], .box [.n, .n], .row (flat tRelation.enc r_1.relations), .row (flat tFact.enc r_1.facts), .box [(.m [3] 0 r_1.relations.length tRelation.k), (.m [4] 0 r_1.facts.length tFact.k)]]) ?_ ?_
  ·replace H := J_3
   refine T_region ?_
   obtain ⟨r_5, h_6, H⟩ := bind_inv H
   refine pv tb 1 rfl ?_
   refine TO_cons rfl (TOp_callV (call_static ent53 rfl) (m_spec_IsValidDatabase_ok u _ _ h_6) rfl rfl rfl ?_)
   refine pv tb 2 rfl ?_
   refine TO_split (t := (!r_5)) 14 rfl (fun g_7 => ?_) (fun g_7 => ?_)
   ·replace H := cond_t g_7 H
    refine pv tb 17 rfl ?_
    refine TO_nil ?_
    exact joined true (w0 6) (some_inj H).symm
   ·replace H := cond_f g_7 H
    obtain ⟨r_8, h_9, H⟩ := bind_inv H
    refine pv tb 3 rfl ?_
    refine TO_on rfl rfl (by decide) rfl rfl (TOp_callV (call_static ent123 rfl) (m_spec_IsValidFact_ok u _ _ _ h_9) rfl rfl rfl ?_)
    refine pv tb 3 rfl ?_
    refine TO_split (t := (!r_8)) 21 rfl (fun g_10 => ?_) (fun g_10 => ?_)
    ·replace H := cond_t g_10 H
     refine pv tb 10 rfl ?_
     refine TO_nil ?_
     exact joined true (w0 6) (some_inj H).symm
    ·replace H := cond_f g_10 H
     obtain ⟨r_11, h_12, H⟩ := bind_inv H
     refine pv tb 2 rfl ?_
     refine TO_on rfl rfl (by decide) rfl rfl (TOp_callV (call_static ent109 rfl) (m_spec_ContainsFact_ok u _ _ _ h_12) rfl rfl rfl ?_)
     refine pv tb 2 rfl ?_
     refine TO_split (t := r_11) 26 rfl (fun g_13 => ?_) (fun g_13 => ?_)
     ·replace H := cond_t g_13 H
      refine pv tb 5 rfl ?_
      refine TO_nil ?_
      exact joined true (w0 6) (some_inj H).symm
     ·replace H := cond_f g_13 H
      refine pv tb 2 rfl ?_
      refine TO_on rfl rfl (by decide) rfl rfl (TOp_pure (pur_lenT (T := tFact) sl46 rfl rfl) rfl ?_)
      refine pv tb 2 rfl ?_
      refine TO_nil ?_
      exact joined (decide ((d0.facts.length : Int) = 14)) (w0 6) (some_inj H).symm
  ·rintro _ rfl
   replace H := H_4
   refine T_cond (t := t31_3) rfl (fun c_14 => ?_) (fun c_14 => ?_)
   ·replace H := cond_t c_14 H
    refine sr ?_
    refine pv tb 1 rfl ?_
    refine TO_cons rfl (TOp_storeB sz48 rfl rfl rfl rfl rfl rfl rfl (by decide) (lb rfl) rfl ?_)
    refine TO_st (σ' := [.box [(sl tRelation d0.relations), (sl tFact d0.facts)], .box [(intA f1.relation), (sl tInt f1.values)], .box [(.m [3] 0 r_1.relations.length tRelation.k), (.m [4] 0 r_1.facts.length tFact.k)], .row (flat tRelation.enc r_1.relations), .row (flat tFact.enc r_1.facts), .box [(.m [3] 0 r_1.relations.length tRelation.k), (.m [4] 0 r_1.facts.length tFact.k)]]) rfl ?_
    refine pv tb 1 rfl ?_
    refine TO_nil ?_
    refine T_ret ?_
    refine then_ret ?_
    obtain rfl := some_inj H
    exact end_pick (.cellK rfl agg48 rfl (lb rfl) (.tmp .nil)) rfl [3, 4] (by decide) rfl rfl rfl rfl rfl rfl
   ·replace H := cond_f c_14 H
    refine T_skip ?_
    refine sr ?_
    refine pv tb 1 rfl ?_
    refine TO_nil ?_
    obtain ⟨O15_, L15_, N15_⟩ := bind_inv H
    clear H
    obtain ⟨B15_, hb15, L15_⟩ := gen_whileF L15_
    refine T_cutX (fun (x : Int) => O15_ = .inl x) (fun (k7 : Int) => [(3, (.b 1 0)), (4, (.b 2 0)), (6, (.b 5 0)), (7, (intA k7))]) (fun (k7 : Int) => [.box [(sl tRelation d0.relations), (sl tFact d0.facts)], .box [(intA f1.relation), (sl tInt f1.values)], .box [.n, .n], .row (flat tRelation.enc r_1.relations), .row (flat tFact.enc r_1.facts), .box [(.m [3] 0 r_1.relations.length tRelation.k), (.m [4] 0 r_1.facts.length tFact.k)]]) ?_ ?_
    ·skip
     refine T_block ?_
     refine T_loopX (fun k => fun (k7 : Int) => whileF B15_ k k7 = some O15_) (fun (k7 : Int) => [(3, (.b 1 0)), (4, (.b 2 0)), (6, (.b 5 0)), (7, (intA k7))]) (fun (k7 : Int) => [.box [(sl tRelation d0.relations), (sl tFact d0.facts)], .box [(intA f1.relation), (sl tInt f1.values)], .box [.n, .n], .row (flat tRelation.enc r_1.relations), .row (flat tFact.enc r_1.facts), .box [(.m [3] 0 r_1.relations.length tRelation.k), (.m [4] 0 r_1.facts.length tFact.k)]]) u 0 (w0 6) L15_ ?_
     rintro _ k7 L15_
     obtain ⟨k15, rfl, C15_, H, K15_⟩ := while_step L15_
     rw [hb15] at H
     refine T_seq ?_
     obtain ⟨t47_16, J_16, H_17⟩ := bind_inv H
     refine T_cutX (fun x => t47_16 = x) (fun (t47_16 : Bool) => [(3, (.b 1 0)), (4, (.b 2 0)), (6, (.b 5 0)), (7, (intA k7)), (47, (boolA t47_16))]) (fun (t47_16 : Bool) => [.box [(sl tRelation d0.relations), (sl tFact d0.facts)], .box [(intA f1.relation), (sl tInt f1.values)], .box [.n, .n], .row (flat tRelation.enc r_1.relations), .row (flat tFact.enc r_1.facts), .box [(.m [3] 0 r_1.relations.length tRelation.k), (.m [4] 0 r_1.facts.length tFact.k)]]) ?_ ?_
     ·replace H := J_16
      refine T_regionD mixed (by kernel_rfl) ?_
      refine pq tb 3 rfl ?_
      refine TQ_pure rfl (pur_len_m sl46 rfl rfl) rfl ?_
      refine pq tb 2 rfl ?_
      refine TQ_split (t := decide (k7 < (r_1.facts.length : Int))) 38 rfl (fun g_18 => ?_) (fun g_18 => ?_)
      ·replace H := cond_t g_18 H
       obtain ⟨v_19, h_20, H⟩ := bind_inv H
       obtain ⟨n_21, hz_22, hv_23⟩ := getI_inv h_20
       refine pq tb 3 rfl ?_
       refine TQ_on rfl rfl (by decide) rfl (pur_ixM (T := tFact) sl46 rfl rfl hz_22 hv_23 rfl) rfl ?_
       refine TQ_on rfl rfl (by decide) rfl (pur_ldEK (f := tFact.enc) (k := tFact.k) (i := n_21) (off := 0) tFact.len rfl agg65 rfl rfl rfl hv_23 (by decide) rfl) rfl ?_
       obtain ⟨r_24, h_25, H⟩ := bind_inv H
       refine pq tb 1 rfl ?_
       refine TQ_onV rfl rfl (by decide) rfl (call_static ent114 rfl) (m_spec_CompareFacts_ok u _ _ _ h_25) rfl rfl ?_
       refine pq tb 2 rfl ?_
       refine TQ_nil ?_
       exact joined (decide (r_24 < 0)) (w0 6) (some_inj H).symm
      ·replace H := cond_f g_18 H
       refine pq tb 9 rfl ?_
       refine TQ_nil ?_
       exact joined false (w0 6) (some_inj H).symm
     ·rintro _ rfl
      replace H := H_17
      refine T_cond (t := t47_16) rfl (fun c_26 => ?_) (fun c_26 => ?_)
      ·replace H := cond_t c_26 H
       refine T_skip ?_
       refine T_block ?_
       refine T_region ?_
       refine pv tb 3 rfl ?_
       refine TO_nil ?_
       obtain rfl := some_inj H
       exact again k15 (w64 (k7 + 1)) (Nat.lt_succ_self _) (w0 6) K15_
      ·replace H := cond_f c_26 H
       refine T_exit ?_
       refine then_exit ?_
       refine then_exit ?_
       refine block_exit ?_
       obtain rfl := some_inj H
       obtain rfl := some_inj K15_
       exact joined k7 (w0 6) rfl
    ·rintro k7 rfl
     replace H := onS_l N15_
     obtain ⟨us_27, h_28, H⟩ := bind_inv H
     obtain ⟨ys_29, h_30, H⟩ := bind_inv H
     obtain ⟨i_31, j_32, hi_33, hj_34, hij_35, hjl_36, hys_37, _⟩ := cutI_inv h_30
     obtain ⟨us_38, h_39, H⟩ := bind_inv H
     refine T_pad ?_
     refine T_cutX (fun (_ : Unit) => True) (fun _ => [(4, (.b 2 0)), (6, (.b 5 0)), (7, (intA k7)), (8, (.m [6] 0 us_38.length tFact.k))]) (fun _ => [.box [(sl tRelation d0.relations), (sl tFact d0.facts)], .box [(intA f1.relation), (sl tInt f1.values)], .box [.n, .n], .row (flat tRelation.enc r_1.relations), .row (flat tFact.enc r_1.facts), .box [(.m [3] 0 r_1.relations.length tRelation.k), (.m [4] 0 r_1.facts.length tFact.k)], .row (flat tFact.enc us_38)]) ?_ ?_
     ·skip
      refine T_regionP 6 mixed rfl ?_
      refine pa tb [0, 1, 3, 4, 8, 9, 10] 7 rfl (by kernel_rfl) rfl ?_
      refine tf 11 rfl (pur_cutM (lo := (some (.tmp 60))) (hi := none) sl46 rfl ⟨_, congrArg (fun z => A.v (.int .i64 z)) hi_33⟩ hj_34.symm hij_35 hjl_36 rfl) rfl rfl (by kernel_rfl) ?_
      refine t1 2 (by kernel_rfl) rfl rfl (TOp_lit (nn := 0) (k := 1) sl23 zero3 rfl rfl rfl rfl (by decide) ?_)
      refine t1 5 (by kernel_rfl) rfl rfl (TOp_appY (T := tInt) (f := tInt.enc) (xs := ([] : (List Int))) (ys := f1.values) tInt.len sl23 zero3 rfl bytes3 (by decide) rfl rfl rfl rfl (src_T (T := tInt) rfl) (flat_cell tInt _) h_28 ?_)
      refine tmw 7 8 (by decide) (lb rfl) rfl rfl (lb rfl) rfl ?_
      refine tf 6 rfl (pur_build bld65 rfl rfl) rfl rfl (by kernel_rfl) ?_
      refine TA_ghost (E' := [(4, (.b 2 0)), (6, (.b 5 0)), (7, (intA k7)), (56, (.g [(intA f1.relation), (.m [7] 0 us_27.length tInt.k)])), (61, (.m [4] (i_31 * tFact.k) (j_32 - i_31) tFact.k))]) (σ' := [.dead, .dead, .dead, .row (flat tRelation.enc r_1.relations), .row (flat tFact.enc r_1.facts), .dead, .dead, .row (flat tInt.enc us_27), .dead]) (Ghost.weak (WeakL.to 9 (lb rfl) rfl rfl rfl rfl ⟨leR rfl, leR rfl, leR rfl, leR rfl, leR rfl, trivial⟩)) ?_
      refine TA_frz1 7 (E' := [(4, (.b 2 0)), (6, (.b 5 0)), (7, (intA k7)), (56, (.g [(intA f1.relation), (sl tInt us_27)])), (61, (.m [4] (i_31 * tFact.k) (j_32 - i_31) tFact.k))]) rfl rfl (lb rfl) ?_ ?_
      ·exact ⟨(.keep rfl), (.keep rfl), (.keep rfl), (fz1G (fzC (.keep rfl) (fzC fz1E fzN))), (.keep rfl), trivial⟩
      refine TA_st (σ' := [.dead, .dead, .dead, .row (flat tRelation.enc r_1.relations), .row (flat tFact.enc r_1.facts), .dead, .dead, .dead, .dead]) rfl ?_
      refine t1 7 (by kernel_rfl) rfl rfl (TOp_lit (nn := 1) (k := 2) sl46 zero65 rfl rfl rfl rfl (by decide) ?_)
      refine t1 12 (by kernel_rfl) rfl rfl (TOp_appY (T := tFact) (f := tFact.enc) (xs := ([({ relation := f1.relation, values := us_27 } : Fact)] : (List Fact))) (ys := ys_29) tFact.len sl46 zero65 rfl bytes65 (by decide) rfl rfl rfl rfl (src_cut (T := tFact) (xs := r_1.facts) (i := i_31) (j := j_32) rfl rfl hij_35 hjl_36 hys_37) (flat_cell tFact _) h_39 ?_)
      refine tmw 9 10 (by decide) (lb rfl) rfl rfl (lb rfl) rfl ?_
      refine pa tb [13] 0 rfl (by kernel_rfl) rfl ?_
      refine TA_ghost (E' := [(4, (.b 2 0)), (6, (.b 5 0)), (7, (intA k7)), (8, (.m [6] 0 us_38.length tFact.k))]) (σ' := [.dead, .dead, .dead, .row (flat tRelation.enc r_1.relations), .row (flat tFact.enc r_1.facts), .dead, .row (flat tFact.enc us_38), .dead, .dead, .dead, .dead]) (Ghost.move 6 9 (by decide) (lb rfl) rfl rfl (lb rfl) (Ghost.weak (WeakL.to 11 (lb rfl) rfl rfl rfl rfl ⟨leR rfl, leR rfl, leR rfl, leR rfl, trivial⟩))) ?_
      exact TA_nil (by kernel_rfl) (joined () (w0 7) trivial)
     ·rintro _ _
      refine sr ?_
      refine TO_cons rfl (TOp_lit (nn := 0) (k := 2) sl46 zero65 rfl rfl rfl rfl (by decide) ?_)
      refine TO_st (σ' := [.box [(sl tRelation d0.relations), (sl tFact d0.facts)], .box [(intA f1.relation), (sl tInt f1.values)], .box [.n, .n], .row (flat tRelation.enc r_1.relations), .row (flat tFact.enc r_1.facts), .box [(.m [3] 0 r_1.relations.length tRelation.k), (.m [4] 0 r_1.facts.length tFact.k)], .row (flat tFact.enc us_38), .row (flat tFact.enc ([] : (List Fact)))]) rfl ?_
      obtain ⟨ys_40, h_41, H⟩ := bind_inv H
      obtain ⟨i_42, j_43, hi_44, hj_45, hij_46, hjl_47, hys_48, _⟩ := cutI_inv h_41
      refine pv tb 3 rfl ?_
      refine Tp rfl rfl (pur_cutM (lo := none) (hi := (some (.tmp 66))) sl46 rfl hi_44.symm ⟨_, congrArg (fun z => A.v (.int .i64 z)) hj_45⟩ hij_46 hjl_47 rfl) rfl ?_
      obtain ⟨us_49, h_50, H⟩ := bind_inv H
      refine TO_cons rfl (TOp_appZ (T := tFact) (f := tFact.enc) (xs := ([] : (List Fact))) (ys := ys_40) tFact.len sl46 zero65 rfl bytes65 (by decide) rfl rfl rfl rfl (src_cut (T := tFact) (xs := r_1.facts) (i := i_42) (j := j_43) rfl rfl hij_46 hjl_47 hys_48) (flat_cell tFact _) h_50 (lb rfl) ?_)
      refine toe [(4, (.b 2 0)), (6, (.b 5 0)), (7, (intA k7)), (8, (.m [6] 0 us_38.length tFact.k)), (64, (.b 5 1)), (65, (.m [4] 0 r_1.facts.length tFact.k)), (66, (intA k7)), (67, (.m [4] (i_42 * tFact.k) (j_43 - i_42) tFact.k)), (68, (.m [7] 0 us_49.length tFact.k))] rfl ?_
      refine TO_st (σ' := [.box [(sl tRelation d0.relations), (sl tFact d0.facts)], .box [(intA f1.relation), (sl tInt f1.values)], .box [.n, .n], .row (flat tRelation.enc r_1.relations), .row (flat tFact.enc r_1.facts), .box [(.m [3] 0 r_1.relations.length tRelation.k), (.m [4] 0 r_1.facts.length tFact.k)], .row (flat tFact.enc us_38), .row (flat tFact.enc us_49), .dead]) rfl ?_
      obtain ⟨us_51, h_52, H⟩ := bind_inv H
      refine pv tb 1 rfl ?_
      refine TO_cons rfl (TOp_appZ (T := tFact) (f := tFact.enc) (xs := us_49) (ys := us_38) tFact.len sl46 zero65 rfl bytes65 (by decide) rfl rfl rfl rfl (src_mT (f := tFact.enc) tFact.len rfl rfl (flat_cell tFact _)) (flat_cell tFact _) h_52 (lb rfl) ?_)
      refine toe [(4, (.b 2 0)), (6, (.b 5 0)), (7, (intA k7)), (8, (.m [6] 0 us_38.length tFact.k)), (64, (.b 5 1)), (65, (.m [4] 0 r_1.facts.length tFact.k)), (66, (intA k7)), (67, (.m [4] (i_42 * tFact.k) (j_43 - i_42) tFact.k)), (69, (.m [6] 0 us_38.length tFact.k)), (70, (.m [7] 0 us_51.length tFact.k))] rfl ?_
      refine TO_st (σ' := [.box [(sl tRelation d0.relations), (sl tFact d0.facts)], .box [(intA f1.relation), (sl tInt f1.values)], .box [.n, .n], .row (flat tRelation.enc r_1.relations), .row (flat tFact.enc r_1.facts), .box [(.m [3] 0 r_1.relations.length tRelation.k), (.m [4] 0 r_1.facts.length tFact.k)], .row (flat tFact.enc us_38), .row (flat tFact.enc us_51), .dead, .dead]) rfl ?_
      refine pv tb 1 rfl ?_
      refine TO_cons rfl (TOp_storeB sz46 rfl rfl rfl rfl rfl rfl rfl (by decide) (lb rfl) rfl ?_)
      refine TO_st (σ' := [.box [(sl tRelation d0.relations), (sl tFact d0.facts)], .box [(intA f1.relation), (sl tInt f1.values)], .box [.n, .n], .row (flat tRelation.enc r_1.relations), .row (flat tFact.enc r_1.facts), .box [(.m [3] 0 r_1.relations.length tRelation.k), (.m [7] 0 us_51.length tFact.k)], .row (flat tFact.enc us_38), .row (flat tFact.enc us_51), .dead, .dead]) rfl ?_
      refine TO_nil ?_
      refine sr ?_
      refine pv tb 1 rfl ?_
      refine TO_cons rfl (TOp_storeB sz48 rfl rfl rfl rfl rfl rfl rfl (by decide) (lb rfl) rfl ?_)
      refine TO_st (σ' := [.box [(sl tRelation d0.relations), (sl tFact d0.facts)], .box [(intA f1.relation), (sl tInt f1.values)], .box [(.m [3] 0 r_1.relations.length tRelation.k), (.m [7] 0 us_51.length tFact.k)], .row (flat tRelation.enc r_1.relations), .row (flat tFact.enc r_1.facts), .box [(.m [3] 0 r_1.relations.length tRelation.k), (.m [7] 0 us_51.length tFact.k)], .row (flat tFact.enc us_38), .row (flat tFact.enc us_51), .dead, .dead]) rfl ?_
      refine pv tb 1 rfl ?_
      refine TO_nil ?_
      refine T_ret ?_
      obtain rfl := some_inj H
      exact end_pick (.cellK rfl agg48 rfl (lb rfl) (.tmp .nil)) rfl [3, 7] (by decide) rfl rfl rfl rfl rfl rfl
theorem m_spec_InsertFact_ok (u : Nat) (d0 : Database) (f1 : Fact) (r : (Database × Bool)) (H : m_spec_InsertFact u d0 f1 = some r) : FnV prg 133 [(.g (tDatabase.enc d0)), (.g (tFact.enc f1))] (.t [(.g (tDatabase.enc r.1)), (boolA r.2)]) := (m_spec_InsertFact_own u d0 f1 r H).frz (frzOK_t (frz_cons (frzOK_g (frz_cons (frzTE (T := tRelation) rfl) (frz_cons (frzTE (T := tFact) rfl) frz_nil)).1 (frz_cons (frzTE (T := tRelation) rfl) (frz_cons (frzTE (T := tFact) rfl) frz_nil)).2) (frz_cons (frz_loose rfl) frz_nil)).1 (frz_cons (frzOK_g (frz_cons (frzTE (T := tRelation) rfl) (frz_cons (frzTE (T := tFact) rfl) frz_nil)).1 (frz_cons (frzTE (T := tRelation) rfl) (frz_cons (frzTE (T := tFact) rfl) frz_nil)).2) (frz_cons (frz_loose rfl) frz_nil)).2)

set_option maxHeartbeats 1000000 in
theorem m_spec_ApplyEdit_ok (u : Nat) (d0 : Database) (e1 : Edit) (r : (Database × Bool)) (H : m_spec_ApplyEdit u d0 e1 = some r) : FnV prg 70 [(.g (tDatabase.enc d0)), (.g (tEdit.enc e1))] (.t [(.g (tDatabase.enc r.1)), (boolA r.2)]) := by
  unfold m_spec_ApplyEdit at H
  refine fnV_of_T Try.func70 rfl rfl (Nat.le_of_ble_eq_true rfl) ?_
  refine te [(0, (.g (tDatabase.enc d0))), (1, (.g (tEdit.enc e1)))] rfl ?_
  refine sr ?_
  refine TO_cons rfl (TOp_box rfl (boxAll rfl) rfl rfl ?_)
  refine TO_cons rfl (TOp_box rfl (boxAll rfl) rfl rfl ?_)
  refine TO_cons rfl (TOp_alloc zero48 rfl rfl ?_)
  refine pv tb 1 rfl ?_
  refine TO_nil ?_
  refine sr ?_
  obtain ⟨r_1, h_2, H⟩ := bind_inv H
  refine pv tb 1 rfl ?_
  refine TO_cons rfl (TOp_callV (call_static ent112 rfl) (m_spec_l4Copy_ok u _ _ h_2) rfl rfl rfl ?_)
  refine TO_cons rfl (TOp_alloc zero48 rfl rfl ?_)
  refine TO_cons rfl (TOp_storeB sz48 rfl rfl rfl rfl rfl rfl rfl (by decide) (lb rfl) rfl ?_)
  refine TO_st (σ' := [.box [(sl tRelation d0.relations), (sl tFact d0.facts)], .box [(intA e1.kind), (intA e1.fact.relation), (sl tInt e1.fact.values)], .box [.n, .n], .box [(sl tRelation r_1.relations), (sl tFact r_1.facts)]]) rfl ?_
  refine TO_nil ?_
  refine sr ?_
  refine pv tb 1 rfl ?_
  refine TO_nil ?_
  refine T_seq ?_
  refine sr ?_
  refine pv tb 2 rfl ?_
  refine TO_nil ?_
  refine T_block ?_
  refine sr ?_
  refine pv tb 2 rfl ?_
  refine TO_nil ?_
  refine T_cond (t := decide (e1.kind = 1)) rfl (fun c_3 => ?_) (fun c_3 => ?_)
  ·replace H := cond_t c_3 H
   refine T_region ?_
   obtain ⟨r_4, h_5, H⟩ := bind_inv H
   refine pv tb 3 rfl ?_
   refine TO_cons rfl (TOp_callV (call_static ent133 rfl) (m_spec_InsertFact_ok u _ _ _ h_5) rfl rfl rfl ?_)
   refine pv tb 3 rfl ?_
   refine TO_cons rfl (TOp_storeB sz48 rfl rfl rfl rfl rfl rfl rfl (by decide) (lb rfl) rfl ?_)
   refine TO_st (σ' := [.box [(sl tRelation d0.relations), (sl tFact d0.facts)], .box [(intA e1.kind), (intA e1.fact.relation), (sl tInt e1.fact.values)], .box [.n, .n], .box [(sl tRelation r_4.1.relations), (sl tFact r_4.1.facts)]]) rfl ?_
   refine pv tb 1 rfl ?_
   refine TO_nil ?_
   refine te [(4, (.b 2 0)), (6, (.b 3 0)), (7, (boolA r_4.2))] rfl ?_
   refine sr ?_
   refine pv tb 2 rfl ?_
   refine TO_cons rfl (TOp_storeB sz48 rfl rfl rfl rfl rfl rfl rfl (by decide) (lb rfl) rfl ?_)
   refine TO_st (σ' := [.box [(sl tRelation d0.relations), (sl tFact d0.facts)], .box [(intA e1.kind), (intA e1.fact.relation), (sl tInt e1.fact.values)], .box [(sl tRelation r_4.1.relations), (sl tFact r_4.1.facts)], .box [(sl tRelation r_4.1.relations), (sl tFact r_4.1.facts)]]) rfl ?_
   refine pv tb 1 rfl ?_
   refine TO_nil ?_
   refine T_ret ?_
   obtain rfl := some_inj H
   refine end_ret (.cellK rfl agg48 rfl (lb rfl) (.tmp .nil)) rfl rfl ⟨?_, rfl⟩
   rfl
  ·replace H := cond_f c_3 H
   refine sr ?_
   refine pv tb 2 rfl ?_
   refine TO_nil ?_
   refine T_cond (t := decide (e1.kind = 2)) rfl (fun c_6 => ?_) (fun c_6 => ?_)
   ·replace H := cond_t c_6 H
    refine T_region ?_
    obtain ⟨r_7, h_8, H⟩ := bind_inv H
    refine pv tb 3 rfl ?_
    refine TO_cons rfl (TOp_callV (call_static ent113 rfl) (m_spec_DeleteFact_ok u _ _ _ h_8) rfl rfl rfl ?_)
    refine pv tb 3 rfl ?_
    refine TO_cons rfl (TOp_storeB sz48 rfl rfl rfl rfl rfl rfl rfl (by decide) (lb rfl) rfl ?_)
    refine TO_st (σ' := [.box [(sl tRelation d0.relations), (sl tFact d0.facts)], .box [(intA e1.kind), (intA e1.fact.relation), (sl tInt e1.fact.values)], .box [.n, .n], .box [(sl tRelation r_7.1.relations), (sl tFact r_7.1.facts)]]) rfl ?_
    refine pv tb 1 rfl ?_
    refine TO_nil ?_
    refine te [(4, (.b 2 0)), (6, (.b 3 0)), (7, (boolA r_7.2))] rfl ?_
    refine sr ?_
    refine pv tb 2 rfl ?_
    refine TO_cons rfl (TOp_storeB sz48 rfl rfl rfl rfl rfl rfl rfl (by decide) (lb rfl) rfl ?_)
    refine TO_st (σ' := [.box [(sl tRelation d0.relations), (sl tFact d0.facts)], .box [(intA e1.kind), (intA e1.fact.relation), (sl tInt e1.fact.values)], .box [(sl tRelation r_7.1.relations), (sl tFact r_7.1.facts)], .box [(sl tRelation r_7.1.relations), (sl tFact r_7.1.facts)]]) rfl ?_
    refine pv tb 1 rfl ?_
    refine TO_nil ?_
    refine T_ret ?_
    obtain rfl := some_inj H
    refine end_ret (.cellK rfl agg48 rfl (lb rfl) (.tmp .nil)) rfl rfl ⟨?_, rfl⟩
    rfl
   ·replace H := cond_f c_6 H
    refine sr ?_
    refine pv tb 2 rfl ?_
    refine TO_nil ?_
    refine T_cond (t := decide (e1.kind = 3)) rfl (fun c_9 => ?_) (fun c_9 => ?_)
    ·replace H := cond_t c_9 H
     refine T_region ?_
     obtain ⟨r_10, h_11, H⟩ := bind_inv H
     refine pv tb 3 rfl ?_
     refine TO_cons rfl (TOp_callV (call_static ent59 rfl) (m_spec_ResolveConflict_ok u _ _ _ h_11) rfl rfl rfl ?_)
     refine pv tb 3 rfl ?_
     refine TO_cons rfl (TOp_storeB sz48 rfl rfl rfl rfl rfl rfl rfl (by decide) (lb rfl) rfl ?_)
     refine TO_st (σ' := [.box [(sl tRelation d0.relations), (sl tFact d0.facts)], .box [(intA e1.kind), (intA e1.fact.relation), (sl tInt e1.fact.values)], .box [.n, .n], .box [(sl tRelation r_10.1.relations), (sl tFact r_10.1.facts)]]) rfl ?_
     refine pv tb 1 rfl ?_
     refine TO_nil ?_
     refine te [(4, (.b 2 0)), (6, (.b 3 0)), (7, (boolA r_10.2))] rfl ?_
     refine sr ?_
     refine pv tb 2 rfl ?_
     refine TO_cons rfl (TOp_storeB sz48 rfl rfl rfl rfl rfl rfl rfl (by decide) (lb rfl) rfl ?_)
     refine TO_st (σ' := [.box [(sl tRelation d0.relations), (sl tFact d0.facts)], .box [(intA e1.kind), (intA e1.fact.relation), (sl tInt e1.fact.values)], .box [(sl tRelation r_10.1.relations), (sl tFact r_10.1.facts)], .box [(sl tRelation r_10.1.relations), (sl tFact r_10.1.facts)]]) rfl ?_
     refine pv tb 1 rfl ?_
     refine TO_nil ?_
     refine T_ret ?_
     obtain rfl := some_inj H
     refine end_ret (.cellK rfl agg48 rfl (lb rfl) (.tmp .nil)) rfl rfl ⟨?_, rfl⟩
     rfl
    ·replace H := cond_f c_9 H
     refine T_skip ?_
     refine te [(4, (.b 2 0)), (6, (.b 3 0)), (7, (boolA false))] rfl ?_
     refine sr ?_
     refine pv tb 2 rfl ?_
     refine TO_cons rfl (TOp_storeB sz48 rfl rfl rfl rfl rfl rfl rfl (by decide) (lb rfl) rfl ?_)
     refine TO_st (σ' := [.box [(sl tRelation d0.relations), (sl tFact d0.facts)], .box [(intA e1.kind), (intA e1.fact.relation), (sl tInt e1.fact.values)], .box [(sl tRelation r_1.relations), (sl tFact r_1.facts)], .box [(sl tRelation r_1.relations), (sl tFact r_1.facts)]]) rfl ?_
     refine pv tb 1 rfl ?_
     refine TO_nil ?_
     refine T_ret ?_
     obtain rfl := some_inj H
     refine end_ret (.cellK rfl agg48 rfl (lb rfl) (.tmp .nil)) rfl rfl ⟨?_, rfl⟩
     rfl

set_option maxHeartbeats 1000000 in
theorem m_spec_ApplyEdits_ok (u : Nat) (d0 : Database) (l1 : (List Edit)) (r : (Database × Int)) (H : m_spec_ApplyEdits u d0 l1 = some r) : FnV prg 67 [(.g (tDatabase.enc d0)), (sl tEdit l1)] (.t [(.g (tDatabase.enc r.1)), (intA r.2)]) := by
  unfold m_spec_ApplyEdits at H
  refine fnV_of_T Try.func67 rfl rfl (Nat.le_of_ble_eq_true rfl) ?_
  refine te [(0, (.g (tDatabase.enc d0))), (1, (sl tEdit l1))] rfl ?_
  refine sr ?_
  refine TO_cons rfl (TOp_box rfl (boxAll rfl) rfl rfl ?_)
  refine TO_cons rfl (TOp_alloc zero48 rfl rfl ?_)
  refine pv tb 1 rfl ?_
  refine TO_nil ?_
  refine sr ?_
  obtain ⟨r_1, h_2, H⟩ := bind_inv H
  refine pv tb 1 rfl ?_
  refine TO_cons rfl (TOp_callV (call_static ent112 rfl) (m_spec_l4Copy_ok u _ _ h_2) rfl rfl rfl ?_)
  refine TO_cons rfl (TOp_alloc zero48 rfl rfl ?_)
  refine TO_cons rfl (TOp_storeB sz48 rfl rfl rfl rfl rfl rfl rfl (by decide) (lb rfl) rfl ?_)
  refine TO_st (σ' := [.box [(sl tRelation d0.relations), (sl tFact d0.facts)], .box [.n, .n], .box [(sl tRelation r_1.relations), (sl tFact r_1.facts)]]) rfl ?_
  refine TO_nil ?_
  refine sr ?_
  refine pv tb 1 rfl ?_
  refine TO_nil ?_
  refine T_seq ?_
  refine sr ?_
  refine pv tb 1 rfl ?_
  refine TO_nil ?_
  obtain ⟨O4_, L4_, N4_⟩ := bind_inv H
  clear H
  obtain ⟨B4_, hb4, L4_⟩ := gen_forS L4_
  refine T_block ?_
  refine T_loopX (fun k => fun (⟨i_3, n7, box2⟩ : Nat × Int × Database) => k = l1.length - i_3 ∧ forS B4_ (l1.drop i_3) (i_3 : Int) (n7, box2) = some O4_) (fun (⟨i_3, n7, box2⟩ : Nat × Int × Database) => [(1, (sl tEdit l1)), (4, (.b 1 0)), (6, (.b 2 0)), (7, (intA n7)), (8, (intA (i_3 : Int)))]) (fun (⟨i_3, n7, box2⟩ : Nat × Int × Database) => [.box [(sl tRelation d0.relations), (sl tFact d0.facts)], .box [.n, .n], .box [(sl tRelation box2.relations), (sl tFact box2.facts)]]) _ (0, (0, r_1)) (w0 3) ⟨rfl, L4_⟩ ?_
  rintro _ ⟨i_3, n7, box2⟩ ⟨rfl, L4_⟩
  refine T_fact (len_sl (T := tEdit) (.tmp 1) rfl) (fun hl4 => ?_)
  refine T_seq ?_
  refine sr ?_
  refine pv tb 2 rfl ?_
  refine Tp rfl rfl (pur_lenT (T := tEdit) sl90 rfl rfl) rfl ?_
  refine pv tb 1 rfl ?_
  refine TO_nil ?_
  refine T_cond (t := decide ((i_3 : Int) < (l1.length : Int))) rfl (fun d4 => ?_) (fun d4 => ?_)
  ·replace d4 := of_decide_eq_true d4
   obtain ⟨x_i_3, hx_i_3⟩ : ∃ v, (l1)[i_3]? = some v := ⟨_, List.getElem?_eq_getElem (by omega)⟩
   obtain ⟨C4_, H, K4_⟩ := forS_step L4_ hx_i_3
   rw [hb4] at H
   refine T_skip ?_
   refine T_seq ?_
   refine T_block ?_
   obtain ⟨r_5, h_6, H⟩ := bind_inv H
   refine T_pad ?_
   refine T_cutX (fun (_ : Unit) => True) (fun _ => [(1, (sl tEdit l1)), (4, (.b 1 0)), (6, (.b 2 0)), (7, (intA n7)), (8, (intA (i_3 : Int))), (9, (.b 4 0)), (10, (boolA r_5.2))]) (fun _ => [.box [(sl tRelation d0.relations), (sl tFact d0.facts)], .box [.n, .n], .box [(sl tRelation box2.relations), (sl tFact box2.facts)], .dead, .box [(sl tRelation r_5.1.relations), (sl tFact r_5.1.facts)]]) ?_ ?_
   ·skip
    refine T_regionP 3 mixed rfl ?_
    refine TA_have 2 #[true, true, true, true, true, true, true, true, true, true, false, false] [(1, (sl tEdit l1)), (4, (.b 1 0)), (6, (.b 2 0)), (7, (intA n7)), (8, (intA (i_3 : Int))), (9, (.b 4 0)), (26, (.g (tDatabase.enc r_5.1))), (27, (boolA r_5.2))] [.dead, .dead, .dead, .dead, .box [.n, .n]] ?_ (fun hj0_6 => ?_)
    ·skip
     refine t1 10 (by kernel_rfl) rfl rfl (TOp_storeB sz48 rfl rfl rfl rfl rfl rfl rfl (by decide) (lb rfl) rfl ?_)
     refine TA_st (σ' := [.dead, .dead, .dead, .dead, .box [(sl tRelation r_5.1.relations), (sl tFact r_5.1.facts)]]) rfl ?_
     refine pa tb [11] 0 rfl (by kernel_rfl) rfl ?_
     exact TA_nil (by kernel_rfl) (joined () (w0 5) trivial)
    refine pa tb [0, 1, 2] 9 rfl (by kernel_rfl) rfl ?_
    refine tf 3 rfl (pur_ixT (T := tEdit) sl90 rfl rfl rfl hx_i_3 rfl) rfl rfl (by kernel_rfl) ?_
    refine tf 4 rfl (pur_ldTK (T := tEdit) (i := i_3) (off := 0) rfl agg100 rfl rfl hx_i_3 (by decide) rfl) rfl rfl (by kernel_rfl) ?_
    refine TA_all [5, 9] (by kernel_rfl) (by decide) ⟨?_, ?_, trivial⟩
    ·skip
     refine ⟨_, rfl, rfl, (TOp_callV (call_static ent70 rfl) (m_spec_ApplyEdit_ok u _ _ _ h_6) rfl rfl rfl ?_)⟩
     refine pa tb [6, 7, 8] 3 rfl (by kernel_rfl) rfl ?_
     refine t1 9 (by kernel_rfl) rfl rfl (TOp_alloc zero48 rfl rfl ?_)
     exact tj hj0_6 rfl (w0 5)
    ·skip
     refine ⟨_, rfl, rfl, (TOp_alloc zero48 rfl rfl ?_)⟩
     refine t1 5 (by kernel_rfl) rfl rfl (TOp_callV (call_static ent70 rfl) (m_spec_ApplyEdit_ok u _ _ _ h_6) rfl rfl rfl ?_)
     refine pa tb [6, 7, 8] 2 rfl (by kernel_rfl) rfl ?_
     exact tj hj0_6 rfl (w0 5)
   ·rintro _ _
    refine sr ?_
    refine pv tb 1 rfl ?_
    refine TO_cons rfl (TOp_storeB sz48 rfl rfl rfl rfl rfl rfl rfl (by decide) (lb rfl) rfl ?_)
    refine TO_st (σ' := [.box [(sl tRelation d0.relations), (sl tFact d0.facts)], .box [.n, .n], .box [(sl tRelation r_5.1.relations), (sl tFact r_5.1.facts)], .dead, .box [(sl tRelation r_5.1.relations), (sl tFact r_5.1.facts)]]) rfl ?_
    refine TO_nil ?_
    refine sr ?_
    refine pv tb 1 rfl ?_
    refine TO_nil ?_
    refine T_cond (t := r_5.2) rfl (fun c_7 => ?_) (fun c_7 => ?_)
    ·replace H := cond_t c_7 H
     refine T_region ?_
     refine pv tb 3 rfl ?_
     refine TO_nil ?_
     refine T_region ?_
     refine pv tb 1 rfl ?_
     refine Tp rfl rfl (pur_add rfl rfl rfl (fits64 (by omega) (by omega))) rfl ?_
     refine pv tb 1 rfl ?_
     refine TO_nil ?_
     obtain rfl := some_inj H
     exact again (l1.length - (i_3 + 1)) (i_3 + 1, ((w64 (n7 + 1)), r_5.1)) (by omega) (w0 3) ⟨rfl, K4_⟩
    ·replace H := cond_f c_7 H
     refine T_skip ?_
     refine T_region ?_
     refine pv tb 1 rfl ?_
     refine Tp rfl rfl (pur_add rfl rfl rfl (fits64 (by omega) (by omega))) rfl ?_
     refine pv tb 1 rfl ?_
     refine TO_nil ?_
     obtain rfl := some_inj H
     exact again (l1.length - (i_3 + 1)) (i_3 + 1, (n7, r_5.1)) (by omega) (w0 3) ⟨rfl, K4_⟩
  ·replace d4 := of_decide_eq_false d4
   obtain rfl := forS_end L4_ (by omega)
   refine T_exit ?_
   refine then_exit ?_
   refine then_exit ?_
   refine block_exit ?_
   replace H := N4_
   refine sr ?_
   refine pv tb 2 rfl ?_
   refine TO_cons rfl (TOp_storeB sz48 rfl rfl rfl rfl rfl rfl rfl (by decide) (lb rfl) rfl ?_)
   refine TO_st (σ' := [.box [(sl tRelation d0.relations), (sl tFact d0.facts)], .box [(sl tRelation box2.relations), (sl tFact box2.facts)], .box [(sl tRelation box2.relations), (sl tFact box2.facts)]]) rfl ?_
   refine pv tb 1 rfl ?_
   refine TO_nil ?_
   refine T_ret ?_
   obtain rfl := some_inj H
   refine end_ret (.cellK rfl agg48 rfl (lb rfl) (.tmp .nil)) rfl rfl ⟨?_, rfl⟩
   rfl

set_option maxHeartbeats 1000000 in
theorem m_laws_eqEdit_ok (a0 : Edit) (b1 : Edit) (r : Bool) (H : m_laws_eqEdit a0 b1 = some r) : FnV prg 73 [(.g (tEdit.enc a0)), (.g (tEdit.enc b1))] (boolA r) := by
  unfold m_laws_eqEdit at H
  refine fnV_of_T Try.func73 rfl rfl (Nat.le_of_ble_eq_true rfl) ?_
  refine te [(0, (.g (tEdit.enc a0))), (1, (.g (tEdit.enc b1)))] rfl ?_
  refine sr ?_
  refine TO_cons rfl (TOp_box rfl (boxAll rfl) rfl rfl ?_)
  refine TO_cons rfl (TOp_box rfl (boxAll rfl) rfl rfl ?_)
  refine pv tb 1 rfl ?_
  refine TO_nil ?_
  refine T_seq ?_
  refine sr ?_
  refine pv tb 5 rfl ?_
  refine TO_nil ?_
  refine T_cond (t := decide (a0.kind ≠ b1.kind)) rfl (fun c_1 => ?_) (fun c_1 => ?_)
  ·replace H := cond_t c_1 H
   refine sr ?_
   refine pv tb 1 rfl ?_
   refine TO_nil ?_
   refine T_ret ?_
   refine then_ret ?_
   obtain rfl := some_inj H
   refine end_ret (.tmp .nil) rfl rfl ⟨?_, rfl⟩
   rfl
  ·replace H := cond_f c_1 H
   refine T_skip ?_
   refine T_seq ?_
   refine sr ?_
   obtain ⟨r_2, h_3, H⟩ := bind_inv H
   refine pv tb 4 rfl ?_
   refine TO_cons rfl (TOp_callV (call_static ent56 rfl) (m_laws_eqFact_ok _ _ _ h_3) rfl rfl rfl ?_)
   refine pv tb 1 rfl ?_
   refine TO_nil ?_
   refine te [(15, (boolA (!r_2)))] rfl ?_
   refine T_cond (t := (!r_2)) rfl (fun c_4 => ?_) (fun c_4 => ?_)
   ·replace H := cond_t c_4 H
    refine sr ?_
    refine pv tb 1 rfl ?_
    refine TO_nil ?_
    refine T_ret ?_
    refine then_ret ?_
    obtain rfl := some_inj H
    refine end_ret (.tmp .nil) rfl rfl ⟨?_, rfl⟩
    rfl
   ·replace H := cond_f c_4 H
    refine T_skip ?_
    refine sr ?_
    refine pv tb 1 rfl ?_
    refine TO_nil ?_
    refine T_ret ?_
    obtain rfl := some_inj H
    refine end_ret (.tmp .nil) rfl rfl ⟨?_, rfl⟩
    rfl

set_option maxHeartbeats 1000000 in
theorem m_laws_eqEditS_ok (a0 : (List Edit)) (b1 : (List Edit)) (r : Bool) (H : m_laws_eqEditS a0 b1 = some r) : FnV prg 77 [(sl tEdit a0), (sl tEdit b1)] (boolA r) := by
  unfold m_laws_eqEditS at H
  refine fnV_of_T Try.func77 rfl rfl (Nat.le_of_ble_eq_true rfl) ?_
  refine te [(0, (sl tEdit a0)), (1, (sl tEdit b1))] rfl ?_
  refine sr ?_
  refine pv tb 1 rfl ?_
  refine TO_nil ?_
  refine T_seq ?_
  refine sr ?_
  refine pv tb 1 rfl ?_
  refine Tp rfl rfl (pur_lenT (T := tEdit) sl90 rfl rfl) rfl ?_
  refine pv tb 1 rfl ?_
  refine Tp rfl rfl (pur_lenT (T := tEdit) sl90 rfl rfl) rfl ?_
  refine pv tb 1 rfl ?_
  refine TO_nil ?_
  refine T_cond (t := decide ((a0.length : Int) ≠ (b1.length : Int))) rfl (fun c_1 => ?_) (fun c_1 => ?_)
  ·replace H := cond_t c_1 H
   refine sr ?_
   refine pv tb 1 rfl ?_
   refine TO_nil ?_
   refine T_ret ?_
   refine then_ret ?_
   obtain rfl := some_inj H
   refine end_ret (.tmp .nil) rfl rfl ⟨?_, rfl⟩
   rfl
  ·replace H := cond_f c_1 H
   refine T_skip ?_
   refine T_seq ?_
   refine sr ?_
   refine pv tb 1 rfl ?_
   refine TO_nil ?_
   obtain ⟨O3_, L3_, N3_⟩ := bind_inv H
   clear H
   obtain ⟨B3_, hb3, L3_⟩ := gen_forL L3_
   refine T_block ?_
   refine T_loopX (fun k => fun (i_2 : Nat) => k = a0.length - i_2 ∧ forL B3_ (a0.drop i_2) (i_2 : Int) () = some O3_) (fun (i_2 : Nat) => [(0, (sl tEdit a0)), (1, (sl tEdit b1)), (5, (intA (i_2 : Int)))]) (fun (i_2 : Nat) => []) _ (0 : Nat) (w0 0) ⟨rfl, L3_⟩ ?_
   rintro _ i_2 ⟨rfl, L3_⟩
   refine T_fact (len_sl (T := tEdit) (.tmp 0) rfl) (fun hl3 => ?_)
   refine T_seq ?_
   refine sr ?_
   refine pv tb 2 rfl ?_
   refine Tp rfl rfl (pur_lenT (T := tEdit) sl90 rfl rfl) rfl ?_
   refine pv tb 1 rfl ?_
   refine TO_nil ?_
   refine T_cond (t := decide ((i_2 : Int) < (a0.length : Int))) rfl (fun d3 => ?_) (fun d3 => ?_)
   ·replace d3 := of_decide_eq_true d3
    obtain ⟨x_i_2, hx_i_2⟩ : ∃ v, (a0)[i_2]? = some v := ⟨_, List.getElem?_eq_getElem (by omega)⟩
    obtain ⟨C3_, H, K3_⟩ := forL_step L3_ hx_i_2
    rw [hb3] at H
    refine T_skip ?_
    refine T_seq ?_
    refine T_block ?_
    refine T_seq ?_
    refine T_regionD mixed (by kernel_rfl) ?_
    refine pq tb 2 rfl ?_
    refine TQ_pure rfl (pur_ixT (T := tEdit) sl90 rfl rfl rfl hx_i_2 rfl) rfl ?_
    refine TQ_pure rfl (pur_ldTK (T := tEdit) (i := i_2) (off := 0) rfl agg100 rfl rfl hx_i_2 (by decide) rfl) rfl ?_
    obtain ⟨v_4, h_5, H⟩ := bind_inv H
    obtain ⟨n_6, hz_7, hv_8⟩ := getI_inv h_5
    refine pq tb 2 rfl ?_
    refine TQ_pure rfl (pur_ixT (T := tEdit) sl90 rfl rfl hz_7 hv_8 rfl) rfl ?_
    refine TQ_pure rfl (pur_ldTK (T := tEdit) (i := n_6) (off := 0) rfl agg100 rfl rfl hv_8 (by decide) rfl) rfl ?_
    obtain ⟨r_9, h_10, H⟩ := bind_inv H
    refine TQ_callV rfl (call_static ent73 rfl) (m_laws_eqEdit_ok _ _ _ h_10) rfl rfl ?_
    refine pq tb 1 rfl ?_
    refine TQ_nil ?_
    refine T_cond (t := (!r_9)) rfl (fun c_11 => ?_) (fun c_11 => ?_)
    ·replace H := cond_t c_11 H
     refine sr ?_
     refine pv tb 1 rfl ?_
     refine TO_nil ?_
     refine te [(4, (boolA false))] rfl ?_
     refine T_ret ?_
     refine block_ret ?_
     refine then_ret ?_
     refine then_ret ?_
     refine block_ret ?_
     refine then_ret ?_
     obtain rfl := some_inj H
     obtain rfl := some_inj K3_
     replace H := onS_r N3_
     obtain rfl := some_inj H
     refine end_ret (.tmp .nil) rfl rfl ⟨?_, rfl⟩
     rfl
    ·replace H := cond_f c_11 H
     refine T_skip ?_
     refine T_region ?_
     refine pv tb 1 rfl ?_
     refine Tp rfl rfl (pur_add rfl rfl rfl (fits64 (by omega) (by omega))) rfl ?_
     refine pv tb 1 rfl ?_
     refine TO_nil ?_
     obtain rfl := some_inj H
     exact again (a0.length - (i_2 + 1)) (i_2 + 1) (by omega) (w0 0) ⟨rfl, K3_⟩
   ·replace d3 := of_decide_eq_false d3
    obtain rfl := forL_end L3_ (by omega)
    refine T_exit ?_
    refine then_exit ?_
    refine then_exit ?_
    refine block_exit ?_
    replace H := onS_l N3_
    refine sr ?_
    refine pv tb 1 rfl ?_
    refine TO_nil ?_
    refine T_ret ?_
    obtain rfl := some_inj H
    refine end_ret (.tmp .nil) rfl rfl ⟨?_, rfl⟩
    rfl

set_option maxHeartbeats 1000000 in
theorem m_laws_markEditS_mut (a0 : (List Edit)) (k1 : Int) (r : (Int × (List Edit))) (H : m_laws_markEditS a0 k1 = some r) : FnM prg 78 [(.m [0] 0 a0.length tEdit.k), (intA k1)] [flat tEdit.own a0] (.int .i64 r.1) [flat tEdit.own r.2] := by
  unfold m_laws_markEditS at H
  refine fnM_of_T Try.func78 rfl rfl (Nat.le_of_ble_eq_true rfl) ?_
  refine te [(0, (.m [0] 0 a0.length tEdit.k)), (1, (intA k1))] rfl ?_
  refine T_st (σ' := [.row (flat tEdit.own a0)]) rfl ?_
  refine sr ?_
  refine pv tb 1 rfl ?_
  refine TO_nil ?_
  refine T_seq ?_
  refine sr ?_
  refine pv tb 1 rfl ?_
  refine TO_nil ?_
  obtain ⟨O2_, L2_, N2_⟩ := bind_inv H
  clear H
  obtain ⟨B2_, hb2, L2_⟩ := gen_forM L2_
  refine T_block ?_
  refine T_loopX (fun k => fun (⟨i_1, a0m, k1⟩ : Int × (List Edit) × Int) => k = ((a0.length : Int) - i_1).toNat ∧ 0 ≤ i_1 ∧ forM B2_ ((a0.length : Int) - i_1).toNat i_1 (a0m, k1) = some O2_ ∧ a0m.length = a0.length) (fun (⟨i_1, a0m, k1⟩ : Int × (List Edit) × Int) => [(0, (.m [0] 0 a0m.length tEdit.k)), (1, (intA k1)), (5, (intA (i_1 : Int)))]) (fun (⟨i_1, a0m, k1⟩ : Int × (List Edit) × Int) => [.row (flat tEdit.own a0m)]) _ (0, (a0, k1)) (w0 1) ⟨rfl, Int.le_refl _, L2_, rfl⟩ ?_
  rintro _ ⟨i_1, a0m, k1⟩ ⟨rfl, hi2, L2_, hq_a0m⟩
  replace hq_a0m : a0m.length = a0.length := hq_a0m
  refine T_fact (len_m (.tmp 0) rfl) (fun hl2 => ?_)
  refine T_seq ?_
  refine sr ?_
  refine pv tb 2 rfl ?_
  refine Tp rfl rfl (pur_len_m sl90 rfl rfl) rfl ?_
  refine pv tb 1 rfl ?_
  refine TO_nil ?_
  refine T_cond (t := decide ((i_1 : Int) < (a0m.length : Int))) rfl (fun d2 => ?_) (fun d2 => ?_)
  ·replace d2 := of_decide_eq_true d2
   replace d2 : (i_1 : Int) < (a0.length : Int) := by omega
   obtain ⟨C2_, H, K2_⟩ := forM_step L2_ d2
   rw [hb2] at H
   refine T_skip ?_
   refine T_seq ?_
   refine T_block ?_
   refine sr ?_
   obtain ⟨v_3, h_4, H⟩ := bind_inv H
   obtain ⟨n_5, hz_6, hv_7⟩ := getI_inv h_4
   refine pv tb 3 rfl ?_
   refine Tp rfl rfl (pur_ixM (T := tEdit) sl90 rfl rfl hz_6 hv_7 rfl) rfl ?_
   refine pv tb 1 rfl ?_
   refine TO_cons rfl (TOp_setP (f := tEdit.own) (k := tEdit.k) (off := 0) (z := (i_1 : Int)) tEdit.lenO ({ kind := k1, fact := v_3.fact } : Edit) hz_6 sz3 (by decide) rfl rfl rfl rfl rfl hv_7 rfl rfl (by decide) rfl rfl ?_)
   refine TO_env (E' := [(0, (.m [0] 0 (a0m.set ((i_1 : Int)).toNat ({ kind := k1, fact := v_3.fact } : Edit)).length tEdit.k)), (1, (intA k1)), (5, (intA (i_1 : Int))), (12, (.m [0] 0 (a0m.set ((i_1 : Int)).toNat ({ kind := k1, fact := v_3.fact } : Edit)).length tEdit.k)), (13, (intA (i_1 : Int))), (14, (intA k1))]) ⟨(congrArg (fun q => A.m [0] 0 q tEdit.k) (List.length_set ..).symm), rfl, rfl, (congrArg (fun q => A.m [0] 0 q tEdit.k) (List.length_set ..).symm), rfl, rfl, trivial⟩ ?_
   refine TO_st (σ' := [.row (flat tEdit.own (a0m.set ((i_1 : Int)).toNat ({ kind := k1, fact := v_3.fact } : Edit)))]) rfl ?_
   refine TO_nil ?_
   refine sr ?_
   refine pv tb 3 rfl ?_
   refine TO_nil ?_
   refine sr ?_
   obtain ⟨v_8, h_9, H⟩ := bind_inv H
   obtain ⟨n_10, hz_11, hv_12⟩ := getI_inv h_9
   refine pv tb 3 rfl ?_
   refine Tp rfl rfl (pur_ixM (T := tEdit) sl90 rfl rfl hz_11 hv_12 rfl) rfl ?_
   refine pv tb 2 rfl ?_
   refine TO_cons rfl (TOp_setP (f := tEdit.own) (k := tEdit.k) (off := 1) (z := (i_1 : Int)) tEdit.lenO ({ kind := v_8.kind, fact := ({ relation := (w64 (k1 + 1)), values := v_8.fact.values } : Fact) } : Edit) hz_11 sz3 (by decide) rfl rfl rfl rfl rfl hv_12 rfl rfl (by decide) rfl rfl ?_)
   refine TO_env (E' := [(0, (.m [0] 0 ((a0m.set ((i_1 : Int)).toNat ({ kind := k1, fact := v_3.fact } : Edit)).set ((i_1 : Int)).toNat ({ kind := v_8.kind, fact := ({ relation := (w64 (k1 + 1)), values := v_8.fact.values } : Fact) } : Edit)).length tEdit.k)), (1, (intA (w64 (k1 + 1)))), (5, (intA (i_1 : Int))), (19, (.m [0] 0 ((a0m.set ((i_1 : Int)).toNat ({ kind := k1, fact := v_3.fact } : Edit)).set ((i_1 : Int)).toNat ({ kind := v_8.kind, fact := ({ relation := (w64 (k1 + 1)), values := v_8.fact.values } : Fact) } : Edit)).length tEdit.k)), (20, (intA (i_1 : Int))), (21, (intA (w64 (k1 + 1))))]) ⟨(congrArg (fun q => A.m [0] 0 q tEdit.k) (List.length_set ..).symm), rfl, rfl, (congrArg (fun q => A.m [0] 0 q tEdit.k) (List.length_set ..).symm), rfl, rfl, trivial⟩ ?_
   refine TO_st (σ' := [.row (flat tEdit.own ((a0m.set ((i_1 : Int)).toNat ({ kind := k1, fact := v_3.fact } : Edit)).set ((i_1 : Int)).toNat ({ kind := v_8.kind, fact := ({ relation := (w64 (k1 + 1)), values := v_8.fact.values } : Fact) } : Edit)))]) rfl ?_
   refine TO_nil ?_
   refine sr ?_
   refine pv tb 3 rfl ?_
   refine TO_nil ?_
   refine T_region ?_
   obtain ⟨v_13, h_14, H⟩ := bind_inv H
   obtain ⟨n_15, hz_16, hv_17⟩ := getI_inv h_14
   refine pv tb 2 rfl ?_
   refine Tp rfl rfl (pur_ixM (T := tEdit) sl90 rfl rfl hz_16 hv_17 rfl) rfl ?_
   refine pv tb 2 rfl ?_
   refine Tp rfl rfl (pur_ldE (f := tEdit.own) (k := tEdit.k) (i := n_15) (off := 2) tEdit.lenO rfl one23 rfl rfl rfl hv_17 rfl cellVal_sl) rfl ?_
   obtain ⟨r_18, h_19, H⟩ := bind_inv H
   refine pv tb 1 rfl ?_
   refine TO_cons rfl (TOp_callG (aa := [(.m [0, n_15 * tEdit.k + 1 + 1] 0 v_13.fact.values.length tInt.k), (intA (w64 ((w64 (k1 + 1)) + 1)))]) [[0, n_15 * tEdit.k + 1 + 1]] (call_static ent23 rfl) rfl (.cons (rowAt_el (f := tEdit.own) (i := n_15) (off := 2) tEdit.lenO rfl hv_17 rfl) rfl (by simp) .nil) (by simp [namesL, A.names, locP]) (by simp [renPL, A.renP, locF, locP]) (m_laws_markIntS_mut _ _ _ h_19) rfl (fun hl_20 => ?_))
   refine TO_env (E' := [(0, (.m [0] 0 (((a0m.set ((i_1 : Int)).toNat ({ kind := k1, fact := v_3.fact } : Edit)).set ((i_1 : Int)).toNat ({ kind := v_8.kind, fact := ({ relation := (w64 (k1 + 1)), values := v_8.fact.values } : Fact) } : Edit)).set ((i_1 : Int)).toNat ({ kind := v_13.kind, fact := ({ relation := v_13.fact.relation, values := r_18.2 } : Fact) } : Edit)).length tEdit.k)), (1, (intA (w64 ((w64 (k1 + 1)) + 1)))), (5, (intA (i_1 : Int))), (27, (.m [0] 0 (((a0m.set ((i_1 : Int)).toNat ({ kind := k1, fact := v_3.fact } : Edit)).set ((i_1 : Int)).toNat ({ kind := v_8.kind, fact := ({ relation := (w64 (k1 + 1)), values := v_8.fact.values } : Fact) } : Edit)).set ((i_1 : Int)).toNat ({ kind := v_13.kind, fact := ({ relation := v_13.fact.relation, values := r_18.2 } : Fact) } : Edit)).length tEdit.k)), (28, (intA (i_1 : Int))), (33, (intA (w64 ((w64 (k1 + 1)) + 1)))), (34, (intA r_18.1))]) ⟨(congrArg (fun q => A.m [0] 0 q tEdit.k) (List.length_set ..).symm), rfl, rfl, (congrArg (fun q => A.m [0] 0 q tEdit.k) (List.length_set ..).symm), rfl, rfl, rfl, trivial⟩ ?_
   refine TO_st (σ' := [.row (flat tEdit.own (((a0m.set ((i_1 : Int)).toNat ({ kind := k1, fact := v_3.fact } : Edit)).set ((i_1 : Int)).toNat ({ kind := v_8.kind, fact := ({ relation := (w64 (k1 + 1)), values := v_8.fact.values } : Fact) } : Edit)).set ((i_1 : Int)).toNat ({ kind := v_13.kind, fact := ({ relation := v_13.fact.relation, values := r_18.2 } : Fact) } : Edit)))]) (setRows_T (f := tEdit.own) (i := n_15) (v' := ({ kind := v_13.kind, fact := ({ relation := v_13.fact.relation, values := r_18.2 } : Fact) } : Edit)) tEdit.lenO hz_16 [2] rfl hv_17 (allO_cons ⟨_, _, rfl⟩ allO_nil) rfl) ?_
   refine pv tb 1 rfl ?_
   refine TO_nil ?_
   refine te [(0, (.m [0] 0 (((a0m.set ((i_1 : Int)).toNat ({ kind := k1, fact := v_3.fact } : Edit)).set ((i_1 : Int)).toNat ({ kind := v_8.kind, fact := ({ relation := (w64 (k1 + 1)), values := v_8.fact.values } : Fact) } : Edit)).set ((i_1 : Int)).toNat ({ kind := v_13.kind, fact := ({ relation := v_13.fact.relation, values := r_18.2 } : Fact) } : Edit)).length tEdit.k)), (1, (intA r_18.1)), (5, (intA (i_1 : Int)))] rfl ?_
   refine T_region ?_
   refine pv tb 1 rfl ?_
   refine Tp rfl rfl (pur_add rfl rfl rfl (fits64 (by omega) (by omega))) rfl ?_
   refine pv tb 1 rfl ?_
   refine TO_nil ?_
   obtain rfl := some_inj H
   exact again ((a0.length : Int) - (i_1 + 1)).toNat (i_1 + 1, ((((a0m.set ((i_1 : Int)).toNat ({ kind := k1, fact := v_3.fact } : Edit)).set ((i_1 : Int)).toNat ({ kind := v_8.kind, fact := ({ relation := (w64 (k1 + 1)), values := v_8.fact.values } : Fact) } : Edit)).set ((i_1 : Int)).toNat ({ kind := v_13.kind, fact := ({ relation := v_13.fact.relation, values := r_18.2 } : Fact) } : Edit)), r_18.1)) (by omega) (w0 1) ⟨rfl, by omega, K2_, ((List.length_set ..).trans ((List.length_set ..).trans ((List.length_set ..).trans hq_a0m)))⟩
  ·replace d2 := of_decide_eq_false d2
   obtain rfl := forM_end L2_ (by omega)
   refine T_exit ?_
   refine then_exit ?_
   refine then_exit ?_
   refine block_exit ?_
   replace H := N2_
   refine sr ?_
   refine pv tb 2 rfl ?_
   refine TO_nil ?_
   refine T_ret ?_
   obtain rfl := some_inj H
   exact end_M (.tmp .nil) rfl rfl (Nat.le_refl _) (sameLens_c (T := tEdit) hq_a0m trivial) rfl rfl

set_option maxHeartbeats 1000000 in
theorem m_laws_szEdit_ok (a0 : Edit) (left1 : Int) (r : Int) (H : m_laws_szEdit a0 left1 = some r) : FnV prg 69 [(.g (tEdit.enc a0)), (intA left1)] (intA r) := by
  unfold m_laws_szEdit at H
  refine fnV_of_T Try.func69 rfl rfl (Nat.le_of_ble_eq_true rfl) ?_
  refine te [(0, (.g (tEdit.enc a0))), (1, (intA left1))] rfl ?_
  refine sr ?_
  refine TO_cons rfl (TOp_box rfl (boxAll rfl) rfl rfl ?_)
  refine pv tb 1 rfl ?_
  refine TO_nil ?_
  refine sr ?_
  obtain ⟨r_1, h_2, H⟩ := bind_inv H
  refine pv tb 3 rfl ?_
  refine TO_cons rfl (TOp_callV (call_static ent54 rfl) (m_laws_szFact_ok _ _ _ h_2) rfl rfl rfl ?_)
  refine pv tb 1 rfl ?_
  refine TO_nil ?_
  refine T_seq ?_
  refine sr ?_
  refine pv tb 2 rfl ?_
  refine TO_nil ?_
  refine T_cond (t := decide (r_1 < 0)) rfl (fun c_3 => ?_) (fun c_3 => ?_)
  ·replace H := cond_t c_3 H
   refine sr ?_
   refine pv tb 1 rfl ?_
   refine TO_nil ?_
   refine T_ret ?_
   refine then_ret ?_
   obtain rfl := some_inj H
   refine end_ret (.tmp .nil) rfl rfl ⟨?_, rfl⟩
   rfl
  ·replace H := cond_f c_3 H
   refine T_skip ?_
   refine sr ?_
   refine pv tb 2 rfl ?_
   refine TO_nil ?_
   refine T_ret ?_
   obtain rfl := some_inj H
   refine end_ret (.tmp .nil) rfl rfl ⟨?_, rfl⟩
   rfl

set_option maxHeartbeats 1000000 in
theorem m_laws_szEditS_ok (a0 : (List Edit)) (left1 : Int) (r : Int) (H : m_laws_szEditS a0 left1 = some r) : FnV prg 80 [(sl tEdit a0), (intA left1)] (intA r) := by
  unfold m_laws_szEditS at H
  refine fnV_of_T Try.func80 rfl rfl (Nat.le_of_ble_eq_true rfl) ?_
  refine te [(0, (sl tEdit a0)), (1, (intA left1))] rfl ?_
  refine sr ?_
  refine pv tb 1 rfl ?_
  refine TO_nil ?_
  refine sr ?_
  refine pv tb 2 rfl ?_
  refine Tp rfl rfl (pur_lenT (T := tEdit) sl109 rfl rfl) rfl ?_
  refine pv tb 2 rfl ?_
  refine TO_nil ?_
  refine T_seq ?_
  refine sr ?_
  refine pv tb 2 rfl ?_
  refine TO_nil ?_
  refine T_cond (t := decide ((w64 (left1 - (a0.length : Int))) < 0)) rfl (fun c_1 => ?_) (fun c_1 => ?_)
  ·replace H := cond_t c_1 H
   refine sr ?_
   refine pv tb 1 rfl ?_
   refine TO_nil ?_
   refine T_ret ?_
   refine then_ret ?_
   obtain rfl := some_inj H
   refine end_ret (.tmp .nil) rfl rfl ⟨?_, rfl⟩
   rfl
  ·replace H := cond_f c_1 H
   refine T_skip ?_
   refine T_seq ?_
   refine sr ?_
   refine pv tb 1 rfl ?_
   refine TO_nil ?_
   obtain ⟨O3_, L3_, N3_⟩ := bind_inv H
   clear H
   obtain ⟨B3_, hb3, L3_⟩ := gen_forL L3_
   refine T_block ?_
   refine T_loopX (fun k => fun (⟨i_2, left1⟩ : Nat × Int) => k = a0.length - i_2 ∧ forL B3_ (a0.drop i_2) (i_2 : Int) left1 = some O3_) (fun (⟨i_2, left1⟩ : Nat × Int) => [(0, (sl tEdit a0)), (1, (intA left1)), (5, (intA (i_2 : Int)))]) (fun (⟨i_2, left1⟩ : Nat × Int) => []) _ (0, (w64 (left1 - (a0.length : Int)))) (w0 0) ⟨rfl, L3_⟩ ?_
   rintro _ ⟨i_2, left1⟩ ⟨rfl, L3_⟩
   refine T_fact (len_sl (T := tEdit) (.tmp 0) rfl) (fun hl3 => ?_)
   refine T_seq ?_
   refine sr ?_
   refine pv tb 2 rfl ?_
   refine Tp rfl rfl (pur_lenT (T := tEdit) sl109 rfl rfl) rfl ?_
   refine pv tb 1 rfl ?_
   refine TO_nil ?_
   refine T_cond (t := decide ((i_2 : Int) < (a0.length : Int))) rfl (fun d3 => ?_) (fun d3 => ?_)
   ·replace d3 := of_decide_eq_true d3
    obtain ⟨x_i_2, hx_i_2⟩ : ∃ v, (a0)[i_2]? = some v := ⟨_, List.getElem?_eq_getElem (by omega)⟩
    obtain ⟨C3_, H, K3_⟩ := forL_step L3_ hx_i_2
    rw [hb3] at H
    refine T_skip ?_
    refine T_seq ?_
    refine T_block ?_
    refine sr ?_
    refine pv tb 2 rfl ?_
    refine Tp rfl rfl (pur_ixT (T := tEdit) sl109 rfl rfl rfl hx_i_2 rfl) rfl ?_
    refine Tp rfl rfl (pur_ldTK (T := tEdit) (i := i_2) (off := 0) rfl agg96 rfl rfl hx_i_2 (by decide) rfl) rfl ?_
    obtain ⟨r_4, h_5, H⟩ := bind_inv H
    refine pv tb 1 rfl ?_
    refine TO_cons rfl (TOp_callV (call_static ent69 rfl) (m_laws_szEdit_ok _ _ _ h_5) rfl rfl rfl ?_)
    refine pv tb 1 rfl ?_
    refine TO_nil ?_
    refine sr ?_
    refine pv tb 2 rfl ?_
    refine TO_nil ?_
    refine T_cond (t := decide (r_4 < 0)) rfl (fun c_6 => ?_) (fun c_6 => ?_)
    ·replace H := cond_t c_6 H
     refine sr ?_
     refine pv tb 1 rfl ?_
     refine TO_nil ?_
     refine te [(4, (intA (-1)))] rfl ?_
     refine T_ret ?_
     refine block_ret ?_
     refine then_ret ?_
     refine then_ret ?_
     refine block_ret ?_
     refine then_ret ?_
     obtain rfl := some_inj H
     obtain rfl := some_inj K3_
     replace H := onS_r N3_
     obtain rfl := some_inj H
     refine end_ret (.tmp .nil) rfl rfl ⟨?_, rfl⟩
     rfl
    ·replace H := cond_f c_6 H
     refine T_skip ?_
     refine T_region ?_
     refine pv tb 1 rfl ?_
     refine Tp rfl rfl (pur_add rfl rfl rfl (fits64 (by omega) (by omega))) rfl ?_
     refine pv tb 1 rfl ?_
     refine TO_nil ?_
     obtain rfl := some_inj H
     exact again (a0.length - (i_2 + 1)) (i_2 + 1, r_4) (by omega) (w0 0) ⟨rfl, K3_⟩
   ·replace d3 := of_decide_eq_false d3
    obtain rfl := forL_end L3_ (by omega)
    refine T_exit ?_
    refine then_exit ?_
    refine then_exit ?_
    refine block_exit ?_
    replace H := onS_l N3_
    refine sr ?_
    refine pv tb 2 rfl ?_
    refine TO_nil ?_
    refine T_ret ?_
    obtain rfl := some_inj H
    refine end_ret (.tmp .nil) rfl rfl ⟨?_, rfl⟩
    rfl

set_option maxHeartbeats 1000000 in
theorem m_laws_toEdit_own (a0 : Edit) (r : Edit) (H : m_laws_toEdit a0 = some r) : FnO prg 71 [(.g (tEdit.enc a0))] (.g [(intA r.kind), (intA r.fact.relation), (.m [0] 0 r.fact.values.length tInt.k)]) [.row (flat tInt.own r.fact.values)] := by
  unfold m_laws_toEdit at H
  refine fnO_of_T Try.func71 rfl rfl (Nat.le_of_ble_eq_true rfl) ?_
  refine te [(0, (.g (tEdit.enc a0)))] rfl ?_
  refine sr ?_
  refine TO_cons rfl (TOp_box rfl (boxAll rfl) rfl rfl ?_)
  refine TO_cons rfl (TOp_alloc zero100 rfl rfl ?_)
  refine TO_nil ?_
  refine sr ?_
  refine TO_cons rfl (TOp_alloc zero100 rfl rfl ?_)
  refine TO_nil ?_
  refine sr ?_
  refine pv tb 3 rfl ?_
  refine TO_cons rfl (TOp_storeB sz3 rfl rfl rfl rfl rfl rfl rfl (by decide) (lb rfl) rfl ?_)
  refine TO_st (σ' := [.box [(intA a0.kind), (intA a0.fact.relation), (sl tInt a0.fact.values)], .box [(intA 0), (intA 0), .n], .box [(intA a0.kind), (intA 0), .n]]) rfl ?_
  refine TO_nil ?_
  refine sr ?_
  obtain ⟨r_1, h_2, H⟩ := bind_inv H
  refine pv tb 2 rfl ?_
  refine TO_cons rfl (TOp_callO (call_static ent55 rfl) rfl (m_laws_toFact_own _ _ h_2) rfl rfl rfl ?_)
  refine toe [(1, (.b 0 0)), (2, (.b 1 0)), (3, (.b 2 0)), (7, (.b 0 1)), (8, (.g (tFact.enc a0.fact))), (9, (.g [(intA r_1.relation), (.m [3] 0 r_1.values.length tInt.k)]))] rfl ?_
  refine TO_st (σ' := [.box [(intA a0.kind), (intA a0.fact.relation), (sl tInt a0.fact.values)], .box [(intA 0), (intA 0), .n], .box [(intA a0.kind), (intA 0), .n], .row (flat tInt.own r_1.values)]) rfl ?_
  refine pv tb 1 rfl ?_
  refine TO_cons rfl (TOp_storeB sz65 rfl rfl rfl rfl rfl rfl rfl (by decide) (lb rfl) rfl ?_)
  refine TO_st (σ' := [.box [(intA a0.kind), (intA a0.fact.relation), (sl tInt a0.fact.values)], .box [(intA 0), (intA 0), .n], .box [(intA a0.kind), (intA r_1.relation), (.m [3] 0 r_1.values.length tInt.k)], .row (flat tInt.own r_1.values)]) rfl ?_
  refine TO_nil ?_
  refine sr ?_
  refine pv tb 1 rfl ?_
  refine TO_cons rfl (TOp_storeB sz100 rfl rfl rfl rfl rfl rfl rfl (by decide) (lb rfl) rfl ?_)
  refine TO_st (σ' := [.box [(intA a0.kind), (intA a0.fact.relation), (sl tInt a0.fact.values)], .box [(intA a0.kind), (intA r_1.relation), (.m [3] 0 r_1.values.length tInt.k)], .box [(intA a0.kind), (intA r_1.relation), (.m [3] 0 r_1.values.length tInt.k)], .row (flat tInt.own r_1.values)]) rfl ?_
  refine TO_nil ?_
  refine T_ret ?_
  obtain rfl := some_inj H
  exact end_pick (.cellK rfl agg100 rfl (lb rfl) .nil) rfl [3] (by decide) rfl rfl rfl rfl rfl rfl
theorem m_laws_toEdit_ok (a0 : Edit) (r : Edit) (H : m_laws_toEdit a0 = some r) : FnV prg 71 [(.g (tEdit.enc a0))] (.g (tEdit.enc r)) := (m_laws_toEdit_own a0 r H).frz (frzOK_g (frz_cons (frz_loose rfl) (frz_cons (frz_loose rfl) (frz_cons (frzT (T := tInt) rfl) frz_nil))).1 (frz_cons (frz_loose rfl) (frz_cons (frz_loose rfl) (frz_cons (frzT (T := tInt) rfl) frz_nil))).2)

set_option maxHeartbeats 1000000 in
theorem m_laws_toEditS_own (a0 : (List Edit)) (r : (List Edit)) (H : m_laws_toEditS a0 = some r) : FnO prg 81 [(sl tEdit a0)] (.m [0] 0 r.length tEdit.k) [.row (flat tEdit.own r)] := by
  unfold m_laws_toEditS at H
  refine fnO_of_T Try.func81 rfl rfl (Nat.le_of_ble_eq_true rfl) ?_
  refine te [(0, (sl tEdit a0))] rfl ?_
  refine sr ?_
  refine pv tb 1 rfl ?_
  refine TO_nil ?_
  refine sr ?_
  refine pv tb 1 rfl ?_
  refine Tp rfl rfl (pur_lenT (T := tEdit) sl109 rfl rfl) rfl ?_
  obtain ⟨us_1, h_2, H⟩ := bind_inv H
  refine TO_cons rfl (TOp_makeN (T := tEdit) (f := tEdit.own) (zs := [.int .i64 0, .int .i64 0, .slice none 0 0]) (z := (default : Edit)) tEdit.lenO (nilL_cons nilS (nilL_cons nilS (nilL_cons nilO nilL_nil))) rfl sl90 zero100 bytes100 rfl rfl rfl rfl h_2 ?_)
  refine TO_st (σ' := [.row (flat tEdit.own us_1)]) rfl ?_
  refine pv tb 1 rfl ?_
  refine TO_nil ?_
  refine T_seq ?_
  refine sr ?_
  refine pv tb 1 rfl ?_
  refine TO_nil ?_
  obtain ⟨O4_, L4_, N4_⟩ := bind_inv H
  clear H
  obtain ⟨B4_, hb4, L4_⟩ := gen_forS L4_
  refine T_block ?_
  refine T_loopX (fun k => fun (⟨i_3, out3⟩ : Nat × (List Edit)) => k = a0.length - i_3 ∧ forS B4_ (a0.drop i_3) (i_3 : Int) out3 = some O4_) (fun (⟨i_3, out3⟩ : Nat × (List Edit)) => [(0, (sl tEdit a0)), (3, (.m [0] 0 out3.length tEdit.k)), (4, (intA (i_3 : Int)))]) (fun (⟨i_3, out3⟩ : Nat × (List Edit)) => [.row (flat tEdit.own out3)]) _ (0, us_1) (w0 1) ⟨rfl, L4_⟩ ?_
  rintro _ ⟨i_3, out3⟩ ⟨rfl, L4_⟩
  refine T_fact (len_sl (T := tEdit) (.tmp 0) rfl) (fun hl4 => ?_)
  refine T_seq ?_
  refine sr ?_
  refine pv tb 2 rfl ?_
  refine Tp rfl rfl (pur_lenT (T := tEdit) sl109 rfl rfl) rfl ?_
  refine pv tb 1 rfl ?_
  refine TO_nil ?_
  refine T_cond (t := decide ((i_3 : Int) < (a0.length : Int))) rfl (fun d4 => ?_) (fun d4 => ?_)
  ·replace d4 := of_decide_eq_true d4
   obtain ⟨x_i_3, hx_i_3⟩ : ∃ v, (a0)[i_3]? = some v := ⟨_, List.getElem?_eq_getElem (by omega)⟩
   obtain ⟨C4_, H, K4_⟩ := forS_step L4_ hx_i_3
   rw [hb4] at H
   refine T_skip ?_
   refine T_seq ?_
   refine T_block ?_
   refine T_region ?_
   refine pv tb 4 rfl ?_
   refine Tp rfl rfl (pur_ixT (T := tEdit) sl109 rfl rfl rfl hx_i_3 rfl) rfl ?_
   refine Tp rfl rfl (pur_ldTK (T := tEdit) (i := i_3) (off := 0) rfl agg96 rfl rfl hx_i_3 (by decide) rfl) rfl ?_
   obtain ⟨r_5, h_6, H⟩ := bind_inv H
   refine TO_cons rfl (TOp_callO (call_static ent71 rfl) rfl (m_laws_toEdit_own _ _ h_6) rfl rfl rfl ?_)
   refine toe [(0, (sl tEdit a0)), (3, (.m [0] 0 out3.length tEdit.k)), (4, (intA (i_3 : Int))), (14, (.m [0] 0 out3.length tEdit.k)), (15, (intA (i_3 : Int))), (16, (sl tEdit a0)), (17, (intA (i_3 : Int))), (18, (.q (flat tEdit.enc a0) (i_3 * tEdit.k))), (19, (.g (tEdit.enc x_i_3))), (20, (.g [(intA r_5.kind), (intA r_5.fact.relation), (.m [1] 0 r_5.fact.values.length tInt.k)]))] rfl ?_
   refine TO_st (σ' := [.row (flat tEdit.own out3), .row (flat tInt.own r_5.fact.values)]) rfl ?_
   obtain ⟨v_7, h_8, H⟩ := bind_inv H
   obtain ⟨n_9, hz_10, hv_11⟩ := getI_inv h_8
   refine Tp rfl rfl (pur_ixM (T := tEdit) sl90 rfl rfl hz_10 hv_11 rfl) rfl ?_
   refine TO_boxify 0 rfl (lb rfl) ?_
   refine TO_cons rfl (TOp_setN (T := tEdit) (i := n_9) (off := 0) (xs := out3) (v := v_7) hz_10 sz100 (by decide) rfl rfl rfl rfl rfl hv_11 rfl rfl (lb rfl) rfl ?_)
   refine toe [(0, (sl tEdit a0)), (3, (.m [0] 0 out3.length tEdit.k)), (4, (intA (i_3 : Int))), (14, (.m [0] 0 out3.length tEdit.k)), (15, (intA (i_3 : Int))), (16, (sl tEdit a0)), (17, (intA (i_3 : Int))), (18, (.q (flat tEdit.enc a0) (i_3 * tEdit.k))), (19, (.g (tEdit.enc x_i_3)))] rfl ?_
   refine TO_st (σ' := [.box (spl (flat tEdit.own out3) (n_9 * tEdit.k) [(intA r_5.kind), (intA r_5.fact.relation), (.m [1] 0 r_5.fact.values.length tInt.k)]), .row (flat tInt.own r_5.fact.values)]) rfl ?_
   refine TO_absorbS (T := tEdit) (i := n_9) (xs := out3) (v := v_7) 0 2 1 rfl hv_11 rfl rfl rfl (by decide) tInt.pos (flat_len tInt.lenO _) (lb rfl) (lb rfl) rfl (nms_box (namesL_spl namesL_own rfl) (nms_row nms_nil)) ?_
   refine TO_st (σ' := [.box (spl (flat tEdit.own out3) (n_9 * tEdit.k) [(intA r_5.kind), (intA r_5.fact.relation), .o tInt.k (flat tInt.own r_5.fact.values)]), .dead]) rfl ?_
   refine TO_rowifyS (T := tEdit) (i := n_9) (xs := out3) 0 r_5 hz_10 rfl hv_11 rfl (lb rfl) ?_
   refine TO_env (E' := [(0, (sl tEdit a0)), (3, (.m [0] 0 (out3.set ((i_3 : Int)).toNat r_5).length tEdit.k)), (4, (intA (i_3 : Int))), (14, (.m [0] 0 (out3.set ((i_3 : Int)).toNat r_5).length tEdit.k)), (15, (intA (i_3 : Int))), (16, (sl tEdit a0)), (17, (intA (i_3 : Int))), (18, (.q (flat tEdit.enc a0) (i_3 * tEdit.k))), (19, (.g (tEdit.enc x_i_3)))]) ⟨rfl, (congrArg (fun q => A.m [0] 0 q tEdit.k) (List.length_set ..).symm), rfl, (congrArg (fun q => A.m [0] 0 q tEdit.k) (List.length_set ..).symm), rfl, rfl, rfl, rfl, rfl, trivial⟩ ?_
   refine TO_st (σ' := [.row (flat tEdit.own (out3.set ((i_3 : Int)).toNat r_5)), .dead]) rfl ?_
   refine TO_nil ?_
   refine T_region ?_
   refine pv tb 1 rfl ?_
   refine Tp rfl rfl (pur_add rfl rfl rfl (fits64 (by omega) (by omega))) rfl ?_
   refine pv tb 1 rfl ?_
   refine TO_nil ?_
   obtain rfl := some_inj H
   exact again (a0.length - (i_3 + 1)) (i_3 + 1, (out3.set ((i_3 : Int)).toNat r_5)) (by omega) (w0 1) ⟨rfl, K4_⟩
  ·replace d4 := of_decide_eq_false d4
   obtain rfl := forS_end L4_ (by omega)
   refine T_exit ?_
   refine then_exit ?_
   refine then_exit ?_
   refine block_exit ?_
   replace H := N4_
   refine sr ?_
   refine pv tb 2 rfl ?_
   refine TO_nil ?_
   refine T_ret ?_
   obtain rfl := some_inj H
   exact end_pick (.tmp .nil) rfl [0] (by decide) rfl rfl rfl rfl rfl rfl
theorem m_laws_toEditS_ok (a0 : (List Edit)) (r : (List Edit)) (H : m_laws_toEditS a0 = some r) : FnV prg 81 [(sl tEdit a0)] (sl tEdit r) := (m_laws_toEditS_own a0 r H).frz (frzT (T := tEdit) rfl)
end Go.Proofs.Ytjdpolnakhmkmaa

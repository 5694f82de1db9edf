/- Walks. -/
import Derived.Test.YtjdpolnakhmkmaaM1
import Derived.Test.YtjdpolnakhmkmaaM2
import Derived.Test.YtjdpolnakhmkmaaM3
import Derived.Test.YtjdpolnakhmkmaaM4
import Derived.Test.YtjdpolnakhmkmaaM6
import Derived.Test.YtjdpolnakhmkmaaM7
set_option linter.unusedVariables false
set_option linter.unusedSimpArgs false
set_option maxRecDepth 4000
namespace Go.Proofs.Ytjdpolnakhmkmaa
open Go Go.Proofs Go.Sep
set_option maxHeartbeats 1000000 in
/-- spec.SelectFacts -/
theorem m_spec_SelectFacts_ok (u : Nat) (d0 : Database) (l1 : (List Int)) (r : (Database × Bool)) (H : m_spec_SelectFacts u d0 l1 = some r) : FnV prg 128 [(.g (tDatabase.enc d0)), (sl tInt l1)] (.t [(.g (tDatabase.enc r.1)), (boolA r.2)]) := by
  unfold m_spec_SelectFacts at H
  refine fnV_of_T Try.func128 rfl rfl (Nat.le_of_ble_eq_true rfl) ?_
  refine te [(0, (.g (tDatabase.enc d0))), (1, (sl tInt l1))] rfl ?_
  refine sr ?_
  refine TO_cons rfl (TOp_box rfl (boxAll rfl) rfl rfl ?_)
  refine TO_cons rfl (TOp_alloc zero48 rfl rfl ?_)
  refine Tp rfl rfl (pur_assign rfl) rfl ?_
  refine TO_nil ?_
  refine te [(1, (sl tInt l1)), (2, (.b 0 0)), (4, (.b 1 0))] rfl ?_
  refine T_seq ?_
  obtain ⟨t17_1, J_1, H_2⟩ := bind_inv H
  refine T_cutX (fun x => t17_1 = x) (fun (t17_1 : Bool) => [(1, (sl tInt l1)), (2, (.b 0 0)), (4, (.b 1 0)), (17, (boolA t17_1))]) (fun (t17_1 : Bool) => [.box [(sl tRelation d0.relations), (sl tFact d0.facts)], .box [.n, .n]]) ?_ ?_
  ·replace H := J_1
   refine T_region ?_
   refine Tp rfl rfl (pur_ldK_b agg48 rfl rfl (lb rfl) rfl) rfl ?_
   obtain ⟨r_3, h_4, H⟩ := bind_inv H
   refine TO_cons rfl (TOp_callV (call_static ent53 rfl) (m_spec_IsValidDatabase_ok u _ _ h_4) rfl rfl rfl ?_)
   refine Tp rfl rfl (pur_not rfl rfl) rfl ?_
   refine Tp rfl rfl (pur_move rfl) rfl ?_
   refine TO_split (t := (!r_3)) 12 rfl (fun g_5 => ?_) (fun g_5 => ?_)
   ·replace H := cond_t g_5 H
    refine TO_off rfl rfl (by decide) rfl rfl rfl ?_
    refine TO_off rfl rfl (by decide) rfl rfl rfl ?_
    refine TO_off rfl rfl (by decide) rfl rfl rfl ?_
    refine TO_off rfl rfl (by decide) rfl rfl rfl ?_
    refine Tp rfl rfl (pur_pick (t := true) rfl rfl rfl) rfl ?_
    refine TO_nil ?_
    exact joined true (wp 2 (lb rfl) rfl rfl rfl rfl rfl) (some_inj H).symm
   ·replace H := cond_f g_5 H
    refine TO_on rfl rfl (by decide) rfl rfl (TOp_pure (pur_ldK_b agg48 rfl rfl (lb rfl) rfl) rfl ?_)
    refine TO_on rfl rfl (by decide) rfl rfl (TOp_pure (pur_move rfl) rfl ?_)
    obtain ⟨r_6, h_7, H⟩ := bind_inv H
    refine TO_on rfl rfl (by decide) rfl rfl (TOp_callV (call_static ent171 rfl) (m_spec_l4Set_ok _ _ _ h_7) rfl rfl rfl ?_)
    refine TO_on rfl rfl (by decide) rfl rfl (TOp_pure (pur_not rfl rfl) rfl ?_)
    refine Tp rfl rfl (pur_pick (t := false) rfl rfl rfl) rfl ?_
    refine TO_nil ?_
    exact joined (!r_6) (wp 2 (lb rfl) rfl rfl rfl rfl rfl) (some_inj H).symm
  ·rintro _ rfl
   replace H := H_2
   refine te [(1, (sl tInt l1)), (2, (.b 0 0)), (4, (.b 1 0)), (17, (boolA t17_1))] rfl ?_
   refine T_cond (t := t17_1) rfl (fun c_8 => ?_) (fun c_8 => ?_)
   ·replace H := cond_t c_8 H
    refine sr ?_
    refine Tp rfl rfl (pur_build bld48 rfl rfl) rfl ?_
    refine TO_cons rfl (TOp_storeB sz48 rfl rfl rfl rfl rfl rfl rfl (by decide) (lb rfl) rfl ?_)
    refine TO_st (σ' := [.box [(sl tRelation d0.relations), (sl tFact d0.facts)], .box [.n, .n]]) rfl ?_
    refine Tp rfl rfl (pur_assign rfl) rfl ?_
    refine TO_nil ?_
    refine te [(4, (.b 1 0)), (5, (boolA false))] rfl ?_
    refine T_boxle (xs := [.n, .n]) (ys := [(sl tRelation []), (sl tFact [])]) 1 rfl (leCons leN (leCons leN leNil)) ?_
    refine T_st (σ' := [.box [(sl tRelation d0.relations), (sl tFact d0.facts)], .box [(sl tRelation []), (sl tFact [])]]) rfl ?_
    refine T_ret ?_
    refine then_ret ?_
    obtain rfl := some_inj H
    refine end_ret (.cellK rfl agg48 rfl (lb rfl) (.tmp .nil)) rfl rfl ⟨?_, rfl⟩
    rfl
   ·replace H := cond_f c_8 H
    refine T_skip ?_
    refine te [(1, (sl tInt l1)), (2, (.b 0 0)), (4, (.b 1 0))] rfl ?_
    refine sr ?_
    refine TO_cons rfl (TOp_lit (nn := 0) (k := 3) sl45 zero130 rfl rfl rfl rfl (by decide) ?_)
    refine TO_st (σ' := [.box [(sl tRelation d0.relations), (sl tFact d0.facts)], .box [.n, .n], .row (flat tRelation.enc ([] : (List Relation)))]) rfl ?_
    refine Tp rfl rfl (pur_fa_b fld48_0 rfl rfl) rfl ?_
    refine Tp rfl rfl (pur_ld_b one45 rfl rfl rfl rfl) rfl ?_
    obtain ⟨us_9, h_10, H⟩ := bind_inv H
    refine TO_cons rfl (TOp_appZ (T := tRelation) (f := tRelation.enc) (xs := ([] : (List Relation))) (ys := d0.relations) tRelation.len sl45 zero130 rfl bytes130 (by decide) rfl rfl rfl rfl (src_T (T := tRelation) rfl) (flat_cell tRelation _) h_10 (lb rfl) ?_)
    refine toe [(1, (sl tInt l1)), (2, (.b 0 0)), (4, (.b 1 0)), (20, (.b 0 0)), (21, (sl tRelation d0.relations)), (22, (.m [2] 0 us_9.length tRelation.k))] rfl ?_
    refine TO_st (σ' := [.box [(sl tRelation d0.relations), (sl tFact d0.facts)], .box [.n, .n], .row (flat tRelation.enc us_9), .dead]) rfl ?_
    refine Tp rfl rfl (pur_build bld48 rfl rfl) rfl ?_
    refine TO_cons rfl (TOp_alloc zero48 rfl rfl ?_)
    refine TO_cons rfl (TOp_storeB sz48 rfl rfl rfl rfl rfl rfl rfl (by decide) (lb rfl) rfl ?_)
    refine TO_st (σ' := [.box [(sl tRelation d0.relations), (sl tFact d0.facts)], .box [.n, .n], .row (flat tRelation.enc us_9), .dead, .box [(.m [2] 0 us_9.length tRelation.k), .n]]) rfl ?_
    refine TO_nil ?_
    refine te [(1, (sl tInt l1)), (2, (.b 0 0)), (4, (.b 1 0)), (6, (.b 4 0))] rfl ?_
    refine T_seq ?_
    refine sr ?_
    refine Tp rfl rfl (pur_assign rfl) rfl ?_
    refine TO_nil ?_
    refine te [(1, (sl tInt l1)), (2, (.b 0 0)), (4, (.b 1 0)), (6, (.b 4 0)), (7, (intA 0))] rfl ?_
    refine T_row0 ?_
    refine T_boxle (xs := [(.m [2] 0 us_9.length tRelation.k), .n]) (ys := [(.m [2] 0 us_9.length tRelation.k), (.m [5] 0 ([] : (List Fact)).length tFact.k)]) 4 rfl (leCons (leR rfl) (leCons leM leNil)) ?_
    refine T_st (σ' := [.box [(sl tRelation d0.relations), (sl tFact d0.facts)], .box [.n, .n], .row (flat tRelation.enc us_9), .dead, .box [(.m [2] 0 us_9.length tRelation.k), (.m [5] 0 ([] : (List Fact)).length tFact.k)], .row (flat tFact.enc ([] : (List Fact)))]) rfl ?_
    obtain ⟨O12_, L12_, N12_⟩ := bind_inv H
    clear H
    obtain ⟨B12_, hb12, L12_⟩ := gen_forS L12_
    refine T_block ?_
    refine T_loopX (fun k => fun (x_ : Nat × (List Fact)) => k = l1.length - x_.1 ∧ forS B12_ (l1.drop x_.1) (x_.1 : Int) x_.2 = some O12_) (fun (x_ : Nat × (List Fact)) => [(1, (sl tInt l1)), (2, (.b 0 0)), (4, (.b 1 0)), (6, (.b 4 0)), (7, (intA (x_.1 : Int)))]) (fun (x_ : Nat × (List Fact)) => [.box [(sl tRelation d0.relations), (sl tFact d0.facts)], .box [.n, .n], .row (flat tRelation.enc us_9), .dead, .box [(.m [2] 0 us_9.length tRelation.k), (.m [5] 0 x_.2.length tFact.k)], .row (flat tFact.enc x_.2)]) _ (0, ([] : (List Fact))) (wp 6 (lb rfl) rfl rfl rfl rfl rfl) ⟨rfl, L12_⟩ ?_
    rintro _ ⟨i_11, box4_facts⟩ ⟨rfl, L12_⟩
    refine te [(1, (sl tInt l1)), (2, (.b 0 0)), (4, (.b 1 0)), (6, (.b 4 0)), (7, (intA (i_11 : Int)))] rfl ?_
    refine T_st (σ' := [.box [(sl tRelation d0.relations), (sl tFact d0.facts)], .box [.n, .n], .row (flat tRelation.enc us_9), .dead, .box [(.m [2] 0 us_9.length tRelation.k), (.m [5] 0 box4_facts.length tFact.k)], .row (flat tFact.enc box4_facts)]) rfl ?_
    refine T_fact (len_sl (T := tInt) (.tmp 1) rfl) (fun hl12 => ?_)
    refine T_seq ?_
    refine sr ?_
    refine Tp rfl rfl (pur_move rfl) rfl ?_
    refine Tp rfl rfl (pur_move rfl) rfl ?_
    refine Tp rfl rfl (pur_lenT (T := tInt) sl23 rfl rfl) rfl ?_
    refine Tp rfl rfl (pur_lss rfl rfl rfl) rfl ?_
    refine TO_nil ?_
    refine te [(1, (sl tInt l1)), (2, (.b 0 0)), (4, (.b 1 0)), (6, (.b 4 0)), (7, (intA (i_11 : Int))), (27, (boolA (decide ((i_11 : Int) < (l1.length : Int)))))] rfl ?_
    refine T_cond (t := decide ((i_11 : Int) < (l1.length : Int))) rfl (fun d12 => ?_) (fun d12 => ?_)
    ·replace d12 := of_decide_eq_true d12
     obtain ⟨x_i_11, hx_i_11⟩ : ∃ v, (l1)[i_11]? = some v := ⟨_, List.getElem?_eq_getElem (by omega)⟩
     obtain ⟨C12_, H, K12_⟩ := forS_step L12_ hx_i_11
     rw [hb12] at H
     refine T_skip ?_
     refine te [(1, (sl tInt l1)), (2, (.b 0 0)), (4, (.b 1 0)), (6, (.b 4 0)), (7, (intA (i_11 : Int)))] rfl ?_
     refine T_seq ?_
     refine T_block ?_
     obtain ⟨v_13, h_14, H⟩ := bind_inv H
     obtain ⟨n_15, hz_16, hv_17⟩ := getI_inv h_14
     refine T_pad ?_
     refine T_cutX (fun (_ : Unit) => True) (fun _ => [(1, (sl tInt l1)), (2, (.b 0 0)), (4, (.b 1 0)), (6, (.b 4 0)), (7, (intA (i_11 : Int))), (8, (.b 7 0))]) (fun _ => [.box [(sl tRelation d0.relations), (sl tFact d0.facts)], .box [.n, .n], .row (flat tRelation.enc us_9), .dead, .box [(.m [2] 0 us_9.length tRelation.k), (.m [5] 0 box4_facts.length tFact.k)], .row (flat tFact.enc box4_facts), .dead, .box [(intA v_13.relation), (sl tInt v_13.values)]]) ?_ ?_
     ·skip
      refine T_regionP mixed ?_
      refine TA_have 1 #[true, true, true, true, true, true, true, true, true, false] [(1, (sl tInt l1)), (2, (.b 0 0)), (4, (.b 1 0)), (6, (.b 4 0)), (7, (intA (i_11 : Int))), (8, (.b 7 0)), (37, (.g (tFact.enc v_13)))] [.box [(sl tRelation d0.relations), (sl tFact d0.facts)], .box [.n, .n], .row (flat tRelation.enc us_9), .dead, .box [(.m [2] 0 us_9.length tRelation.k), (.m [5] 0 box4_facts.length tFact.k)], .row (flat tFact.enc box4_facts), .dead, .box [(intA 0), .n]] ?_ (fun hj0_7 => ?_)
      ·skip
       refine t1 9 (by kernel_rfl) rfl rfl (TOp_storeB sz65 rfl rfl rfl rfl rfl rfl rfl (by decide) (lb rfl) rfl ?_)
       refine TA_st (σ' := [.box [(sl tRelation d0.relations), (sl tFact d0.facts)], .box [.n, .n], .row (flat tRelation.enc us_9), .dead, .box [(.m [2] 0 us_9.length tRelation.k), (.m [5] 0 box4_facts.length tFact.k)], .row (flat tFact.enc box4_facts), .dead, .box [(intA v_13.relation), (sl tInt v_13.values)]]) rfl ?_
       exact TA_nil (by kernel_rfl) (joined () (wp 8 (lb rfl) rfl rfl rfl rfl rfl) trivial)
      refine TA_have 2 #[true, true, true, true, true, true, true, false, true, false] [(1, (sl tInt l1)), (2, (.b 0 0)), (4, (.b 1 0)), (6, (.b 4 0)), (7, (intA (i_11 : Int))), (8, (.b 7 0)), (36, (.q (flat tFact.enc d0.facts) (n_15 * tFact.k)))] [.box [(sl tRelation d0.relations), (sl tFact d0.facts)], .box [.n, .n], .row (flat tRelation.enc us_9), .dead, .box [(.m [2] 0 us_9.length tRelation.k), (.m [5] 0 box4_facts.length tFact.k)], .row (flat tFact.enc box4_facts), .dead, .box [(intA 0), .n]] ?_ (fun hj1_7 => ?_)
      ·skip
       refine t1 7 (by kernel_rfl) rfl rfl (TOp_pure (pur_ldTK (T := tFact) (i := n_15) (off := 0) rfl agg65 rfl rfl hv_17 (by decide) rfl) rfl ?_)
       exact tj hj0_7 rfl (wp 8 (lb rfl) rfl rfl rfl rfl rfl)
      refine TA_have 3 #[true, true, true, true, true, true, false, false, true, false] [(1, (sl tInt l1)), (2, (.b 0 0)), (4, (.b 1 0)), (6, (.b 4 0)), (7, (intA (i_11 : Int))), (8, (.b 7 0)), (31, (sl tFact d0.facts)), (35, (intA x_i_11))] [.box [(sl tRelation d0.relations), (sl tFact d0.facts)], .box [.n, .n], .row (flat tRelation.enc us_9), .dead, .box [(.m [2] 0 us_9.length tRelation.k), (.m [5] 0 box4_facts.length tFact.k)], .row (flat tFact.enc box4_facts), .dead, .box [(intA 0), .n]] ?_ (fun hj2_7 => ?_)
      ·skip
       refine tf 6 rfl (purI_ixT (T := tFact) sl46 rfl rfl hz_16 hv_17 rfl) rfl rfl (by kernel_rfl) ?_
       exact tj hj1_7 rfl (wp 8 (lb rfl) rfl rfl rfl rfl rfl)
      refine TA_have 4 #[true, false, true, true, true, true, false, false, true, false] [(1, (sl tInt l1)), (2, (.b 0 0)), (4, (.b 1 0)), (6, (.b 4 0)), (7, (intA (i_11 : Int))), (8, (.b 7 0)), (30, (.b 0 1)), (35, (intA x_i_11))] [.box [(sl tRelation d0.relations), (sl tFact d0.facts)], .box [.n, .n], .row (flat tRelation.enc us_9), .dead, .box [(.m [2] 0 us_9.length tRelation.k), (.m [5] 0 box4_facts.length tFact.k)], .row (flat tFact.enc box4_facts), .dead, .box [(intA 0), .n]] ?_ (fun hj3_7 => ?_)
      ·skip
       refine t1 1 (by kernel_rfl) rfl rfl (TOp_pure (pur_ld_b one46 rfl rfl rfl rfl) rfl ?_)
       exact tj hj2_7 rfl (wp 8 (lb rfl) rfl rfl rfl rfl rfl)
      refine TA_have 4 #[true, true, true, true, true, false, false, false, true, false] [(1, (sl tInt l1)), (2, (.b 0 0)), (4, (.b 1 0)), (6, (.b 4 0)), (7, (intA (i_11 : Int))), (8, (.b 7 0)), (31, (sl tFact d0.facts)), (34, (.q (flat tInt.enc l1) (i_11 * tInt.k)))] [.box [(sl tRelation d0.relations), (sl tFact d0.facts)], .box [.n, .n], .row (flat tRelation.enc us_9), .dead, .box [(.m [2] 0 us_9.length tRelation.k), (.m [5] 0 box4_facts.length tFact.k)], .row (flat tFact.enc box4_facts), .dead, .box [(intA 0), .n]] ?_ (fun hj4_7 => ?_)
      ·skip
       refine t1 5 (by kernel_rfl) rfl rfl (TOp_pure (pur_ldT (T := tInt) (i := i_11) (off := 0) rfl one3 rfl rfl hx_i_11 rfl) rfl ?_)
       exact tj hj2_7 rfl (wp 8 (lb rfl) rfl rfl rfl rfl rfl)
      refine TA_have 4 #[true, true, true, true, true, true, false, false, false, false] [(1, (sl tInt l1)), (2, (.b 0 0)), (4, (.b 1 0)), (6, (.b 4 0)), (7, (intA (i_11 : Int))), (31, (sl tFact d0.facts)), (35, (intA x_i_11))] [.box [(sl tRelation d0.relations), (sl tFact d0.facts)], .box [.n, .n], .row (flat tRelation.enc us_9), .dead, .box [(.m [2] 0 us_9.length tRelation.k), (.m [5] 0 box4_facts.length tFact.k)], .row (flat tFact.enc box4_facts), .dead] ?_ (fun hj5_7 => ?_)
      ·skip
       refine tf 6 rfl (purI_ixT (T := tFact) sl46 rfl rfl hz_16 hv_17 rfl) rfl rfl (by kernel_rfl) ?_
       refine TA_all [7, 8] (by kernel_rfl) (by decide) ⟨?_, ?_, trivial⟩
       ·skip
        refine ⟨_, rfl, rfl, (TOp_pure (pur_ldTK (T := tFact) (i := n_15) (off := 0) rfl agg65 rfl rfl hv_17 (by decide) rfl) rfl ?_)⟩
        refine t1 8 (by kernel_rfl) rfl rfl (TOp_alloc zero65 rfl rfl ?_)
        exact tj hj0_7 rfl (wp 8 (lb rfl) rfl rfl rfl rfl rfl)
       ·skip
        refine ⟨_, rfl, rfl, (TOp_alloc zero65 rfl rfl ?_)⟩
        exact tj hj1_7 rfl (wp 8 (lb rfl) rfl rfl rfl rfl rfl)
      refine tf 0 rfl (purI_fa_b fld48_1 rfl rfl) rfl rfl (by kernel_rfl) ?_
      refine tf 2 rfl (purI_move rfl) rfl rfl (by kernel_rfl) ?_
      refine tf 3 rfl (purI_move rfl) rfl rfl (by kernel_rfl) ?_
      refine tf 4 rfl (purI_ixT (T := tInt) sl23 rfl rfl rfl hx_i_11 rfl) rfl rfl (by kernel_rfl) ?_
      refine TA_all [1, 5, 8] (by kernel_rfl) (by decide) ⟨?_, ?_, ?_, trivial⟩
      ·skip
       refine ⟨_, rfl, rfl, (TOp_pure (pur_ld_b one46 rfl rfl rfl rfl) rfl ?_)⟩
       refine TA_all [5, 8] (by kernel_rfl) (by decide) ⟨?_, ?_, trivial⟩
       ·skip
        refine ⟨_, rfl, rfl, (TOp_pure (pur_ldT (T := tInt) (i := i_11) (off := 0) rfl one3 rfl rfl hx_i_11 rfl) rfl ?_)⟩
        exact tj hj5_7 rfl (wp 7 (lb rfl) rfl rfl rfl rfl rfl)
       ·skip
        refine ⟨_, rfl, rfl, (TOp_alloc zero65 rfl rfl ?_)⟩
        exact tj hj4_7 rfl (wp 8 (lb rfl) rfl rfl rfl rfl rfl)
      ·skip
       refine ⟨_, rfl, rfl, (TOp_pure (pur_ldT (T := tInt) (i := i_11) (off := 0) rfl one3 rfl rfl hx_i_11 rfl) rfl ?_)⟩
       refine TA_all [1, 8] (by kernel_rfl) (by decide) ⟨?_, ?_, trivial⟩
       ·skip
        refine ⟨_, rfl, rfl, (TOp_pure (pur_ld_b one46 rfl rfl rfl rfl) rfl ?_)⟩
        exact tj hj5_7 rfl (wp 7 (lb rfl) rfl rfl rfl rfl rfl)
       ·skip
        refine ⟨_, rfl, rfl, (TOp_alloc zero65 rfl rfl ?_)⟩
        exact tj hj3_7 rfl (wp 8 (lb rfl) rfl rfl rfl rfl rfl)
      ·skip
       refine ⟨_, rfl, rfl, (TOp_alloc zero65 rfl rfl ?_)⟩
       refine TA_all [1, 5] (by kernel_rfl) (by decide) ⟨?_, ?_, trivial⟩
       ·skip
        refine ⟨_, rfl, rfl, (TOp_pure (pur_ld_b one46 rfl rfl rfl rfl) rfl ?_)⟩
        exact tj hj4_7 rfl (wp 8 (lb rfl) rfl rfl rfl rfl rfl)
       ·skip
        refine ⟨_, rfl, rfl, (TOp_pure (pur_ldT (T := tInt) (i := i_11) (off := 0) rfl one3 rfl rfl hx_i_11 rfl) rfl ?_)⟩
        exact tj hj3_7 rfl (wp 8 (lb rfl) rfl rfl rfl rfl rfl)
     ·rintro _ _
      refine te [(1, (sl tInt l1)), (2, (.b 0 0)), (4, (.b 1 0)), (6, (.b 4 0)), (7, (intA (i_11 : Int))), (8, (.b 7 0))] rfl ?_
      obtain ⟨us_18, h_19, H⟩ := bind_inv H
      obtain ⟨us_20, h_21, H⟩ := bind_inv H
      refine T_pad ?_
      refine T_pad ?_
      refine T_regionP mixed ?_
      refine TA_have 3 #[true, true, true, true, true, true, true, true, true, true, false, false, false] [(1, (sl tInt l1)), (2, (.b 0 0)), (4, (.b 1 0)), (6, (.b 4 0)), (7, (intA (i_11 : Int))), (39, (.m [5] 0 box4_facts.length tFact.k)), (47, (.m [9] 0 ([({ relation := v_13.relation, values := us_18 } : Fact)] : (List Fact)).length tFact.k))] [.box [(sl tRelation d0.relations), (sl tFact d0.facts)], .box [.n, .n], .row (flat tRelation.enc us_9), .dead, .box [(.m [2] 0 us_9.length tRelation.k), (.m [5] 0 box4_facts.length tFact.k)], .row (flat tFact.enc box4_facts), .dead, .box [(intA v_13.relation), (sl tInt v_13.values)], .dead, .row (flat tFact.enc ([({ relation := v_13.relation, values := us_18 } : Fact)] : (List Fact)))] ?_ (fun hj0_8 => ?_)
      ·skip
       refine t1 10 (by kernel_rfl) rfl rfl (TOp_appY (T := tFact) (f := tFact.enc) (xs := box4_facts) (ys := ([({ relation := v_13.relation, values := us_18 } : Fact)] : (List Fact))) tFact.len sl46 zero65 rfl bytes65 (by decide) rfl rfl rfl rfl (src_mT (f := tFact.enc) tFact.len rfl rfl (flat_cell tFact _)) (flat_cell tFact _) h_21 ?_)
       refine tmv 5 10 (by decide) (lb rfl) rfl rfl (lb rfl) ?_
       refine tf 11 rfl (purI_fa_b fld48_1 rfl rfl) rfl rfl (by kernel_rfl) ?_
       refine t1 12 (by kernel_rfl) rfl rfl (TOp_storeB sz46 rfl rfl rfl rfl rfl rfl rfl (by decide) (lb rfl) rfl ?_)
       refine TA_st (σ' := [.box [(sl tRelation d0.relations), (sl tFact d0.facts)], .box [.n, .n], .row (flat tRelation.enc us_9), .dead, .box [(.m [2] 0 us_9.length tRelation.k), (.m [5] 0 us_20.length tFact.k)], .row (flat tFact.enc us_20), .dead, .box [(intA v_13.relation), (sl tInt v_13.values)], .dead, .row (flat tFact.enc ([({ relation := v_13.relation, values := us_18 } : Fact)] : (List Fact))), .dead]) rfl ?_
       refine TA_nil (by kernel_rfl) ?_
       refine te [(1, (sl tInt l1)), (2, (.b 0 0)), (4, (.b 1 0)), (6, (.b 4 0)), (7, (intA (i_11 : Int)))] rfl ?_
       refine T_region ?_
       refine Tp rfl rfl (pur_move rfl) rfl ?_
       refine Tp rfl rfl (pur_add rfl rfl rfl (fits64 (by omega) (by omega))) rfl ?_
       refine Tp rfl rfl (pur_assign rfl) rfl ?_
       refine TO_nil ?_
       obtain rfl := some_inj H
       exact again (l1.length - (i_11 + 1)) (i_11 + 1, us_20) (by omega) (wp 6 (lb rfl) rfl rfl rfl rfl rfl) ⟨rfl, K12_⟩
      refine TA_have 4 #[true, true, true, true, true, true, true, true, true, false, false, false, false] [(1, (sl tInt l1)), (2, (.b 0 0)), (4, (.b 1 0)), (6, (.b 4 0)), (7, (intA (i_11 : Int))), (39, (.m [5] 0 box4_facts.length tFact.k)), (46, (.g [(intA v_13.relation), (sl tInt us_18)]))] [.box [(sl tRelation d0.relations), (sl tFact d0.facts)], .box [.n, .n], .row (flat tRelation.enc us_9), .dead, .box [(.m [2] 0 us_9.length tRelation.k), (.m [5] 0 box4_facts.length tFact.k)], .row (flat tFact.enc box4_facts), .dead, .box [(intA v_13.relation), (sl tInt v_13.values)], .dead, .dead] ?_ (fun hj1_8 => ?_)
      ·skip
       refine t1 9 (by kernel_rfl) rfl rfl (TOp_lit (nn := 1) (k := 2) sl46 zero65 rfl rfl rfl rfl (by decide) ?_)
       refine tmv 9 10 (by decide) (lb rfl) rfl rfl (lb rfl) ?_
       exact tj hj0_8 rfl (wp 10 (lb rfl) rfl rfl rfl rfl rfl)
      refine TA_have 5 #[true, true, true, true, true, true, true, true, false, false, false, false, false] [(1, (sl tInt l1)), (2, (.b 0 0)), (4, (.b 1 0)), (6, (.b 4 0)), (7, (intA (i_11 : Int))), (39, (.m [5] 0 box4_facts.length tFact.k)), (41, (intA v_13.relation)), (45, (.m [8] 0 us_18.length tInt.k))] [.box [(sl tRelation d0.relations), (sl tFact d0.facts)], .box [.n, .n], .row (flat tRelation.enc us_9), .dead, .box [(.m [2] 0 us_9.length tRelation.k), (.m [5] 0 box4_facts.length tFact.k)], .row (flat tFact.enc box4_facts), .dead, .box [(intA v_13.relation), (sl tInt v_13.values)], .row (flat tInt.enc us_18), .dead] ?_ (fun hj2_8 => ?_)
      ·skip
       refine tf 8 rfl (purI_build bld65 rfl rfl) rfl rfl (by kernel_rfl) ?_
       refine TA_ghost (E' := [(1, (sl tInt l1)), (2, (.b 0 0)), (4, (.b 1 0)), (6, (.b 4 0)), (7, (intA (i_11 : Int))), (39, (.m [5] 0 box4_facts.length tFact.k)), (41, (intA v_13.relation)), (45, (.m [8] 0 us_18.length tInt.k)), (46, (.g [(intA v_13.relation), (.m [8] 0 us_18.length tInt.k)]))]) (σ' := [.box [(sl tRelation d0.relations), (sl tFact d0.facts)], .box [.n, .n], .row (flat tRelation.enc us_9), .dead, .box [(.m [2] 0 us_9.length tRelation.k), (.m [5] 0 box4_facts.length tFact.k)], .row (flat tFact.enc box4_facts), .dead, .box [(intA v_13.relation), (sl tInt v_13.values)], .row (flat tInt.enc us_18), .dead]) (Ghost.weak (WeakL.to 10 (lb rfl) rfl rfl rfl rfl ⟨leR rfl, leR rfl, leR rfl, leR rfl, leR rfl, leR rfl, leR rfl, leR rfl, leR rfl, trivial⟩)) ?_
       refine TA_frz1 8 (E' := [(1, (sl tInt l1)), (2, (.b 0 0)), (4, (.b 1 0)), (6, (.b 4 0)), (7, (intA (i_11 : Int))), (39, (.m [5] 0 box4_facts.length tFact.k)), (41, (intA v_13.relation)), (45, (sl tInt us_18)), (46, (.g [(intA v_13.relation), (sl tInt us_18)]))]) rfl rfl (lb rfl) ?_ ?_
       ·exact ⟨(.keep rfl), (.keep rfl), (.keep rfl), (.keep rfl), (.keep rfl), (.keep rfl), (.keep rfl), fz1E, (fz1G (fzC (.keep rfl) (fzC fz1E fzN))), trivial⟩
       refine TA_st (σ' := [.box [(sl tRelation d0.relations), (sl tFact d0.facts)], .box [.n, .n], .row (flat tRelation.enc us_9), .dead, .box [(.m [2] 0 us_9.length tRelation.k), (.m [5] 0 box4_facts.length tFact.k)], .row (flat tFact.enc box4_facts), .dead, .box [(intA v_13.relation), (sl tInt v_13.values)], .dead, .dead]) rfl ?_
       exact tj hj1_8 rfl (wp 10 (lb rfl) rfl rfl rfl rfl rfl)
      refine TA_have 6 #[true, false, true, true, true, true, true, true, false, false, false, false, false] [(1, (sl tInt l1)), (2, (.b 0 0)), (4, (.b 1 0)), (6, (.b 4 0)), (7, (intA (i_11 : Int))), (38, (.b 4 1)), (41, (intA v_13.relation)), (45, (.m [8] 0 us_18.length tInt.k))] [.box [(sl tRelation d0.relations), (sl tFact d0.facts)], .box [.n, .n], .row (flat tRelation.enc us_9), .dead, .box [(.m [2] 0 us_9.length tRelation.k), (.m [5] 0 box4_facts.length tFact.k)], .row (flat tFact.enc box4_facts), .dead, .box [(intA v_13.relation), (sl tInt v_13.values)], .row (flat tInt.enc us_18), .dead] ?_ (fun hj3_8 => ?_)
      ·skip
       refine tf 8 rfl (purI_build bld65 rfl rfl) rfl rfl (by kernel_rfl) ?_
       refine TA_ghost (E' := [(1, (sl tInt l1)), (2, (.b 0 0)), (4, (.b 1 0)), (6, (.b 4 0)), (7, (intA (i_11 : Int))), (38, (.b 4 1)), (41, (intA v_13.relation)), (45, (.m [8] 0 us_18.length tInt.k)), (46, (.g [(intA v_13.relation), (.m [8] 0 us_18.length tInt.k)]))]) (σ' := [.box [(sl tRelation d0.relations), (sl tFact d0.facts)], .box [.n, .n], .row (flat tRelation.enc us_9), .dead, .box [(.m [2] 0 us_9.length tRelation.k), (.m [5] 0 box4_facts.length tFact.k)], .row (flat tFact.enc box4_facts), .dead, .box [(intA v_13.relation), (sl tInt v_13.values)], .row (flat tInt.enc us_18), .dead]) (Ghost.weak (WeakL.to 10 (lb rfl) rfl rfl rfl rfl ⟨leR rfl, leR rfl, leR rfl, leR rfl, leR rfl, leR rfl, leR rfl, leR rfl, leR rfl, trivial⟩)) ?_
       refine TA_frz1 8 (E' := [(1, (sl tInt l1)), (2, (.b 0 0)), (4, (.b 1 0)), (6, (.b 4 0)), (7, (intA (i_11 : Int))), (38, (.b 4 1)), (41, (intA v_13.relation)), (45, (sl tInt us_18)), (46, (.g [(intA v_13.relation), (sl tInt us_18)]))]) rfl rfl (lb rfl) ?_ ?_
       ·exact ⟨(.keep rfl), (.keep rfl), (.keep rfl), (.keep rfl), (.keep rfl), (.keep rfl), (.keep rfl), fz1E, (fz1G (fzC (.keep rfl) (fzC fz1E fzN))), trivial⟩
       refine TA_st (σ' := [.box [(sl tRelation d0.relations), (sl tFact d0.facts)], .box [.n, .n], .row (flat tRelation.enc us_9), .dead, .box [(.m [2] 0 us_9.length tRelation.k), (.m [5] 0 box4_facts.length tFact.k)], .row (flat tFact.enc box4_facts), .dead, .box [(intA v_13.relation), (sl tInt v_13.values)], .dead, .dead]) rfl ?_
       refine TA_all [1, 9] (by kernel_rfl) (by decide) ⟨?_, ?_, trivial⟩
       ·skip
        refine ⟨_, rfl, rfl, (TOp_pure (pur_ld_b one46 rfl rfl rfl rfl) rfl ?_)⟩
        exact tj hj1_8 rfl (wp 10 (lb rfl) rfl rfl rfl rfl rfl)
       ·skip
        refine ⟨_, rfl, rfl, (TOp_lit (nn := 1) (k := 2) sl46 zero65 rfl rfl rfl rfl (by decide) ?_)⟩
        refine tmv 9 10 (by decide) (lb rfl) rfl rfl (lb rfl) ?_
        refine t1 1 (by kernel_rfl) rfl rfl (TOp_pure (pur_ld_b one46 rfl rfl rfl rfl) rfl ?_)
        exact tj hj0_8 rfl (wp 10 (lb rfl) rfl rfl rfl rfl rfl)
      refine TA_have 6 #[true, true, true, false, true, true, true, true, false, false, false, false, false] [(1, (sl tInt l1)), (2, (.b 0 0)), (4, (.b 1 0)), (6, (.b 4 0)), (7, (intA (i_11 : Int))), (39, (.m [5] 0 box4_facts.length tFact.k)), (40, (.b 7 0)), (45, (.m [8] 0 us_18.length tInt.k))] [.box [(sl tRelation d0.relations), (sl tFact d0.facts)], .box [.n, .n], .row (flat tRelation.enc us_9), .dead, .box [(.m [2] 0 us_9.length tRelation.k), (.m [5] 0 box4_facts.length tFact.k)], .row (flat tFact.enc box4_facts), .dead, .box [(intA v_13.relation), (sl tInt v_13.values)], .row (flat tInt.enc us_18), .dead] ?_ (fun hj4_8 => ?_)
      ·skip
       refine t1 3 (by kernel_rfl) rfl rfl (TOp_pure (pur_ld_b one3 rfl rfl rfl rfl) rfl ?_)
       exact tj hj2_8 rfl (wp 10 (lb rfl) rfl rfl rfl rfl rfl)
      refine TA_have 6 #[true, true, true, true, true, true, true, false, false, false, false, false, false] [(1, (sl tInt l1)), (2, (.b 0 0)), (4, (.b 1 0)), (6, (.b 4 0)), (7, (intA (i_11 : Int))), (39, (.m [5] 0 box4_facts.length tFact.k)), (41, (intA v_13.relation)), (42, (.m [8] 0 ([] : (List Int)).length tInt.k)), (44, (sl tInt v_13.values))] [.box [(sl tRelation d0.relations), (sl tFact d0.facts)], .box [.n, .n], .row (flat tRelation.enc us_9), .dead, .box [(.m [2] 0 us_9.length tRelation.k), (.m [5] 0 box4_facts.length tFact.k)], .row (flat tFact.enc box4_facts), .dead, .box [(intA v_13.relation), (sl tInt v_13.values)], .row (flat tInt.enc ([] : (List Int))), .dead] ?_ (fun hj5_8 => ?_)
      ·skip
       refine t1 7 (by kernel_rfl) rfl rfl (TOp_appY (T := tInt) (f := tInt.enc) (xs := ([] : (List Int))) (ys := v_13.values) tInt.len sl23 zero3 rfl bytes3 (by decide) rfl rfl rfl rfl (src_T (T := tInt) rfl) (flat_cell tInt _) h_19 ?_)
       refine tmv 8 10 (by decide) (lb rfl) rfl rfl (lb rfl) ?_
       exact tj hj2_8 rfl (wp 10 (lb rfl) rfl rfl rfl rfl rfl)
      refine TA_have 7 #[true, false, true, true, true, true, true, false, false, false, false, false, false] [(1, (sl tInt l1)), (2, (.b 0 0)), (4, (.b 1 0)), (6, (.b 4 0)), (7, (intA (i_11 : Int))), (38, (.b 4 1)), (41, (intA v_13.relation)), (42, (.m [8] 0 ([] : (List Int)).length tInt.k)), (44, (sl tInt v_13.values))] [.box [(sl tRelation d0.relations), (sl tFact d0.facts)], .box [.n, .n], .row (flat tRelation.enc us_9), .dead, .box [(.m [2] 0 us_9.length tRelation.k), (.m [5] 0 box4_facts.length tFact.k)], .row (flat tFact.enc box4_facts), .dead, .box [(intA v_13.relation), (sl tInt v_13.values)], .row (flat tInt.enc ([] : (List Int))), .dead] ?_ (fun hj6_8 => ?_)
      ·skip
       refine TA_all [1, 7] (by kernel_rfl) (by decide) ⟨?_, ?_, trivial⟩
       ·skip
        refine ⟨_, rfl, rfl, (TOp_pure (pur_ld_b one46 rfl rfl rfl rfl) rfl ?_)⟩
        exact tj hj5_8 rfl (wp 10 (lb rfl) rfl rfl rfl rfl rfl)
       ·skip
        refine ⟨_, rfl, rfl, (TOp_appY (T := tInt) (f := tInt.enc) (xs := ([] : (List Int))) (ys := v_13.values) tInt.len sl23 zero3 rfl bytes3 (by decide) rfl rfl rfl rfl (src_T (T := tInt) rfl) (flat_cell tInt _) h_19 ?_)⟩
        refine tmv 8 10 (by decide) (lb rfl) rfl rfl (lb rfl) ?_
        exact tj hj3_8 rfl (wp 10 (lb rfl) rfl rfl rfl rfl rfl)
      refine TA_have 7 #[true, true, true, false, true, true, true, false, false, false, false, false, false] [(1, (sl tInt l1)), (2, (.b 0 0)), (4, (.b 1 0)), (6, (.b 4 0)), (7, (intA (i_11 : Int))), (39, (.m [5] 0 box4_facts.length tFact.k)), (40, (.b 7 0)), (42, (.m [8] 0 ([] : (List Int)).length tInt.k)), (44, (sl tInt v_13.values))] [.box [(sl tRelation d0.relations), (sl tFact d0.facts)], .box [.n, .n], .row (flat tRelation.enc us_9), .dead, .box [(.m [2] 0 us_9.length tRelation.k), (.m [5] 0 box4_facts.length tFact.k)], .row (flat tFact.enc box4_facts), .dead, .box [(intA v_13.relation), (sl tInt v_13.values)], .row (flat tInt.enc ([] : (List Int))), .dead] ?_ (fun hj7_8 => ?_)
      ·skip
       refine TA_all [3, 7] (by kernel_rfl) (by decide) ⟨?_, ?_, trivial⟩
       ·skip
        refine ⟨_, rfl, rfl, (TOp_pure (pur_ld_b one3 rfl rfl rfl rfl) rfl ?_)⟩
        exact tj hj5_8 rfl (wp 10 (lb rfl) rfl rfl rfl rfl rfl)
       ·skip
        refine ⟨_, rfl, rfl, (TOp_appY (T := tInt) (f := tInt.enc) (xs := ([] : (List Int))) (ys := v_13.values) tInt.len sl23 zero3 rfl bytes3 (by decide) rfl rfl rfl rfl (src_T (T := tInt) rfl) (flat_cell tInt _) h_19 ?_)⟩
        refine tmv 8 10 (by decide) (lb rfl) rfl rfl (lb rfl) ?_
        exact tj hj4_8 rfl (wp 10 (lb rfl) rfl rfl rfl rfl rfl)
      refine TA_have 7 #[true, true, true, true, false, true, true, false, false, false, false, false, false] [(1, (sl tInt l1)), (2, (.b 0 0)), (4, (.b 1 0)), (6, (.b 4 0)), (7, (intA (i_11 : Int))), (39, (.m [5] 0 box4_facts.length tFact.k)), (41, (intA v_13.relation)), (44, (sl tInt v_13.values))] [.box [(sl tRelation d0.relations), (sl tFact d0.facts)], .box [.n, .n], .row (flat tRelation.enc us_9), .dead, .box [(.m [2] 0 us_9.length tRelation.k), (.m [5] 0 box4_facts.length tFact.k)], .row (flat tFact.enc box4_facts), .dead, .box [(intA v_13.relation), (sl tInt v_13.values)], .dead, .dead] ?_ (fun hj8_8 => ?_)
      ·skip
       refine t1 4 (by kernel_rfl) rfl rfl (TOp_lit (nn := 0) (k := 1) sl23 zero3 rfl rfl rfl rfl (by decide) ?_)
       refine tmv 8 10 (by decide) (lb rfl) rfl rfl (lb rfl) ?_
       exact tj hj5_8 rfl (wp 10 (lb rfl) rfl rfl rfl rfl rfl)
      refine TA_have 7 #[true, true, true, true, true, true, false, false, false, false, false, false, false] [(1, (sl tInt l1)), (2, (.b 0 0)), (4, (.b 1 0)), (6, (.b 4 0)), (7, (intA (i_11 : Int))), (39, (.m [5] 0 box4_facts.length tFact.k)), (41, (intA v_13.relation)), (42, (.m [8] 0 ([] : (List Int)).length tInt.k)), (43, (.b 7 1))] [.box [(sl tRelation d0.relations), (sl tFact d0.facts)], .box [.n, .n], .row (flat tRelation.enc us_9), .dead, .box [(.m [2] 0 us_9.length tRelation.k), (.m [5] 0 box4_facts.length tFact.k)], .row (flat tFact.enc box4_facts), .dead, .box [(intA v_13.relation), (sl tInt v_13.values)], .row (flat tInt.enc ([] : (List Int))), .dead] ?_ (fun hj9_8 => ?_)
      ·skip
       refine t1 6 (by kernel_rfl) rfl rfl (TOp_pure (pur_ld_b one23 rfl rfl rfl rfl) rfl ?_)
       exact tj hj5_8 rfl (wp 10 (lb rfl) rfl rfl rfl rfl rfl)
      refine TA_have 8 #[true, false, true, false, true, true, true, false, false, false, false, false, false] [(1, (sl tInt l1)), (2, (.b 0 0)), (4, (.b 1 0)), (6, (.b 4 0)), (7, (intA (i_11 : Int))), (38, (.b 4 1)), (40, (.b 7 0)), (42, (.m [8] 0 ([] : (List Int)).length tInt.k)), (44, (sl tInt v_13.values))] [.box [(sl tRelation d0.relations), (sl tFact d0.facts)], .box [.n, .n], .row (flat tRelation.enc us_9), .dead, .box [(.m [2] 0 us_9.length tRelation.k), (.m [5] 0 box4_facts.length tFact.k)], .row (flat tFact.enc box4_facts), .dead, .box [(intA v_13.relation), (sl tInt v_13.values)], .row (flat tInt.enc ([] : (List Int))), .dead] ?_ (fun hj10_8 => ?_)
      ·skip
       refine TA_all [1, 3, 7] (by kernel_rfl) (by decide) ⟨?_, ?_, ?_, trivial⟩
       ·skip
        refine ⟨_, rfl, rfl, (TOp_pure (pur_ld_b one46 rfl rfl rfl rfl) rfl ?_)⟩
        exact tj hj7_8 rfl (wp 10 (lb rfl) rfl rfl rfl rfl rfl)
       ·skip
        refine ⟨_, rfl, rfl, (TOp_pure (pur_ld_b one3 rfl rfl rfl rfl) rfl ?_)⟩
        exact tj hj6_8 rfl (wp 10 (lb rfl) rfl rfl rfl rfl rfl)
       ·skip
        refine ⟨_, rfl, rfl, (TOp_appY (T := tInt) (f := tInt.enc) (xs := ([] : (List Int))) (ys := v_13.values) tInt.len sl23 zero3 rfl bytes3 (by decide) rfl rfl rfl rfl (src_T (T := tInt) rfl) (flat_cell tInt _) h_19 ?_)⟩
        refine tmv 8 10 (by decide) (lb rfl) rfl rfl (lb rfl) ?_
        refine TA_all [1, 3] (by kernel_rfl) (by decide) ⟨?_, ?_, trivial⟩
        ·skip
         refine ⟨_, rfl, rfl, (TOp_pure (pur_ld_b one46 rfl rfl rfl rfl) rfl ?_)⟩
         exact tj hj4_8 rfl (wp 10 (lb rfl) rfl rfl rfl rfl rfl)
        ·skip
         refine ⟨_, rfl, rfl, (TOp_pure (pur_ld_b one3 rfl rfl rfl rfl) rfl ?_)⟩
         exact tj hj3_8 rfl (wp 10 (lb rfl) rfl rfl rfl rfl rfl)
      refine TA_have 8 #[true, false, true, true, false, true, true, false, false, false, false, false, false] [(1, (sl tInt l1)), (2, (.b 0 0)), (4, (.b 1 0)), (6, (.b 4 0)), (7, (intA (i_11 : Int))), (38, (.b 4 1)), (41, (intA v_13.relation)), (44, (sl tInt v_13.values))] [.box [(sl tRelation d0.relations), (sl tFact d0.facts)], .box [.n, .n], .row (flat tRelation.enc us_9), .dead, .box [(.m [2] 0 us_9.length tRelation.k), (.m [5] 0 box4_facts.length tFact.k)], .row (flat tFact.enc box4_facts), .dead, .box [(intA v_13.relation), (sl tInt v_13.values)], .dead, .dead] ?_ (fun hj11_8 => ?_)
      ·skip
       refine TA_all [1, 4] (by kernel_rfl) (by decide) ⟨?_, ?_, trivial⟩
       ·skip
        refine ⟨_, rfl, rfl, (TOp_pure (pur_ld_b one46 rfl rfl rfl rfl) rfl ?_)⟩
        exact tj hj8_8 rfl (wp 10 (lb rfl) rfl rfl rfl rfl rfl)
       ·skip
        refine ⟨_, rfl, rfl, (TOp_lit (nn := 0) (k := 1) sl23 zero3 rfl rfl rfl rfl (by decide) ?_)⟩
        refine tmv 8 10 (by decide) (lb rfl) rfl rfl (lb rfl) ?_
        exact tj hj6_8 rfl (wp 10 (lb rfl) rfl rfl rfl rfl rfl)
      refine TA_have 8 #[true, false, true, true, true, true, false, false, false, false, false, false, false] [(1, (sl tInt l1)), (2, (.b 0 0)), (4, (.b 1 0)), (6, (.b 4 0)), (7, (intA (i_11 : Int))), (38, (.b 4 1)), (41, (intA v_13.relation)), (42, (.m [8] 0 ([] : (List Int)).length tInt.k)), (43, (.b 7 1))] [.box [(sl tRelation d0.relations), (sl tFact d0.facts)], .box [.n, .n], .row (flat tRelation.enc us_9), .dead, .box [(.m [2] 0 us_9.length tRelation.k), (.m [5] 0 box4_facts.length tFact.k)], .row (flat tFact.enc box4_facts), .dead, .box [(intA v_13.relation), (sl tInt v_13.values)], .row (flat tInt.enc ([] : (List Int))), .dead] ?_ (fun hj12_8 => ?_)
      ·skip
       refine TA_all [1, 6] (by kernel_rfl) (by decide) ⟨?_, ?_, trivial⟩
       ·skip
        refine ⟨_, rfl, rfl, (TOp_pure (pur_ld_b one46 rfl rfl rfl rfl) rfl ?_)⟩
        exact tj hj9_8 rfl (wp 10 (lb rfl) rfl rfl rfl rfl rfl)
       ·skip
        refine ⟨_, rfl, rfl, (TOp_pure (pur_ld_b one23 rfl rfl rfl rfl) rfl ?_)⟩
        exact tj hj6_8 rfl (wp 10 (lb rfl) rfl rfl rfl rfl rfl)
      refine TA_have 8 #[true, true, true, false, false, true, true, false, false, false, false, false, false] [(1, (sl tInt l1)), (2, (.b 0 0)), (4, (.b 1 0)), (6, (.b 4 0)), (7, (intA (i_11 : Int))), (39, (.m [5] 0 box4_facts.length tFact.k)), (40, (.b 7 0)), (44, (sl tInt v_13.values))] [.box [(sl tRelation d0.relations), (sl tFact d0.facts)], .box [.n, .n], .row (flat tRelation.enc us_9), .dead, .box [(.m [2] 0 us_9.length tRelation.k), (.m [5] 0 box4_facts.length tFact.k)], .row (flat tFact.enc box4_facts), .dead, .box [(intA v_13.relation), (sl tInt v_13.values)], .dead, .dead] ?_ (fun hj13_8 => ?_)
      ·skip
       refine TA_all [3, 4] (by kernel_rfl) (by decide) ⟨?_, ?_, trivial⟩
       ·skip
        refine ⟨_, rfl, rfl, (TOp_pure (pur_ld_b one3 rfl rfl rfl rfl) rfl ?_)⟩
        exact tj hj8_8 rfl (wp 10 (lb rfl) rfl rfl rfl rfl rfl)
       ·skip
        refine ⟨_, rfl, rfl, (TOp_lit (nn := 0) (k := 1) sl23 zero3 rfl rfl rfl rfl (by decide) ?_)⟩
        refine tmv 8 10 (by decide) (lb rfl) rfl rfl (lb rfl) ?_
        exact tj hj7_8 rfl (wp 10 (lb rfl) rfl rfl rfl rfl rfl)
      refine TA_have 8 #[true, true, true, false, true, true, false, false, false, false, false, false, false] [(1, (sl tInt l1)), (2, (.b 0 0)), (4, (.b 1 0)), (6, (.b 4 0)), (7, (intA (i_11 : Int))), (39, (.m [5] 0 box4_facts.length tFact.k)), (40, (.b 7 0)), (42, (.m [8] 0 ([] : (List Int)).length tInt.k)), (43, (.b 7 1))] [.box [(sl tRelation d0.relations), (sl tFact d0.facts)], .box [.n, .n], .row (flat tRelation.enc us_9), .dead, .box [(.m [2] 0 us_9.length tRelation.k), (.m [5] 0 box4_facts.length tFact.k)], .row (flat tFact.enc box4_facts), .dead, .box [(intA v_13.relation), (sl tInt v_13.values)], .row (flat tInt.enc ([] : (List Int))), .dead] ?_ (fun hj14_8 => ?_)
      ·skip
       refine TA_all [3, 6] (by kernel_rfl) (by decide) ⟨?_, ?_, trivial⟩
       ·skip
        refine ⟨_, rfl, rfl, (TOp_pure (pur_ld_b one3 rfl rfl rfl rfl) rfl ?_)⟩
        exact tj hj9_8 rfl (wp 10 (lb rfl) rfl rfl rfl rfl rfl)
       ·skip
        refine ⟨_, rfl, rfl, (TOp_pure (pur_ld_b one23 rfl rfl rfl rfl) rfl ?_)⟩
        exact tj hj7_8 rfl (wp 10 (lb rfl) rfl rfl rfl rfl rfl)
      refine TA_have 8 #[true, true, true, true, false, true, false, false, false, false, false, false, false] [(1, (sl tInt l1)), (2, (.b 0 0)), (4, (.b 1 0)), (6, (.b 4 0)), (7, (intA (i_11 : Int))), (39, (.m [5] 0 box4_facts.length tFact.k)), (41, (intA v_13.relation)), (43, (.b 7 1))] [.box [(sl tRelation d0.relations), (sl tFact d0.facts)], .box [.n, .n], .row (flat tRelation.enc us_9), .dead, .box [(.m [2] 0 us_9.length tRelation.k), (.m [5] 0 box4_facts.length tFact.k)], .row (flat tFact.enc box4_facts), .dead, .box [(intA v_13.relation), (sl tInt v_13.values)], .dead, .dead] ?_ (fun hj15_8 => ?_)
      ·skip
       refine TA_all [4, 6] (by kernel_rfl) (by decide) ⟨?_, ?_, trivial⟩
       ·skip
        refine ⟨_, rfl, rfl, (TOp_lit (nn := 0) (k := 1) sl23 zero3 rfl rfl rfl rfl (by decide) ?_)⟩
        refine tmv 8 10 (by decide) (lb rfl) rfl rfl (lb rfl) ?_
        exact tj hj9_8 rfl (wp 10 (lb rfl) rfl rfl rfl rfl rfl)
       ·skip
        refine ⟨_, rfl, rfl, (TOp_pure (pur_ld_b one23 rfl rfl rfl rfl) rfl ?_)⟩
        exact tj hj8_8 rfl (wp 10 (lb rfl) rfl rfl rfl rfl rfl)
      refine tf 0 rfl (purI_fa_b fld48_1 rfl rfl) rfl rfl (by kernel_rfl) ?_
      refine tf 2 rfl (purI_fa_b fld65_0 rfl rfl) rfl rfl (by kernel_rfl) ?_
      refine tf 5 rfl (purI_fa_b fld65_1 rfl rfl) rfl rfl (by kernel_rfl) ?_
      refine TA_all [1, 3, 4, 6] (by kernel_rfl) (by decide) ⟨?_, ?_, ?_, ?_, trivial⟩
      ·skip
       refine ⟨_, rfl, rfl, (TOp_pure (pur_ld_b one46 rfl rfl rfl rfl) rfl ?_)⟩
       refine TA_all [3, 4, 6] (by kernel_rfl) (by decide) ⟨?_, ?_, ?_, trivial⟩
       ·skip
        refine ⟨_, rfl, rfl, (TOp_pure (pur_ld_b one3 rfl rfl rfl rfl) rfl ?_)⟩
        exact tj hj15_8 rfl (wp 10 (lb rfl) rfl rfl rfl rfl rfl)
       ·skip
        refine ⟨_, rfl, rfl, (TOp_lit (nn := 0) (k := 1) sl23 zero3 rfl rfl rfl rfl (by decide) ?_)⟩
        refine tmv 8 10 (by decide) (lb rfl) rfl rfl (lb rfl) ?_
        exact tj hj14_8 rfl (wp 10 (lb rfl) rfl rfl rfl rfl rfl)
       ·skip
        refine ⟨_, rfl, rfl, (TOp_pure (pur_ld_b one23 rfl rfl rfl rfl) rfl ?_)⟩
        exact tj hj13_8 rfl (wp 10 (lb rfl) rfl rfl rfl rfl rfl)
      ·skip
       refine ⟨_, rfl, rfl, (TOp_pure (pur_ld_b one3 rfl rfl rfl rfl) rfl ?_)⟩
       refine TA_all [1, 4, 6] (by kernel_rfl) (by decide) ⟨?_, ?_, ?_, trivial⟩
       ·skip
        refine ⟨_, rfl, rfl, (TOp_pure (pur_ld_b one46 rfl rfl rfl rfl) rfl ?_)⟩
        exact tj hj15_8 rfl (wp 10 (lb rfl) rfl rfl rfl rfl rfl)
       ·skip
        refine ⟨_, rfl, rfl, (TOp_lit (nn := 0) (k := 1) sl23 zero3 rfl rfl rfl rfl (by decide) ?_)⟩
        refine tmv 8 10 (by decide) (lb rfl) rfl rfl (lb rfl) ?_
        exact tj hj12_8 rfl (wp 10 (lb rfl) rfl rfl rfl rfl rfl)
       ·skip
        refine ⟨_, rfl, rfl, (TOp_pure (pur_ld_b one23 rfl rfl rfl rfl) rfl ?_)⟩
        exact tj hj11_8 rfl (wp 10 (lb rfl) rfl rfl rfl rfl rfl)
      ·skip
       refine ⟨_, rfl, rfl, (TOp_lit (nn := 0) (k := 1) sl23 zero3 rfl rfl rfl rfl (by decide) ?_)⟩
       refine tmv 8 10 (by decide) (lb rfl) rfl rfl (lb rfl) ?_
       refine TA_all [1, 3, 6] (by kernel_rfl) (by decide) ⟨?_, ?_, ?_, trivial⟩
       ·skip
        refine ⟨_, rfl, rfl, (TOp_pure (pur_ld_b one46 rfl rfl rfl rfl) rfl ?_)⟩
        exact tj hj14_8 rfl (wp 10 (lb rfl) rfl rfl rfl rfl rfl)
       ·skip
        refine ⟨_, rfl, rfl, (TOp_pure (pur_ld_b one3 rfl rfl rfl rfl) rfl ?_)⟩
        exact tj hj12_8 rfl (wp 10 (lb rfl) rfl rfl rfl rfl rfl)
       ·skip
        refine ⟨_, rfl, rfl, (TOp_pure (pur_ld_b one23 rfl rfl rfl rfl) rfl ?_)⟩
        exact tj hj10_8 rfl (wp 10 (lb rfl) rfl rfl rfl rfl rfl)
      ·skip
       refine ⟨_, rfl, rfl, (TOp_pure (pur_ld_b one23 rfl rfl rfl rfl) rfl ?_)⟩
       refine TA_all [1, 3, 4] (by kernel_rfl) (by decide) ⟨?_, ?_, ?_, trivial⟩
       ·skip
        refine ⟨_, rfl, rfl, (TOp_pure (pur_ld_b one46 rfl rfl rfl rfl) rfl ?_)⟩
        exact tj hj13_8 rfl (wp 10 (lb rfl) rfl rfl rfl rfl rfl)
       ·skip
        refine ⟨_, rfl, rfl, (TOp_pure (pur_ld_b one3 rfl rfl rfl rfl) rfl ?_)⟩
        exact tj hj11_8 rfl (wp 10 (lb rfl) rfl rfl rfl rfl rfl)
       ·skip
        refine ⟨_, rfl, rfl, (TOp_lit (nn := 0) (k := 1) sl23 zero3 rfl rfl rfl rfl (by decide) ?_)⟩
        refine tmv 8 10 (by decide) (lb rfl) rfl rfl (lb rfl) ?_
        exact tj hj10_8 rfl (wp 10 (lb rfl) rfl rfl rfl rfl rfl)
    ·replace d12 := of_decide_eq_false d12
     obtain rfl := forS_end L12_ (by omega)
     refine T_exit ?_
     refine then_exit ?_
     refine then_exit ?_
     refine block_exit ?_
     replace H := N12_
     refine te [(4, (.b 1 0)), (6, (.b 4 0))] rfl ?_
     refine sr ?_
     refine Tp rfl rfl (pur_ldK_b agg48 rfl rfl (lb rfl) rfl) rfl ?_
     refine TO_cons rfl (TOp_storeB sz48 rfl rfl rfl rfl rfl rfl rfl (by decide) (lb rfl) rfl ?_)
     refine TO_st (σ' := [.box [(sl tRelation d0.relations), (sl tFact d0.facts)], .box [(.m [2] 0 us_9.length tRelation.k), (.m [5] 0 box4_facts.length tFact.k)], .row (flat tRelation.enc us_9), .dead, .box [(.m [2] 0 us_9.length tRelation.k), (.m [5] 0 box4_facts.length tFact.k)], .row (flat tFact.enc box4_facts)]) rfl ?_
     refine Tp rfl rfl (pur_assign rfl) rfl ?_
     refine TO_nil ?_
     refine te [(4, (.b 1 0)), (5, (boolA true))] rfl ?_
     refine T_frzB 2 (E' := [(4, (.b 1 0)), (5, (boolA true))]) (σ' := [.box [(sl tRelation d0.relations), (sl tFact d0.facts)], .box [(sl tRelation us_9), (.m [5] 0 box4_facts.length tFact.k)], .dead, .dead, .box [(sl tRelation us_9), (.m [5] 0 box4_facts.length tFact.k)], .row (flat tFact.enc box4_facts)]) rfl (lb rfl) ?_ ?_ ?_
     ·exact ⟨(.keep rfl), (.keep rfl), trivial⟩
     ·exact ⟨(fzK rfl), (fzC fz1E (fzC (.keep rfl) fzN)), trivial, trivial, (fzC fz1E (fzC (.keep rfl) fzN)), rfl, trivial⟩
     refine T_frzB 5 (E' := [(4, (.b 1 0)), (5, (boolA true))]) (σ' := [.box [(sl tRelation d0.relations), (sl tFact d0.facts)], .box [(sl tRelation us_9), (sl tFact box4_facts)], .dead, .dead, .box [(sl tRelation us_9), (sl tFact box4_facts)], .dead]) rfl (lb rfl) ?_ ?_ ?_
     ·exact ⟨(.keep rfl), (.keep rfl), trivial⟩
     ·exact ⟨(fzK rfl), (fzC (.keep rfl) (fzC fz1E fzN)), trivial, trivial, (fzC (.keep rfl) (fzC fz1E fzN)), trivial, trivial⟩
     refine T_ret ?_
     obtain rfl := some_inj H
     refine end_ret (.cellK rfl agg48 rfl (lb rfl) (.tmp .nil)) rfl rfl ⟨?_, rfl⟩
     rfl

set_option maxHeartbeats 1000000 in
/-- spec.ResolveConflict -/
theorem m_spec_ResolveConflict_ok (u : Nat) (d0 : Database) (f1 : Fact) (r : (Database × Bool)) (H : m_spec_ResolveConflict u d0 f1 = some r) : FnV prg 59 [(.g (tDatabase.enc d0)), (.g (tFact.enc f1))] (.t [(.g (tDatabase.enc r.1)), (boolA r.2)]) := by
  unfold m_spec_ResolveConflict at H
  refine fnV_of_T Try.func59 rfl rfl (Nat.le_of_ble_eq_true rfl) ?_
  refine te [(0, (.g (tDatabase.enc d0))), (1, (.g (tFact.enc f1)))] rfl ?_
  refine sr ?_
  refine TO_cons rfl (TOp_box rfl (boxAll rfl) rfl rfl ?_)
  refine TO_cons rfl (TOp_box rfl (boxAll rfl) rfl rfl ?_)
  refine TO_cons rfl (TOp_alloc zero48 rfl rfl ?_)
  refine Tp rfl rfl (pur_assign rfl) rfl ?_
  refine TO_nil ?_
  refine te [(2, (.b 0 0)), (3, (.b 1 0)), (4, (.b 2 0))] rfl ?_
  refine T_seq ?_
  refine sr ?_
  refine Tp rfl rfl (pur_ldK_b agg48 rfl rfl (lb rfl) rfl) rfl ?_
  refine Tp rfl rfl (pur_ldK_b agg65 rfl rfl (lb rfl) rfl) rfl ?_
  obtain ⟨r_1, h_2, H⟩ := bind_inv H
  refine TO_cons rfl (TOp_callV (call_static ent109 rfl) (m_spec_ContainsFact_ok u _ _ _ h_2) rfl rfl rfl ?_)
  refine Tp rfl rfl (pur_not rfl rfl) rfl ?_
  refine TO_nil ?_
  refine te [(2, (.b 0 0)), (3, (.b 1 0)), (4, (.b 2 0)), (15, (boolA (!r_1)))] rfl ?_
  refine T_cond (t := (!r_1)) rfl (fun c_3 => ?_) (fun c_3 => ?_)
  ·replace H := cond_t c_3 H
   refine sr ?_
   refine Tp rfl rfl (pur_ldK_b agg48 rfl rfl (lb rfl) rfl) rfl ?_
   obtain ⟨r_4, h_5, H⟩ := bind_inv H
   refine TO_cons rfl (TOp_callV (call_static ent112 rfl) (m_spec_l4Copy_ok u _ _ h_5) rfl rfl rfl ?_)
   refine TO_cons rfl (TOp_storeB sz48 rfl rfl rfl rfl rfl rfl rfl (by decide) (lb rfl) rfl ?_)
   refine TO_st (σ' := [.box [(sl tRelation d0.relations), (sl tFact d0.facts)], .box [(intA f1.relation), (sl tInt f1.values)], .box [(sl tRelation r_4.relations), (sl tFact r_4.facts)]]) rfl ?_
   refine Tp rfl rfl (pur_assign rfl) rfl ?_
   refine TO_nil ?_
   refine te [(4, (.b 2 0)), (5, (boolA false))] rfl ?_
   refine T_ret ?_
   refine then_ret ?_
   obtain rfl := some_inj H
   refine end_ret (.cellK rfl agg48 rfl (lb rfl) (.tmp .nil)) rfl rfl ⟨?_, rfl⟩
   rfl
  ·replace H := cond_f c_3 H
   refine T_skip ?_
   refine te [(2, (.b 0 0)), (3, (.b 1 0)), (4, (.b 2 0))] rfl ?_
   refine sr ?_
   refine Tp rfl rfl (pur_ldK_b agg48 rfl rfl (lb rfl) rfl) rfl ?_
   refine Tp rfl rfl (pur_ldK_b agg65 rfl rfl (lb rfl) rfl) rfl ?_
   obtain ⟨r_6, h_7, H⟩ := bind_inv H
   refine TO_cons rfl (TOp_callV (call_static ent111 rfl) (m_spec_FactIndex_ok u _ _ _ h_7) rfl rfl rfl ?_)
   refine Tp rfl rfl (pur_assign rfl) rfl ?_
   refine TO_nil ?_
   refine te [(2, (.b 0 0)), (4, (.b 2 0)), (6, (intA r_6))] rfl ?_
   refine sr ?_
   refine Tp rfl rfl (pur_ldK_b agg48 rfl rfl (lb rfl) rfl) rfl ?_
   refine Tp rfl rfl (pur_move rfl) rfl ?_
   obtain ⟨r_8, h_9, H⟩ := bind_inv H
   refine TO_cons rfl (TOp_callV (call_static ent110 rfl) (m_spec_BlockOf_ok u _ _ _ h_9) rfl rfl rfl ?_)
   refine Tp rfl rfl (pur_assign rfl) rfl ?_
   refine TO_nil ?_
   refine te [(2, (.b 0 0)), (4, (.b 2 0)), (6, (intA r_6)), (7, (sl tInt r_8))] rfl ?_
   refine sr ?_
   refine TO_cons rfl (TOp_lit (nn := 0) (k := 1) sl23 zero3 rfl rfl rfl rfl (by decide) ?_)
   refine TO_st (σ' := [.box [(sl tRelation d0.relations), (sl tFact d0.facts)], .box [(intA f1.relation), (sl tInt f1.values)], .box [.n, .n], .row (flat tInt.enc ([] : (List Int)))]) rfl ?_
   refine Tp rfl rfl (pur_assign rfl) rfl ?_
   refine TO_nil ?_
   refine te [(2, (.b 0 0)), (4, (.b 2 0)), (6, (intA r_6)), (7, (sl tInt r_8)), (8, (.m [3] 0 ([] : (List Int)).length tInt.k))] rfl ?_
   refine T_seq ?_
   refine sr ?_
   refine Tp rfl rfl (pur_assign rfl) rfl ?_
   refine TO_nil ?_
   refine te [(2, (.b 0 0)), (4, (.b 2 0)), (6, (intA r_6)), (7, (sl tInt r_8)), (8, (.m [3] 0 ([] : (List Int)).length tInt.k)), (9, (intA 0))] rfl ?_
   obtain ⟨O10_, L10_, N10_⟩ := bind_inv H
   clear H
   obtain ⟨B10_, hb10, L10_⟩ := gen_whileF L10_
   refine T_block ?_
   refine T_loopX (fun k => fun (x_ : (List Int) × Int) => whileF B10_ k (x_.1, x_.2) = some O10_) (fun (x_ : (List Int) × Int) => [(2, (.b 0 0)), (4, (.b 2 0)), (6, (intA r_6)), (7, (sl tInt r_8)), (8, (.m [3] 0 x_.1.length tInt.k)), (9, (intA x_.2))]) (fun (x_ : (List Int) × Int) => [.box [(sl tRelation d0.relations), (sl tFact d0.facts)], .box [(intA f1.relation), (sl tInt f1.values)], .box [.n, .n], .row (flat tInt.enc x_.1)]) u (([] : (List Int)), 0) (wp 4 (lb rfl) rfl rfl rfl rfl rfl) L10_ ?_
   rintro _ ⟨keep8, i9⟩ L10_
   obtain ⟨k10, rfl, C10_, H, K10_⟩ := while_step L10_
   rw [hb10] at H
   refine te [(2, (.b 0 0)), (4, (.b 2 0)), (6, (intA r_6)), (7, (sl tInt r_8)), (8, (.m [3] 0 keep8.length tInt.k)), (9, (intA i9))] rfl ?_
   refine T_st (σ' := [.box [(sl tRelation d0.relations), (sl tFact d0.facts)], .box [(intA f1.relation), (sl tInt f1.values)], .box [.n, .n], .row (flat tInt.enc keep8)]) rfl ?_
   refine T_seq ?_
   refine sr ?_
   refine Tp rfl rfl (pur_move rfl) rfl ?_
   refine Tp rfl rfl (pur_fa_b fld48_1 rfl rfl) rfl ?_
   refine Tp rfl rfl (pur_ld_b one46 rfl rfl rfl rfl) rfl ?_
   refine Tp rfl rfl (pur_lenT (T := tFact) sl46 rfl rfl) rfl ?_
   refine Tp rfl rfl (pur_lss rfl rfl rfl) rfl ?_
   refine TO_nil ?_
   refine te [(2, (.b 0 0)), (4, (.b 2 0)), (6, (intA r_6)), (7, (sl tInt r_8)), (8, (.m [3] 0 keep8.length tInt.k)), (9, (intA i9)), (29, (boolA (decide (i9 < (d0.facts.length : Int)))))] rfl ?_
   refine T_cond (t := decide (i9 < (d0.facts.length : Int))) rfl (fun c_11 => ?_) (fun c_11 => ?_)
   ·replace H := cond_t c_11 H
    refine T_skip ?_
    refine te [(2, (.b 0 0)), (4, (.b 2 0)), (6, (intA r_6)), (7, (sl tInt r_8)), (8, (.m [3] 0 keep8.length tInt.k)), (9, (intA i9))] rfl ?_
    refine T_seq ?_
    refine T_block ?_
    obtain ⟨t40_12, J_12, H_13⟩ := bind_inv H
    refine T_cutX (fun x => t40_12 = x) (fun (t40_12 : Bool) => [(2, (.b 0 0)), (4, (.b 2 0)), (6, (intA r_6)), (7, (sl tInt r_8)), (8, (.m [3] 0 keep8.length tInt.k)), (9, (intA i9)), (40, (boolA t40_12))]) (fun (t40_12 : Bool) => [.box [(sl tRelation d0.relations), (sl tFact d0.facts)], .box [(intA f1.relation), (sl tInt f1.values)], .box [.n, .n], .row (flat tInt.enc keep8)]) ?_ ?_
    ·replace H := J_12
     refine T_region ?_
     refine Tp rfl rfl (pur_move rfl) rfl ?_
     refine Tp rfl rfl (pur_move rfl) rfl ?_
     refine Tp rfl rfl (pur_eql rfl rfl rfl) rfl ?_
     refine Tp rfl rfl (pur_move rfl) rfl ?_
     refine TO_split (t := decide (i9 = r_6)) 35 rfl (fun g_14 => ?_) (fun g_14 => ?_)
     ·replace H := cond_t g_14 H
      refine TO_off rfl rfl (by decide) rfl rfl rfl ?_
      refine TO_off rfl rfl (by decide) rfl rfl rfl ?_
      refine TO_off rfl rfl (by decide) rfl rfl rfl ?_
      refine TO_off rfl rfl (by decide) rfl rfl rfl ?_
      refine Tp rfl rfl (pur_pick (t := true) rfl rfl rfl) rfl ?_
      refine TO_nil ?_
      exact joined true (wp 4 (lb rfl) rfl rfl rfl rfl rfl) (some_inj H).symm
     ·replace H := cond_f g_14 H
      refine TO_on rfl rfl (by decide) rfl rfl (TOp_pure (pur_move rfl) rfl ?_)
      refine TO_on rfl rfl (by decide) rfl rfl (TOp_pure (pur_move rfl) rfl ?_)
      obtain ⟨r_15, h_16, H⟩ := bind_inv H
      refine TO_on rfl rfl (by decide) rfl rfl (TOp_callV (call_static ent127 rfl) (m_spec_l7Has_ok _ _ _ h_16) rfl rfl rfl ?_)
      refine TO_on rfl rfl (by decide) rfl rfl (TOp_pure (pur_not rfl rfl) rfl ?_)
      refine Tp rfl rfl (pur_pick (t := false) rfl rfl rfl) rfl ?_
      refine TO_nil ?_
      exact joined (!r_15) (wp 4 (lb rfl) rfl rfl rfl rfl rfl) (some_inj H).symm
    ·rintro _ rfl
     replace H := H_13
     refine te [(2, (.b 0 0)), (4, (.b 2 0)), (6, (intA r_6)), (7, (sl tInt r_8)), (8, (.m [3] 0 keep8.length tInt.k)), (9, (intA i9)), (40, (boolA t40_12))] rfl ?_
     refine T_cond (t := t40_12) rfl (fun c_17 => ?_) (fun c_17 => ?_)
     ·replace H := cond_t c_17 H
      refine T_region ?_
      refine Tp rfl rfl (pur_move rfl) rfl ?_
      refine Tp rfl rfl (pur_move rfl) rfl ?_
      refine TO_cons rfl (TOp_lit (nn := 1) (k := 1) sl23 zero3 rfl rfl rfl rfl (by decide) ?_)
      refine TO_st (σ' := [.box [(sl tRelation d0.relations), (sl tFact d0.facts)], .box [(intA f1.relation), (sl tInt f1.values)], .box [.n, .n], .row (flat tInt.enc keep8), .row (flat tInt.enc ([i9] : (List Int)))]) rfl ?_
      obtain ⟨us_18, h_19, H⟩ := bind_inv H
      refine TO_cons rfl (TOp_appZ (T := tInt) (f := tInt.enc) (xs := keep8) (ys := ([i9] : (List Int))) tInt.len sl23 zero3 rfl bytes3 (by decide) rfl rfl rfl rfl (src_mT (f := tInt.enc) tInt.len rfl rfl (flat_cell tInt _)) (flat_cell tInt _) h_19 (lb rfl) ?_)
      refine toe [(2, (.b 0 0)), (4, (.b 2 0)), (6, (intA r_6)), (7, (sl tInt r_8)), (9, (intA i9)), (40, (boolA t40_12)), (42, (intA i9)), (43, (.m [4] 0 ([i9] : (List Int)).length tInt.k)), (44, (.m [3] 0 us_18.length tInt.k))] rfl ?_
      refine TO_st (σ' := [.box [(sl tRelation d0.relations), (sl tFact d0.facts)], .box [(intA f1.relation), (sl tInt f1.values)], .box [.n, .n], .row (flat tInt.enc us_18), .row (flat tInt.enc ([i9] : (List Int))), .dead]) rfl ?_
      refine Tp rfl rfl (pur_assign rfl) rfl ?_
      refine TO_nil ?_
      refine te [(2, (.b 0 0)), (4, (.b 2 0)), (6, (intA r_6)), (7, (sl tInt r_8)), (8, (.m [3] 0 us_18.length tInt.k)), (9, (intA i9))] rfl ?_
      refine T_region ?_
      refine Tp rfl rfl (pur_move rfl) rfl ?_
      refine Tp rfl rfl (pur_wadd rfl rfl rfl) rfl ?_
      refine Tp rfl rfl (pur_assign rfl) rfl ?_
      refine TO_nil ?_
      obtain rfl := some_inj H
      exact again k10 (us_18, (w64 (i9 + 1))) (Nat.lt_succ_self _) (wp 4 (lb rfl) rfl rfl rfl rfl rfl) K10_
     ·replace H := cond_f c_17 H
      refine T_skip ?_
      refine te [(2, (.b 0 0)), (4, (.b 2 0)), (6, (intA r_6)), (7, (sl tInt r_8)), (8, (.m [3] 0 keep8.length tInt.k)), (9, (intA i9))] rfl ?_
      refine T_region ?_
      refine Tp rfl rfl (pur_move rfl) rfl ?_
      refine Tp rfl rfl (pur_wadd rfl rfl rfl) rfl ?_
      refine Tp rfl rfl (pur_assign rfl) rfl ?_
      refine TO_nil ?_
      obtain rfl := some_inj H
      exact again k10 (keep8, (w64 (i9 + 1))) (Nat.lt_succ_self _) (wp 4 (lb rfl) rfl rfl rfl rfl rfl) K10_
   ·replace H := cond_f c_11 H
    refine T_exit ?_
    refine then_exit ?_
    refine then_exit ?_
    refine block_exit ?_
    obtain rfl := some_inj H
    obtain rfl := some_inj K10_
    replace H := onS_l N10_
    refine te [(2, (.b 0 0)), (4, (.b 2 0)), (8, (.m [3] 0 keep8.length tInt.k))] rfl ?_
    refine sr ?_
    refine Tp rfl rfl (pur_ldK_b agg48 rfl rfl (lb rfl) rfl) rfl ?_
    refine Tp rfl rfl (pur_move rfl) rfl ?_
    refine TO_frz1 3 (E' := [(2, (.b 0 0)), (4, (.b 2 0)), (8, (sl tInt keep8)), (46, (.g (tDatabase.enc d0))), (47, (sl tInt keep8))]) rfl rfl (lb rfl) ⟨(.keep rfl), (.keep rfl), fz1E, (.keep rfl), fz1E, trivial⟩ ?_
    refine TO_st (σ' := [.box [(sl tRelation d0.relations), (sl tFact d0.facts)], .box [(intA f1.relation), (sl tInt f1.values)], .box [.n, .n], .dead]) rfl ?_
    obtain ⟨r_20, h_21, H⟩ := bind_inv H
    refine TO_cons rfl (TOp_callV (call_static ent128 rfl) (m_spec_SelectFacts_ok u _ _ _ h_21) rfl rfl rfl ?_)
    refine Tp rfl rfl (pur_move rfl) rfl ?_
    refine Tp rfl rfl (pur_extract rfl rfl rfl) rfl ?_
    refine Tp rfl rfl (pur_extract rfl rfl rfl) rfl ?_
    refine TO_cons rfl (TOp_alloc zero48 rfl rfl ?_)
    refine TO_cons rfl (TOp_storeB sz48 rfl rfl rfl rfl rfl rfl rfl (by decide) (lb rfl) rfl ?_)
    refine TO_st (σ' := [.box [(sl tRelation d0.relations), (sl tFact d0.facts)], .box [(intA f1.relation), (sl tInt f1.values)], .box [.n, .n], .dead, .box [(sl tRelation r_20.1.relations), (sl tFact r_20.1.facts)]]) rfl ?_
    refine Tp rfl rfl (pur_assign rfl) rfl ?_
    refine TO_nil ?_
    refine te [(4, (.b 2 0)), (10, (.b 4 0))] rfl ?_
    refine sr ?_
    refine Tp rfl rfl (pur_ldK_b agg48 rfl rfl (lb rfl) rfl) rfl ?_
    refine TO_cons rfl (TOp_storeB sz48 rfl rfl rfl rfl rfl rfl rfl (by decide) (lb rfl) rfl ?_)
    refine TO_st (σ' := [.box [(sl tRelation d0.relations), (sl tFact d0.facts)], .box [(intA f1.relation), (sl tInt f1.values)], .box [(sl tRelation r_20.1.relations), (sl tFact r_20.1.facts)], .dead, .box [(sl tRelation r_20.1.relations), (sl tFact r_20.1.facts)]]) rfl ?_
    refine Tp rfl rfl (pur_assign rfl) rfl ?_
    refine TO_nil ?_
    refine te [(4, (.b 2 0)), (5, (boolA true))] rfl ?_
    refine T_ret ?_
    obtain rfl := some_inj H
    refine end_ret (.cellK rfl agg48 rfl (lb rfl) (.tmp .nil)) rfl rfl ⟨?_, rfl⟩
    rfl

set_option maxHeartbeats 1000000 in
/-- spec.ResolveAll -/
theorem m_spec_ResolveAll_ok (u : Nat) (d0 : Database) (l1 : (List Fact)) (r : (Database × Int)) (H : m_spec_ResolveAll u d0 l1 = some r) : FnV prg 52 [(.g (tDatabase.enc d0)), (sl tFact l1)] (.t [(.g (tDatabase.enc r.1)), (intA r.2)]) := by
  unfold m_spec_ResolveAll at H
  refine fnV_of_T Try.func52 rfl rfl (Nat.le_of_ble_eq_true rfl) ?_
  refine te [(0, (.g (tDatabase.enc d0))), (1, (sl tFact l1))] rfl ?_
  refine sr ?_
  refine TO_cons rfl (TOp_box rfl (boxAll rfl) rfl rfl ?_)
  refine TO_cons rfl (TOp_alloc zero48 rfl rfl ?_)
  refine Tp rfl rfl (pur_assign rfl) rfl ?_
  refine TO_nil ?_
  refine te [(1, (sl tFact l1)), (2, (.b 0 0)), (4, (.b 1 0))] rfl ?_
  refine sr ?_
  refine Tp rfl rfl (pur_ldK_b agg48 rfl rfl (lb rfl) rfl) rfl ?_
  obtain ⟨r_1, h_2, H⟩ := bind_inv H
  refine TO_cons rfl (TOp_callV (call_static ent112 rfl) (m_spec_l4Copy_ok u _ _ h_2) rfl rfl rfl ?_)
  refine TO_cons rfl (TOp_alloc zero48 rfl rfl ?_)
  refine TO_cons rfl (TOp_storeB sz48 rfl rfl rfl rfl rfl rfl rfl (by decide) (lb rfl) rfl ?_)
  refine TO_st (σ' := [.box [(sl tRelation d0.relations), (sl tFact d0.facts)], .box [.n, .n], .box [(sl tRelation r_1.relations), (sl tFact r_1.facts)]]) rfl ?_
  refine TO_nil ?_
  refine te [(1, (sl tFact l1)), (4, (.b 1 0)), (6, (.b 2 0))] rfl ?_
  refine sr ?_
  refine Tp rfl rfl (pur_assign rfl) rfl ?_
  refine TO_nil ?_
  refine te [(1, (sl tFact l1)), (4, (.b 1 0)), (6, (.b 2 0)), (7, (intA 0))] rfl ?_
  refine T_seq ?_
  refine sr ?_
  refine Tp rfl rfl (pur_assign rfl) rfl ?_
  refine TO_nil ?_
  refine te [(1, (sl tFact l1)), (4, (.b 1 0)), (6, (.b 2 0)), (7, (intA 0)), (8, (intA 0))] rfl ?_
  obtain ⟨O4_, L4_, N4_⟩ := bind_inv H
  clear H
  obtain ⟨B4_, hb4, L4_⟩ := gen_forS L4_
  refine T_block ?_
  refine T_loopX (fun k => fun (x_ : Nat × Int × Database) => k = l1.length - x_.1 ∧ forS B4_ (l1.drop x_.1) (x_.1 : Int) (x_.2.1, x_.2.2) = some O4_) (fun (x_ : Nat × Int × Database) => [(1, (sl tFact l1)), (4, (.b 1 0)), (6, (.b 2 0)), (7, (intA x_.2.1)), (8, (intA (x_.1 : Int)))]) (fun (x_ : Nat × Int × Database) => [.box [(sl tRelation d0.relations), (sl tFact d0.facts)], .box [.n, .n], .box [(sl tRelation x_.2.2.relations), (sl tFact x_.2.2.facts)]]) _ (0, (0, r_1)) (wp 3 (lb rfl) rfl rfl rfl rfl rfl) ⟨rfl, L4_⟩ ?_
  rintro _ ⟨i_3, n7, box2⟩ ⟨rfl, L4_⟩
  refine te [(1, (sl tFact l1)), (4, (.b 1 0)), (6, (.b 2 0)), (7, (intA n7)), (8, (intA (i_3 : Int)))] rfl ?_
  refine T_st (σ' := [.box [(sl tRelation d0.relations), (sl tFact d0.facts)], .box [.n, .n], .box [(sl tRelation box2.relations), (sl tFact box2.facts)]]) rfl ?_
  refine T_fact (len_sl (T := tFact) (.tmp 1) rfl) (fun hl4 => ?_)
  refine T_seq ?_
  refine sr ?_
  refine Tp rfl rfl (pur_move rfl) rfl ?_
  refine Tp rfl rfl (pur_move rfl) rfl ?_
  refine Tp rfl rfl (pur_lenT (T := tFact) sl46 rfl rfl) rfl ?_
  refine Tp rfl rfl (pur_lss rfl rfl rfl) rfl ?_
  refine TO_nil ?_
  refine te [(1, (sl tFact l1)), (4, (.b 1 0)), (6, (.b 2 0)), (7, (intA n7)), (8, (intA (i_3 : Int))), (16, (boolA (decide ((i_3 : Int) < (l1.length : Int)))))] rfl ?_
  refine T_cond (t := decide ((i_3 : Int) < (l1.length : Int))) rfl (fun d4 => ?_) (fun d4 => ?_)
  ·replace d4 := of_decide_eq_true d4
   obtain ⟨x_i_3, hx_i_3⟩ : ∃ v, (l1)[i_3]? = some v := ⟨_, List.getElem?_eq_getElem (by omega)⟩
   obtain ⟨C4_, H, K4_⟩ := forS_step L4_ hx_i_3
   rw [hb4] at H
   refine T_skip ?_
   refine te [(1, (sl tFact l1)), (4, (.b 1 0)), (6, (.b 2 0)), (7, (intA n7)), (8, (intA (i_3 : Int)))] rfl ?_
   refine T_seq ?_
   refine T_block ?_
   obtain ⟨r_5, h_6, H⟩ := bind_inv H
   refine T_pad ?_
   refine T_cutX (fun (_ : Unit) => True) (fun _ => [(1, (sl tFact l1)), (4, (.b 1 0)), (6, (.b 2 0)), (7, (intA n7)), (8, (intA (i_3 : Int))), (9, (.b 4 0)), (10, (boolA r_5.2))]) (fun _ => [.box [(sl tRelation d0.relations), (sl tFact d0.facts)], .box [.n, .n], .box [(sl tRelation box2.relations), (sl tFact box2.facts)], .dead, .box [(sl tRelation r_5.1.relations), (sl tFact r_5.1.facts)]]) ?_ ?_
   ·skip
    refine T_regionP mixed ?_
    refine TA_have 2 #[true, true, true, true, true, true, true, true, true, true, false, false] [(1, (sl tFact l1)), (4, (.b 1 0)), (6, (.b 2 0)), (7, (intA n7)), (8, (intA (i_3 : Int))), (9, (.b 4 0)), (26, (.g (tDatabase.enc r_5.1))), (27, (boolA r_5.2))] [.box [(sl tRelation d0.relations), (sl tFact d0.facts)], .box [.n, .n], .box [(sl tRelation box2.relations), (sl tFact box2.facts)], .dead, .box [.n, .n]] ?_ (fun hj0_6 => ?_)
    ·skip
     refine t1 10 (by kernel_rfl) rfl rfl (TOp_storeB sz48 rfl rfl rfl rfl rfl rfl rfl (by decide) (lb rfl) rfl ?_)
     refine TA_st (σ' := [.box [(sl tRelation d0.relations), (sl tFact d0.facts)], .box [.n, .n], .box [(sl tRelation box2.relations), (sl tFact box2.facts)], .dead, .box [(sl tRelation r_5.1.relations), (sl tFact r_5.1.facts)]]) rfl ?_
     refine tf 11 rfl (purI_assign rfl) rfl rfl (by kernel_rfl) ?_
     exact TA_nil (by kernel_rfl) (joined () (wp 5 (lb rfl) rfl rfl rfl rfl rfl) trivial)
    refine TA_have 6 #[true, true, true, true, true, false, false, false, false, true, false, false] [(1, (sl tFact l1)), (4, (.b 1 0)), (6, (.b 2 0)), (7, (intA n7)), (8, (intA (i_3 : Int))), (9, (.b 4 0)), (20, (.g (tDatabase.enc box2))), (24, (.g (tFact.enc x_i_3)))] [.box [(sl tRelation d0.relations), (sl tFact d0.facts)], .box [.n, .n], .box [(sl tRelation box2.relations), (sl tFact box2.facts)], .dead, .box [.n, .n]] ?_ (fun hj1_6 => ?_)
    ·skip
     refine t1 5 (by kernel_rfl) rfl rfl (TOp_callV (call_static ent59 rfl) (m_spec_ResolveConflict_ok u _ _ _ h_6) rfl rfl rfl ?_)
     refine tf 6 rfl (purI_move rfl) rfl rfl (by kernel_rfl) ?_
     refine tf 7 rfl (purI_extract rfl rfl rfl) rfl rfl (by kernel_rfl) ?_
     refine tf 8 rfl (purI_extract rfl rfl rfl) rfl rfl (by kernel_rfl) ?_
     exact tj hj0_6 rfl (wp 5 (lb rfl) rfl rfl rfl rfl rfl)
    refine TA_have 7 #[false, true, true, true, true, false, false, false, false, true, false, false] [(1, (sl tFact l1)), (4, (.b 1 0)), (6, (.b 2 0)), (7, (intA n7)), (8, (intA (i_3 : Int))), (9, (.b 4 0)), (24, (.g (tFact.enc x_i_3)))] [.box [(sl tRelation d0.relations), (sl tFact d0.facts)], .box [.n, .n], .box [(sl tRelation box2.relations), (sl tFact box2.facts)], .dead, .box [.n, .n]] ?_ (fun hj2_6 => ?_)
    ·skip
     refine t1 0 (by kernel_rfl) rfl rfl (TOp_pure (pur_ldK_b agg48 rfl rfl (lb rfl) rfl) rfl ?_)
     exact tj hj1_6 rfl (wp 5 (lb rfl) rfl rfl rfl rfl rfl)
    refine TA_have 7 #[true, true, true, true, false, false, false, false, false, true, false, false] [(1, (sl tFact l1)), (4, (.b 1 0)), (6, (.b 2 0)), (7, (intA n7)), (8, (intA (i_3 : Int))), (9, (.b 4 0)), (20, (.g (tDatabase.enc box2))), (23, (.q (flat tFact.enc l1) (i_3 * tFact.k)))] [.box [(sl tRelation d0.relations), (sl tFact d0.facts)], .box [.n, .n], .box [(sl tRelation box2.relations), (sl tFact box2.facts)], .dead, .box [.n, .n]] ?_ (fun hj3_6 => ?_)
    ·skip
     refine t1 4 (by kernel_rfl) rfl rfl (TOp_pure (pur_ldTK (T := tFact) (i := i_3) (off := 0) rfl agg65 rfl rfl hx_i_3 (by decide) rfl) rfl ?_)
     exact tj hj1_6 rfl (wp 5 (lb rfl) rfl rfl rfl rfl rfl)
    refine TA_have 7 #[true, true, true, true, true, false, false, false, false, false, false, false] [(1, (sl tFact l1)), (4, (.b 1 0)), (6, (.b 2 0)), (7, (intA n7)), (8, (intA (i_3 : Int))), (20, (.g (tDatabase.enc box2))), (24, (.g (tFact.enc x_i_3)))] [.box [(sl tRelation d0.relations), (sl tFact d0.facts)], .box [.n, .n], .box [(sl tRelation box2.relations), (sl tFact box2.facts)], .dead] ?_ (fun hj4_6 => ?_)
    ·skip
     refine TA_all [5, 9] (by kernel_rfl) (by decide) ⟨?_, ?_, trivial⟩
     ·skip
      refine ⟨_, rfl, rfl, (TOp_callV (call_static ent59 rfl) (m_spec_ResolveConflict_ok u _ _ _ h_6) rfl rfl rfl ?_)⟩
      refine tf 6 rfl (purI_move rfl) rfl rfl (by kernel_rfl) ?_
      refine tf 7 rfl (purI_extract rfl rfl rfl) rfl rfl (by kernel_rfl) ?_
      refine tf 8 rfl (purI_extract rfl rfl rfl) rfl rfl (by kernel_rfl) ?_
      refine t1 9 (by kernel_rfl) rfl rfl (TOp_alloc zero48 rfl rfl ?_)
      exact tj hj0_6 rfl (wp 5 (lb rfl) rfl rfl rfl rfl rfl)
     ·skip
      refine ⟨_, rfl, rfl, (TOp_alloc zero48 rfl rfl ?_)⟩
      exact tj hj1_6 rfl (wp 5 (lb rfl) rfl rfl rfl rfl rfl)
    refine tf 1 rfl (purI_move rfl) rfl rfl (by kernel_rfl) ?_
    refine tf 2 rfl (purI_move rfl) rfl rfl (by kernel_rfl) ?_
    refine tf 3 rfl (purI_ixT (T := tFact) sl46 rfl rfl rfl hx_i_3 rfl) rfl rfl (by kernel_rfl) ?_
    refine TA_all [0, 4, 9] (by kernel_rfl) (by decide) ⟨?_, ?_, ?_, trivial⟩
    ·skip
     refine ⟨_, rfl, rfl, (TOp_pure (pur_ldK_b agg48 rfl rfl (lb rfl) rfl) rfl ?_)⟩
     refine TA_all [4, 9] (by kernel_rfl) (by decide) ⟨?_, ?_, trivial⟩
     ·skip
      refine ⟨_, rfl, rfl, (TOp_pure (pur_ldTK (T := tFact) (i := i_3) (off := 0) rfl agg65 rfl rfl hx_i_3 (by decide) rfl) rfl ?_)⟩
      exact tj hj4_6 rfl (wp 4 (lb rfl) rfl rfl rfl rfl rfl)
     ·skip
      refine ⟨_, rfl, rfl, (TOp_alloc zero48 rfl rfl ?_)⟩
      exact tj hj3_6 rfl (wp 5 (lb rfl) rfl rfl rfl rfl rfl)
    ·skip
     refine ⟨_, rfl, rfl, (TOp_pure (pur_ldTK (T := tFact) (i := i_3) (off := 0) rfl agg65 rfl rfl hx_i_3 (by decide) rfl) rfl ?_)⟩
     refine TA_all [0, 9] (by kernel_rfl) (by decide) ⟨?_, ?_, trivial⟩
     ·skip
      refine ⟨_, rfl, rfl, (TOp_pure (pur_ldK_b agg48 rfl rfl (lb rfl) rfl) rfl ?_)⟩
      exact tj hj4_6 rfl (wp 4 (lb rfl) rfl rfl rfl rfl rfl)
     ·skip
      refine ⟨_, rfl, rfl, (TOp_alloc zero48 rfl rfl ?_)⟩
      exact tj hj2_6 rfl (wp 5 (lb rfl) rfl rfl rfl rfl rfl)
    ·skip
     refine ⟨_, rfl, rfl, (TOp_alloc zero48 rfl rfl ?_)⟩
     refine TA_all [0, 4] (by kernel_rfl) (by decide) ⟨?_, ?_, trivial⟩
     ·skip
      refine ⟨_, rfl, rfl, (TOp_pure (pur_ldK_b agg48 rfl rfl (lb rfl) rfl) rfl ?_)⟩
      exact tj hj3_6 rfl (wp 5 (lb rfl) rfl rfl rfl rfl rfl)
     ·skip
      refine ⟨_, rfl, rfl, (TOp_pure (pur_ldTK (T := tFact) (i := i_3) (off := 0) rfl agg65 rfl rfl hx_i_3 (by decide) rfl) rfl ?_)⟩
      exact tj hj2_6 rfl (wp 5 (lb rfl) rfl rfl rfl rfl rfl)
   ·rintro _ _
    refine te [(1, (sl tFact l1)), (4, (.b 1 0)), (6, (.b 2 0)), (7, (intA n7)), (8, (intA (i_3 : Int))), (9, (.b 4 0)), (10, (boolA r_5.2))] rfl ?_
    refine sr ?_
    refine Tp rfl rfl (pur_ldK_b agg48 rfl rfl (lb rfl) rfl) rfl ?_
    refine TO_cons rfl (TOp_storeB sz48 rfl rfl rfl rfl rfl rfl rfl (by decide) (lb rfl) rfl ?_)
    refine TO_st (σ' := [.box [(sl tRelation d0.relations), (sl tFact d0.facts)], .box [.n, .n], .box [(sl tRelation r_5.1.relations), (sl tFact r_5.1.facts)], .dead, .box [(sl tRelation r_5.1.relations), (sl tFact r_5.1.facts)]]) rfl ?_
    refine TO_nil ?_
    refine te [(1, (sl tFact l1)), (4, (.b 1 0)), (6, (.b 2 0)), (7, (intA n7)), (8, (intA (i_3 : Int))), (10, (boolA r_5.2))] rfl ?_
    refine sr ?_
    refine Tp rfl rfl (pur_move rfl) rfl ?_
    refine TO_nil ?_
    refine te [(1, (sl tFact l1)), (4, (.b 1 0)), (6, (.b 2 0)), (7, (intA n7)), (8, (intA (i_3 : Int))), (29, (boolA r_5.2))] rfl ?_
    refine T_cond (t := r_5.2) rfl (fun c_7 => ?_) (fun c_7 => ?_)
    ·replace H := cond_t c_7 H
     refine T_region ?_
     refine Tp rfl rfl (pur_move rfl) rfl ?_
     refine Tp rfl rfl (pur_wadd rfl rfl rfl) rfl ?_
     refine Tp rfl rfl (pur_assign rfl) rfl ?_
     refine TO_nil ?_
     refine te [(1, (sl tFact l1)), (4, (.b 1 0)), (6, (.b 2 0)), (7, (intA (w64 (n7 + 1)))), (8, (intA (i_3 : Int)))] rfl ?_
     refine T_region ?_
     refine Tp rfl rfl (pur_move rfl) rfl ?_
     refine Tp rfl rfl (pur_add rfl rfl rfl (fits64 (by omega) (by omega))) rfl ?_
     refine Tp rfl rfl (pur_assign rfl) rfl ?_
     refine TO_nil ?_
     obtain rfl := some_inj H
     exact again (l1.length - (i_3 + 1)) (i_3 + 1, ((w64 (n7 + 1)), r_5.1)) (by omega) (wp 3 (lb rfl) rfl rfl rfl rfl rfl) ⟨rfl, K4_⟩
    ·replace H := cond_f c_7 H
     refine T_skip ?_
     refine te [(1, (sl tFact l1)), (4, (.b 1 0)), (6, (.b 2 0)), (7, (intA n7)), (8, (intA (i_3 : Int)))] rfl ?_
     refine T_region ?_
     refine Tp rfl rfl (pur_move rfl) rfl ?_
     refine Tp rfl rfl (pur_add rfl rfl rfl (fits64 (by omega) (by omega))) rfl ?_
     refine Tp rfl rfl (pur_assign rfl) rfl ?_
     refine TO_nil ?_
     obtain rfl := some_inj H
     exact again (l1.length - (i_3 + 1)) (i_3 + 1, (n7, r_5.1)) (by omega) (wp 3 (lb rfl) rfl rfl rfl rfl rfl) ⟨rfl, K4_⟩
  ·replace d4 := of_decide_eq_false d4
   obtain rfl := forS_end L4_ (by omega)
   refine T_exit ?_
   refine then_exit ?_
   refine then_exit ?_
   refine block_exit ?_
   replace H := N4_
   refine te [(4, (.b 1 0)), (6, (.b 2 0)), (7, (intA n7))] rfl ?_
   refine sr ?_
   refine Tp rfl rfl (pur_ldK_b agg48 rfl rfl (lb rfl) rfl) rfl ?_
   refine Tp rfl rfl (pur_move rfl) rfl ?_
   refine TO_cons rfl (TOp_storeB sz48 rfl rfl rfl rfl rfl rfl rfl (by decide) (lb rfl) rfl ?_)
   refine TO_st (σ' := [.box [(sl tRelation d0.relations), (sl tFact d0.facts)], .box [(sl tRelation box2.relations), (sl tFact box2.facts)], .box [(sl tRelation box2.relations), (sl tFact box2.facts)]]) rfl ?_
   refine Tp rfl rfl (pur_assign rfl) rfl ?_
   refine TO_nil ?_
   refine te [(4, (.b 1 0)), (5, (intA n7))] rfl ?_
   refine T_ret ?_
   obtain rfl := some_inj H
   refine end_ret (.cellK rfl agg48 rfl (lb rfl) (.tmp .nil)) rfl rfl ⟨?_, rfl⟩
   rfl

set_option maxHeartbeats 1000000 in
/-- laws.FnResolveAll -/
theorem m_laws_FnResolveAll_ok (u : Nat) (code0 : (List Int)) (r : Bool) (H : m_laws_FnResolveAll u code0 = some r) : FnV prg 7 [(sl (tI .u8) code0)] (boolA r) := by
  unfold m_laws_FnResolveAll at H
  refine fnV_of_T Try.func7 rfl rfl (Nat.le_of_ble_eq_true rfl) ?_
  refine te [(0, (sl (tI .u8) code0))] rfl ?_
  refine sr ?_
  refine Tp rfl rfl (pur_assign rfl) rfl ?_
  refine TO_nil ?_
  refine te [(0, (sl (tI .u8) code0))] rfl ?_
  refine T_seq ?_
  refine sr ?_
  refine Tp rfl rfl (pur_move rfl) rfl ?_
  obtain ⟨r_1, h_2, H⟩ := bind_inv H
  refine TO_cons rfl (TOp_callV (call_static ent37 rfl) (m_laws_big_ok _ _ h_2) rfl rfl rfl ?_)
  refine TO_nil ?_
  refine te [(0, (sl (tI .u8) code0)), (10, (boolA r_1))] rfl ?_
  refine T_cond (t := r_1) rfl (fun c_3 => ?_) (fun c_3 => ?_)
  ·replace H := cond_t c_3 H
   refine sr ?_
   refine Tp rfl rfl (pur_assign rfl) rfl ?_
   refine TO_nil ?_
   refine te [(2, (boolA true))] rfl ?_
   refine T_ret ?_
   refine then_ret ?_
   obtain rfl := some_inj H
   refine end_ret (.tmp .nil) rfl rfl ⟨?_, rfl⟩
   rfl
  ·replace H := cond_f c_3 H
   refine T_skip ?_
   refine te [(0, (sl (tI .u8) code0))] rfl ?_
   refine sr ?_
   refine Tp rfl rfl (pur_move rfl) rfl ?_
   obtain ⟨r_4, h_5, H⟩ := bind_inv H
   refine TO_cons rfl (TOp_callV (call_static ent50 rfl) (m_spec_DrawResolveAll_ok u _ _ h_5) rfl rfl rfl ?_)
   refine Tp rfl rfl (pur_move rfl) rfl ?_
   refine Tp rfl rfl (pur_extract rfl rfl rfl) rfl ?_
   refine Tp rfl rfl (pur_extract rfl rfl rfl) rfl ?_
   refine TO_cons rfl (TOp_alloc zero48 rfl rfl ?_)
   refine TO_cons rfl (TOp_storeB sz48 rfl rfl rfl rfl rfl rfl rfl (by decide) (lb rfl) rfl ?_)
   refine TO_st (σ' := [.box [(sl tRelation r_4.1.relations), (sl tFact r_4.1.facts)]]) rfl ?_
   refine Tp rfl rfl (pur_assign rfl) rfl ?_
   refine TO_nil ?_
   refine te [(3, (.b 0 0)), (4, (sl tFact r_4.2))] rfl ?_
   refine sr ?_
   refine Tp rfl rfl (pur_ldK_b agg48 rfl rfl (lb rfl) rfl) rfl ?_
   refine Tp rfl rfl (pur_move rfl) rfl ?_
   obtain ⟨r_6, h_7, H⟩ := bind_inv H
   refine TO_cons rfl (TOp_callV (call_static ent51 rfl) (m_impl_ResolveAll_ok _ _ _ h_7) rfl rfl rfl ?_)
   refine Tp rfl rfl (pur_move rfl) rfl ?_
   refine Tp rfl rfl (pur_extract rfl rfl rfl) rfl ?_
   refine Tp rfl rfl (pur_extract rfl rfl rfl) rfl ?_
   refine TO_cons rfl (TOp_alloc zero48 rfl rfl ?_)
   refine TO_cons rfl (TOp_storeB sz48 rfl rfl rfl rfl rfl rfl rfl (by decide) (lb rfl) rfl ?_)
   refine TO_st (σ' := [.box [(sl tRelation r_4.1.relations), (sl tFact r_4.1.facts)], .box [(sl tRelation r_6.1.relations), (sl tFact r_6.1.facts)]]) rfl ?_
   refine Tp rfl rfl (pur_assign rfl) rfl ?_
   refine TO_nil ?_
   refine te [(3, (.b 0 0)), (4, (sl tFact r_4.2)), (5, (.b 1 0)), (6, (intA r_6.2))] rfl ?_
   refine sr ?_
   refine Tp rfl rfl (pur_ldK_b agg48 rfl rfl (lb rfl) rfl) rfl ?_
   refine Tp rfl rfl (pur_move rfl) rfl ?_
   obtain ⟨r_8, h_9, H⟩ := bind_inv H
   refine TO_cons rfl (TOp_callV (call_static ent52 rfl) (m_spec_ResolveAll_ok u _ _ _ h_9) rfl rfl rfl ?_)
   refine Tp rfl rfl (pur_move rfl) rfl ?_
   refine Tp rfl rfl (pur_extract rfl rfl rfl) rfl ?_
   refine Tp rfl rfl (pur_extract rfl rfl rfl) rfl ?_
   refine TO_cons rfl (TOp_alloc zero48 rfl rfl ?_)
   refine TO_cons rfl (TOp_storeB sz48 rfl rfl rfl rfl rfl rfl rfl (by decide) (lb rfl) rfl ?_)
   refine TO_st (σ' := [.box [(sl tRelation r_4.1.relations), (sl tFact r_4.1.facts)], .box [(sl tRelation r_6.1.relations), (sl tFact r_6.1.facts)], .box [(sl tRelation r_8.1.relations), (sl tFact r_8.1.facts)]]) rfl ?_
   refine Tp rfl rfl (pur_assign rfl) rfl ?_
   refine TO_nil ?_
   refine te [(3, (.b 0 0)), (4, (sl tFact r_4.2)), (5, (.b 1 0)), (6, (intA r_6.2)), (7, (.b 2 0)), (8, (intA r_8.2))] rfl ?_
   refine T_seq ?_
   obtain ⟨t42_10, J_10, H_11⟩ := bind_inv H
   refine T_cutX (fun x => t42_10 = x) (fun (t42_10 : Bool) => [(3, (.b 0 0)), (5, (.b 1 0)), (42, (boolA t42_10))]) (fun (t42_10 : Bool) => [.box [(sl tRelation r_4.1.relations), (sl tFact r_4.1.facts)], .box [(sl tRelation r_6.1.relations), (sl tFact r_6.1.facts)]]) ?_ ?_
   ·replace H := J_10
    refine T_region ?_
    refine Tp rfl rfl (pur_move rfl) rfl ?_
    refine Tp rfl rfl (pur_move rfl) rfl ?_
    refine Tp rfl rfl (pur_neq rfl rfl rfl) rfl ?_
    refine Tp rfl rfl (pur_move rfl) rfl ?_
    refine TO_split (t := decide (r_6.2 ≠ r_8.2)) 31 rfl (fun g_12 => ?_) (fun g_12 => ?_)
    ·replace H := cond_t g_12 H
     refine TO_off rfl rfl (by decide) rfl rfl rfl ?_
     refine TO_off rfl rfl (by decide) rfl rfl rfl ?_
     refine TO_off rfl rfl (by decide) rfl rfl rfl ?_
     refine TO_off rfl rfl (by decide) rfl rfl rfl ?_
     refine Tp rfl rfl (pur_pick (t := true) rfl rfl rfl) rfl ?_
     refine Tp rfl rfl (pur_move rfl) rfl ?_
     refine TO_off rfl rfl (by decide) rfl rfl rfl ?_
     refine TO_off rfl rfl (by decide) rfl rfl rfl ?_
     refine toe [(3, (.b 0 0)), (5, (.b 1 0)), (37, (boolA true)), (38, (.v undef)), (39, (.v undef))] rfl ?_
     refine TO_off rfl rfl (by decide) rfl rfl rfl ?_
     refine TO_off rfl rfl (by decide) rfl rfl rfl ?_
     refine Tp rfl rfl (pur_pick (t := true) rfl rfl rfl) rfl ?_
     refine TO_nil ?_
     exact joined true (wp 2 (lb rfl) rfl rfl rfl rfl rfl) (some_inj H).symm
    ·replace H := cond_f g_12 H
     refine TO_on rfl rfl (by decide) rfl rfl (TOp_pure (pur_ldK_b agg48 rfl rfl (lb rfl) rfl) rfl ?_)
     refine TO_on rfl rfl (by decide) rfl rfl (TOp_pure (pur_ldK_b agg48 rfl rfl (lb rfl) rfl) rfl ?_)
     obtain ⟨r_13, h_14, H⟩ := bind_inv H
     refine TO_on rfl rfl (by decide) rfl rfl (TOp_callV (call_static ent41 rfl) (m_spec_EqualDatabases_ok u _ _ _ h_14) rfl rfl rfl ?_)
     refine TO_on rfl rfl (by decide) rfl rfl (TOp_pure (pur_not rfl rfl) rfl ?_)
     refine Tp rfl rfl (pur_pick (t := false) rfl rfl rfl) rfl ?_
     refine Tp rfl rfl (pur_move rfl) rfl ?_
     refine TO_split (t := (!r_13)) 37 rfl (fun g_15 => ?_) (fun g_15 => ?_)
     ·replace H := cond_t g_15 H
      refine TO_off rfl rfl (by decide) rfl rfl rfl ?_
      refine TO_off rfl rfl (by decide) rfl rfl rfl ?_
      refine TO_off rfl rfl (by decide) rfl rfl rfl ?_
      refine TO_off rfl rfl (by decide) rfl rfl rfl ?_
      refine Tp rfl rfl (pur_pick (t := true) rfl rfl rfl) rfl ?_
      refine TO_nil ?_
      exact joined true (wp 2 (lb rfl) rfl rfl rfl rfl rfl) (some_inj H).symm
     ·replace H := cond_f g_15 H
      refine TO_on rfl rfl (by decide) rfl rfl (TOp_pure (pur_move rfl) rfl ?_)
      refine TO_on rfl rfl (by decide) rfl rfl (TOp_pure (pur_move rfl) rfl ?_)
      refine TO_on rfl rfl (by decide) rfl rfl (TOp_pure (pur_lenT (T := tFact) sl46 rfl rfl) rfl ?_)
      refine TO_on rfl rfl (by decide) rfl rfl (TOp_pure (pur_gtr rfl rfl rfl) rfl ?_)
      refine Tp rfl rfl (pur_pick (t := false) rfl rfl rfl) rfl ?_
      refine TO_nil ?_
      exact joined (decide ((r_4.2.length : Int) < r_6.2)) (wp 2 (lb rfl) rfl rfl rfl rfl rfl) (some_inj H).symm
   ·rintro _ rfl
    replace H := H_11
    refine te [(3, (.b 0 0)), (5, (.b 1 0)), (42, (boolA t42_10))] rfl ?_
    refine T_cond (t := t42_10) rfl (fun c_16 => ?_) (fun c_16 => ?_)
    ·replace H := cond_t c_16 H
     refine sr ?_
     refine Tp rfl rfl (pur_assign rfl) rfl ?_
     refine TO_nil ?_
     refine te [(2, (boolA false))] rfl ?_
     refine T_ret ?_
     refine then_ret ?_
     obtain rfl := some_inj H
     refine end_ret (.tmp .nil) rfl rfl ⟨?_, rfl⟩
     rfl
    ·replace H := cond_f c_16 H
     refine T_skip ?_
     refine te [(3, (.b 0 0)), (5, (.b 1 0))] rfl ?_
     obtain ⟨t2_17, J_17, H_18⟩ := bind_inv H
     refine T_cutX (fun x => t2_17 = x) (fun (t2_17 : Bool) => [(2, (boolA t2_17))]) (fun (t2_17 : Bool) => []) ?_ ?_
     ·replace H := J_17
      obtain ⟨r_19, h_20, H⟩ := bind_inv H
      refine T_caseB (!r_19) (fun g_21 => ?_) (fun g_21 => ?_)
      ·replace H := cond_t g_21 H
       refine T_regionP mixed ?_
       refine TA_allG [0] (by kernel_rfl) (by decide) ⟨⟨_, rfl, goN rfl, (TOp_pure (pur_ldK_b agg48 rfl rfl (lb rfl) rfl) rfl ?_)⟩, trivial⟩
       refine TA_listed #[true, false, false, false, false, false, false, false, false, false, false, false, false, false, false, false, false, false, false, false] rfl ?_
       refine TA_allG [1] (by kernel_rfl) (by decide) ⟨⟨_, rfl, goN rfl, (TOp_callV (call_static ent53 rfl) (m_spec_IsValidDatabase_ok u _ _ h_20) rfl rfl rfl ?_)⟩, trivial⟩
       refine TA_listed #[true, true, false, false, false, false, false, false, false, false, false, false, false, false, false, false, false, false, false, false] rfl ?_
       refine tf 2 rfl (purI_not rfl rfl) rfl rfl (by kernel_rfl) ?_
       refine tf 3 rfl (purI_move rfl) rfl rfl (by kernel_rfl) ?_
       refine TA_bool 46 g_21 rfl ?_
       refine TA_off 4 #[true, true, true, true, true, false, false, false, false, false, false, false, false, false, false, false, false, false, false, false] rfl rfl rfl (by decide) rfl rfl rfl rfl (by kernel_rfl) (by kernel_rfl) (by kernel_rfl) ?_
       refine TA_off 5 #[true, true, true, true, true, true, false, false, false, false, false, false, false, false, false, false, false, false, false, false] rfl rfl rfl (by decide) rfl rfl rfl rfl (by kernel_rfl) (by kernel_rfl) (by kernel_rfl) ?_
       refine TA_off 6 #[true, true, true, true, true, true, true, false, false, false, false, false, false, false, false, false, false, false, false, false] rfl rfl rfl (by decide) rfl rfl rfl rfl (by kernel_rfl) (by kernel_rfl) (by kernel_rfl) ?_
       refine TA_off 7 #[true, true, true, true, true, true, true, true, false, false, false, false, false, false, false, false, false, false, false, false] rfl rfl rfl (by decide) rfl rfl rfl rfl (by kernel_rfl) (by kernel_rfl) (by kernel_rfl) ?_
       refine TA_off 8 #[true, true, true, true, true, true, true, true, true, false, false, false, false, false, false, false, false, false, false, false] rfl rfl rfl (by decide) rfl rfl rfl rfl (by kernel_rfl) (by kernel_rfl) (by kernel_rfl) ?_
       refine TA_off 9 #[true, true, true, true, true, true, true, true, true, true, false, false, false, false, false, false, false, false, false, false] rfl rfl rfl (by decide) rfl rfl rfl rfl (by kernel_rfl) (by kernel_rfl) (by kernel_rfl) ?_
       refine TA_off 10 #[true, true, true, true, true, true, true, true, true, true, true, false, false, false, false, false, false, false, false, false] rfl rfl rfl (by decide) rfl rfl rfl rfl (by kernel_rfl) (by kernel_rfl) (by kernel_rfl) ?_
       refine TA_off 11 #[true, true, true, true, true, true, true, true, true, true, true, true, false, false, false, false, false, false, false, false] rfl rfl rfl (by decide) rfl rfl rfl rfl (by kernel_rfl) (by kernel_rfl) (by kernel_rfl) ?_
       refine TA_off 12 #[true, true, true, true, true, true, true, true, true, true, true, true, true, false, false, false, false, false, false, false] rfl rfl rfl (by decide) rfl rfl rfl rfl (by kernel_rfl) (by kernel_rfl) (by kernel_rfl) ?_
       refine TA_off 13 #[true, true, true, true, true, true, true, true, true, true, true, true, true, true, false, false, false, false, false, false] rfl rfl rfl (by decide) rfl rfl rfl rfl (by kernel_rfl) (by kernel_rfl) (by kernel_rfl) ?_
       refine TA_off 14 #[true, true, true, true, true, true, true, true, true, true, true, true, true, true, true, false, false, false, false, false] rfl rfl rfl (by decide) rfl rfl rfl rfl (by kernel_rfl) (by kernel_rfl) (by kernel_rfl) ?_
       refine TA_off 15 #[true, true, true, true, true, true, true, true, true, true, true, true, true, true, true, true, false, false, false, false] rfl rfl rfl (by decide) rfl rfl rfl rfl (by kernel_rfl) (by kernel_rfl) (by kernel_rfl) ?_
       refine TA_off 16 #[true, true, true, true, true, true, true, true, true, true, true, true, true, true, true, true, true, false, false, false] rfl rfl rfl (by decide) rfl rfl rfl rfl (by kernel_rfl) (by kernel_rfl) (by kernel_rfl) ?_
       refine TA_off 17 #[true, true, true, true, true, true, true, true, true, true, true, true, true, true, true, true, true, true, false, false] rfl rfl rfl (by decide) rfl rfl rfl rfl (by kernel_rfl) (by kernel_rfl) (by kernel_rfl) ?_
       refine TA_allG [18] (by kernel_rfl) (by decide) ⟨⟨_, rfl, goN rfl, (TOp_pure (pur_pick (t := true) rfl rfl rfl) rfl ?_)⟩, trivial⟩
       refine TA_listed #[true, true, true, true, true, true, true, true, true, true, true, true, true, true, true, true, true, true, true, false] rfl ?_
       refine tf 19 rfl (purI_assign rfl) rfl rfl (by kernel_rfl) ?_
       refine tae [(2, (boolA true))] rfl ?_
       refine TA_nil (by kernel_rfl) ?_
       exact joined true (wp 0 (lb rfl) rfl rfl rfl rfl rfl) (some_inj H).symm
      ·replace H := cond_f g_21 H
       obtain ⟨r_22, h_23, H⟩ := bind_inv H
       obtain ⟨r_24, h_25, H⟩ := bind_inv H
       refine T_caseB (decide ((r_22.length : Int) = (r_24.length : Int))) (fun g_26 => ?_) (fun g_26 => ?_)
       ·replace H := cond_t g_26 H
        obtain ⟨r_27, h_28, H⟩ := bind_inv H
        obtain ⟨r_29, h_30, H⟩ := bind_inv H
        refine T_regionP mixed ?_
        refine TA_have 5 #[true, true, true, true, true, true, true, true, true, true, true, true, true, true, true, false, false, false, false, false] [(46, (boolA false)), (54, (boolA true)), (56, (intA r_27)), (57, (.g (tDatabase.enc r_4.1)))] [.box [(sl tRelation r_4.1.relations), (sl tFact r_4.1.facts)], .box [(sl tRelation r_6.1.relations), (sl tFact r_6.1.facts)]] ?_ (fun hj0_8 => ?_)
        ·skip
         refine TA_allG [15] (by kernel_rfl) (by decide) ⟨⟨_, rfl, goG rfl rfl (by decide) rfl, (TOp_callV (call_static ent48 rfl) (m_spec_CountRepairs_ok u _ _ h_30) rfl rfl rfl ?_)⟩, trivial⟩
         refine TA_listed #[true, true, true, true, true, true, true, true, true, true, true, true, true, true, true, true, false, false, false, false] rfl ?_
         refine TA_allG [16] (by kernel_rfl) (by decide) ⟨⟨_, rfl, goG rfl rfl (by decide) rfl, (TOp_pure (pur_leq rfl rfl rfl) rfl ?_)⟩, trivial⟩
         refine TA_listed #[true, true, true, true, true, true, true, true, true, true, true, true, true, true, true, true, true, false, false, false] rfl ?_
         refine TA_allG [17] (by kernel_rfl) (by decide) ⟨⟨_, rfl, goG rfl rfl (by decide) rfl, (TOp_pure (pur_pick (t := true) rfl rfl rfl) rfl ?_)⟩, trivial⟩
         refine TA_listed #[true, true, true, true, true, true, true, true, true, true, true, true, true, true, true, true, true, true, false, false] rfl ?_
         refine TA_allG [18] (by kernel_rfl) (by decide) ⟨⟨_, rfl, goN rfl, (TOp_pure (pur_pick (t := false) rfl rfl rfl) rfl ?_)⟩, trivial⟩
         refine TA_listed #[true, true, true, true, true, true, true, true, true, true, true, true, true, true, true, true, true, true, true, false] rfl ?_
         refine tf 19 rfl (purI_assign rfl) rfl rfl (by kernel_rfl) ?_
         refine TA_nil (by kernel_rfl) ?_
         exact joined (decide (r_27 ≤ r_29)) (wp 0 (lb rfl) rfl rfl rfl rfl rfl) (some_inj H).symm
        refine TA_have 6 #[true, true, true, true, true, true, true, true, true, true, true, true, true, false, true, false, false, false, false, false] [(46, (boolA false)), (54, (boolA true)), (55, (.g (tDatabase.enc r_6.1))), (57, (.g (tDatabase.enc r_4.1)))] [.box [(sl tRelation r_4.1.relations), (sl tFact r_4.1.facts)], .box [(sl tRelation r_6.1.relations), (sl tFact r_6.1.facts)]] ?_ (fun hj1_8 => ?_)
        ·skip
         refine TA_allG [13] (by kernel_rfl) (by decide) ⟨⟨_, rfl, goG rfl rfl (by decide) rfl, (TOp_callV (call_static ent47 rfl) (m_impl_CountRepairs_ok _ _ h_28) rfl rfl rfl ?_)⟩, trivial⟩
         refine TA_listed #[true, true, true, true, true, true, true, true, true, true, true, true, true, true, true, false, false, false, false, false] rfl ?_
         exact tj hj0_8 rfl (wp 2 (lb rfl) rfl rfl rfl rfl rfl)
        refine TA_have 12 #[true, true, true, true, true, true, true, true, false, false, false, false, false, false, false, false, false, false, false, false] [(3, (.b 0 0)), (5, (.b 1 0)), (46, (boolA false)), (49, (intA (r_22.length : Int))), (50, (.g (tDatabase.enc r_4.1)))] [.box [(sl tRelation r_4.1.relations), (sl tFact r_4.1.facts)], .box [(sl tRelation r_6.1.relations), (sl tFact r_6.1.facts)]] ?_ (fun hj2_8 => ?_)
        ·skip
         refine TA_allG [8] (by kernel_rfl) (by decide) ⟨⟨_, rfl, goG rfl rfl (by decide) rfl, (TOp_callV (call_static ent46 rfl) (m_spec_Blocks_ok u _ _ h_25) rfl rfl rfl ?_)⟩, trivial⟩
         refine TA_listed #[true, true, true, true, true, true, true, true, true, false, false, false, false, false, false, false, false, false, false, false] rfl ?_
         refine TA_firstG 9 #[true, true, true, true, true, true, true, true, true, true, false, false, false, false, false, false, false, false, false, false] rfl (purI_lenT (T := (tSl tInt)) sl53 rfl rfl) rfl rfl (by decide) rfl rfl rfl (by kernel_rfl) (by kernel_rfl) (by kernel_rfl) ?_
         refine TA_allG [10] (by kernel_rfl) (by decide) ⟨⟨_, rfl, goG rfl rfl (by decide) rfl, (TOp_pure (pur_eql rfl rfl rfl) rfl ?_)⟩, trivial⟩
         refine TA_listed #[true, true, true, true, true, true, true, true, true, true, true, false, false, false, false, false, false, false, false, false] rfl ?_
         refine TA_firstG 11 #[true, true, true, true, true, true, true, true, true, true, true, true, false, false, false, false, false, false, false, false] rfl (purI_move rfl) rfl rfl (by decide) rfl rfl rfl (by kernel_rfl) (by kernel_rfl) (by kernel_rfl) ?_
         refine TA_bool 54 g_26 rfl ?_
         refine TA_allG [12, 14] (by kernel_rfl) (by decide) ⟨?_, ?_, trivial⟩
         ·skip
          refine ⟨_, rfl, goG rfl rfl (by decide) rfl, (TOp_pure (pur_ldK_b agg48 rfl rfl (lb rfl) rfl) rfl ?_)⟩
          refine TA_listed #[true, true, true, true, true, true, true, true, true, true, true, true, true, false, false, false, false, false, false, false] rfl ?_
          refine TA_allG [13, 14] (by kernel_rfl) (by decide) ⟨?_, ?_, trivial⟩
          ·skip
           refine ⟨_, rfl, goG rfl rfl (by decide) rfl, (TOp_callV (call_static ent47 rfl) (m_impl_CountRepairs_ok _ _ h_28) rfl rfl rfl ?_)⟩
           refine TA_listed #[true, true, true, true, true, true, true, true, true, true, true, true, true, true, false, false, false, false, false, false] rfl ?_
           refine TA_allG [14] (by kernel_rfl) (by decide) ⟨⟨_, rfl, goG rfl rfl (by decide) rfl, (TOp_pure (pur_ldK_b agg48 rfl rfl (lb rfl) rfl) rfl ?_)⟩, trivial⟩
           refine TA_listed #[true, true, true, true, true, true, true, true, true, true, true, true, true, true, true, false, false, false, false, false] rfl ?_
           exact tj hj0_8 rfl (wp 2 (lb rfl) rfl rfl rfl rfl rfl)
          ·skip
           refine ⟨_, rfl, goG rfl rfl (by decide) rfl, (TOp_pure (pur_ldK_b agg48 rfl rfl (lb rfl) rfl) rfl ?_)⟩
           refine TA_listed #[true, true, true, true, true, true, true, true, true, true, true, true, true, false, true, false, false, false, false, false] rfl ?_
           exact tj hj1_8 rfl (wp 2 (lb rfl) rfl rfl rfl rfl rfl)
         ·skip
          refine ⟨_, rfl, goG rfl rfl (by decide) rfl, (TOp_pure (pur_ldK_b agg48 rfl rfl (lb rfl) rfl) rfl ?_)⟩
          refine TA_listed #[true, true, true, true, true, true, true, true, true, true, true, true, false, false, true, false, false, false, false, false] rfl ?_
          refine TA_allG [12] (by kernel_rfl) (by decide) ⟨⟨_, rfl, goG rfl rfl (by decide) rfl, (TOp_pure (pur_ldK_b agg48 rfl rfl (lb rfl) rfl) rfl ?_)⟩, trivial⟩
          refine TA_listed #[true, true, true, true, true, true, true, true, true, true, true, true, true, false, true, false, false, false, false, false] rfl ?_
          exact tj hj1_8 rfl (wp 2 (lb rfl) rfl rfl rfl rfl rfl)
        refine TA_have 14 #[true, true, true, true, true, false, false, true, false, false, false, false, false, false, false, false, false, false, false, false] [(3, (.b 0 0)), (5, (.b 1 0)), (46, (boolA false)), (47, (.g (tDatabase.enc r_6.1))), (50, (.g (tDatabase.enc r_4.1)))] [.box [(sl tRelation r_4.1.relations), (sl tFact r_4.1.facts)], .box [(sl tRelation r_6.1.relations), (sl tFact r_6.1.facts)]] ?_ (fun hj3_8 => ?_)
        ·skip
         refine TA_allG [5] (by kernel_rfl) (by decide) ⟨⟨_, rfl, goG rfl rfl (by decide) rfl, (TOp_callV (call_static ent45 rfl) (m_impl_Blocks_ok _ _ h_23) rfl rfl rfl ?_)⟩, trivial⟩
         refine TA_listed #[true, true, true, true, true, true, false, true, false, false, false, false, false, false, false, false, false, false, false, false] rfl ?_
         refine TA_firstG 6 #[true, true, true, true, true, true, true, true, false, false, false, false, false, false, false, false, false, false, false, false] rfl (purI_lenT (T := (tSl tInt)) sl53 rfl rfl) rfl rfl (by decide) rfl rfl rfl (by kernel_rfl) (by kernel_rfl) (by kernel_rfl) ?_
         exact tj hj2_8 rfl (wp 2 (lb rfl) rfl rfl rfl rfl rfl)
        refine TA_allG [0] (by kernel_rfl) (by decide) ⟨⟨_, rfl, goN rfl, (TOp_pure (pur_ldK_b agg48 rfl rfl (lb rfl) rfl) rfl ?_)⟩, trivial⟩
        refine TA_listed #[true, false, false, false, false, false, false, false, false, false, false, false, false, false, false, false, false, false, false, false] rfl ?_
        refine TA_allG [1] (by kernel_rfl) (by decide) ⟨⟨_, rfl, goN rfl, (TOp_callV (call_static ent53 rfl) (m_spec_IsValidDatabase_ok u _ _ h_20) rfl rfl rfl ?_)⟩, trivial⟩
        refine TA_listed #[true, true, false, false, false, false, false, false, false, false, false, false, false, false, false, false, false, false, false, false] rfl ?_
        refine tf 2 rfl (purI_not rfl rfl) rfl rfl (by kernel_rfl) ?_
        refine tf 3 rfl (purI_move rfl) rfl rfl (by kernel_rfl) ?_
        refine TA_bool 46 g_21 rfl ?_
        refine TA_allG [4, 7] (by kernel_rfl) (by decide) ⟨?_, ?_, trivial⟩
        ·skip
         refine ⟨_, rfl, goG rfl rfl (by decide) rfl, (TOp_pure (pur_ldK_b agg48 rfl rfl (lb rfl) rfl) rfl ?_)⟩
         refine TA_listed #[true, true, true, true, true, false, false, false, false, false, false, false, false, false, false, false, false, false, false, false] rfl ?_
         refine TA_allG [5, 7] (by kernel_rfl) (by decide) ⟨?_, ?_, trivial⟩
         ·skip
          refine ⟨_, rfl, goG rfl rfl (by decide) rfl, (TOp_callV (call_static ent45 rfl) (m_impl_Blocks_ok _ _ h_23) rfl rfl rfl ?_)⟩
          refine TA_listed #[true, true, true, true, true, true, false, false, false, false, false, false, false, false, false, false, false, false, false, false] rfl ?_
          refine TA_firstG 6 #[true, true, true, true, true, true, true, false, false, false, false, false, false, false, false, false, false, false, false, false] rfl (purI_lenT (T := (tSl tInt)) sl53 rfl rfl) rfl rfl (by decide) rfl rfl rfl (by kernel_rfl) (by kernel_rfl) (by kernel_rfl) ?_
          refine tae [(3, (.b 0 0)), (5, (.b 1 0)), (46, (boolA false)), (49, (intA (r_22.length : Int)))] rfl ?_
          refine TA_allG [7] (by kernel_rfl) (by decide) ⟨⟨_, rfl, goG rfl rfl (by decide) rfl, (TOp_pure (pur_ldK_b agg48 rfl rfl (lb rfl) rfl) rfl ?_)⟩, trivial⟩
          refine TA_listed #[true, true, true, true, true, true, true, true, false, false, false, false, false, false, false, false, false, false, false, false] rfl ?_
          exact tj hj2_8 rfl (wp 2 (lb rfl) rfl rfl rfl rfl rfl)
         ·skip
          refine ⟨_, rfl, goG rfl rfl (by decide) rfl, (TOp_pure (pur_ldK_b agg48 rfl rfl (lb rfl) rfl) rfl ?_)⟩
          refine TA_listed #[true, true, true, true, true, false, false, true, false, false, false, false, false, false, false, false, false, false, false, false] rfl ?_
          exact tj hj3_8 rfl (wp 2 (lb rfl) rfl rfl rfl rfl rfl)
        ·skip
         refine ⟨_, rfl, goG rfl rfl (by decide) rfl, (TOp_pure (pur_ldK_b agg48 rfl rfl (lb rfl) rfl) rfl ?_)⟩
         refine TA_listed #[true, true, true, true, false, false, false, true, false, false, false, false, false, false, false, false, false, false, false, false] rfl ?_
         refine TA_allG [4] (by kernel_rfl) (by decide) ⟨⟨_, rfl, goG rfl rfl (by decide) rfl, (TOp_pure (pur_ldK_b agg48 rfl rfl (lb rfl) rfl) rfl ?_)⟩, trivial⟩
         refine TA_listed #[true, true, true, true, true, false, false, true, false, false, false, false, false, false, false, false, false, false, false, false] rfl ?_
         exact tj hj3_8 rfl (wp 2 (lb rfl) rfl rfl rfl rfl rfl)
       ·replace H := cond_f g_26 H
        refine T_regionP mixed ?_
        refine TA_have 12 #[true, true, true, true, true, true, true, true, false, false, false, false, false, false, false, false, false, false, false, false] [(3, (.b 0 0)), (5, (.b 1 0)), (46, (boolA false)), (49, (intA (r_22.length : Int))), (50, (.g (tDatabase.enc r_4.1)))] [.box [(sl tRelation r_4.1.relations), (sl tFact r_4.1.facts)], .box [(sl tRelation r_6.1.relations), (sl tFact r_6.1.facts)]] ?_ (fun hj0_8 => ?_)
        ·skip
         refine TA_allG [8] (by kernel_rfl) (by decide) ⟨⟨_, rfl, goG rfl rfl (by decide) rfl, (TOp_callV (call_static ent46 rfl) (m_spec_Blocks_ok u _ _ h_25) rfl rfl rfl ?_)⟩, trivial⟩
         refine TA_listed #[true, true, true, true, true, true, true, true, true, false, false, false, false, false, false, false, false, false, false, false] rfl ?_
         refine TA_firstG 9 #[true, true, true, true, true, true, true, true, true, true, false, false, false, false, false, false, false, false, false, false] rfl (purI_lenT (T := (tSl tInt)) sl53 rfl rfl) rfl rfl (by decide) rfl rfl rfl (by kernel_rfl) (by kernel_rfl) (by kernel_rfl) ?_
         refine TA_allG [10] (by kernel_rfl) (by decide) ⟨⟨_, rfl, goG rfl rfl (by decide) rfl, (TOp_pure (pur_eql rfl rfl rfl) rfl ?_)⟩, trivial⟩
         refine TA_listed #[true, true, true, true, true, true, true, true, true, true, true, false, false, false, false, false, false, false, false, false] rfl ?_
         refine TA_firstG 11 #[true, true, true, true, true, true, true, true, true, true, true, true, false, false, false, false, false, false, false, false] rfl (purI_move rfl) rfl rfl (by decide) rfl rfl rfl (by kernel_rfl) (by kernel_rfl) (by kernel_rfl) ?_
         refine TA_bool 54 g_26 rfl ?_
         refine TA_off 12 #[true, true, true, true, true, true, true, true, true, true, true, true, true, false, false, false, false, false, false, false] rfl rfl rfl (by decide) rfl rfl rfl rfl (by kernel_rfl) (by kernel_rfl) (by kernel_rfl) ?_
         refine TA_off 13 #[true, true, true, true, true, true, true, true, true, true, true, true, true, true, false, false, false, false, false, false] rfl rfl rfl (by decide) rfl rfl rfl rfl (by kernel_rfl) (by kernel_rfl) (by kernel_rfl) ?_
         refine TA_off 14 #[true, true, true, true, true, true, true, true, true, true, true, true, true, true, true, false, false, false, false, false] rfl rfl rfl (by decide) rfl rfl rfl rfl (by kernel_rfl) (by kernel_rfl) (by kernel_rfl) ?_
         refine TA_off 15 #[true, true, true, true, true, true, true, true, true, true, true, true, true, true, true, true, false, false, false, false] rfl rfl rfl (by decide) rfl rfl rfl rfl (by kernel_rfl) (by kernel_rfl) (by kernel_rfl) ?_
         refine TA_off 16 #[true, true, true, true, true, true, true, true, true, true, true, true, true, true, true, true, true, false, false, false] rfl rfl rfl (by decide) rfl rfl rfl rfl (by kernel_rfl) (by kernel_rfl) (by kernel_rfl) ?_
         refine TA_allG [17] (by kernel_rfl) (by decide) ⟨⟨_, rfl, goG rfl rfl (by decide) rfl, (TOp_pure (pur_pick (t := false) rfl rfl rfl) rfl ?_)⟩, trivial⟩
         refine TA_listed #[true, true, true, true, true, true, true, true, true, true, true, true, true, true, true, true, true, true, false, false] rfl ?_
         refine TA_allG [18] (by kernel_rfl) (by decide) ⟨⟨_, rfl, goN rfl, (TOp_pure (pur_pick (t := false) rfl rfl rfl) rfl ?_)⟩, trivial⟩
         refine TA_listed #[true, true, true, true, true, true, true, true, true, true, true, true, true, true, true, true, true, true, true, false] rfl ?_
         refine tf 19 rfl (purI_assign rfl) rfl rfl (by kernel_rfl) ?_
         refine tae [(2, (boolA false))] rfl ?_
         refine TA_nil (by kernel_rfl) ?_
         exact joined false (wp 0 (lb rfl) rfl rfl rfl rfl rfl) (some_inj H).symm
        refine TA_have 14 #[true, true, true, true, true, false, false, true, false, false, false, false, false, false, false, false, false, false, false, false] [(3, (.b 0 0)), (5, (.b 1 0)), (46, (boolA false)), (47, (.g (tDatabase.enc r_6.1))), (50, (.g (tDatabase.enc r_4.1)))] [.box [(sl tRelation r_4.1.relations), (sl tFact r_4.1.facts)], .box [(sl tRelation r_6.1.relations), (sl tFact r_6.1.facts)]] ?_ (fun hj1_8 => ?_)
        ·skip
         refine TA_allG [5] (by kernel_rfl) (by decide) ⟨⟨_, rfl, goG rfl rfl (by decide) rfl, (TOp_callV (call_static ent45 rfl) (m_impl_Blocks_ok _ _ h_23) rfl rfl rfl ?_)⟩, trivial⟩
         refine TA_listed #[true, true, true, true, true, true, false, true, false, false, false, false, false, false, false, false, false, false, false, false] rfl ?_
         refine TA_firstG 6 #[true, true, true, true, true, true, true, true, false, false, false, false, false, false, false, false, false, false, false, false] rfl (purI_lenT (T := (tSl tInt)) sl53 rfl rfl) rfl rfl (by decide) rfl rfl rfl (by kernel_rfl) (by kernel_rfl) (by kernel_rfl) ?_
         exact tj hj0_8 rfl (wp 2 (lb rfl) rfl rfl rfl rfl rfl)
        refine TA_allG [0] (by kernel_rfl) (by decide) ⟨⟨_, rfl, goN rfl, (TOp_pure (pur_ldK_b agg48 rfl rfl (lb rfl) rfl) rfl ?_)⟩, trivial⟩
        refine TA_listed #[true, false, false, false, false, false, false, false, false, false, false, false, false, false, false, false, false, false, false, false] rfl ?_
        refine TA_allG [1] (by kernel_rfl) (by decide) ⟨⟨_, rfl, goN rfl, (TOp_callV (call_static ent53 rfl) (m_spec_IsValidDatabase_ok u _ _ h_20) rfl rfl rfl ?_)⟩, trivial⟩
        refine TA_listed #[true, true, false, false, false, false, false, false, false, false, false, false, false, false, false, false, false, false, false, false] rfl ?_
        refine tf 2 rfl (purI_not rfl rfl) rfl rfl (by kernel_rfl) ?_
        refine tf 3 rfl (purI_move rfl) rfl rfl (by kernel_rfl) ?_
        refine TA_bool 46 g_21 rfl ?_
        refine TA_allG [4, 7] (by kernel_rfl) (by decide) ⟨?_, ?_, trivial⟩
        ·skip
         refine ⟨_, rfl, goG rfl rfl (by decide) rfl, (TOp_pure (pur_ldK_b agg48 rfl rfl (lb rfl) rfl) rfl ?_)⟩
         refine TA_listed #[true, true, true, true, true, false, false, false, false, false, false, false, false, false, false, false, false, false, false, false] rfl ?_
         refine TA_allG [5, 7] (by kernel_rfl) (by decide) ⟨?_, ?_, trivial⟩
         ·skip
          refine ⟨_, rfl, goG rfl rfl (by decide) rfl, (TOp_callV (call_static ent45 rfl) (m_impl_Blocks_ok _ _ h_23) rfl rfl rfl ?_)⟩
          refine TA_listed #[true, true, true, true, true, true, false, false, false, false, false, false, false, false, false, false, false, false, false, false] rfl ?_
          refine TA_firstG 6 #[true, true, true, true, true, true, true, false, false, false, false, false, false, false, false, false, false, false, false, false] rfl (purI_lenT (T := (tSl tInt)) sl53 rfl rfl) rfl rfl (by decide) rfl rfl rfl (by kernel_rfl) (by kernel_rfl) (by kernel_rfl) ?_
          refine tae [(3, (.b 0 0)), (5, (.b 1 0)), (46, (boolA false)), (49, (intA (r_22.length : Int)))] rfl ?_
          refine TA_allG [7] (by kernel_rfl) (by decide) ⟨⟨_, rfl, goG rfl rfl (by decide) rfl, (TOp_pure (pur_ldK_b agg48 rfl rfl (lb rfl) rfl) rfl ?_)⟩, trivial⟩
          refine TA_listed #[true, true, true, true, true, true, true, true, false, false, false, false, false, false, false, false, false, false, false, false] rfl ?_
          exact tj hj0_8 rfl (wp 2 (lb rfl) rfl rfl rfl rfl rfl)
         ·skip
          refine ⟨_, rfl, goG rfl rfl (by decide) rfl, (TOp_pure (pur_ldK_b agg48 rfl rfl (lb rfl) rfl) rfl ?_)⟩
          refine TA_listed #[true, true, true, true, true, false, false, true, false, false, false, false, false, false, false, false, false, false, false, false] rfl ?_
          exact tj hj1_8 rfl (wp 2 (lb rfl) rfl rfl rfl rfl rfl)
        ·skip
         refine ⟨_, rfl, goG rfl rfl (by decide) rfl, (TOp_pure (pur_ldK_b agg48 rfl rfl (lb rfl) rfl) rfl ?_)⟩
         refine TA_listed #[true, true, true, true, false, false, false, true, false, false, false, false, false, false, false, false, false, false, false, false] rfl ?_
         refine TA_allG [4] (by kernel_rfl) (by decide) ⟨⟨_, rfl, goG rfl rfl (by decide) rfl, (TOp_pure (pur_ldK_b agg48 rfl rfl (lb rfl) rfl) rfl ?_)⟩, trivial⟩
         refine TA_listed #[true, true, true, true, true, false, false, true, false, false, false, false, false, false, false, false, false, false, false, false] rfl ?_
         exact tj hj1_8 rfl (wp 2 (lb rfl) rfl rfl rfl rfl rfl)
     ·rintro _ rfl
      replace H := H_18
      refine te [(2, (boolA t2_17))] rfl ?_
      refine T_ret ?_
      obtain rfl := some_inj H
      refine end_ret (.tmp .nil) rfl rfl ⟨?_, rfl⟩
      rfl
end Go.Proofs.Ytjdpolnakhmkmaa

/- Walks. -/
import Derived.Test.YtjdpolnakhmkmaaM1
import Derived.Test.YtjdpolnakhmkmaaM3
import Derived.Test.YtjdpolnakhmkmaaM4
import Derived.Test.YtjdpolnakhmkmaaM6
import Derived.Test.YtjdpolnakhmkmaaM7
set_option linter.unusedVariables false
set_option linter.unusedSimpArgs false
set_option maxRecDepth 4000
namespace Go.Proofs.Ytjdpolnakhmkmaa
open Go Go.Proofs Go.Sep
set_option maxHeartbeats 1000000 in
/-- laws.FnRetractFact -/
theorem m_laws_FnRetractFact_ok (u : Nat) (code0 : (List Int)) (r : Bool) (H : m_laws_FnRetractFact u code0 = some r) : FnV prg 6 [(sl (tI .u8) code0)] (boolA r) := by
  unfold m_laws_FnRetractFact at H
  refine fnV_of_T Try.func6 rfl rfl (Nat.le_of_ble_eq_true rfl) ?_
  refine te [(0, (sl (tI .u8) code0))] rfl ?_
  refine sr ?_
  refine Tp rfl rfl (pur_assign rfl) rfl ?_
  refine TO_nil ?_
  refine te [(0, (sl (tI .u8) code0))] rfl ?_
  refine T_seq ?_
  refine sr ?_
  refine Tp rfl rfl (pur_move rfl) rfl ?_
  obtain ⟨r_1, h_2, H⟩ := bind_inv H
  refine TO_cons rfl (TOp_callV (call_static ent37 rfl) (m_laws_big_ok _ _ h_2) rfl rfl rfl ?_)
  refine TO_nil ?_
  refine te [(0, (sl (tI .u8) code0)), (14, (boolA r_1))] rfl ?_
  refine T_cond (t := r_1) rfl (fun c_3 => ?_) (fun c_3 => ?_)
  ·replace H := cond_t c_3 H
   refine sr ?_
   refine Tp rfl rfl (pur_assign rfl) rfl ?_
   refine TO_nil ?_
   refine te [(2, (boolA true))] rfl ?_
   refine T_ret ?_
   refine then_ret ?_
   obtain rfl := some_inj H
   refine end_ret (.tmp .nil) rfl rfl ⟨?_, rfl⟩
   rfl
  ·replace H := cond_f c_3 H
   refine T_skip ?_
   refine te [(0, (sl (tI .u8) code0))] rfl ?_
   refine sr ?_
   refine Tp rfl rfl (pur_move rfl) rfl ?_
   obtain ⟨r_4, h_5, H⟩ := bind_inv H
   refine TO_cons rfl (TOp_callV (call_static ent38 rfl) (m_spec_DrawRetractFact_ok u _ _ h_5) rfl rfl rfl ?_)
   refine Tp rfl rfl (pur_move rfl) rfl ?_
   refine Tp rfl rfl (pur_extract rfl rfl rfl) rfl ?_
   refine Tp rfl rfl (pur_extract rfl rfl rfl) rfl ?_
   refine TO_cons rfl (TOp_alloc zero48 rfl rfl ?_)
   refine TO_cons rfl (TOp_alloc zero65 rfl rfl ?_)
   refine TO_cons rfl (TOp_storeB sz48 rfl rfl rfl rfl rfl rfl rfl (by decide) (lb rfl) rfl ?_)
   refine TO_st (σ' := [.box [(sl tRelation r_4.1.relations), (sl tFact r_4.1.facts)], .box [(intA 0), .n]]) rfl ?_
   refine TO_cons rfl (TOp_storeB sz65 rfl rfl rfl rfl rfl rfl rfl (by decide) (lb rfl) rfl ?_)
   refine TO_st (σ' := [.box [(sl tRelation r_4.1.relations), (sl tFact r_4.1.facts)], .box [(intA r_4.2.relation), (sl tInt r_4.2.values)]]) rfl ?_
   refine TO_nil ?_
   refine te [(0, (sl (tI .u8) code0)), (3, (.b 0 0)), (4, (.b 1 0))] rfl ?_
   refine sr ?_
   refine Tp rfl rfl (pur_ldK_b agg48 rfl rfl (lb rfl) rfl) rfl ?_
   refine Tp rfl rfl (pur_ldK_b agg65 rfl rfl (lb rfl) rfl) rfl ?_
   obtain ⟨r_6, h_7, H⟩ := bind_inv H
   refine TO_cons rfl (TOp_callV (call_static ent39 rfl) (m_impl_RetractFact_ok _ _ _ h_7) rfl rfl rfl ?_)
   refine Tp rfl rfl (pur_move rfl) rfl ?_
   refine Tp rfl rfl (pur_extract rfl rfl rfl) rfl ?_
   refine Tp rfl rfl (pur_extract rfl rfl rfl) rfl ?_
   refine TO_cons rfl (TOp_alloc zero48 rfl rfl ?_)
   refine TO_cons rfl (TOp_storeB sz48 rfl rfl rfl rfl rfl rfl rfl (by decide) (lb rfl) rfl ?_)
   refine TO_st (σ' := [.box [(sl tRelation r_4.1.relations), (sl tFact r_4.1.facts)], .box [(intA r_4.2.relation), (sl tInt r_4.2.values)], .box [(sl tRelation r_6.1.relations), (sl tFact r_6.1.facts)]]) rfl ?_
   refine Tp rfl rfl (pur_assign rfl) rfl ?_
   refine TO_nil ?_
   refine te [(0, (sl (tI .u8) code0)), (3, (.b 0 0)), (4, (.b 1 0)), (5, (.b 2 0)), (6, (boolA r_6.2))] rfl ?_
   refine sr ?_
   refine Tp rfl rfl (pur_ldK_b agg48 rfl rfl (lb rfl) rfl) rfl ?_
   refine Tp rfl rfl (pur_ldK_b agg65 rfl rfl (lb rfl) rfl) rfl ?_
   obtain ⟨r_8, h_9, H⟩ := bind_inv H
   refine TO_cons rfl (TOp_callV (call_static ent40 rfl) (m_spec_RetractFact_ok u _ _ _ h_9) rfl rfl rfl ?_)
   refine Tp rfl rfl (pur_move rfl) rfl ?_
   refine Tp rfl rfl (pur_extract rfl rfl rfl) rfl ?_
   refine Tp rfl rfl (pur_extract rfl rfl rfl) rfl ?_
   refine TO_cons rfl (TOp_alloc zero48 rfl rfl ?_)
   refine TO_cons rfl (TOp_storeB sz48 rfl rfl rfl rfl rfl rfl rfl (by decide) (lb rfl) rfl ?_)
   refine TO_st (σ' := [.box [(sl tRelation r_4.1.relations), (sl tFact r_4.1.facts)], .box [(intA r_4.2.relation), (sl tInt r_4.2.values)], .box [(sl tRelation r_6.1.relations), (sl tFact r_6.1.facts)], .box [(sl tRelation r_8.1.relations), (sl tFact r_8.1.facts)]]) rfl ?_
   refine Tp rfl rfl (pur_assign rfl) rfl ?_
   refine TO_nil ?_
   refine te [(0, (sl (tI .u8) code0)), (3, (.b 0 0)), (4, (.b 1 0)), (5, (.b 2 0)), (6, (boolA r_6.2)), (8, (boolA r_8.2))] rfl ?_
   refine T_seq ?_
   obtain ⟨t44_10, J_10, H_11⟩ := bind_inv H
   refine T_cutX (fun x => t44_10 = x) (fun (t44_10 : Bool) => [(0, (sl (tI .u8) code0)), (3, (.b 0 0)), (4, (.b 1 0)), (5, (.b 2 0)), (6, (boolA r_6.2)), (44, (boolA t44_10))]) (fun (t44_10 : Bool) => [.box [(sl tRelation r_4.1.relations), (sl tFact r_4.1.facts)], .box [(intA r_4.2.relation), (sl tInt r_4.2.values)], .box [(sl tRelation r_6.1.relations), (sl tFact r_6.1.facts)]]) ?_ ?_
   ·replace H := J_10
    refine T_region ?_
    refine Tp rfl rfl (pur_move rfl) rfl ?_
    refine Tp rfl rfl (pur_move rfl) rfl ?_
    refine Tp rfl rfl (pur_neqB (by kernel_rfl) rfl rfl rfl) rfl ?_
    refine Tp rfl rfl (pur_move rfl) rfl ?_
    refine TO_split (t := (r_6.2 != r_8.2)) 35 rfl (fun g_12 => ?_) (fun g_12 => ?_)
    ·replace H := cond_t g_12 H
     refine TO_off rfl rfl (by decide) rfl rfl rfl ?_
     refine TO_off rfl rfl (by decide) rfl rfl rfl ?_
     refine TO_off rfl rfl (by decide) rfl rfl rfl ?_
     refine TO_off rfl rfl (by decide) rfl rfl rfl ?_
     refine TO_off rfl rfl (by decide) rfl rfl rfl ?_
     refine TO_off rfl rfl (by decide) rfl rfl rfl ?_
     refine TO_off rfl rfl (by decide) rfl rfl rfl ?_
     refine TO_off rfl rfl (by decide) rfl rfl rfl ?_
     refine Tp rfl rfl (pur_pick (t := true) rfl rfl rfl) rfl ?_
     refine TO_nil ?_
     exact joined true (wp 3 (lb rfl) rfl rfl rfl rfl rfl) (some_inj H).symm
    ·replace H := cond_f g_12 H
     refine TO_on rfl rfl (by decide) rfl rfl (TOp_pure (pur_move rfl) rfl ?_)
     refine TO_on rfl rfl (by decide) rfl rfl (TOp_pure (pur_not rfl rfl) rfl ?_)
     refine TO_on rfl rfl (by decide) rfl rfl (TOp_pure (pur_move rfl) rfl ?_)
     refine TO_split (t := (!r_6.2)) 38 rfl (fun g_13 => ?_) (fun g_13 => ?_)
     ·replace H := cond_t g_13 H
      refine TO_on rfl rfl (by decide) rfl rfl (TOp_pure (pur_ldK_b agg48 rfl rfl (lb rfl) rfl) rfl ?_)
      refine TO_on rfl rfl (by decide) rfl rfl (TOp_pure (pur_ldK_b agg48 rfl rfl (lb rfl) rfl) rfl ?_)
      obtain ⟨r_14, h_15, H⟩ := bind_inv H
      refine TO_on rfl rfl (by decide) rfl rfl (TOp_callV (call_static ent41 rfl) (m_spec_EqualDatabases_ok u _ _ _ h_15) rfl rfl rfl ?_)
      refine TO_on rfl rfl (by decide) rfl rfl (TOp_pure (pur_not rfl rfl) rfl ?_)
      refine TO_on rfl rfl (by decide) rfl rfl (TOp_pure (pur_pick (t := true) rfl rfl rfl) rfl ?_)
      refine Tp rfl rfl (pur_pick (t := false) rfl rfl rfl) rfl ?_
      refine TO_nil ?_
      exact joined (!r_14) (wp 3 (lb rfl) rfl rfl rfl rfl rfl) (some_inj H).symm
     ·replace H := cond_f g_13 H
      refine TO_off rfl rfl (by decide) rfl rfl rfl ?_
      refine TO_off rfl rfl (by decide) rfl rfl rfl ?_
      refine TO_off rfl rfl (by decide) rfl rfl rfl ?_
      refine TO_off rfl rfl (by decide) rfl rfl rfl ?_
      refine TO_on rfl rfl (by decide) rfl rfl (TOp_pure (pur_pick (t := false) rfl rfl rfl) rfl ?_)
      refine Tp rfl rfl (pur_pick (t := false) rfl rfl rfl) rfl ?_
      refine TO_nil ?_
      exact joined false (wp 3 (lb rfl) rfl rfl rfl rfl rfl) (some_inj H).symm
   ·rintro _ rfl
    replace H := H_11
    refine te [(0, (sl (tI .u8) code0)), (3, (.b 0 0)), (4, (.b 1 0)), (5, (.b 2 0)), (6, (boolA r_6.2)), (44, (boolA t44_10))] rfl ?_
    refine T_cond (t := t44_10) rfl (fun c_16 => ?_) (fun c_16 => ?_)
    ·replace H := cond_t c_16 H
     refine sr ?_
     refine Tp rfl rfl (pur_assign rfl) rfl ?_
     refine TO_nil ?_
     refine te [(2, (boolA false))] rfl ?_
     refine T_ret ?_
     refine then_ret ?_
     obtain rfl := some_inj H
     refine end_ret (.tmp .nil) rfl rfl ⟨?_, rfl⟩
     rfl
    ·replace H := cond_f c_16 H
     refine T_skip ?_
     refine te [(0, (sl (tI .u8) code0)), (3, (.b 0 0)), (4, (.b 1 0)), (5, (.b 2 0)), (6, (boolA r_6.2))] rfl ?_
     refine sr ?_
     refine Tp rfl rfl (pur_move rfl) rfl ?_
     obtain ⟨r_17, h_18, H⟩ := bind_inv H
     refine TO_cons rfl (TOp_callV (call_static ent42 rfl) (m_spec_DrawLargestConflicts_ok u _ _ h_18) rfl rfl rfl ?_)
     refine TO_cons rfl (TOp_alloc zero48 rfl rfl ?_)
     refine TO_cons rfl (TOp_storeB sz48 rfl rfl rfl rfl rfl rfl rfl (by decide) (lb rfl) rfl ?_)
     refine TO_st (σ' := [.box [(sl tRelation r_4.1.relations), (sl tFact r_4.1.facts)], .box [(intA r_4.2.relation), (sl tInt r_4.2.values)], .box [(sl tRelation r_6.1.relations), (sl tFact r_6.1.facts)], .box [(sl tRelation r_17.relations), (sl tFact r_17.facts)]]) rfl ?_
     refine TO_nil ?_
     refine te [(3, (.b 0 0)), (4, (.b 1 0)), (5, (.b 2 0)), (6, (boolA r_6.2)), (9, (.b 3 0))] rfl ?_
     refine sr ?_
     refine Tp rfl rfl (pur_ldK_b agg48 rfl rfl (lb rfl) rfl) rfl ?_
     obtain ⟨r_19, h_20, H⟩ := bind_inv H
     refine TO_cons rfl (TOp_callV (call_static ent28 rfl) (m_impl_LargestConflicts_ok _ _ h_20) rfl rfl rfl ?_)
     refine Tp rfl rfl (pur_assign rfl) rfl ?_
     refine TO_nil ?_
     refine te [(3, (.b 0 0)), (4, (.b 1 0)), (5, (.b 2 0)), (6, (boolA r_6.2)), (9, (.b 3 0)), (10, (sl tInt r_19))] rfl ?_
     refine sr ?_
     refine Tp rfl rfl (pur_ldK_b agg48 rfl rfl (lb rfl) rfl) rfl ?_
     obtain ⟨r_21, h_22, H⟩ := bind_inv H
     refine TO_cons rfl (TOp_callV (call_static ent43 rfl) (m_impl_BlockSizes_ok _ _ h_22) rfl rfl rfl ?_)
     refine Tp rfl rfl (pur_assign rfl) rfl ?_
     refine TO_nil ?_
     refine te [(3, (.b 0 0)), (4, (.b 1 0)), (5, (.b 2 0)), (6, (boolA r_6.2)), (9, (.b 3 0)), (10, (sl tInt r_19)), (11, (sl tInt r_21))] rfl ?_
     refine T_seq ?_
     refine sr ?_
     refine Tp rfl rfl (pur_assign rfl) rfl ?_
     refine TO_nil ?_
     refine te [(3, (.b 0 0)), (4, (.b 1 0)), (5, (.b 2 0)), (6, (boolA r_6.2)), (9, (.b 3 0)), (10, (sl tInt r_19)), (11, (sl tInt r_21)), (12, (intA 0))] rfl ?_
     obtain ⟨O24_, L24_, N24_⟩ := bind_inv H
     clear H
     obtain ⟨B24_, hb24, L24_⟩ := gen_forL L24_
     refine T_block ?_
     refine T_loopX (fun k => fun (i_23 : Nat) => k = r_21.length - i_23 ∧ forL B24_ (r_21.drop i_23) (i_23 : Int) () = some O24_) (fun (i_23 : Nat) => [(3, (.b 0 0)), (4, (.b 1 0)), (5, (.b 2 0)), (6, (boolA r_6.2)), (9, (.b 3 0)), (10, (sl tInt r_19)), (11, (sl tInt r_21)), (12, (intA (i_23 : Int)))]) (fun (i_23 : Nat) => [.box [(sl tRelation r_4.1.relations), (sl tFact r_4.1.facts)], .box [(intA r_4.2.relation), (sl tInt r_4.2.values)], .box [(sl tRelation r_6.1.relations), (sl tFact r_6.1.facts)], .box [(sl tRelation r_17.relations), (sl tFact r_17.facts)]]) _ (0 : Nat) (wp 4 (lb rfl) rfl rfl rfl rfl rfl) ⟨rfl, L24_⟩ ?_
     rintro _ i_23 ⟨rfl, L24_⟩
     refine te [(3, (.b 0 0)), (4, (.b 1 0)), (5, (.b 2 0)), (6, (boolA r_6.2)), (9, (.b 3 0)), (10, (sl tInt r_19)), (11, (sl tInt r_21)), (12, (intA (i_23 : Int)))] rfl ?_
     refine T_st (σ' := [.box [(sl tRelation r_4.1.relations), (sl tFact r_4.1.facts)], .box [(intA r_4.2.relation), (sl tInt r_4.2.values)], .box [(sl tRelation r_6.1.relations), (sl tFact r_6.1.facts)], .box [(sl tRelation r_17.relations), (sl tFact r_17.facts)]]) rfl ?_
     refine T_fact (len_sl (T := tInt) (.tmp 11) rfl) (fun hl24 => ?_)
     refine T_seq ?_
     refine sr ?_
     refine Tp rfl rfl (pur_move rfl) rfl ?_
     refine Tp rfl rfl (pur_move rfl) rfl ?_
     refine Tp rfl rfl (pur_lenT (T := tInt) sl23 rfl rfl) rfl ?_
     refine Tp rfl rfl (pur_lss rfl rfl rfl) rfl ?_
     refine TO_nil ?_
     refine te [(3, (.b 0 0)), (4, (.b 1 0)), (5, (.b 2 0)), (6, (boolA r_6.2)), (9, (.b 3 0)), (10, (sl tInt r_19)), (11, (sl tInt r_21)), (12, (intA (i_23 : Int))), (54, (boolA (decide ((i_23 : Int) < (r_21.length : Int)))))] rfl ?_
     refine T_cond (t := decide ((i_23 : Int) < (r_21.length : Int))) rfl (fun d24 => ?_) (fun d24 => ?_)
     ·replace d24 := of_decide_eq_true d24
      obtain ⟨x_i_23, hx_i_23⟩ : ∃ v, (r_21)[i_23]? = some v := ⟨_, List.getElem?_eq_getElem (by omega)⟩
      obtain ⟨C24_, H, K24_⟩ := forL_step L24_ hx_i_23
      rw [hb24] at H
      refine T_skip ?_
      refine te [(3, (.b 0 0)), (4, (.b 1 0)), (5, (.b 2 0)), (6, (boolA r_6.2)), (9, (.b 3 0)), (10, (sl tInt r_19)), (11, (sl tInt r_21)), (12, (intA (i_23 : Int)))] rfl ?_
      refine T_seq ?_
      refine T_block ?_
      refine T_cutX (fun x => ((decide ((r_19.length : Int) < x_i_23)) && (decide (1 < x_i_23))) = x) (fun (t70_25 : Bool) => [(3, (.b 0 0)), (4, (.b 1 0)), (5, (.b 2 0)), (6, (boolA r_6.2)), (9, (.b 3 0)), (10, (sl tInt r_19)), (11, (sl tInt r_21)), (12, (intA (i_23 : Int))), (70, (boolA t70_25))]) (fun (t70_25 : Bool) => [.box [(sl tRelation r_4.1.relations), (sl tFact r_4.1.facts)], .box [(intA r_4.2.relation), (sl tInt r_4.2.values)], .box [(sl tRelation r_6.1.relations), (sl tFact r_6.1.facts)], .box [(sl tRelation r_17.relations), (sl tFact r_17.facts)]]) ?_ ?_
      ·skip
       refine T_region ?_
       refine Tp rfl rfl (pur_move rfl) rfl ?_
       refine Tp rfl rfl (pur_move rfl) rfl ?_
       refine Tp rfl rfl (pur_ixT (T := tInt) sl23 rfl rfl rfl hx_i_23 rfl) rfl ?_
       refine Tp rfl rfl (pur_ldT (T := tInt) (i := i_23) (off := 0) rfl one3 rfl rfl hx_i_23 rfl) rfl ?_
       refine Tp rfl rfl (pur_move rfl) rfl ?_
       refine Tp rfl rfl (pur_lenT (T := tInt) sl23 rfl rfl) rfl ?_
       refine Tp rfl rfl (pur_gtr rfl rfl rfl) rfl ?_
       refine Tp rfl rfl (pur_move rfl) rfl ?_
       refine toe [(3, (.b 0 0)), (4, (.b 1 0)), (5, (.b 2 0)), (6, (boolA r_6.2)), (9, (.b 3 0)), (10, (sl tInt r_19)), (11, (sl tInt r_21)), (12, (intA (i_23 : Int))), (64, (boolA (decide ((r_19.length : Int) < x_i_23))))] rfl ?_
       refine TO_split (t := decide ((r_19.length : Int) < x_i_23)) 64 rfl (fun g_27 => ?_) (fun g_27 => ?_)
       ·skip
        refine TO_on rfl rfl (by decide) rfl rfl (TOp_pure (pur_move rfl) rfl ?_)
        refine TO_on rfl rfl (by decide) rfl rfl (TOp_pure (pur_move rfl) rfl ?_)
        refine TO_on rfl rfl (by decide) rfl rfl (TOp_pure (pur_ixT (T := tInt) sl23 rfl rfl rfl hx_i_23 rfl) rfl ?_)
        refine TO_on rfl rfl (by decide) rfl rfl (TOp_pure (pur_ldT (T := tInt) (i := i_23) (off := 0) rfl one3 rfl rfl hx_i_23 rfl) rfl ?_)
        refine TO_on rfl rfl (by decide) rfl rfl (TOp_pure (pur_gtr rfl rfl rfl) rfl ?_)
        refine Tp rfl rfl (pur_pick (t := true) rfl rfl rfl) rfl ?_
        refine TO_nil ?_
        exact joined (decide (1 < x_i_23)) (wp 4 (lb rfl) rfl rfl rfl rfl rfl) (by first | exact Eq.symm ((and_T g_27 rfl)))
       ·skip
        refine TO_off rfl rfl (by decide) rfl rfl rfl ?_
        refine TO_off rfl rfl (by decide) rfl rfl rfl ?_
        refine TO_off rfl rfl (by decide) rfl rfl rfl ?_
        refine TO_off rfl rfl (by decide) rfl rfl rfl ?_
        refine TO_off rfl rfl (by decide) rfl rfl rfl ?_
        refine Tp rfl rfl (pur_pick (t := false) rfl rfl rfl) rfl ?_
        refine TO_nil ?_
        exact joined false (wp 4 (lb rfl) rfl rfl rfl rfl rfl) (by first | exact Eq.symm ((and_F g_27 rfl)))
      ·rintro _ rfl
       refine te [(3, (.b 0 0)), (4, (.b 1 0)), (5, (.b 2 0)), (6, (boolA r_6.2)), (9, (.b 3 0)), (10, (sl tInt r_19)), (11, (sl tInt r_21)), (12, (intA (i_23 : Int))), (70, (boolA ((decide ((r_19.length : Int) < x_i_23)) && (decide (1 < x_i_23)))))] rfl ?_
       refine T_cond (t := ((decide ((r_19.length : Int) < x_i_23)) && (decide (1 < x_i_23)))) rfl (fun c_28 => ?_) (fun c_28 => ?_)
       ·replace H := cond_t c_28 H
        refine sr ?_
        refine Tp rfl rfl (pur_assign rfl) rfl ?_
        refine TO_nil ?_
        refine te [(2, (boolA false))] rfl ?_
        refine T_ret ?_
        refine block_ret ?_
        refine then_ret ?_
        refine then_ret ?_
        refine block_ret ?_
        refine then_ret ?_
        obtain rfl := some_inj H
        obtain rfl := some_inj K24_
        replace H := onS_r N24_
        obtain rfl := some_inj H
        refine end_ret (.tmp .nil) rfl rfl ⟨?_, rfl⟩
        rfl
       ·replace H := cond_f c_28 H
        refine T_skip ?_
        refine te [(3, (.b 0 0)), (4, (.b 1 0)), (5, (.b 2 0)), (6, (boolA r_6.2)), (9, (.b 3 0)), (10, (sl tInt r_19)), (11, (sl tInt r_21)), (12, (intA (i_23 : Int)))] rfl ?_
        refine T_region ?_
        refine Tp rfl rfl (pur_move rfl) rfl ?_
        refine Tp rfl rfl (pur_add rfl rfl rfl (fits64 (by omega) (by omega))) rfl ?_
        refine Tp rfl rfl (pur_assign rfl) rfl ?_
        refine TO_nil ?_
        obtain rfl := some_inj H
        exact again (r_21.length - (i_23 + 1)) (i_23 + 1) (by omega) (wp 4 (lb rfl) rfl rfl rfl rfl rfl) ⟨rfl, K24_⟩
     ·replace d24 := of_decide_eq_false d24
      obtain rfl := forL_end L24_ (by omega)
      refine T_exit ?_
      refine then_exit ?_
      refine then_exit ?_
      refine block_exit ?_
      replace H := onS_l N24_
      refine te [(3, (.b 0 0)), (4, (.b 1 0)), (5, (.b 2 0)), (6, (boolA r_6.2)), (9, (.b 3 0)), (10, (sl tInt r_19))] rfl ?_
      obtain ⟨t2_29, J_29, H_30⟩ := bind_inv H
      refine T_cutX (fun x => t2_29 = x) (fun (t2_29 : Bool) => [(2, (boolA t2_29))]) (fun (t2_29 : Bool) => []) ?_ ?_
      ·replace H := J_29
       obtain ⟨r_31, h_32, H⟩ := bind_inv H
       obtain ⟨r_33, h_34, H⟩ := bind_inv H
       refine T_caseB r_33 (fun g_35 => ?_) (fun g_35 => ?_)
       ·replace H := cond_t g_35 H
        refine T_caseB (!r_6.2) (fun g_36 => ?_) (fun g_36 => ?_)
        ·replace H := cond_t g_36 H
         refine T_regionP mixed ?_
         refine tf 0 rfl (purI_move rfl) rfl rfl (by kernel_rfl) ?_
         refine TA_allG [1] (by kernel_rfl) (by decide) ⟨⟨_, rfl, goN rfl, (TOp_pure (pur_ldK_b agg48 rfl rfl (lb rfl) rfl) rfl ?_)⟩, trivial⟩
         refine TA_listed #[true, true, false, false, false, false, false, false, false, false, false, false, false, false, false, false, false, false, false, false, false, false, false, false, false, false, false, false, false, false, false] rfl ?_
         refine TA_allG [2] (by kernel_rfl) (by decide) ⟨⟨_, rfl, goN rfl, (TOp_callV (call_static ent26 rfl) (m_spec_LargestConflicts_ok u _ _ h_32) rfl rfl rfl ?_)⟩, trivial⟩
         refine TA_listed #[true, true, true, false, false, false, false, false, false, false, false, false, false, false, false, false, false, false, false, false, false, false, false, false, false, false, false, false, false, false, false] rfl ?_
         refine TA_allG [3] (by kernel_rfl) (by decide) ⟨⟨_, rfl, goN rfl, (TOp_callV (call_static ent44 rfl) (m_laws_sameInts_ok _ _ _ h_34) rfl rfl rfl ?_)⟩, trivial⟩
         refine TA_listed #[true, true, true, true, false, false, false, false, false, false, false, false, false, false, false, false, false, false, false, false, false, false, false, false, false, false, false, false, false, false, false] rfl ?_
         refine tf 4 rfl (purI_move rfl) rfl rfl (by kernel_rfl) ?_
         refine TA_bool 75 g_35 rfl ?_
         refine TA_firstG 5 #[true, true, true, true, true, true, false, false, false, false, false, false, false, false, false, false, false, false, false, false, false, false, false, false, false, false, false, false, false, false, false] rfl (purI_move rfl) rfl rfl (by decide) rfl rfl rfl (by kernel_rfl) (by kernel_rfl) (by kernel_rfl) ?_
         refine tae [(3, (.b 0 0)), (4, (.b 1 0)), (5, (.b 2 0)), (75, (boolA true)), (76, (boolA r_6.2))] rfl ?_
         refine TA_firstG 6 #[true, true, true, true, true, true, true, false, false, false, false, false, false, false, false, false, false, false, false, false, false, false, false, false, false, false, false, false, false, false, false] rfl (purI_not rfl rfl) rfl rfl (by decide) rfl rfl rfl (by kernel_rfl) (by kernel_rfl) (by kernel_rfl) ?_
         refine TA_firstG 7 #[true, true, true, true, true, true, true, true, false, false, false, false, false, false, false, false, false, false, false, false, false, false, false, false, false, false, false, false, false, false, false] rfl (purI_move rfl) rfl rfl (by decide) rfl rfl rfl (by kernel_rfl) (by kernel_rfl) (by kernel_rfl) ?_
         refine TA_bool 78 g_36 rfl ?_
         refine TA_off 8 #[true, true, true, true, true, true, true, true, true, false, false, false, false, false, false, false, false, false, false, false, false, false, false, false, false, false, false, false, false, false, false] rfl rfl rfl (by decide) rfl rfl rfl rfl (by kernel_rfl) (by kernel_rfl) (by kernel_rfl) ?_
         refine TA_off 9 #[true, true, true, true, true, true, true, true, true, true, false, false, false, false, false, false, false, false, false, false, false, false, false, false, false, false, false, false, false, false, false] rfl rfl rfl (by decide) rfl rfl rfl rfl (by kernel_rfl) (by kernel_rfl) (by kernel_rfl) ?_
         refine TA_off 10 #[true, true, true, true, true, true, true, true, true, true, true, false, false, false, false, false, false, false, false, false, false, false, false, false, false, false, false, false, false, false, false] rfl rfl rfl (by decide) rfl rfl rfl rfl (by kernel_rfl) (by kernel_rfl) (by kernel_rfl) ?_
         refine TA_off 11 #[true, true, true, true, true, true, true, true, true, true, true, true, false, false, false, false, false, false, false, false, false, false, false, false, false, false, false, false, false, false, false] rfl rfl rfl (by decide) rfl rfl rfl rfl (by kernel_rfl) (by kernel_rfl) (by kernel_rfl) ?_
         refine TA_off 12 #[true, true, true, true, true, true, true, true, true, true, true, true, true, false, false, false, false, false, false, false, false, false, false, false, false, false, false, false, false, false, false] rfl rfl rfl (by decide) rfl rfl rfl rfl (by kernel_rfl) (by kernel_rfl) (by kernel_rfl) ?_
         refine TA_off 13 #[true, true, true, true, true, true, true, true, true, true, true, true, true, true, false, false, false, false, false, false, false, false, false, false, false, false, false, false, false, false, false] rfl rfl rfl (by decide) rfl rfl rfl rfl (by kernel_rfl) (by kernel_rfl) (by kernel_rfl) ?_
         refine TA_off 14 #[true, true, true, true, true, true, true, true, true, true, true, true, true, true, true, false, false, false, false, false, false, false, false, false, false, false, false, false, false, false, false] rfl rfl rfl (by decide) rfl rfl rfl rfl (by kernel_rfl) (by kernel_rfl) (by kernel_rfl) ?_
         refine TA_off 15 #[true, true, true, true, true, true, true, true, true, true, true, true, true, true, true, true, false, false, false, false, false, false, false, false, false, false, false, false, false, false, false] rfl rfl rfl (by decide) rfl rfl rfl rfl (by kernel_rfl) (by kernel_rfl) (by kernel_rfl) ?_
         refine TA_off 16 #[true, true, true, true, true, true, true, true, true, true, true, true, true, true, true, true, true, false, false, false, false, false, false, false, false, false, false, false, false, false, false] rfl rfl rfl (by decide) rfl rfl rfl rfl (by kernel_rfl) (by kernel_rfl) (by kernel_rfl) ?_
         refine TA_off 17 #[true, true, true, true, true, true, true, true, true, true, true, true, true, true, true, true, true, true, false, false, false, false, false, false, false, false, false, false, false, false, false] rfl rfl rfl (by decide) rfl rfl rfl rfl (by kernel_rfl) (by kernel_rfl) (by kernel_rfl) ?_
         refine TA_off 18 #[true, true, true, true, true, true, true, true, true, true, true, true, true, true, true, true, true, true, true, false, false, false, false, false, false, false, false, false, false, false, false] rfl rfl rfl (by decide) rfl rfl rfl rfl (by kernel_rfl) (by kernel_rfl) (by kernel_rfl) ?_
         refine TA_off 19 #[true, true, true, true, true, true, true, true, true, true, true, true, true, true, true, true, true, true, true, true, false, false, false, false, false, false, false, false, false, false, false] rfl rfl rfl (by decide) rfl rfl rfl rfl (by kernel_rfl) (by kernel_rfl) (by kernel_rfl) ?_
         refine TA_off 20 #[true, true, true, true, true, true, true, true, true, true, true, true, true, true, true, true, true, true, true, true, true, false, false, false, false, false, false, false, false, false, false] rfl rfl rfl (by decide) rfl rfl rfl rfl (by kernel_rfl) (by kernel_rfl) (by kernel_rfl) ?_
         refine TA_off 21 #[true, true, true, true, true, true, true, true, true, true, true, true, true, true, true, true, true, true, true, true, true, true, false, false, false, false, false, false, false, false, false] rfl rfl rfl (by decide) rfl rfl rfl rfl (by kernel_rfl) (by kernel_rfl) (by kernel_rfl) ?_
         refine TA_off 22 #[true, true, true, true, true, true, true, true, true, true, true, true, true, true, true, true, true, true, true, true, true, true, true, false, false, false, false, false, false, false, false] rfl rfl rfl (by decide) rfl rfl rfl rfl (by kernel_rfl) (by kernel_rfl) (by kernel_rfl) ?_
         refine TA_off 23 #[true, true, true, true, true, true, true, true, true, true, true, true, true, true, true, true, true, true, true, true, true, true, true, true, false, false, false, false, false, false, false] rfl rfl rfl (by decide) rfl rfl rfl rfl (by kernel_rfl) (by kernel_rfl) (by kernel_rfl) ?_
         refine TA_off 24 #[true, true, true, true, true, true, true, true, true, true, true, true, true, true, true, true, true, true, true, true, true, true, true, true, true, false, false, false, false, false, false] rfl rfl rfl (by decide) rfl rfl rfl rfl (by kernel_rfl) (by kernel_rfl) (by kernel_rfl) ?_
         refine TA_off 25 #[true, true, true, true, true, true, true, true, true, true, true, true, true, true, true, true, true, true, true, true, true, true, true, true, true, true, false, false, false, false, false] rfl rfl rfl (by decide) rfl rfl rfl rfl (by kernel_rfl) (by kernel_rfl) (by kernel_rfl) ?_
         refine TA_off 26 #[true, true, true, true, true, true, true, true, true, true, true, true, true, true, true, true, true, true, true, true, true, true, true, true, true, true, true, false, false, false, false] rfl rfl rfl (by decide) rfl rfl rfl rfl (by kernel_rfl) (by kernel_rfl) (by kernel_rfl) ?_
         refine TA_off 27 #[true, true, true, true, true, true, true, true, true, true, true, true, true, true, true, true, true, true, true, true, true, true, true, true, true, true, true, true, false, false, false] rfl rfl rfl (by decide) rfl rfl rfl rfl (by kernel_rfl) (by kernel_rfl) (by kernel_rfl) ?_
         refine TA_allG [28] (by kernel_rfl) (by decide) ⟨⟨_, rfl, goG rfl rfl (by decide) rfl, (TOp_pure (pur_pick (t := true) rfl rfl rfl) rfl ?_)⟩, trivial⟩
         refine TA_listed #[true, true, true, true, true, true, true, true, true, true, true, true, true, true, true, true, true, true, true, true, true, true, true, true, true, true, true, true, true, false, false] rfl ?_
         refine TA_allG [29] (by kernel_rfl) (by decide) ⟨⟨_, rfl, goN rfl, (TOp_pure (pur_pick (t := true) rfl rfl rfl) rfl ?_)⟩, trivial⟩
         refine TA_listed #[true, true, true, true, true, true, true, true, true, true, true, true, true, true, true, true, true, true, true, true, true, true, true, true, true, true, true, true, true, true, false] rfl ?_
         refine tf 30 rfl (purI_assign rfl) rfl rfl (by kernel_rfl) ?_
         refine tae [(2, (boolA true))] rfl ?_
         refine TA_nil (by kernel_rfl) ?_
         exact joined true (wp 0 (lb rfl) rfl rfl rfl rfl rfl) (some_inj H).symm
        ·replace H := cond_f g_36 H
         obtain ⟨r_37, h_38, H⟩ := bind_inv H
         obtain ⟨r_39, h_40, H⟩ := bind_inv H
         refine T_caseB (decide ((r_37.length : Int) = (r_39.length : Int))) (fun g_41 => ?_) (fun g_41 => ?_)
         ·replace H := cond_t g_41 H
          obtain ⟨r_42, h_43, H⟩ := bind_inv H
          obtain ⟨r_44, h_45, H⟩ := bind_inv H
          refine T_caseB (decide (r_42 < r_44)) (fun g_46 => ?_) (fun g_46 => ?_)
          ·replace H := cond_t g_46 H
           obtain ⟨r_47, h_48, H⟩ := bind_inv H
           refine T_regionP mixed ?_
           refine TA_have 6 #[true, true, true, true, true, true, true, true, true, true, true, true, true, true, true, true, true, true, true, true, true, true, true, true, true, false, false, false, false, false, false] [(75, (boolA true)), (78, (boolA false)), (93, (boolA true)), (94, (.g (tDatabase.enc r_6.1))), (95, (.g (tFact.enc r_4.2)))] [.box [(sl tRelation r_4.1.relations), (sl tFact r_4.1.facts)], .box [(intA r_4.2.relation), (sl tInt r_4.2.values)], .box [(sl tRelation r_6.1.relations), (sl tFact r_6.1.facts)], .box [(sl tRelation r_17.relations), (sl tFact r_17.facts)]] ?_ (fun hj0_16 => ?_)
           ·skip
            refine TA_allG [25] (by kernel_rfl) (by decide) ⟨⟨_, rfl, goG rfl rfl (by decide) rfl, (TOp_callV (call_static ent49 rfl) (m_impl_ContainsFact_ok _ _ _ h_48) rfl rfl rfl ?_)⟩, trivial⟩
            refine TA_listed #[true, true, true, true, true, true, true, true, true, true, true, true, true, true, true, true, true, true, true, true, true, true, true, true, true, true, false, false, false, false, false] rfl ?_
            refine TA_firstG 26 #[true, true, true, true, true, true, true, true, true, true, true, true, true, true, true, true, true, true, true, true, true, true, true, true, true, true, true, false, false, false, false] rfl (purI_not rfl rfl) rfl rfl (by decide) rfl rfl rfl (by kernel_rfl) (by kernel_rfl) (by kernel_rfl) ?_
            refine TA_allG [27] (by kernel_rfl) (by decide) ⟨⟨_, rfl, goG rfl rfl (by decide) rfl, (TOp_pure (pur_pick (t := true) rfl rfl rfl) rfl ?_)⟩, trivial⟩
            refine TA_listed #[true, true, true, true, true, true, true, true, true, true, true, true, true, true, true, true, true, true, true, true, true, true, true, true, true, true, true, true, false, false, false] rfl ?_
            refine TA_allG [28] (by kernel_rfl) (by decide) ⟨⟨_, rfl, goG rfl rfl (by decide) rfl, (TOp_pure (pur_pick (t := false) rfl rfl rfl) rfl ?_)⟩, trivial⟩
            refine TA_listed #[true, true, true, true, true, true, true, true, true, true, true, true, true, true, true, true, true, true, true, true, true, true, true, true, true, true, true, true, true, false, false] rfl ?_
            refine TA_allG [29] (by kernel_rfl) (by decide) ⟨⟨_, rfl, goN rfl, (TOp_pure (pur_pick (t := true) rfl rfl rfl) rfl ?_)⟩, trivial⟩
            refine TA_listed #[true, true, true, true, true, true, true, true, true, true, true, true, true, true, true, true, true, true, true, true, true, true, true, true, true, true, true, true, true, true, false] rfl ?_
            refine tf 30 rfl (purI_assign rfl) rfl rfl (by kernel_rfl) ?_
            refine tae [(2, (boolA (!r_47)))] rfl ?_
            refine TA_nil (by kernel_rfl) ?_
            exact joined (!r_47) (wp 0 (lb rfl) rfl rfl rfl rfl rfl) (some_inj H).symm
           refine TA_have 12 #[true, true, true, true, true, true, true, true, true, true, true, true, true, true, true, true, true, true, true, false, false, false, false, false, false, false, false, false, false, false, false] [(4, (.b 1 0)), (5, (.b 2 0)), (75, (boolA true)), (78, (boolA false)), (86, (boolA true)), (88, (intA r_42)), (89, (.g (tDatabase.enc r_4.1)))] [.box [(sl tRelation r_4.1.relations), (sl tFact r_4.1.facts)], .box [(intA r_4.2.relation), (sl tInt r_4.2.values)], .box [(sl tRelation r_6.1.relations), (sl tFact r_6.1.facts)], .box [(sl tRelation r_17.relations), (sl tFact r_17.facts)]] ?_ (fun hj1_16 => ?_)
           ·skip
            refine TA_allG [19] (by kernel_rfl) (by decide) ⟨⟨_, rfl, goG rfl rfl (by decide) rfl, (TOp_callV (call_static ent48 rfl) (m_spec_CountRepairs_ok u _ _ h_45) rfl rfl rfl ?_)⟩, trivial⟩
            refine TA_listed #[true, true, true, true, true, true, true, true, true, true, true, true, true, true, true, true, true, true, true, true, false, false, false, false, false, false, false, false, false, false, false] rfl ?_
            refine TA_firstG 20 #[true, true, true, true, true, true, true, true, true, true, true, true, true, true, true, true, true, true, true, true, true, false, false, false, false, false, false, false, false, false, false] rfl (purI_lss rfl rfl rfl) rfl rfl (by decide) rfl rfl rfl (by kernel_rfl) (by kernel_rfl) (by kernel_rfl) ?_
            refine TA_allG [21] (by kernel_rfl) (by decide) ⟨⟨_, rfl, goG rfl rfl (by decide) rfl, (TOp_pure (pur_pick (t := true) rfl rfl rfl) rfl ?_)⟩, trivial⟩
            refine TA_listed #[true, true, true, true, true, true, true, true, true, true, true, true, true, true, true, true, true, true, true, true, true, true, false, false, false, false, false, false, false, false, false] rfl ?_
            refine TA_firstG 22 #[true, true, true, true, true, true, true, true, true, true, true, true, true, true, true, true, true, true, true, true, true, true, true, false, false, false, false, false, false, false, false] rfl (purI_move rfl) rfl rfl (by decide) rfl rfl rfl (by kernel_rfl) (by kernel_rfl) (by kernel_rfl) ?_
            refine TA_bool 93 g_46 rfl ?_
            refine TA_allG [23, 24] (by kernel_rfl) (by decide) ⟨?_, ?_, trivial⟩
            ·skip
             refine ⟨_, rfl, goG rfl rfl (by decide) rfl, (TOp_pure (pur_ldK_b agg48 rfl rfl (lb rfl) rfl) rfl ?_)⟩
             refine TA_listed #[true, true, true, true, true, true, true, true, true, true, true, true, true, true, true, true, true, true, true, true, true, true, true, true, false, false, false, false, false, false, false] rfl ?_
             refine TA_allG [24] (by kernel_rfl) (by decide) ⟨⟨_, rfl, goG rfl rfl (by decide) rfl, (TOp_pure (pur_ldK_b agg65 rfl rfl (lb rfl) rfl) rfl ?_)⟩, trivial⟩
             refine TA_listed #[true, true, true, true, true, true, true, true, true, true, true, true, true, true, true, true, true, true, true, true, true, true, true, true, true, false, false, false, false, false, false] rfl ?_
             exact tj hj0_16 rfl (wp 4 (lb rfl) rfl rfl rfl rfl rfl)
            ·skip
             refine ⟨_, rfl, goG rfl rfl (by decide) rfl, (TOp_pure (pur_ldK_b agg65 rfl rfl (lb rfl) rfl) rfl ?_)⟩
             refine TA_listed #[true, true, true, true, true, true, true, true, true, true, true, true, true, true, true, true, true, true, true, true, true, true, true, false, true, false, false, false, false, false, false] rfl ?_
             refine TA_allG [23] (by kernel_rfl) (by decide) ⟨⟨_, rfl, goG rfl rfl (by decide) rfl, (TOp_pure (pur_ldK_b agg48 rfl rfl (lb rfl) rfl) rfl ?_)⟩, trivial⟩
             refine TA_listed #[true, true, true, true, true, true, true, true, true, true, true, true, true, true, true, true, true, true, true, true, true, true, true, true, true, false, false, false, false, false, false] rfl ?_
             exact tj hj0_16 rfl (wp 4 (lb rfl) rfl rfl rfl rfl rfl)
           refine TA_have 13 #[true, true, true, true, true, true, true, true, true, true, true, true, true, true, true, true, true, false, true, false, false, false, false, false, false, false, false, false, false, false, false] [(4, (.b 1 0)), (5, (.b 2 0)), (75, (boolA true)), (78, (boolA false)), (86, (boolA true)), (87, (.g (tDatabase.enc r_6.1))), (89, (.g (tDatabase.enc r_4.1)))] [.box [(sl tRelation r_4.1.relations), (sl tFact r_4.1.facts)], .box [(intA r_4.2.relation), (sl tInt r_4.2.values)], .box [(sl tRelation r_6.1.relations), (sl tFact r_6.1.facts)], .box [(sl tRelation r_17.relations), (sl tFact r_17.facts)]] ?_ (fun hj2_16 => ?_)
           ·skip
            refine TA_allG [17] (by kernel_rfl) (by decide) ⟨⟨_, rfl, goG rfl rfl (by decide) rfl, (TOp_callV (call_static ent47 rfl) (m_impl_CountRepairs_ok _ _ h_43) rfl rfl rfl ?_)⟩, trivial⟩
            refine TA_listed #[true, true, true, true, true, true, true, true, true, true, true, true, true, true, true, true, true, true, true, false, false, false, false, false, false, false, false, false, false, false, false] rfl ?_
            exact tj hj1_16 rfl (wp 4 (lb rfl) rfl rfl rfl rfl rfl)
           refine TA_have 19 #[true, true, true, true, true, true, true, true, true, true, true, true, false, false, false, false, false, false, false, false, false, false, false, false, false, false, false, false, false, false, false] [(3, (.b 0 0)), (4, (.b 1 0)), (5, (.b 2 0)), (75, (boolA true)), (78, (boolA false)), (81, (intA (r_37.length : Int))), (82, (.g (tDatabase.enc r_4.1)))] [.box [(sl tRelation r_4.1.relations), (sl tFact r_4.1.facts)], .box [(intA r_4.2.relation), (sl tInt r_4.2.values)], .box [(sl tRelation r_6.1.relations), (sl tFact r_6.1.facts)], .box [(sl tRelation r_17.relations), (sl tFact r_17.facts)]] ?_ (fun hj3_16 => ?_)
           ·skip
            refine TA_allG [12] (by kernel_rfl) (by decide) ⟨⟨_, rfl, goG rfl rfl (by decide) rfl, (TOp_callV (call_static ent46 rfl) (m_spec_Blocks_ok u _ _ h_40) rfl rfl rfl ?_)⟩, trivial⟩
            refine TA_listed #[true, true, true, true, true, true, true, true, true, true, true, true, true, false, false, false, false, false, false, false, false, false, false, false, false, false, false, false, false, false, false] rfl ?_
            refine TA_firstG 13 #[true, true, true, true, true, true, true, true, true, true, true, true, true, true, false, false, false, false, false, false, false, false, false, false, false, false, false, false, false, false, false] rfl (purI_lenT (T := (tSl tInt)) sl53 rfl rfl) rfl rfl (by decide) rfl rfl rfl (by kernel_rfl) (by kernel_rfl) (by kernel_rfl) ?_
            refine TA_allG [14] (by kernel_rfl) (by decide) ⟨⟨_, rfl, goG rfl rfl (by decide) rfl, (TOp_pure (pur_eql rfl rfl rfl) rfl ?_)⟩, trivial⟩
            refine TA_listed #[true, true, true, true, true, true, true, true, true, true, true, true, true, true, true, false, false, false, false, false, false, false, false, false, false, false, false, false, false, false, false] rfl ?_
            refine TA_firstG 15 #[true, true, true, true, true, true, true, true, true, true, true, true, true, true, true, true, false, false, false, false, false, false, false, false, false, false, false, false, false, false, false] rfl (purI_move rfl) rfl rfl (by decide) rfl rfl rfl (by kernel_rfl) (by kernel_rfl) (by kernel_rfl) ?_
            refine TA_bool 86 g_41 rfl ?_
            refine TA_allG [16, 18] (by kernel_rfl) (by decide) ⟨?_, ?_, trivial⟩
            ·skip
             refine ⟨_, rfl, goG rfl rfl (by decide) rfl, (TOp_pure (pur_ldK_b agg48 rfl rfl (lb rfl) rfl) rfl ?_)⟩
             refine TA_listed #[true, true, true, true, true, true, true, true, true, true, true, true, true, true, true, true, true, false, false, false, false, false, false, false, false, false, false, false, false, false, false] rfl ?_
             refine TA_allG [17, 18] (by kernel_rfl) (by decide) ⟨?_, ?_, trivial⟩
             ·skip
              refine ⟨_, rfl, goG rfl rfl (by decide) rfl, (TOp_callV (call_static ent47 rfl) (m_impl_CountRepairs_ok _ _ h_43) rfl rfl rfl ?_)⟩
              refine TA_listed #[true, true, true, true, true, true, true, true, true, true, true, true, true, true, true, true, true, true, false, false, false, false, false, false, false, false, false, false, false, false, false] rfl ?_
              refine TA_allG [18] (by kernel_rfl) (by decide) ⟨⟨_, rfl, goG rfl rfl (by decide) rfl, (TOp_pure (pur_ldK_b agg48 rfl rfl (lb rfl) rfl) rfl ?_)⟩, trivial⟩
              refine TA_listed #[true, true, true, true, true, true, true, true, true, true, true, true, true, true, true, true, true, true, true, false, false, false, false, false, false, false, false, false, false, false, false] rfl ?_
              exact tj hj1_16 rfl (wp 4 (lb rfl) rfl rfl rfl rfl rfl)
             ·skip
              refine ⟨_, rfl, goG rfl rfl (by decide) rfl, (TOp_pure (pur_ldK_b agg48 rfl rfl (lb rfl) rfl) rfl ?_)⟩
              refine TA_listed #[true, true, true, true, true, true, true, true, true, true, true, true, true, true, true, true, true, false, true, false, false, false, false, false, false, false, false, false, false, false, false] rfl ?_
              exact tj hj2_16 rfl (wp 4 (lb rfl) rfl rfl rfl rfl rfl)
            ·skip
             refine ⟨_, rfl, goG rfl rfl (by decide) rfl, (TOp_pure (pur_ldK_b agg48 rfl rfl (lb rfl) rfl) rfl ?_)⟩
             refine TA_listed #[true, true, true, true, true, true, true, true, true, true, true, true, true, true, true, true, false, false, true, false, false, false, false, false, false, false, false, false, false, false, false] rfl ?_
             refine TA_allG [16] (by kernel_rfl) (by decide) ⟨⟨_, rfl, goG rfl rfl (by decide) rfl, (TOp_pure (pur_ldK_b agg48 rfl rfl (lb rfl) rfl) rfl ?_)⟩, trivial⟩
             refine TA_listed #[true, true, true, true, true, true, true, true, true, true, true, true, true, true, true, true, true, false, true, false, false, false, false, false, false, false, false, false, false, false, false] rfl ?_
             exact tj hj2_16 rfl (wp 4 (lb rfl) rfl rfl rfl rfl rfl)
           refine TA_have 21 #[true, true, true, true, true, true, true, true, true, false, false, true, false, false, false, false, false, false, false, false, false, false, false, false, false, false, false, false, false, false, false] [(3, (.b 0 0)), (4, (.b 1 0)), (5, (.b 2 0)), (75, (boolA true)), (78, (boolA false)), (79, (.g (tDatabase.enc r_6.1))), (82, (.g (tDatabase.enc r_4.1)))] [.box [(sl tRelation r_4.1.relations), (sl tFact r_4.1.facts)], .box [(intA r_4.2.relation), (sl tInt r_4.2.values)], .box [(sl tRelation r_6.1.relations), (sl tFact r_6.1.facts)], .box [(sl tRelation r_17.relations), (sl tFact r_17.facts)]] ?_ (fun hj4_16 => ?_)
           ·skip
            refine TA_allG [9] (by kernel_rfl) (by decide) ⟨⟨_, rfl, goG rfl rfl (by decide) rfl, (TOp_callV (call_static ent45 rfl) (m_impl_Blocks_ok _ _ h_38) rfl rfl rfl ?_)⟩, trivial⟩
            refine TA_listed #[true, true, true, true, true, true, true, true, true, true, false, true, false, false, false, false, false, false, false, false, false, false, false, false, false, false, false, false, false, false, false] rfl ?_
            refine TA_firstG 10 #[true, true, true, true, true, true, true, true, true, true, true, true, false, false, false, false, false, false, false, false, false, false, false, false, false, false, false, false, false, false, false] rfl (purI_lenT (T := (tSl tInt)) sl53 rfl rfl) rfl rfl (by decide) rfl rfl rfl (by kernel_rfl) (by kernel_rfl) (by kernel_rfl) ?_
            exact tj hj3_16 rfl (wp 4 (lb rfl) rfl rfl rfl rfl rfl)
           refine tf 0 rfl (purI_move rfl) rfl rfl (by kernel_rfl) ?_
           refine TA_allG [1] (by kernel_rfl) (by decide) ⟨⟨_, rfl, goN rfl, (TOp_pure (pur_ldK_b agg48 rfl rfl (lb rfl) rfl) rfl ?_)⟩, trivial⟩
           refine TA_listed #[true, true, false, false, false, false, false, false, false, false, false, false, false, false, false, false, false, false, false, false, false, false, false, false, false, false, false, false, false, false, false] rfl ?_
           refine TA_allG [2] (by kernel_rfl) (by decide) ⟨⟨_, rfl, goN rfl, (TOp_callV (call_static ent26 rfl) (m_spec_LargestConflicts_ok u _ _ h_32) rfl rfl rfl ?_)⟩, trivial⟩
           refine TA_listed #[true, true, true, false, false, false, false, false, false, false, false, false, false, false, false, false, false, false, false, false, false, false, false, false, false, false, false, false, false, false, false] rfl ?_
           refine TA_allG [3] (by kernel_rfl) (by decide) ⟨⟨_, rfl, goN rfl, (TOp_callV (call_static ent44 rfl) (m_laws_sameInts_ok _ _ _ h_34) rfl rfl rfl ?_)⟩, trivial⟩
           refine TA_listed #[true, true, true, true, false, false, false, false, false, false, false, false, false, false, false, false, false, false, false, false, false, false, false, false, false, false, false, false, false, false, false] rfl ?_
           refine tf 4 rfl (purI_move rfl) rfl rfl (by kernel_rfl) ?_
           refine TA_bool 75 g_35 rfl ?_
           refine TA_firstG 5 #[true, true, true, true, true, true, false, false, false, false, false, false, false, false, false, false, false, false, false, false, false, false, false, false, false, false, false, false, false, false, false] rfl (purI_move rfl) rfl rfl (by decide) rfl rfl rfl (by kernel_rfl) (by kernel_rfl) (by kernel_rfl) ?_
           refine tae [(3, (.b 0 0)), (4, (.b 1 0)), (5, (.b 2 0)), (75, (boolA true)), (76, (boolA r_6.2))] rfl ?_
           refine TA_firstG 6 #[true, true, true, true, true, true, true, false, false, false, false, false, false, false, false, false, false, false, false, false, false, false, false, false, false, false, false, false, false, false, false] rfl (purI_not rfl rfl) rfl rfl (by decide) rfl rfl rfl (by kernel_rfl) (by kernel_rfl) (by kernel_rfl) ?_
           refine TA_firstG 7 #[true, true, true, true, true, true, true, true, false, false, false, false, false, false, false, false, false, false, false, false, false, false, false, false, false, false, false, false, false, false, false] rfl (purI_move rfl) rfl rfl (by decide) rfl rfl rfl (by kernel_rfl) (by kernel_rfl) (by kernel_rfl) ?_
           refine TA_bool 78 g_36 rfl ?_
           refine TA_allG [8, 11] (by kernel_rfl) (by decide) ⟨?_, ?_, trivial⟩
           ·skip
            refine ⟨_, rfl, goG rfl rfl (by decide) rfl, (TOp_pure (pur_ldK_b agg48 rfl rfl (lb rfl) rfl) rfl ?_)⟩
            refine TA_listed #[true, true, true, true, true, true, true, true, true, false, false, false, false, false, false, false, false, false, false, false, false, false, false, false, false, false, false, false, false, false, false] rfl ?_
            refine TA_allG [9, 11] (by kernel_rfl) (by decide) ⟨?_, ?_, trivial⟩
            ·skip
             refine ⟨_, rfl, goG rfl rfl (by decide) rfl, (TOp_callV (call_static ent45 rfl) (m_impl_Blocks_ok _ _ h_38) rfl rfl rfl ?_)⟩
             refine TA_listed #[true, true, true, true, true, true, true, true, true, true, false, false, false, false, false, false, false, false, false, false, false, false, false, false, false, false, false, false, false, false, false] rfl ?_
             refine TA_firstG 10 #[true, true, true, true, true, true, true, true, true, true, true, false, false, false, false, false, false, false, false, false, false, false, false, false, false, false, false, false, false, false, false] rfl (purI_lenT (T := (tSl tInt)) sl53 rfl rfl) rfl rfl (by decide) rfl rfl rfl (by kernel_rfl) (by kernel_rfl) (by kernel_rfl) ?_
             refine tae [(3, (.b 0 0)), (4, (.b 1 0)), (5, (.b 2 0)), (75, (boolA true)), (78, (boolA false)), (81, (intA (r_37.length : Int)))] rfl ?_
             refine TA_allG [11] (by kernel_rfl) (by decide) ⟨⟨_, rfl, goG rfl rfl (by decide) rfl, (TOp_pure (pur_ldK_b agg48 rfl rfl (lb rfl) rfl) rfl ?_)⟩, trivial⟩
             refine TA_listed #[true, true, true, true, true, true, true, true, true, true, true, true, false, false, false, false, false, false, false, false, false, false, false, false, false, false, false, false, false, false, false] rfl ?_
             exact tj hj3_16 rfl (wp 4 (lb rfl) rfl rfl rfl rfl rfl)
            ·skip
             refine ⟨_, rfl, goG rfl rfl (by decide) rfl, (TOp_pure (pur_ldK_b agg48 rfl rfl (lb rfl) rfl) rfl ?_)⟩
             refine TA_listed #[true, true, true, true, true, true, true, true, true, false, false, true, false, false, false, false, false, false, false, false, false, false, false, false, false, false, false, false, false, false, false] rfl ?_
             exact tj hj4_16 rfl (wp 4 (lb rfl) rfl rfl rfl rfl rfl)
           ·skip
            refine ⟨_, rfl, goG rfl rfl (by decide) rfl, (TOp_pure (pur_ldK_b agg48 rfl rfl (lb rfl) rfl) rfl ?_)⟩
            refine TA_listed #[true, true, true, true, true, true, true, true, false, false, false, true, false, false, false, false, false, false, false, false, false, false, false, false, false, false, false, false, false, false, false] rfl ?_
            refine TA_allG [8] (by kernel_rfl) (by decide) ⟨⟨_, rfl, goG rfl rfl (by decide) rfl, (TOp_pure (pur_ldK_b agg48 rfl rfl (lb rfl) rfl) rfl ?_)⟩, trivial⟩
            refine TA_listed #[true, true, true, true, true, true, true, true, true, false, false, true, false, false, false, false, false, false, false, false, false, false, false, false, false, false, false, false, false, false, false] rfl ?_
            exact tj hj4_16 rfl (wp 4 (lb rfl) rfl rfl rfl rfl rfl)
          ·replace H := cond_f g_46 H
           refine T_regionP mixed ?_
           refine TA_have 12 #[true, true, true, true, true, true, true, true, true, true, true, true, true, true, true, true, true, true, true, false, false, false, false, false, false, false, false, false, false, false, false] [(4, (.b 1 0)), (5, (.b 2 0)), (75, (boolA true)), (78, (boolA false)), (86, (boolA true)), (88, (intA r_42)), (89, (.g (tDatabase.enc r_4.1)))] [.box [(sl tRelation r_4.1.relations), (sl tFact r_4.1.facts)], .box [(intA r_4.2.relation), (sl tInt r_4.2.values)], .box [(sl tRelation r_6.1.relations), (sl tFact r_6.1.facts)], .box [(sl tRelation r_17.relations), (sl tFact r_17.facts)]] ?_ (fun hj0_16 => ?_)
           ·skip
            refine TA_allG [19] (by kernel_rfl) (by decide) ⟨⟨_, rfl, goG rfl rfl (by decide) rfl, (TOp_callV (call_static ent48 rfl) (m_spec_CountRepairs_ok u _ _ h_45) rfl rfl rfl ?_)⟩, trivial⟩
            refine TA_listed #[true, true, true, true, true, true, true, true, true, true, true, true, true, true, true, true, true, true, true, true, false, false, false, false, false, false, false, false, false, false, false] rfl ?_
            refine TA_firstG 20 #[true, true, true, true, true, true, true, true, true, true, true, true, true, true, true, true, true, true, true, true, true, false, false, false, false, false, false, false, false, false, false] rfl (purI_lss rfl rfl rfl) rfl rfl (by decide) rfl rfl rfl (by kernel_rfl) (by kernel_rfl) (by kernel_rfl) ?_
            refine TA_allG [21] (by kernel_rfl) (by decide) ⟨⟨_, rfl, goG rfl rfl (by decide) rfl, (TOp_pure (pur_pick (t := true) rfl rfl rfl) rfl ?_)⟩, trivial⟩
            refine TA_listed #[true, true, true, true, true, true, true, true, true, true, true, true, true, true, true, true, true, true, true, true, true, true, false, false, false, false, false, false, false, false, false] rfl ?_
            refine TA_firstG 22 #[true, true, true, true, true, true, true, true, true, true, true, true, true, true, true, true, true, true, true, true, true, true, true, false, false, false, false, false, false, false, false] rfl (purI_move rfl) rfl rfl (by decide) rfl rfl rfl (by kernel_rfl) (by kernel_rfl) (by kernel_rfl) ?_
            refine TA_bool 93 g_46 rfl ?_
            refine TA_off 23 #[true, true, true, true, true, true, true, true, true, true, true, true, true, true, true, true, true, true, true, true, true, true, true, true, false, false, false, false, false, false, false] rfl rfl rfl (by decide) rfl rfl rfl rfl (by kernel_rfl) (by kernel_rfl) (by kernel_rfl) ?_
            refine TA_off 24 #[true, true, true, true, true, true, true, true, true, true, true, true, true, true, true, true, true, true, true, true, true, true, true, true, true, false, false, false, false, false, false] rfl rfl rfl (by decide) rfl rfl rfl rfl (by kernel_rfl) (by kernel_rfl) (by kernel_rfl) ?_
            refine TA_off 25 #[true, true, true, true, true, true, true, true, true, true, true, true, true, true, true, true, true, true, true, true, true, true, true, true, true, true, false, false, false, false, false] rfl rfl rfl (by decide) rfl rfl rfl rfl (by kernel_rfl) (by kernel_rfl) (by kernel_rfl) ?_
            refine TA_off 26 #[true, true, true, true, true, true, true, true, true, true, true, true, true, true, true, true, true, true, true, true, true, true, true, true, true, true, true, false, false, false, false] rfl rfl rfl (by decide) rfl rfl rfl rfl (by kernel_rfl) (by kernel_rfl) (by kernel_rfl) ?_
            refine TA_allG [27] (by kernel_rfl) (by decide) ⟨⟨_, rfl, goG rfl rfl (by decide) rfl, (TOp_pure (pur_pick (t := false) rfl rfl rfl) rfl ?_)⟩, trivial⟩
            refine TA_listed #[true, true, true, true, true, true, true, true, true, true, true, true, true, true, true, true, true, true, true, true, true, true, true, true, true, true, true, true, false, false, false] rfl ?_
            refine TA_allG [28] (by kernel_rfl) (by decide) ⟨⟨_, rfl, goG rfl rfl (by decide) rfl, (TOp_pure (pur_pick (t := false) rfl rfl rfl) rfl ?_)⟩, trivial⟩
            refine TA_listed #[true, true, true, true, true, true, true, true, true, true, true, true, true, true, true, true, true, true, true, true, true, true, true, true, true, true, true, true, true, false, false] rfl ?_
            refine TA_allG [29] (by kernel_rfl) (by decide) ⟨⟨_, rfl, goN rfl, (TOp_pure (pur_pick (t := true) rfl rfl rfl) rfl ?_)⟩, trivial⟩
            refine TA_listed #[true, true, true, true, true, true, true, true, true, true, true, true, true, true, true, true, true, true, true, true, true, true, true, true, true, true, true, true, true, true, false] rfl ?_
            refine tf 30 rfl (purI_assign rfl) rfl rfl (by kernel_rfl) ?_
            refine tae [(2, (boolA false))] rfl ?_
            refine TA_nil (by kernel_rfl) ?_
            exact joined false (wp 0 (lb rfl) rfl rfl rfl rfl rfl) (some_inj H).symm
           refine TA_have 13 #[true, true, true, true, true, true, true, true, true, true, true, true, true, true, true, true, true, false, true, false, false, false, false, false, false, false, false, false, false, false, false] [(4, (.b 1 0)), (5, (.b 2 0)), (75, (boolA true)), (78, (boolA false)), (86, (boolA true)), (87, (.g (tDatabase.enc r_6.1))), (89, (.g (tDatabase.enc r_4.1)))] [.box [(sl tRelation r_4.1.relations), (sl tFact r_4.1.facts)], .box [(intA r_4.2.relation), (sl tInt r_4.2.values)], .box [(sl tRelation r_6.1.relations), (sl tFact r_6.1.facts)], .box [(sl tRelation r_17.relations), (sl tFact r_17.facts)]] ?_ (fun hj1_16 => ?_)
           ·skip
            refine TA_allG [17] (by kernel_rfl) (by decide) ⟨⟨_, rfl, goG rfl rfl (by decide) rfl, (TOp_callV (call_static ent47 rfl) (m_impl_CountRepairs_ok _ _ h_43) rfl rfl rfl ?_)⟩, trivial⟩
            refine TA_listed #[true, true, true, true, true, true, true, true, true, true, true, true, true, true, true, true, true, true, true, false, false, false, false, false, false, false, false, false, false, false, false] rfl ?_
            exact tj hj0_16 rfl (wp 4 (lb rfl) rfl rfl rfl rfl rfl)
           refine TA_have 19 #[true, true, true, true, true, true, true, true, true, true, true, true, false, false, false, false, false, false, false, false, false, false, false, false, false, false, false, false, false, false, false] [(3, (.b 0 0)), (4, (.b 1 0)), (5, (.b 2 0)), (75, (boolA true)), (78, (boolA false)), (81, (intA (r_37.length : Int))), (82, (.g (tDatabase.enc r_4.1)))] [.box [(sl tRelation r_4.1.relations), (sl tFact r_4.1.facts)], .box [(intA r_4.2.relation), (sl tInt r_4.2.values)], .box [(sl tRelation r_6.1.relations), (sl tFact r_6.1.facts)], .box [(sl tRelation r_17.relations), (sl tFact r_17.facts)]] ?_ (fun hj2_16 => ?_)
           ·skip
            refine TA_allG [12] (by kernel_rfl) (by decide) ⟨⟨_, rfl, goG rfl rfl (by decide) rfl, (TOp_callV (call_static ent46 rfl) (m_spec_Blocks_ok u _ _ h_40) rfl rfl rfl ?_)⟩, trivial⟩
            refine TA_listed #[true, true, true, true, true, true, true, true, true, true, true, true, true, false, false, false, false, false, false, false, false, false, false, false, false, false, false, false, false, false, false] rfl ?_
            refine TA_firstG 13 #[true, true, true, true, true, true, true, true, true, true, true, true, true, true, false, false, false, false, false, false, false, false, false, false, false, false, false, false, false, false, false] rfl (purI_lenT (T := (tSl tInt)) sl53 rfl rfl) rfl rfl (by decide) rfl rfl rfl (by kernel_rfl) (by kernel_rfl) (by kernel_rfl) ?_
            refine TA_allG [14] (by kernel_rfl) (by decide) ⟨⟨_, rfl, goG rfl rfl (by decide) rfl, (TOp_pure (pur_eql rfl rfl rfl) rfl ?_)⟩, trivial⟩
            refine TA_listed #[true, true, true, true, true, true, true, true, true, true, true, true, true, true, true, false, false, false, false, false, false, false, false, false, false, false, false, false, false, false, false] rfl ?_
            refine TA_firstG 15 #[true, true, true, true, true, true, true, true, true, true, true, true, true, true, true, true, false, false, false, false, false, false, false, false, false, false, false, false, false, false, false] rfl (purI_move rfl) rfl rfl (by decide) rfl rfl rfl (by kernel_rfl) (by kernel_rfl) (by kernel_rfl) ?_
            refine TA_bool 86 g_41 rfl ?_
            refine TA_allG [16, 18] (by kernel_rfl) (by decide) ⟨?_, ?_, trivial⟩
            ·skip
             refine ⟨_, rfl, goG rfl rfl (by decide) rfl, (TOp_pure (pur_ldK_b agg48 rfl rfl (lb rfl) rfl) rfl ?_)⟩
             refine TA_listed #[true, true, true, true, true, true, true, true, true, true, true, true, true, true, true, true, true, false, false, false, false, false, false, false, false, false, false, false, false, false, false] rfl ?_
             refine TA_allG [17, 18] (by kernel_rfl) (by decide) ⟨?_, ?_, trivial⟩
             ·skip
              refine ⟨_, rfl, goG rfl rfl (by decide) rfl, (TOp_callV (call_static ent47 rfl) (m_impl_CountRepairs_ok _ _ h_43) rfl rfl rfl ?_)⟩
              refine TA_listed #[true, true, true, true, true, true, true, true, true, true, true, true, true, true, true, true, true, true, false, false, false, false, false, false, false, false, false, false, false, false, false] rfl ?_
              refine TA_allG [18] (by kernel_rfl) (by decide) ⟨⟨_, rfl, goG rfl rfl (by decide) rfl, (TOp_pure (pur_ldK_b agg48 rfl rfl (lb rfl) rfl) rfl ?_)⟩, trivial⟩
              refine TA_listed #[true, true, true, true, true, true, true, true, true, true, true, true, true, true, true, true, true, true, true, false, false, false, false, false, false, false, false, false, false, false, false] rfl ?_
              exact tj hj0_16 rfl (wp 4 (lb rfl) rfl rfl rfl rfl rfl)
             ·skip
              refine ⟨_, rfl, goG rfl rfl (by decide) rfl, (TOp_pure (pur_ldK_b agg48 rfl rfl (lb rfl) rfl) rfl ?_)⟩
              refine TA_listed #[true, true, true, true, true, true, true, true, true, true, true, true, true, true, true, true, true, false, true, false, false, false, false, false, false, false, false, false, false, false, false] rfl ?_
              exact tj hj1_16 rfl (wp 4 (lb rfl) rfl rfl rfl rfl rfl)
            ·skip
             refine ⟨_, rfl, goG rfl rfl (by decide) rfl, (TOp_pure (pur_ldK_b agg48 rfl rfl (lb rfl) rfl) rfl ?_)⟩
             refine TA_listed #[true, true, true, true, true, true, true, true, true, true, true, true, true, true, true, true, false, false, true, false, false, false, false, false, false, false, false, false, false, false, false] rfl ?_
             refine TA_allG [16] (by kernel_rfl) (by decide) ⟨⟨_, rfl, goG rfl rfl (by decide) rfl, (TOp_pure (pur_ldK_b agg48 rfl rfl (lb rfl) rfl) rfl ?_)⟩, trivial⟩
             refine TA_listed #[true, true, true, true, true, true, true, true, true, true, true, true, true, true, true, true, true, false, true, false, false, false, false, false, false, false, false, false, false, false, false] rfl ?_
             exact tj hj1_16 rfl (wp 4 (lb rfl) rfl rfl rfl rfl rfl)
           refine TA_have 21 #[true, true, true, true, true, true, true, true, true, false, false, true, false, false, false, false, false, false, false, false, false, false, false, false, false, false, false, false, false, false, false] [(3, (.b 0 0)), (4, (.b 1 0)), (5, (.b 2 0)), (75, (boolA true)), (78, (boolA false)), (79, (.g (tDatabase.enc r_6.1))), (82, (.g (tDatabase.enc r_4.1)))] [.box [(sl tRelation r_4.1.relations), (sl tFact r_4.1.facts)], .box [(intA r_4.2.relation), (sl tInt r_4.2.values)], .box [(sl tRelation r_6.1.relations), (sl tFact r_6.1.facts)], .box [(sl tRelation r_17.relations), (sl tFact r_17.facts)]] ?_ (fun hj3_16 => ?_)
           ·skip
            refine TA_allG [9] (by kernel_rfl) (by decide) ⟨⟨_, rfl, goG rfl rfl (by decide) rfl, (TOp_callV (call_static ent45 rfl) (m_impl_Blocks_ok _ _ h_38) rfl rfl rfl ?_)⟩, trivial⟩
            refine TA_listed #[true, true, true, true, true, true, true, true, true, true, false, true, false, false, false, false, false, false, false, false, false, false, false, false, false, false, false, false, false, false, false] rfl ?_
            refine TA_firstG 10 #[true, true, true, true, true, true, true, true, true, true, true, true, false, false, false, false, false, false, false, false, false, false, false, false, false, false, false, false, false, false, false] rfl (purI_lenT (T := (tSl tInt)) sl53 rfl rfl) rfl rfl (by decide) rfl rfl rfl (by kernel_rfl) (by kernel_rfl) (by kernel_rfl) ?_
            exact tj hj2_16 rfl (wp 4 (lb rfl) rfl rfl rfl rfl rfl)
           refine tf 0 rfl (purI_move rfl) rfl rfl (by kernel_rfl) ?_
           refine TA_allG [1] (by kernel_rfl) (by decide) ⟨⟨_, rfl, goN rfl, (TOp_pure (pur_ldK_b agg48 rfl rfl (lb rfl) rfl) rfl ?_)⟩, trivial⟩
           refine TA_listed #[true, true, false, false, false, false, false, false, false, false, false, false, false, false, false, false, false, false, false, false, false, false, false, false, false, false, false, false, false, false, false] rfl ?_
           refine TA_allG [2] (by kernel_rfl) (by decide) ⟨⟨_, rfl, goN rfl, (TOp_callV (call_static ent26 rfl) (m_spec_LargestConflicts_ok u _ _ h_32) rfl rfl rfl ?_)⟩, trivial⟩
           refine TA_listed #[true, true, true, false, false, false, false, false, false, false, false, false, false, false, false, false, false, false, false, false, false, false, false, false, false, false, false, false, false, false, false] rfl ?_
           refine TA_allG [3] (by kernel_rfl) (by decide) ⟨⟨_, rfl, goN rfl, (TOp_callV (call_static ent44 rfl) (m_laws_sameInts_ok _ _ _ h_34) rfl rfl rfl ?_)⟩, trivial⟩
           refine TA_listed #[true, true, true, true, false, false, false, false, false, false, false, false, false, false, false, false, false, false, false, false, false, false, false, false, false, false, false, false, false, false, false] rfl ?_
           refine tf 4 rfl (purI_move rfl) rfl rfl (by kernel_rfl) ?_
           refine TA_bool 75 g_35 rfl ?_
           refine TA_firstG 5 #[true, true, true, true, true, true, false, false, false, false, false, false, false, false, false, false, false, false, false, false, false, false, false, false, false, false, false, false, false, false, false] rfl (purI_move rfl) rfl rfl (by decide) rfl rfl rfl (by kernel_rfl) (by kernel_rfl) (by kernel_rfl) ?_
           refine tae [(3, (.b 0 0)), (4, (.b 1 0)), (5, (.b 2 0)), (75, (boolA true)), (76, (boolA r_6.2))] rfl ?_
           refine TA_firstG 6 #[true, true, true, true, true, true, true, false, false, false, false, false, false, false, false, false, false, false, false, false, false, false, false, false, false, false, false, false, false, false, false] rfl (purI_not rfl rfl) rfl rfl (by decide) rfl rfl rfl (by kernel_rfl) (by kernel_rfl) (by kernel_rfl) ?_
           refine TA_firstG 7 #[true, true, true, true, true, true, true, true, false, false, false, false, false, false, false, false, false, false, false, false, false, false, false, false, false, false, false, false, false, false, false] rfl (purI_move rfl) rfl rfl (by decide) rfl rfl rfl (by kernel_rfl) (by kernel_rfl) (by kernel_rfl) ?_
           refine TA_bool 78 g_36 rfl ?_
           refine TA_allG [8, 11] (by kernel_rfl) (by decide) ⟨?_, ?_, trivial⟩
           ·skip
            refine ⟨_, rfl, goG rfl rfl (by decide) rfl, (TOp_pure (pur_ldK_b agg48 rfl rfl (lb rfl) rfl) rfl ?_)⟩
            refine TA_listed #[true, true, true, true, true, true, true, true, true, false, false, false, false, false, false, false, false, false, false, false, false, false, false, false, false, false, false, false, false, false, false] rfl ?_
            refine TA_allG [9, 11] (by kernel_rfl) (by decide) ⟨?_, ?_, trivial⟩
            ·skip
             refine ⟨_, rfl, goG rfl rfl (by decide) rfl, (TOp_callV (call_static ent45 rfl) (m_impl_Blocks_ok _ _ h_38) rfl rfl rfl ?_)⟩
             refine TA_listed #[true, true, true, true, true, true, true, true, true, true, false, false, false, false, false, false, false, false, false, false, false, false, false, false, false, false, false, false, false, false, false] rfl ?_
             refine TA_firstG 10 #[true, true, true, true, true, true, true, true, true, true, true, false, false, false, false, false, false, false, false, false, false, false, false, false, false, false, false, false, false, false, false] rfl (purI_lenT (T := (tSl tInt)) sl53 rfl rfl) rfl rfl (by decide) rfl rfl rfl (by kernel_rfl) (by kernel_rfl) (by kernel_rfl) ?_
             refine tae [(3, (.b 0 0)), (4, (.b 1 0)), (5, (.b 2 0)), (75, (boolA true)), (78, (boolA false)), (81, (intA (r_37.length : Int)))] rfl ?_
             refine TA_allG [11] (by kernel_rfl) (by decide) ⟨⟨_, rfl, goG rfl rfl (by decide) rfl, (TOp_pure (pur_ldK_b agg48 rfl rfl (lb rfl) rfl) rfl ?_)⟩, trivial⟩
             refine TA_listed #[true, true, true, true, true, true, true, true, true, true, true, true, false, false, false, false, false, false, false, false, false, false, false, false, false, false, false, false, false, false, false] rfl ?_
             exact tj hj2_16 rfl (wp 4 (lb rfl) rfl rfl rfl rfl rfl)
            ·skip
             refine ⟨_, rfl, goG rfl rfl (by decide) rfl, (TOp_pure (pur_ldK_b agg48 rfl rfl (lb rfl) rfl) rfl ?_)⟩
             refine TA_listed #[true, true, true, true, true, true, true, true, true, false, false, true, false, false, false, false, false, false, false, false, false, false, false, false, false, false, false, false, false, false, false] rfl ?_
             exact tj hj3_16 rfl (wp 4 (lb rfl) rfl rfl rfl rfl rfl)
           ·skip
            refine ⟨_, rfl, goG rfl rfl (by decide) rfl, (TOp_pure (pur_ldK_b agg48 rfl rfl (lb rfl) rfl) rfl ?_)⟩
            refine TA_listed #[true, true, true, true, true, true, true, true, false, false, false, true, false, false, false, false, false, false, false, false, false, false, false, false, false, false, false, false, false, false, false] rfl ?_
            refine TA_allG [8] (by kernel_rfl) (by decide) ⟨⟨_, rfl, goG rfl rfl (by decide) rfl, (TOp_pure (pur_ldK_b agg48 rfl rfl (lb rfl) rfl) rfl ?_)⟩, trivial⟩
            refine TA_listed #[true, true, true, true, true, true, true, true, true, false, false, true, false, false, false, false, false, false, false, false, false, false, false, false, false, false, false, false, false, false, false] rfl ?_
            exact tj hj3_16 rfl (wp 4 (lb rfl) rfl rfl rfl rfl rfl)
         ·replace H := cond_f g_41 H
          refine T_regionP mixed ?_
          refine TA_have 19 #[true, true, true, true, true, true, true, true, true, true, true, true, false, false, false, false, false, false, false, false, false, false, false, false, false, false, false, false, false, false, false] [(3, (.b 0 0)), (4, (.b 1 0)), (5, (.b 2 0)), (75, (boolA true)), (78, (boolA false)), (81, (intA (r_37.length : Int))), (82, (.g (tDatabase.enc r_4.1)))] [.box [(sl tRelation r_4.1.relations), (sl tFact r_4.1.facts)], .box [(intA r_4.2.relation), (sl tInt r_4.2.values)], .box [(sl tRelation r_6.1.relations), (sl tFact r_6.1.facts)], .box [(sl tRelation r_17.relations), (sl tFact r_17.facts)]] ?_ (fun hj0_16 => ?_)
          ·skip
           refine TA_allG [12] (by kernel_rfl) (by decide) ⟨⟨_, rfl, goG rfl rfl (by decide) rfl, (TOp_callV (call_static ent46 rfl) (m_spec_Blocks_ok u _ _ h_40) rfl rfl rfl ?_)⟩, trivial⟩
           refine TA_listed #[true, true, true, true, true, true, true, true, true, true, true, true, true, false, false, false, false, false, false, false, false, false, false, false, false, false, false, false, false, false, false] rfl ?_
           refine TA_firstG 13 #[true, true, true, true, true, true, true, true, true, true, true, true, true, true, false, false, false, false, false, false, false, false, false, false, false, false, false, false, false, false, false] rfl (purI_lenT (T := (tSl tInt)) sl53 rfl rfl) rfl rfl (by decide) rfl rfl rfl (by kernel_rfl) (by kernel_rfl) (by kernel_rfl) ?_
           refine TA_allG [14] (by kernel_rfl) (by decide) ⟨⟨_, rfl, goG rfl rfl (by decide) rfl, (TOp_pure (pur_eql rfl rfl rfl) rfl ?_)⟩, trivial⟩
           refine TA_listed #[true, true, true, true, true, true, true, true, true, true, true, true, true, true, true, false, false, false, false, false, false, false, false, false, false, false, false, false, false, false, false] rfl ?_
           refine TA_firstG 15 #[true, true, true, true, true, true, true, true, true, true, true, true, true, true, true, true, false, false, false, false, false, false, false, false, false, false, false, false, false, false, false] rfl (purI_move rfl) rfl rfl (by decide) rfl rfl rfl (by kernel_rfl) (by kernel_rfl) (by kernel_rfl) ?_
           refine TA_bool 86 g_41 rfl ?_
           refine TA_off 16 #[true, true, true, true, true, true, true, true, true, true, true, true, true, true, true, true, true, false, false, false, false, false, false, false, false, false, false, false, false, false, false] rfl rfl rfl (by decide) rfl rfl rfl rfl (by kernel_rfl) (by kernel_rfl) (by kernel_rfl) ?_
           refine TA_off 17 #[true, true, true, true, true, true, true, true, true, true, true, true, true, true, true, true, true, true, false, false, false, false, false, false, false, false, false, false, false, false, false] rfl rfl rfl (by decide) rfl rfl rfl rfl (by kernel_rfl) (by kernel_rfl) (by kernel_rfl) ?_
           refine TA_off 18 #[true, true, true, true, true, true, true, true, true, true, true, true, true, true, true, true, true, true, true, false, false, false, false, false, false, false, false, false, false, false, false] rfl rfl rfl (by decide) rfl rfl rfl rfl (by kernel_rfl) (by kernel_rfl) (by kernel_rfl) ?_
           refine TA_off 19 #[true, true, true, true, true, true, true, true, true, true, true, true, true, true, true, true, true, true, true, true, false, false, false, false, false, false, false, false, false, false, false] rfl rfl rfl (by decide) rfl rfl rfl rfl (by kernel_rfl) (by kernel_rfl) (by kernel_rfl) ?_
           refine TA_off 20 #[true, true, true, true, true, true, true, true, true, true, true, true, true, true, true, true, true, true, true, true, true, false, false, false, false, false, false, false, false, false, false] rfl rfl rfl (by decide) rfl rfl rfl rfl (by kernel_rfl) (by kernel_rfl) (by kernel_rfl) ?_
           refine TA_allG [21] (by kernel_rfl) (by decide) ⟨⟨_, rfl, goG rfl rfl (by decide) rfl, (TOp_pure (pur_pick (t := false) rfl rfl rfl) rfl ?_)⟩, trivial⟩
           refine TA_listed #[true, true, true, true, true, true, true, true, true, true, true, true, true, true, true, true, true, true, true, true, true, true, false, false, false, false, false, false, false, false, false] rfl ?_
           refine TA_firstG 22 #[true, true, true, true, true, true, true, true, true, true, true, true, true, true, true, true, true, true, true, true, true, true, true, false, false, false, false, false, false, false, false] rfl (purI_move rfl) rfl rfl (by decide) rfl rfl rfl (by kernel_rfl) (by kernel_rfl) (by kernel_rfl) ?_
           refine tae [(4, (.b 1 0)), (5, (.b 2 0)), (75, (boolA true)), (78, (boolA false)), (93, (boolA false))] rfl ?_
           refine TA_off 23 #[true, true, true, true, true, true, true, true, true, true, true, true, true, true, true, true, true, true, true, true, true, true, true, true, false, false, false, false, false, false, false] rfl rfl rfl (by decide) rfl rfl rfl rfl (by kernel_rfl) (by kernel_rfl) (by kernel_rfl) ?_
           refine TA_off 24 #[true, true, true, true, true, true, true, true, true, true, true, true, true, true, true, true, true, true, true, true, true, true, true, true, true, false, false, false, false, false, false] rfl rfl rfl (by decide) rfl rfl rfl rfl (by kernel_rfl) (by kernel_rfl) (by kernel_rfl) ?_
           refine TA_off 25 #[true, true, true, true, true, true, true, true, true, true, true, true, true, true, true, true, true, true, true, true, true, true, true, true, true, true, false, false, false, false, false] rfl rfl rfl (by decide) rfl rfl rfl rfl (by kernel_rfl) (by kernel_rfl) (by kernel_rfl) ?_
           refine TA_off 26 #[true, true, true, true, true, true, true, true, true, true, true, true, true, true, true, true, true, true, true, true, true, true, true, true, true, true, true, false, false, false, false] rfl rfl rfl (by decide) rfl rfl rfl rfl (by kernel_rfl) (by kernel_rfl) (by kernel_rfl) ?_
           refine TA_allG [27] (by kernel_rfl) (by decide) ⟨⟨_, rfl, goG rfl rfl (by decide) rfl, (TOp_pure (pur_pick (t := false) rfl rfl rfl) rfl ?_)⟩, trivial⟩
           refine TA_listed #[true, true, true, true, true, true, true, true, true, true, true, true, true, true, true, true, true, true, true, true, true, true, true, true, true, true, true, true, false, false, false] rfl ?_
           refine TA_allG [28] (by kernel_rfl) (by decide) ⟨⟨_, rfl, goG rfl rfl (by decide) rfl, (TOp_pure (pur_pick (t := false) rfl rfl rfl) rfl ?_)⟩, trivial⟩
           refine TA_listed #[true, true, true, true, true, true, true, true, true, true, true, true, true, true, true, true, true, true, true, true, true, true, true, true, true, true, true, true, true, false, false] rfl ?_
           refine TA_allG [29] (by kernel_rfl) (by decide) ⟨⟨_, rfl, goN rfl, (TOp_pure (pur_pick (t := true) rfl rfl rfl) rfl ?_)⟩, trivial⟩
           refine TA_listed #[true, true, true, true, true, true, true, true, true, true, true, true, true, true, true, true, true, true, true, true, true, true, true, true, true, true, true, true, true, true, false] rfl ?_
           refine tf 30 rfl (purI_assign rfl) rfl rfl (by kernel_rfl) ?_
           refine tae [(2, (boolA false))] rfl ?_
           refine TA_nil (by kernel_rfl) ?_
           exact joined false (wp 0 (lb rfl) rfl rfl rfl rfl rfl) (some_inj H).symm
          refine TA_have 21 #[true, true, true, true, true, true, true, true, true, false, false, true, false, false, false, false, false, false, false, false, false, false, false, false, false, false, false, false, false, false, false] [(3, (.b 0 0)), (4, (.b 1 0)), (5, (.b 2 0)), (75, (boolA true)), (78, (boolA false)), (79, (.g (tDatabase.enc r_6.1))), (82, (.g (tDatabase.enc r_4.1)))] [.box [(sl tRelation r_4.1.relations), (sl tFact r_4.1.facts)], .box [(intA r_4.2.relation), (sl tInt r_4.2.values)], .box [(sl tRelation r_6.1.relations), (sl tFact r_6.1.facts)], .box [(sl tRelation r_17.relations), (sl tFact r_17.facts)]] ?_ (fun hj1_16 => ?_)
          ·skip
           refine TA_allG [9] (by kernel_rfl) (by decide) ⟨⟨_, rfl, goG rfl rfl (by decide) rfl, (TOp_callV (call_static ent45 rfl) (m_impl_Blocks_ok _ _ h_38) rfl rfl rfl ?_)⟩, trivial⟩
           refine TA_listed #[true, true, true, true, true, true, true, true, true, true, false, true, false, false, false, false, false, false, false, false, false, false, false, false, false, false, false, false, false, false, false] rfl ?_
           refine TA_firstG 10 #[true, true, true, true, true, true, true, true, true, true, true, true, false, false, false, false, false, false, false, false, false, false, false, false, false, false, false, false, false, false, false] rfl (purI_lenT (T := (tSl tInt)) sl53 rfl rfl) rfl rfl (by decide) rfl rfl rfl (by kernel_rfl) (by kernel_rfl) (by kernel_rfl) ?_
           exact tj hj0_16 rfl (wp 4 (lb rfl) rfl rfl rfl rfl rfl)
          refine tf 0 rfl (purI_move rfl) rfl rfl (by kernel_rfl) ?_
          refine TA_allG [1] (by kernel_rfl) (by decide) ⟨⟨_, rfl, goN rfl, (TOp_pure (pur_ldK_b agg48 rfl rfl (lb rfl) rfl) rfl ?_)⟩, trivial⟩
          refine TA_listed #[true, true, false, false, false, false, false, false, false, false, false, false, false, false, false, false, false, false, false, false, false, false, false, false, false, false, false, false, false, false, false] rfl ?_
          refine TA_allG [2] (by kernel_rfl) (by decide) ⟨⟨_, rfl, goN rfl, (TOp_callV (call_static ent26 rfl) (m_spec_LargestConflicts_ok u _ _ h_32) rfl rfl rfl ?_)⟩, trivial⟩
          refine TA_listed #[true, true, true, false, false, false, false, false, false, false, false, false, false, false, false, false, false, false, false, false, false, false, false, false, false, false, false, false, false, false, false] rfl ?_
          refine TA_allG [3] (by kernel_rfl) (by decide) ⟨⟨_, rfl, goN rfl, (TOp_callV (call_static ent44 rfl) (m_laws_sameInts_ok _ _ _ h_34) rfl rfl rfl ?_)⟩, trivial⟩
          refine TA_listed #[true, true, true, true, false, false, false, false, false, false, false, false, false, false, false, false, false, false, false, false, false, false, false, false, false, false, false, false, false, false, false] rfl ?_
          refine tf 4 rfl (purI_move rfl) rfl rfl (by kernel_rfl) ?_
          refine TA_bool 75 g_35 rfl ?_
          refine TA_firstG 5 #[true, true, true, true, true, true, false, false, false, false, false, false, false, false, false, false, false, false, false, false, false, false, false, false, false, false, false, false, false, false, false] rfl (purI_move rfl) rfl rfl (by decide) rfl rfl rfl (by kernel_rfl) (by kernel_rfl) (by kernel_rfl) ?_
          refine tae [(3, (.b 0 0)), (4, (.b 1 0)), (5, (.b 2 0)), (75, (boolA true)), (76, (boolA r_6.2))] rfl ?_
          refine TA_firstG 6 #[true, true, true, true, true, true, true, false, false, false, false, false, false, false, false, false, false, false, false, false, false, false, false, false, false, false, false, false, false, false, false] rfl (purI_not rfl rfl) rfl rfl (by decide) rfl rfl rfl (by kernel_rfl) (by kernel_rfl) (by kernel_rfl) ?_
          refine TA_firstG 7 #[true, true, true, true, true, true, true, true, false, false, false, false, false, false, false, false, false, false, false, false, false, false, false, false, false, false, false, false, false, false, false] rfl (purI_move rfl) rfl rfl (by decide) rfl rfl rfl (by kernel_rfl) (by kernel_rfl) (by kernel_rfl) ?_
          refine TA_bool 78 g_36 rfl ?_
          refine TA_allG [8, 11] (by kernel_rfl) (by decide) ⟨?_, ?_, trivial⟩
          ·skip
           refine ⟨_, rfl, goG rfl rfl (by decide) rfl, (TOp_pure (pur_ldK_b agg48 rfl rfl (lb rfl) rfl) rfl ?_)⟩
           refine TA_listed #[true, true, true, true, true, true, true, true, true, false, false, false, false, false, false, false, false, false, false, false, false, false, false, false, false, false, false, false, false, false, false] rfl ?_
           refine TA_allG [9, 11] (by kernel_rfl) (by decide) ⟨?_, ?_, trivial⟩
           ·skip
            refine ⟨_, rfl, goG rfl rfl (by decide) rfl, (TOp_callV (call_static ent45 rfl) (m_impl_Blocks_ok _ _ h_38) rfl rfl rfl ?_)⟩
            refine TA_listed #[true, true, true, true, true, true, true, true, true, true, false, false, false, false, false, false, false, false, false, false, false, false, false, false, false, false, false, false, false, false, false] rfl ?_
            refine TA_firstG 10 #[true, true, true, true, true, true, true, true, true, true, true, false, false, false, false, false, false, false, false, false, false, false, false, false, false, false, false, false, false, false, false] rfl (purI_lenT (T := (tSl tInt)) sl53 rfl rfl) rfl rfl (by decide) rfl rfl rfl (by kernel_rfl) (by kernel_rfl) (by kernel_rfl) ?_
            refine tae [(3, (.b 0 0)), (4, (.b 1 0)), (5, (.b 2 0)), (75, (boolA true)), (78, (boolA false)), (81, (intA (r_37.length : Int)))] rfl ?_
            refine TA_allG [11] (by kernel_rfl) (by decide) ⟨⟨_, rfl, goG rfl rfl (by decide) rfl, (TOp_pure (pur_ldK_b agg48 rfl rfl (lb rfl) rfl) rfl ?_)⟩, trivial⟩
            refine TA_listed #[true, true, true, true, true, true, true, true, true, true, true, true, false, false, false, false, false, false, false, false, false, false, false, false, false, false, false, false, false, false, false] rfl ?_
            exact tj hj0_16 rfl (wp 4 (lb rfl) rfl rfl rfl rfl rfl)
           ·skip
            refine ⟨_, rfl, goG rfl rfl (by decide) rfl, (TOp_pure (pur_ldK_b agg48 rfl rfl (lb rfl) rfl) rfl ?_)⟩
            refine TA_listed #[true, true, true, true, true, true, true, true, true, false, false, true, false, false, false, false, false, false, false, false, false, false, false, false, false, false, false, false, false, false, false] rfl ?_
            exact tj hj1_16 rfl (wp 4 (lb rfl) rfl rfl rfl rfl rfl)
          ·skip
           refine ⟨_, rfl, goG rfl rfl (by decide) rfl, (TOp_pure (pur_ldK_b agg48 rfl rfl (lb rfl) rfl) rfl ?_)⟩
           refine TA_listed #[true, true, true, true, true, true, true, true, false, false, false, true, false, false, false, false, false, false, false, false, false, false, false, false, false, false, false, false, false, false, false] rfl ?_
           refine TA_allG [8] (by kernel_rfl) (by decide) ⟨⟨_, rfl, goG rfl rfl (by decide) rfl, (TOp_pure (pur_ldK_b agg48 rfl rfl (lb rfl) rfl) rfl ?_)⟩, trivial⟩
           refine TA_listed #[true, true, true, true, true, true, true, true, true, false, false, true, false, false, false, false, false, false, false, false, false, false, false, false, false, false, false, false, false, false, false] rfl ?_
           exact tj hj1_16 rfl (wp 4 (lb rfl) rfl rfl rfl rfl rfl)
       ·replace H := cond_f g_35 H
        refine T_regionP mixed ?_
        refine tf 0 rfl (purI_move rfl) rfl rfl (by kernel_rfl) ?_
        refine TA_allG [1] (by kernel_rfl) (by decide) ⟨⟨_, rfl, goN rfl, (TOp_pure (pur_ldK_b agg48 rfl rfl (lb rfl) rfl) rfl ?_)⟩, trivial⟩
        refine TA_listed #[true, true, false, false, false, false, false, false, false, false, false, false, false, false, false, false, false, false, false, false, false, false, false, false, false, false, false, false, false, false, false] rfl ?_
        refine TA_allG [2] (by kernel_rfl) (by decide) ⟨⟨_, rfl, goN rfl, (TOp_callV (call_static ent26 rfl) (m_spec_LargestConflicts_ok u _ _ h_32) rfl rfl rfl ?_)⟩, trivial⟩
        refine TA_listed #[true, true, true, false, false, false, false, false, false, false, false, false, false, false, false, false, false, false, false, false, false, false, false, false, false, false, false, false, false, false, false] rfl ?_
        refine TA_allG [3] (by kernel_rfl) (by decide) ⟨⟨_, rfl, goN rfl, (TOp_callV (call_static ent44 rfl) (m_laws_sameInts_ok _ _ _ h_34) rfl rfl rfl ?_)⟩, trivial⟩
        refine TA_listed #[true, true, true, true, false, false, false, false, false, false, false, false, false, false, false, false, false, false, false, false, false, false, false, false, false, false, false, false, false, false, false] rfl ?_
        refine tf 4 rfl (purI_move rfl) rfl rfl (by kernel_rfl) ?_
        refine TA_bool 75 g_35 rfl ?_
        refine TA_off 5 #[true, true, true, true, true, true, false, false, false, false, false, false, false, false, false, false, false, false, false, false, false, false, false, false, false, false, false, false, false, false, false] rfl rfl rfl (by decide) rfl rfl rfl rfl (by kernel_rfl) (by kernel_rfl) (by kernel_rfl) ?_
        refine TA_off 6 #[true, true, true, true, true, true, true, false, false, false, false, false, false, false, false, false, false, false, false, false, false, false, false, false, false, false, false, false, false, false, false] rfl rfl rfl (by decide) rfl rfl rfl rfl (by kernel_rfl) (by kernel_rfl) (by kernel_rfl) ?_
        refine TA_off 7 #[true, true, true, true, true, true, true, true, false, false, false, false, false, false, false, false, false, false, false, false, false, false, false, false, false, false, false, false, false, false, false] rfl rfl rfl (by decide) rfl rfl rfl rfl (by kernel_rfl) (by kernel_rfl) (by kernel_rfl) ?_
        refine TA_off 8 #[true, true, true, true, true, true, true, true, true, false, false, false, false, false, false, false, false, false, false, false, false, false, false, false, false, false, false, false, false, false, false] rfl rfl rfl (by decide) rfl rfl rfl rfl (by kernel_rfl) (by kernel_rfl) (by kernel_rfl) ?_
        refine TA_off 9 #[true, true, true, true, true, true, true, true, true, true, false, false, false, false, false, false, false, false, false, false, false, false, false, false, false, false, false, false, false, false, false] rfl rfl rfl (by decide) rfl rfl rfl rfl (by kernel_rfl) (by kernel_rfl) (by kernel_rfl) ?_
        refine TA_off 10 #[true, true, true, true, true, true, true, true, true, true, true, false, false, false, false, false, false, false, false, false, false, false, false, false, false, false, false, false, false, false, false] rfl rfl rfl (by decide) rfl rfl rfl rfl (by kernel_rfl) (by kernel_rfl) (by kernel_rfl) ?_
        refine TA_off 11 #[true, true, true, true, true, true, true, true, true, true, true, true, false, false, false, false, false, false, false, false, false, false, false, false, false, false, false, false, false, false, false] rfl rfl rfl (by decide) rfl rfl rfl rfl (by kernel_rfl) (by kernel_rfl) (by kernel_rfl) ?_
        refine TA_off 12 #[true, true, true, true, true, true, true, true, true, true, true, true, true, false, false, false, false, false, false, false, false, false, false, false, false, false, false, false, false, false, false] rfl rfl rfl (by decide) rfl rfl rfl rfl (by kernel_rfl) (by kernel_rfl) (by kernel_rfl) ?_
        refine TA_off 13 #[true, true, true, true, true, true, true, true, true, true, true, true, true, true, false, false, false, false, false, false, false, false, false, false, false, false, false, false, false, false, false] rfl rfl rfl (by decide) rfl rfl rfl rfl (by kernel_rfl) (by kernel_rfl) (by kernel_rfl) ?_
        refine TA_off 14 #[true, true, true, true, true, true, true, true, true, true, true, true, true, true, true, false, false, false, false, false, false, false, false, false, false, false, false, false, false, false, false] rfl rfl rfl (by decide) rfl rfl rfl rfl (by kernel_rfl) (by kernel_rfl) (by kernel_rfl) ?_
        refine TA_off 15 #[true, true, true, true, true, true, true, true, true, true, true, true, true, true, true, true, false, false, false, false, false, false, false, false, false, false, false, false, false, false, false] rfl rfl rfl (by decide) rfl rfl rfl rfl (by kernel_rfl) (by kernel_rfl) (by kernel_rfl) ?_
        refine TA_off 16 #[true, true, true, true, true, true, true, true, true, true, true, true, true, true, true, true, true, false, false, false, false, false, false, false, false, false, false, false, false, false, false] rfl rfl rfl (by decide) rfl rfl rfl rfl (by kernel_rfl) (by kernel_rfl) (by kernel_rfl) ?_
        refine TA_off 17 #[true, true, true, true, true, true, true, true, true, true, true, true, true, true, true, true, true, true, false, false, false, false, false, false, false, false, false, false, false, false, false] rfl rfl rfl (by decide) rfl rfl rfl rfl (by kernel_rfl) (by kernel_rfl) (by kernel_rfl) ?_
        refine TA_off 18 #[true, true, true, true, true, true, true, true, true, true, true, true, true, true, true, true, true, true, true, false, false, false, false, false, false, false, false, false, false, false, false] rfl rfl rfl (by decide) rfl rfl rfl rfl (by kernel_rfl) (by kernel_rfl) (by kernel_rfl) ?_
        refine TA_off 19 #[true, true, true, true, true, true, true, true, true, true, true, true, true, true, true, true, true, true, true, true, false, false, false, false, false, false, false, false, false, false, false] rfl rfl rfl (by decide) rfl rfl rfl rfl (by kernel_rfl) (by kernel_rfl) (by kernel_rfl) ?_
        refine TA_off 20 #[true, true, true, true, true, true, true, true, true, true, true, true, true, true, true, true, true, true, true, true, true, false, false, false, false, false, false, false, false, false, false] rfl rfl rfl (by decide) rfl rfl rfl rfl (by kernel_rfl) (by kernel_rfl) (by kernel_rfl) ?_
        refine TA_off 21 #[true, true, true, true, true, true, true, true, true, true, true, true, true, true, true, true, true, true, true, true, true, true, false, false, false, false, false, false, false, false, false] rfl rfl rfl (by decide) rfl rfl rfl rfl (by kernel_rfl) (by kernel_rfl) (by kernel_rfl) ?_
        refine TA_off 22 #[true, true, true, true, true, true, true, true, true, true, true, true, true, true, true, true, true, true, true, true, true, true, true, false, false, false, false, false, false, false, false] rfl rfl rfl (by decide) rfl rfl rfl rfl (by kernel_rfl) (by kernel_rfl) (by kernel_rfl) ?_
        refine TA_off 23 #[true, true, true, true, true, true, true, true, true, true, true, true, true, true, true, true, true, true, true, true, true, true, true, true, false, false, false, false, false, false, false] rfl rfl rfl (by decide) rfl rfl rfl rfl (by kernel_rfl) (by kernel_rfl) (by kernel_rfl) ?_
        refine TA_off 24 #[true, true, true, true, true, true, true, true, true, true, true, true, true, true, true, true, true, true, true, true, true, true, true, true, true, false, false, false, false, false, false] rfl rfl rfl (by decide) rfl rfl rfl rfl (by kernel_rfl) (by kernel_rfl) (by kernel_rfl) ?_
        refine TA_off 25 #[true, true, true, true, true, true, true, true, true, true, true, true, true, true, true, true, true, true, true, true, true, true, true, true, true, true, false, false, false, false, false] rfl rfl rfl (by decide) rfl rfl rfl rfl (by kernel_rfl) (by kernel_rfl) (by kernel_rfl) ?_
        refine TA_off 26 #[true, true, true, true, true, true, true, true, true, true, true, true, true, true, true, true, true, true, true, true, true, true, true, true, true, true, true, false, false, false, false] rfl rfl rfl (by decide) rfl rfl rfl rfl (by kernel_rfl) (by kernel_rfl) (by kernel_rfl) ?_
        refine TA_off 27 #[true, true, true, true, true, true, true, true, true, true, true, true, true, true, true, true, true, true, true, true, true, true, true, true, true, true, true, true, false, false, false] rfl rfl rfl (by decide) rfl rfl rfl rfl (by kernel_rfl) (by kernel_rfl) (by kernel_rfl) ?_
        refine TA_off 28 #[true, true, true, true, true, true, true, true, true, true, true, true, true, true, true, true, true, true, true, true, true, true, true, true, true, true, true, true, true, false, false] rfl rfl rfl (by decide) rfl rfl rfl rfl (by kernel_rfl) (by kernel_rfl) (by kernel_rfl) ?_
        refine TA_allG [29] (by kernel_rfl) (by decide) ⟨⟨_, rfl, goN rfl, (TOp_pure (pur_pick (t := false) rfl rfl rfl) rfl ?_)⟩, trivial⟩
        refine TA_listed #[true, true, true, true, true, true, true, true, true, true, true, true, true, true, true, true, true, true, true, true, true, true, true, true, true, true, true, true, true, true, false] rfl ?_
        refine tf 30 rfl (purI_assign rfl) rfl rfl (by kernel_rfl) ?_
        refine tae [(2, (boolA false))] rfl ?_
        refine TA_nil (by kernel_rfl) ?_
        exact joined false (wp 0 (lb rfl) rfl rfl rfl rfl rfl) (some_inj H).symm
      ·rintro _ rfl
       replace H := H_30
       refine te [(2, (boolA t2_29))] rfl ?_
       refine T_ret ?_
       obtain rfl := some_inj H
       refine end_ret (.tmp .nil) rfl rfl ⟨?_, rfl⟩
       rfl
end Go.Proofs.Ytjdpolnakhmkmaa

/- Walks. -/
import Derived.Test.YtjdpolnakhmkmaaM1
import Derived.Test.YtjdpolnakhmkmaaM2
import Derived.Test.YtjdpolnakhmkmaaM3
import Derived.Test.YtjdpolnakhmkmaaM6
set_option linter.unusedVariables false
set_option linter.unusedSimpArgs false
set_option maxRecDepth 4000
namespace Go.Proofs.Ytjdpolnakhmkmaa
open Go Go.Proofs Go.Sep
set_option maxHeartbeats 1000000 in
/-- impl.areIndices -/
theorem m_impl_areIndices_ok (indices0 : (List Int)) (n1 : Int) (r : Bool) (H : m_impl_areIndices indices0 n1 = some r) : FnV prg 184 [(sl tInt indices0), (intA n1)] (boolA r) := by
  unfold m_impl_areIndices at H
  refine fnV_of_T Try.func184 rfl rfl (Nat.le_of_ble_eq_true rfl) ?_
  refine te [(0, (sl tInt indices0)), (1, (intA n1))] rfl ?_
  refine sr ?_
  refine Tp rfl rfl (pur_assign rfl) rfl ?_
  refine TO_nil ?_
  refine te [(0, (sl tInt indices0)), (1, (intA n1))] rfl ?_
  refine T_seq ?_
  refine sr ?_
  refine Tp rfl rfl (pur_move rfl) rfl ?_
  refine Tp rfl rfl (pur_lenT (T := tInt) sl23 rfl rfl) rfl ?_
  refine Tp rfl rfl (pur_move rfl) rfl ?_
  refine TO_nil ?_
  refine te [(0, (sl tInt indices0)), (1, (intA n1)), (7, (sl tInt indices0)), (8, (intA (indices0.length : Int))), (9, (intA 0))] rfl ?_
  obtain ⟨O2_, L2_, N2_⟩ := bind_inv H
  clear H
  obtain ⟨B2_, hb2, L2_⟩ := gen_forL L2_
  refine T_block ?_
  refine T_loopX (fun k => fun (t_1 : Nat) => k = indices0.length - t_1 ∧ forL B2_ (indices0.drop t_1) (t_1 : Int) () = some O2_) (fun (t_1 : Nat) => [(0, (sl tInt indices0)), (1, (intA n1)), (7, (sl tInt indices0)), (8, (intA (indices0.length : Int))), (9, (intA (t_1 : Int)))]) (fun (t_1 : Nat) => []) _ (0 : Nat) (wp 0 (lb rfl) rfl rfl rfl rfl rfl) ⟨rfl, L2_⟩ ?_
  rintro _ t_1 ⟨rfl, L2_⟩
  refine te [(0, (sl tInt indices0)), (1, (intA n1)), (7, (sl tInt indices0)), (8, (intA (indices0.length : Int))), (9, (intA (t_1 : Int)))] rfl ?_
  refine T_st (σ' := []) rfl ?_
  refine T_fact (len_sl (T := tInt) (.tmp 0) rfl) (fun hl2 => ?_)
  refine sr ?_
  refine Tp rfl rfl (pur_lss rfl rfl rfl) rfl ?_
  refine TO_nil ?_
  refine te [(0, (sl tInt indices0)), (1, (intA n1)), (7, (sl tInt indices0)), (8, (intA (indices0.length : Int))), (9, (intA (t_1 : Int))), (10, (boolA (decide ((t_1 : Int) < (indices0.length : Int)))))] rfl ?_
  refine T_seq ?_
  refine T_cond (t := decide ((t_1 : Int) < (indices0.length : Int))) rfl (fun d2 => ?_) (fun d2 => ?_)
  ·replace d2 := of_decide_eq_true d2
   obtain ⟨x_t_1, hx_t_1⟩ : ∃ v, (indices0)[t_1]? = some v := ⟨_, List.getElem?_eq_getElem (by omega)⟩
   obtain ⟨C2_, H, K2_⟩ := forL_step L2_ hx_t_1
   rw [hb2] at H
   refine T_skip ?_
   refine te [(0, (sl tInt indices0)), (1, (intA n1)), (7, (sl tInt indices0)), (8, (intA (indices0.length : Int))), (9, (intA (t_1 : Int)))] rfl ?_
   refine T_seq ?_
   refine T_block ?_
   refine sr ?_
   refine Tp rfl rfl (pur_move rfl) rfl ?_
   refine Tp rfl rfl (pur_ixT (T := tInt) sl23 rfl rfl rfl hx_t_1 rfl) rfl ?_
   refine Tp rfl rfl (pur_ldT (T := tInt) (i := t_1) (off := 0) rfl one3 rfl rfl hx_t_1 rfl) rfl ?_
   refine Tp rfl rfl (pur_assign rfl) rfl ?_
   refine Tp rfl rfl (pur_assign rfl) rfl ?_
   refine TO_nil ?_
   refine te [(0, (sl tInt indices0)), (1, (intA n1)), (5, (intA (t_1 : Int))), (6, (intA x_t_1)), (7, (sl tInt indices0)), (8, (intA (indices0.length : Int))), (9, (intA (t_1 : Int)))] rfl ?_
   obtain ⟨t31_3, J_3, H_4⟩ := bind_inv H
   refine T_cutX (fun x => t31_3 = x) (fun (t31_3 : Bool) => [(0, (sl tInt indices0)), (1, (intA n1)), (7, (sl tInt indices0)), (8, (intA (indices0.length : Int))), (9, (intA (t_1 : Int))), (31, (boolA t31_3))]) (fun (t31_3 : Bool) => []) ?_ ?_
   ·replace H := J_3
    refine T_region ?_
    refine Tp rfl rfl (pur_move rfl) rfl ?_
    refine Tp rfl rfl (pur_move rfl) rfl ?_
    refine Tp rfl rfl (pur_wsub rfl rfl rfl) rfl ?_
    obtain ⟨r_5, h_6, H⟩ := bind_inv H
    refine TO_cons rfl (TOp_callV (call_static ent140 rfl) (m_impl_within_ok _ _ _ _ h_6) rfl rfl rfl ?_)
    refine Tp rfl rfl (pur_not rfl rfl) rfl ?_
    refine Tp rfl rfl (pur_move rfl) rfl ?_
    refine TO_split (t := (!r_5)) 19 rfl (fun g_7 => ?_) (fun g_7 => ?_)
    ·replace H := cond_t g_7 H
     refine TO_off rfl rfl (by decide) rfl rfl rfl ?_
     refine TO_off rfl rfl (by decide) rfl rfl rfl ?_
     refine TO_off rfl rfl (by decide) rfl rfl rfl ?_
     refine TO_off rfl rfl (by decide) rfl rfl rfl ?_
     refine TO_off rfl rfl (by decide) rfl rfl rfl ?_
     refine TO_off rfl rfl (by decide) rfl rfl rfl ?_
     refine TO_off rfl rfl (by decide) rfl rfl rfl ?_
     refine TO_off rfl rfl (by decide) rfl rfl rfl ?_
     refine toe [(0, (sl tInt indices0)), (1, (intA n1)), (6, (intA x_t_1)), (7, (sl tInt indices0)), (8, (intA (indices0.length : Int))), (9, (intA (t_1 : Int))), (19, (boolA true)), (22, (.v undef)), (27, (.v undef))] rfl ?_
     refine TO_off rfl rfl (by decide) rfl rfl rfl ?_
     refine TO_off rfl rfl (by decide) rfl rfl rfl ?_
     refine TO_off rfl rfl (by decide) rfl rfl rfl ?_
     refine Tp rfl rfl (pur_pick (t := true) rfl rfl rfl) rfl ?_
     refine TO_nil ?_
     exact joined true (wp 0 (lb rfl) rfl rfl rfl rfl rfl) (some_inj H).symm
    ·replace H := cond_f g_7 H
     refine TO_on rfl rfl (by decide) rfl rfl (TOp_pure (pur_move rfl) rfl ?_)
     refine TO_on rfl rfl (by decide) rfl rfl (TOp_pure (pur_gtr rfl rfl rfl) rfl ?_)
     refine TO_on rfl rfl (by decide) rfl rfl (TOp_pure (pur_move rfl) rfl ?_)
     refine TO_split (t := decide (0 < (t_1 : Int))) 22 rfl (fun g_8 => ?_) (fun g_8 => ?_)
     ·replace H := cond_t g_8 H
      refine TO_on rfl rfl (by decide) rfl rfl (TOp_pure (pur_move rfl) rfl ?_)
      refine TO_on rfl rfl (by decide) rfl rfl (TOp_pure (pur_move rfl) rfl ?_)
      refine TO_on rfl rfl (by decide) rfl rfl (TOp_pure (pur_sub rfl rfl rfl (fits64 (by omega) (by omega))) rfl ?_)
      obtain ⟨v_9, h_10, H⟩ := bind_inv H
      obtain ⟨n_11, hz_12, hv_13⟩ := getI_inv h_10
      refine TO_on rfl rfl (by decide) rfl rfl (TOp_pure (pur_ixT (T := tInt) sl23 rfl rfl hz_12 hv_13 rfl) rfl ?_)
      refine TO_on rfl rfl (by decide) rfl rfl (TOp_pure (pur_ldT (T := tInt) (i := n_11) (off := 0) rfl one3 rfl rfl hv_13 rfl) rfl ?_)
      refine TO_on rfl rfl (by decide) rfl rfl (TOp_pure (pur_move rfl) rfl ?_)
      refine TO_on rfl rfl (by decide) rfl rfl (TOp_pure (pur_geq rfl rfl rfl) rfl ?_)
      refine TO_on rfl rfl (by decide) rfl rfl (TOp_pure (pur_pick (t := true) rfl rfl rfl) rfl ?_)
      refine Tp rfl rfl (pur_pick (t := false) rfl rfl rfl) rfl ?_
      refine TO_nil ?_
      exact joined (decide (x_t_1 ≤ v_9)) (wp 0 (lb rfl) rfl rfl rfl rfl rfl) (some_inj H).symm
     ·replace H := cond_f g_8 H
      refine TO_off rfl rfl (by decide) rfl rfl rfl ?_
      refine TO_off rfl rfl (by decide) rfl rfl rfl ?_
      refine TO_off rfl rfl (by decide) rfl rfl rfl ?_
      refine TO_off rfl rfl (by decide) rfl rfl rfl ?_
      refine TO_off rfl rfl (by decide) rfl rfl rfl ?_
      refine TO_off rfl rfl (by decide) rfl rfl rfl ?_
      refine TO_off rfl rfl (by decide) rfl rfl rfl ?_
      refine TO_on rfl rfl (by decide) rfl rfl (TOp_pure (pur_pick (t := false) rfl rfl rfl) rfl ?_)
      refine Tp rfl rfl (pur_pick (t := false) rfl rfl rfl) rfl ?_
      refine TO_nil ?_
      exact joined false (wp 0 (lb rfl) rfl rfl rfl rfl rfl) (some_inj H).symm
   ·rintro _ rfl
    replace H := H_4
    refine te [(0, (sl tInt indices0)), (1, (intA n1)), (7, (sl tInt indices0)), (8, (intA (indices0.length : Int))), (9, (intA (t_1 : Int))), (31, (boolA t31_3))] rfl ?_
    refine T_cond (t := t31_3) rfl (fun c_14 => ?_) (fun c_14 => ?_)
    ·replace H := cond_t c_14 H
     refine sr ?_
     refine Tp rfl rfl (pur_assign rfl) rfl ?_
     refine TO_nil ?_
     refine te [(4, (boolA false))] rfl ?_
     refine T_ret ?_
     refine block_ret ?_
     refine then_ret ?_
     refine then_ret ?_
     refine block_ret ?_
     refine then_ret ?_
     obtain rfl := some_inj H
     obtain rfl := some_inj K2_
     replace H := onS_r N2_
     obtain rfl := some_inj H
     refine end_ret (.tmp .nil) rfl rfl ⟨?_, rfl⟩
     rfl
    ·replace H := cond_f c_14 H
     refine T_skip ?_
     refine te [(0, (sl tInt indices0)), (1, (intA n1)), (7, (sl tInt indices0)), (8, (intA (indices0.length : Int))), (9, (intA (t_1 : Int)))] rfl ?_
     refine T_region ?_
     refine Tp rfl rfl (pur_add rfl rfl rfl (fits64 (by omega) (by omega))) rfl ?_
     refine Tp rfl rfl (pur_move rfl) rfl ?_
     refine TO_nil ?_
     obtain rfl := some_inj H
     exact again (indices0.length - (t_1 + 1)) (t_1 + 1) (by omega) (wp 0 (lb rfl) rfl rfl rfl rfl rfl) ⟨rfl, K2_⟩
  ·replace d2 := of_decide_eq_false d2
   obtain rfl := forL_end L2_ (by omega)
   refine T_exit ?_
   refine then_exit ?_
   refine then_exit ?_
   refine block_exit ?_
   replace H := onS_l N2_
   refine te [] rfl ?_
   refine sr ?_
   refine Tp rfl rfl (pur_assign rfl) rfl ?_
   refine TO_nil ?_
   refine te [(4, (boolA true))] rfl ?_
   refine T_ret ?_
   obtain rfl := some_inj H
   refine end_ret (.tmp .nil) rfl rfl ⟨?_, rfl⟩
   rfl

set_option maxHeartbeats 1000000 in
/-- impl.SelectFacts -/
theorem m_impl_SelectFacts_ok (db0 : Database) (indices1 : (List Int)) (r : (Database × Bool)) (H : m_impl_SelectFacts db0 indices1 = some r) : FnV prg 172 [(.g (tDatabase.enc db0)), (sl tInt indices1)] (.t [(.g (tDatabase.enc r.1)), (boolA r.2)]) := by
  unfold m_impl_SelectFacts at H
  refine fnV_of_T Try.func172 rfl rfl (Nat.le_of_ble_eq_true rfl) ?_
  refine te [(0, (.g (tDatabase.enc db0))), (1, (sl tInt indices1))] rfl ?_
  refine sr ?_
  refine TO_cons rfl (TOp_box rfl (boxAll rfl) rfl rfl ?_)
  refine TO_cons rfl (TOp_alloc zero48 rfl rfl ?_)
  refine Tp rfl rfl (pur_assign rfl) rfl ?_
  refine TO_nil ?_
  refine te [(1, (sl tInt indices1)), (2, (.b 0 0)), (4, (.b 1 0))] rfl ?_
  refine T_seq ?_
  obtain ⟨t20_1, J_1, H_2⟩ := bind_inv H
  refine T_cutX (fun x => t20_1 = x) (fun (t20_1 : Bool) => [(1, (sl tInt indices1)), (2, (.b 0 0)), (4, (.b 1 0)), (20, (boolA t20_1))]) (fun (t20_1 : Bool) => [.box [(sl tRelation db0.relations), (sl tFact db0.facts)], .box [.n, .n]]) ?_ ?_
  ·replace H := J_1
   refine T_region ?_
   refine Tp rfl rfl (pur_ldK_b agg48 rfl rfl (lb rfl) rfl) rfl ?_
   obtain ⟨r_3, h_4, H⟩ := bind_inv H
   refine TO_cons rfl (TOp_callV (call_static ent117 rfl) (m_impl_IsValidDatabase_ok _ _ h_4) rfl rfl rfl ?_)
   refine Tp rfl rfl (pur_not rfl rfl) rfl ?_
   refine Tp rfl rfl (pur_move rfl) rfl ?_
   refine TO_split (t := (!r_3)) 13 rfl (fun g_5 => ?_) (fun g_5 => ?_)
   ·replace H := cond_t g_5 H
    refine TO_off rfl rfl (by decide) rfl rfl rfl ?_
    refine TO_off rfl rfl (by decide) rfl rfl rfl ?_
    refine TO_off rfl rfl (by decide) rfl rfl rfl ?_
    refine TO_off rfl rfl (by decide) rfl rfl rfl ?_
    refine TO_off rfl rfl (by decide) rfl rfl rfl ?_
    refine TO_off rfl rfl (by decide) rfl rfl rfl ?_
    refine Tp rfl rfl (pur_pick (t := true) rfl rfl rfl) rfl ?_
    refine TO_nil ?_
    exact joined true (wp 2 (lb rfl) rfl rfl rfl rfl rfl) (some_inj H).symm
   ·replace H := cond_f g_5 H
    refine TO_on rfl rfl (by decide) rfl rfl (TOp_pure (pur_move rfl) rfl ?_)
    refine TO_on rfl rfl (by decide) rfl rfl (TOp_pure (pur_fa_b fld48_1 rfl rfl) rfl ?_)
    refine TO_on rfl rfl (by decide) rfl rfl (TOp_pure (pur_ld_b one46 rfl rfl rfl rfl) rfl ?_)
    refine TO_on rfl rfl (by decide) rfl rfl (TOp_pure (pur_lenT (T := tFact) sl46 rfl rfl) rfl ?_)
    obtain ⟨r_6, h_7, H⟩ := bind_inv H
    refine TO_on rfl rfl (by decide) rfl rfl (TOp_callV (call_static ent184 rfl) (m_impl_areIndices_ok _ _ _ h_7) rfl rfl rfl ?_)
    refine TO_on rfl rfl (by decide) rfl rfl (TOp_pure (pur_not rfl rfl) rfl ?_)
    refine Tp rfl rfl (pur_pick (t := false) rfl rfl rfl) rfl ?_
    refine TO_nil ?_
    exact joined (!r_6) (wp 2 (lb rfl) rfl rfl rfl rfl rfl) (some_inj H).symm
  ·rintro _ rfl
   replace H := H_2
   refine te [(1, (sl tInt indices1)), (2, (.b 0 0)), (4, (.b 1 0)), (20, (boolA t20_1))] rfl ?_
   refine T_cond (t := t20_1) rfl (fun c_8 => ?_) (fun c_8 => ?_)
   ·replace H := cond_t c_8 H
    refine sr ?_
    refine Tp rfl rfl (pur_build bld48 rfl rfl) rfl ?_
    refine TO_cons rfl (TOp_storeB sz48 rfl rfl rfl rfl rfl rfl rfl (by decide) (lb rfl) rfl ?_)
    refine TO_st (σ' := [.box [(sl tRelation db0.relations), (sl tFact db0.facts)], .box [.n, .n]]) rfl ?_
    refine Tp rfl rfl (pur_assign rfl) rfl ?_
    refine TO_nil ?_
    refine te [(4, (.b 1 0)), (5, (boolA false))] rfl ?_
    refine T_boxle (xs := [.n, .n]) (ys := [(sl tRelation []), (sl tFact [])]) 1 rfl (leCons leN (leCons leN leNil)) ?_
    refine T_st (σ' := [.box [(sl tRelation db0.relations), (sl tFact db0.facts)], .box [(sl tRelation []), (sl tFact [])]]) rfl ?_
    refine T_ret ?_
    refine then_ret ?_
    obtain rfl := some_inj H
    refine end_ret (.cellK rfl agg48 rfl (lb rfl) (.tmp .nil)) rfl rfl ⟨?_, rfl⟩
    rfl
   ·replace H := cond_f c_8 H
    refine T_skip ?_
    refine te [(1, (sl tInt indices1)), (2, (.b 0 0)), (4, (.b 1 0))] rfl ?_
    refine sr ?_
    refine Tp rfl rfl (pur_ldK_b agg48 rfl rfl (lb rfl) rfl) rfl ?_
    obtain ⟨r_9, h_10, H⟩ := bind_inv H
    refine TO_cons rfl (TOp_callO (call_static ent107 rfl) rfl (m_impl_copyDatabase_own _ _ h_10) rfl rfl rfl ?_)
    refine toe [(1, (sl tInt indices1)), (2, (.b 0 0)), (4, (.b 1 0)), (22, (.g (tDatabase.enc db0))), (23, (.g [(.m [2] 0 r_9.relations.length tRelation.k), (.m [3] 0 r_9.facts.length tFact.k)]))] rfl ?_
    refine TO_st (σ' := [.box [(sl tRelation db0.relations), (sl tFact db0.facts)], .box [.n, .n], .row (flat tRelation.enc r_9.relations), .row (flat tFact.enc r_9.facts)]) rfl ?_
    refine TO_cons rfl (TOp_alloc zero48 rfl rfl ?_)
    refine TO_cons rfl (TOp_storeB sz48 rfl rfl rfl rfl rfl rfl rfl (by decide) (lb rfl) rfl ?_)
    refine TO_st (σ' := [.box [(sl tRelation db0.relations), (sl tFact db0.facts)], .box [.n, .n], .row (flat tRelation.enc r_9.relations), .row (flat tFact.enc r_9.facts), .box [(.m [2] 0 r_9.relations.length tRelation.k), (.m [3] 0 r_9.facts.length tFact.k)]]) rfl ?_
    refine TO_nil ?_
    refine te [(1, (sl tInt indices1)), (4, (.b 1 0)), (6, (.b 4 0))] rfl ?_
    refine sr ?_
    refine Tp rfl rfl (pur_fa_b fld48_0 rfl rfl) rfl ?_
    refine Tp rfl rfl (pur_ld_b one45 rfl rfl rfl rfl) rfl ?_
    refine Tp rfl rfl (pur_build bld48 rfl rfl) rfl ?_
    refine TO_cons rfl (TOp_alloc zero48 rfl rfl ?_)
    refine TO_cons rfl (TOp_storeB sz48 rfl rfl rfl rfl rfl rfl rfl (by decide) (lb rfl) rfl ?_)
    refine TO_st (σ' := [.box [(sl tRelation db0.relations), (sl tFact db0.facts)], .box [.n, .n], .row (flat tRelation.enc r_9.relations), .row (flat tFact.enc r_9.facts), .box [(.m [2] 0 r_9.relations.length tRelation.k), (.m [3] 0 r_9.facts.length tFact.k)], .box [(.m [2] 0 r_9.relations.length tRelation.k), .n]]) rfl ?_
    refine TO_nil ?_
    refine te [(1, (sl tInt indices1)), (4, (.b 1 0)), (6, (.b 4 0)), (7, (.b 5 0))] rfl ?_
    refine T_seq ?_
    refine sr ?_
    refine Tp rfl rfl (pur_move rfl) rfl ?_
    refine Tp rfl rfl (pur_lenT (T := tInt) sl23 rfl rfl) rfl ?_
    refine Tp rfl rfl (pur_move rfl) rfl ?_
    refine TO_nil ?_
    refine te [(4, (.b 1 0)), (6, (.b 4 0)), (7, (.b 5 0)), (27, (sl tInt indices1)), (28, (intA (indices1.length : Int))), (29, (intA 0))] rfl ?_
    refine T_row0 ?_
    refine T_boxle (xs := [(.m [2] 0 r_9.relations.length tRelation.k), .n]) (ys := [(.m [2] 0 r_9.relations.length tRelation.k), (.m [6] 0 ([] : (List Fact)).length tFact.k)]) 5 rfl (leCons (leR rfl) (leCons leM leNil)) ?_
    refine T_st (σ' := [.box [(sl tRelation db0.relations), (sl tFact db0.facts)], .box [.n, .n], .row (flat tRelation.enc r_9.relations), .row (flat tFact.enc r_9.facts), .box [(.m [2] 0 r_9.relations.length tRelation.k), (.m [3] 0 r_9.facts.length tFact.k)], .box [(.m [2] 0 r_9.relations.length tRelation.k), (.m [6] 0 ([] : (List Fact)).length tFact.k)], .row (flat tFact.enc ([] : (List Fact)))]) rfl ?_
    obtain ⟨O12_, L12_, N12_⟩ := bind_inv H
    clear H
    obtain ⟨B12_, hb12, L12_⟩ := gen_forS L12_
    refine T_block ?_
    refine T_loopX (fun k => fun (x_ : Nat × (List Fact)) => k = indices1.length - x_.1 ∧ forS B12_ (indices1.drop x_.1) (x_.1 : Int) x_.2 = some O12_) (fun (x_ : Nat × (List Fact)) => [(4, (.b 1 0)), (6, (.b 4 0)), (7, (.b 5 0)), (27, (sl tInt indices1)), (28, (intA (indices1.length : Int))), (29, (intA (x_.1 : Int)))]) (fun (x_ : Nat × (List Fact)) => [.box [(sl tRelation db0.relations), (sl tFact db0.facts)], .box [.n, .n], .row (flat tRelation.enc r_9.relations), .row (flat tFact.enc r_9.facts), .box [(.m [2] 0 r_9.relations.length tRelation.k), (.m [3] 0 r_9.facts.length tFact.k)], .box [(.m [2] 0 r_9.relations.length tRelation.k), (.m [6] 0 x_.2.length tFact.k)], .row (flat tFact.enc x_.2)]) _ (0, ([] : (List Fact))) (wp 7 (lb rfl) rfl rfl rfl rfl rfl) ⟨rfl, L12_⟩ ?_
    rintro _ ⟨t_11, box5_facts⟩ ⟨rfl, L12_⟩
    refine te [(4, (.b 1 0)), (6, (.b 4 0)), (7, (.b 5 0)), (27, (sl tInt indices1)), (28, (intA (indices1.length : Int))), (29, (intA (t_11 : Int)))] rfl ?_
    refine T_st (σ' := [.box [(sl tRelation db0.relations), (sl tFact db0.facts)], .box [.n, .n], .row (flat tRelation.enc r_9.relations), .row (flat tFact.enc r_9.facts), .box [(.m [2] 0 r_9.relations.length tRelation.k), (.m [3] 0 r_9.facts.length tFact.k)], .box [(.m [2] 0 r_9.relations.length tRelation.k), (.m [6] 0 box5_facts.length tFact.k)], .row (flat tFact.enc box5_facts)]) rfl ?_
    refine T_fact (len_sl (T := tInt) (.tmp 27) rfl) (fun hl12 => ?_)
    refine sr ?_
    refine Tp rfl rfl (pur_lss rfl rfl rfl) rfl ?_
    refine TO_nil ?_
    refine te [(4, (.b 1 0)), (6, (.b 4 0)), (7, (.b 5 0)), (27, (sl tInt indices1)), (28, (intA (indices1.length : Int))), (29, (intA (t_11 : Int))), (30, (boolA (decide ((t_11 : Int) < (indices1.length : Int)))))] rfl ?_
    refine T_seq ?_
    refine T_cond (t := decide ((t_11 : Int) < (indices1.length : Int))) rfl (fun d12 => ?_) (fun d12 => ?_)
    ·replace d12 := of_decide_eq_true d12
     obtain ⟨x_t_11, hx_t_11⟩ : ∃ v, (indices1)[t_11]? = some v := ⟨_, List.getElem?_eq_getElem (by omega)⟩
     obtain ⟨C12_, H, K12_⟩ := forS_step L12_ hx_t_11
     rw [hb12] at H
     refine T_skip ?_
     refine te [(4, (.b 1 0)), (6, (.b 4 0)), (7, (.b 5 0)), (27, (sl tInt indices1)), (28, (intA (indices1.length : Int))), (29, (intA (t_11 : Int)))] rfl ?_
     refine T_seq ?_
     refine T_block ?_
     refine sr ?_
     refine Tp rfl rfl (pur_ixT (T := tInt) sl23 rfl rfl rfl hx_t_11 rfl) rfl ?_
     refine Tp rfl rfl (pur_ldT (T := tInt) (i := t_11) (off := 0) rfl one3 rfl rfl hx_t_11 rfl) rfl ?_
     refine Tp rfl rfl (pur_assign rfl) rfl ?_
     refine TO_nil ?_
     refine te [(4, (.b 1 0)), (6, (.b 4 0)), (7, (.b 5 0)), (9, (intA x_t_11)), (27, (sl tInt indices1)), (28, (intA (indices1.length : Int))), (29, (intA (t_11 : Int)))] rfl ?_
     obtain ⟨v_13, h_14, H⟩ := bind_inv H
     obtain ⟨n_15, hz_16, hv_17⟩ := getI_inv h_14
     obtain ⟨us_18, h_19, H⟩ := bind_inv H
     refine T_pad ?_
     refine T_regionP mixed ?_
     refine TA_have 3 #[true, true, true, true, true, true, true, true, false, false, false] [(4, (.b 1 0)), (6, (.b 4 0)), (7, (.b 5 0)), (27, (sl tInt indices1)), (28, (intA (indices1.length : Int))), (29, (intA (t_11 : Int))), (34, (.m [6] 0 box5_facts.length tFact.k)), (40, (.m [7] 0 ([v_13] : (List Fact)).length tFact.k))] [.box [(sl tRelation db0.relations), (sl tFact db0.facts)], .box [.n, .n], .row (flat tRelation.enc r_9.relations), .row (flat tFact.enc r_9.facts), .box [(.m [2] 0 r_9.relations.length tRelation.k), (.m [3] 0 r_9.facts.length tFact.k)], .box [(.m [2] 0 r_9.relations.length tRelation.k), (.m [6] 0 box5_facts.length tFact.k)], .row (flat tFact.enc box5_facts), .row (flat tFact.enc ([v_13] : (List Fact)))] ?_ (fun hj0_8 => ?_)
     ·skip
      refine t1 8 (by kernel_rfl) rfl rfl (TOp_appY (T := tFact) (f := tFact.enc) (xs := box5_facts) (ys := ([v_13] : (List Fact))) tFact.len sl46 zero65 rfl bytes65 (by decide) rfl rfl rfl rfl (src_mT (f := tFact.enc) tFact.len rfl rfl (flat_cell tFact _)) (flat_cell tFact _) h_19 ?_)
      refine tmv 6 8 (by decide) (lb rfl) rfl rfl (lb rfl) ?_
      refine tf 9 rfl (purI_fa_b fld48_1 rfl rfl) rfl rfl (by kernel_rfl) ?_
      refine t1 10 (by kernel_rfl) rfl rfl (TOp_storeB sz46 rfl rfl rfl rfl rfl rfl rfl (by decide) (lb rfl) rfl ?_)
      refine TA_st (σ' := [.box [(sl tRelation db0.relations), (sl tFact db0.facts)], .box [.n, .n], .row (flat tRelation.enc r_9.relations), .row (flat tFact.enc r_9.facts), .box [(.m [2] 0 r_9.relations.length tRelation.k), (.m [3] 0 r_9.facts.length tFact.k)], .box [(.m [2] 0 r_9.relations.length tRelation.k), (.m [6] 0 us_18.length tFact.k)], .row (flat tFact.enc us_18), .row (flat tFact.enc ([v_13] : (List Fact))), .dead]) rfl ?_
      refine TA_nil (by kernel_rfl) ?_
      refine te [(4, (.b 1 0)), (6, (.b 4 0)), (7, (.b 5 0)), (27, (sl tInt indices1)), (28, (intA (indices1.length : Int))), (29, (intA (t_11 : Int)))] rfl ?_
      refine T_region ?_
      refine Tp rfl rfl (pur_add rfl rfl rfl (fits64 (by omega) (by omega))) rfl ?_
      refine Tp rfl rfl (pur_move rfl) rfl ?_
      refine TO_nil ?_
      obtain rfl := some_inj H
      exact again (indices1.length - (t_11 + 1)) (t_11 + 1, us_18) (by omega) (wp 7 (lb rfl) rfl rfl rfl rfl rfl) ⟨rfl, K12_⟩
     refine TA_have 4 #[true, true, true, true, true, true, true, false, false, false, false] [(4, (.b 1 0)), (6, (.b 4 0)), (7, (.b 5 0)), (27, (sl tInt indices1)), (28, (intA (indices1.length : Int))), (29, (intA (t_11 : Int))), (34, (.m [6] 0 box5_facts.length tFact.k)), (39, (.g (tFact.enc v_13)))] [.box [(sl tRelation db0.relations), (sl tFact db0.facts)], .box [.n, .n], .row (flat tRelation.enc r_9.relations), .row (flat tFact.enc r_9.facts), .box [(.m [2] 0 r_9.relations.length tRelation.k), (.m [3] 0 r_9.facts.length tFact.k)], .box [(.m [2] 0 r_9.relations.length tRelation.k), (.m [6] 0 box5_facts.length tFact.k)], .row (flat tFact.enc box5_facts), .dead] ?_ (fun hj1_8 => ?_)
     ·skip
      refine t1 7 (by kernel_rfl) rfl rfl (TOp_lit (nn := 1) (k := 2) sl46 zero65 rfl rfl rfl rfl (by decide) ?_)
      refine tmv 7 8 (by decide) (lb rfl) rfl rfl (lb rfl) ?_
      exact tj hj0_8 rfl (wp 8 (lb rfl) rfl rfl rfl rfl rfl)
     refine TA_have 5 #[true, true, true, true, true, true, false, false, false, false, false] [(4, (.b 1 0)), (6, (.b 4 0)), (7, (.b 5 0)), (27, (sl tInt indices1)), (28, (intA (indices1.length : Int))), (29, (intA (t_11 : Int))), (34, (.m [6] 0 box5_facts.length tFact.k)), (38, (.e [3] (n_15 * tFact.k)))] [.box [(sl tRelation db0.relations), (sl tFact db0.facts)], .box [.n, .n], .row (flat tRelation.enc r_9.relations), .row (flat tFact.enc r_9.facts), .box [(.m [2] 0 r_9.relations.length tRelation.k), (.m [3] 0 r_9.facts.length tFact.k)], .box [(.m [2] 0 r_9.relations.length tRelation.k), (.m [6] 0 box5_facts.length tFact.k)], .row (flat tFact.enc box5_facts), .dead] ?_ (fun hj2_8 => ?_)
     ·skip
      refine t1 6 (by kernel_rfl) rfl rfl (TOp_pure (pur_ldEK (f := tFact.enc) (k := tFact.k) (i := n_15) (off := 0) tFact.len rfl agg65 rfl rfl rfl hv_17 (by decide) rfl) rfl ?_)
      exact tj hj1_8 rfl (wp 8 (lb rfl) rfl rfl rfl rfl rfl)
     refine tf 0 rfl (purI_fa_b fld48_1 rfl rfl) rfl rfl (by kernel_rfl) ?_
     refine tf 2 rfl (purI_fa_b fld48_1 rfl rfl) rfl rfl (by kernel_rfl) ?_
     refine tf 4 rfl (purI_move rfl) rfl rfl (by kernel_rfl) ?_
     refine TA_all [1, 3] (by kernel_rfl) (by decide) ⟨?_, ?_, trivial⟩
     ·skip
      refine ⟨_, rfl, rfl, (TOp_pure (pur_ld_b one46 rfl rfl rfl rfl) rfl ?_)⟩
      refine t1 3 (by kernel_rfl) rfl rfl (TOp_pure (pur_ld_b one46 rfl rfl rfl rfl) rfl ?_)
      refine tf 5 rfl (purI_ixM (T := tFact) sl46 rfl rfl hz_16 hv_17 rfl) rfl rfl (by kernel_rfl) ?_
      refine tae [(4, (.b 1 0)), (6, (.b 4 0)), (7, (.b 5 0)), (27, (sl tInt indices1)), (28, (intA (indices1.length : Int))), (29, (intA (t_11 : Int))), (34, (.m [6] 0 box5_facts.length tFact.k)), (38, (.e [3] (n_15 * tFact.k)))] rfl ?_
      exact tj hj2_8 rfl (wp 8 (lb rfl) rfl rfl rfl rfl rfl)
     ·skip
      refine ⟨_, rfl, rfl, (TOp_pure (pur_ld_b one46 rfl rfl rfl rfl) rfl ?_)⟩
      refine tf 5 rfl (purI_ixM (T := tFact) sl46 rfl rfl hz_16 hv_17 rfl) rfl rfl (by kernel_rfl) ?_
      refine TA_all [1, 6] (by kernel_rfl) (by decide) ⟨?_, ?_, trivial⟩
      ·skip
       refine ⟨_, rfl, rfl, (TOp_pure (pur_ld_b one46 rfl rfl rfl rfl) rfl ?_)⟩
       exact tj hj2_8 rfl (wp 8 (lb rfl) rfl rfl rfl rfl rfl)
      ·skip
       refine ⟨_, rfl, rfl, (TOp_pure (pur_ldEK (f := tFact.enc) (k := tFact.k) (i := n_15) (off := 0) tFact.len rfl agg65 rfl rfl rfl hv_17 (by decide) rfl) rfl ?_)⟩
       refine TA_all [1, 7] (by kernel_rfl) (by decide) ⟨?_, ?_, trivial⟩
       ·skip
        refine ⟨_, rfl, rfl, (TOp_pure (pur_ld_b one46 rfl rfl rfl rfl) rfl ?_)⟩
        exact tj hj1_8 rfl (wp 8 (lb rfl) rfl rfl rfl rfl rfl)
       ·skip
        refine ⟨_, rfl, rfl, (TOp_lit (nn := 1) (k := 2) sl46 zero65 rfl rfl rfl rfl (by decide) ?_)⟩
        refine tmv 7 8 (by decide) (lb rfl) rfl rfl (lb rfl) ?_
        refine t1 1 (by kernel_rfl) rfl rfl (TOp_pure (pur_ld_b one46 rfl rfl rfl rfl) rfl ?_)
        exact tj hj0_8 rfl (wp 8 (lb rfl) rfl rfl rfl rfl rfl)
    ·replace d12 := of_decide_eq_false d12
     obtain rfl := forS_end L12_ (by omega)
     refine T_exit ?_
     refine then_exit ?_
     refine then_exit ?_
     refine block_exit ?_
     replace H := N12_
     refine te [(4, (.b 1 0)), (7, (.b 5 0))] rfl ?_
     refine sr ?_
     refine Tp rfl rfl (pur_ldK_b agg48 rfl rfl (lb rfl) rfl) rfl ?_
     refine TO_cons rfl (TOp_storeB sz48 rfl rfl rfl rfl rfl rfl rfl (by decide) (lb rfl) rfl ?_)
     refine TO_st (σ' := [.box [(sl tRelation db0.relations), (sl tFact db0.facts)], .box [(.m [2] 0 r_9.relations.length tRelation.k), (.m [6] 0 box5_facts.length tFact.k)], .row (flat tRelation.enc r_9.relations), .row (flat tFact.enc r_9.facts), .box [(.m [2] 0 r_9.relations.length tRelation.k), (.m [3] 0 r_9.facts.length tFact.k)], .box [(.m [2] 0 r_9.relations.length tRelation.k), (.m [6] 0 box5_facts.length tFact.k)], .row (flat tFact.enc box5_facts)]) rfl ?_
     refine Tp rfl rfl (pur_assign rfl) rfl ?_
     refine TO_nil ?_
     refine te [(4, (.b 1 0)), (5, (boolA true))] rfl ?_
     refine T_frzB 2 (E' := [(4, (.b 1 0)), (5, (boolA true))]) (σ' := [.box [(sl tRelation db0.relations), (sl tFact db0.facts)], .box [(sl tRelation r_9.relations), (.m [6] 0 box5_facts.length tFact.k)], .dead, .row (flat tFact.enc r_9.facts), .box [(sl tRelation r_9.relations), (.m [3] 0 r_9.facts.length tFact.k)], .box [(sl tRelation r_9.relations), (.m [6] 0 box5_facts.length tFact.k)], .row (flat tFact.enc box5_facts)]) rfl (lb rfl) ?_ ?_ ?_
     ·exact ⟨(.keep rfl), (.keep rfl), trivial⟩
     ·exact ⟨(fzK rfl), (fzC fz1E (fzC (.keep rfl) fzN)), trivial, rfl, (fzC fz1E (fzC (.keep rfl) fzN)), (fzC fz1E (fzC (.keep rfl) fzN)), rfl, trivial⟩
     refine T_frzB 6 (E' := [(4, (.b 1 0)), (5, (boolA true))]) (σ' := [.box [(sl tRelation db0.relations), (sl tFact db0.facts)], .box [(sl tRelation r_9.relations), (sl tFact box5_facts)], .dead, .row (flat tFact.enc r_9.facts), .box [(sl tRelation r_9.relations), (.m [3] 0 r_9.facts.length tFact.k)], .box [(sl tRelation r_9.relations), (sl tFact box5_facts)], .dead]) rfl (lb rfl) ?_ ?_ ?_
     ·exact ⟨(.keep rfl), (.keep rfl), trivial⟩
     ·exact ⟨(fzK rfl), (fzC (.keep rfl) (fzC fz1E fzN)), trivial, rfl, (fzK rfl), (fzC (.keep rfl) (fzC fz1E fzN)), trivial, trivial⟩
     refine T_ret ?_
     obtain rfl := some_inj H
     refine end_ret (.cellK rfl agg48 rfl (lb rfl) (.tmp .nil)) rfl rfl ⟨?_, rfl⟩
     rfl

set_option maxHeartbeats 1000000 in
/-- impl.withoutFacts -/
theorem m_impl_withoutFacts_ok (db0 : Database) (indices1 : (List Int)) (r : Database) (H : m_impl_withoutFacts db0 indices1 = some r) : FnV prg 129 [(.g (tDatabase.enc db0)), (sl tInt indices1)] (.g (tDatabase.enc r)) := by
  unfold m_impl_withoutFacts at H
  refine fnV_of_T Try.func129 rfl rfl (Nat.le_of_ble_eq_true rfl) ?_
  refine te [(0, (.g (tDatabase.enc db0))), (1, (sl tInt indices1))] rfl ?_
  refine sr ?_
  refine TO_cons rfl (TOp_box rfl (boxAll rfl) rfl rfl ?_)
  refine TO_cons rfl (TOp_alloc zero48 rfl rfl ?_)
  refine TO_nil ?_
  refine te [(1, (sl tInt indices1)), (2, (.b 0 0)), (4, (.b 1 0))] rfl ?_
  refine sr ?_
  refine TO_cons rfl (TOp_lit (nn := 0) (k := 1) sl23 zero3 rfl rfl rfl rfl (by decide) ?_)
  refine TO_st (σ' := [.box [(sl tRelation db0.relations), (sl tFact db0.facts)], .box [.n, .n], .row (flat tInt.enc ([] : (List Int)))]) rfl ?_
  refine Tp rfl rfl (pur_assign rfl) rfl ?_
  refine TO_nil ?_
  refine te [(1, (sl tInt indices1)), (2, (.b 0 0)), (4, (.b 1 0)), (5, (.m [2] 0 ([] : (List Int)).length tInt.k))] rfl ?_
  refine T_seq ?_
  refine sr ?_
  refine Tp rfl rfl (pur_fa_b fld48_1 rfl rfl) rfl ?_
  refine Tp rfl rfl (pur_ld_b one46 rfl rfl rfl rfl) rfl ?_
  refine Tp rfl rfl (pur_lenT (T := tFact) sl46 rfl rfl) rfl ?_
  refine Tp rfl rfl (pur_move rfl) rfl ?_
  refine TO_nil ?_
  refine te [(1, (sl tInt indices1)), (2, (.b 0 0)), (4, (.b 1 0)), (5, (.m [2] 0 ([] : (List Int)).length tInt.k)), (12, (intA (db0.facts.length : Int))), (13, (intA 0))] rfl ?_
  obtain ⟨_, h_3, H⟩ := bind_inv H
  replace h_3 := gN_inv h_3
  obtain ⟨O2_, L2_, N2_⟩ := bind_inv H
  clear H
  obtain ⟨B2_, hb2, L2_⟩ := gen_forM L2_
  refine T_block ?_
  refine T_loopX (fun k => fun (x_ : Int × (List Int)) => k = ((db0.facts.length : Int) - x_.1).toNat ∧ 0 ≤ x_.1 ∧ forM B2_ ((db0.facts.length : Int) - x_.1).toNat x_.1 x_.2 = some O2_) (fun (x_ : Int × (List Int)) => [(1, (sl tInt indices1)), (2, (.b 0 0)), (4, (.b 1 0)), (5, (.m [2] 0 x_.2.length tInt.k)), (12, (intA (db0.facts.length : Int))), (13, (intA (x_.1 : Int)))]) (fun (x_ : Int × (List Int)) => [.box [(sl tRelation db0.relations), (sl tFact db0.facts)], .box [.n, .n], .row (flat tInt.enc x_.2)]) _ (0, ([] : (List Int))) (wp 3 (lb rfl) rfl rfl rfl rfl rfl) ⟨rfl, Int.le_refl _, L2_⟩ ?_
  rintro _ ⟨t_1, all5⟩ ⟨rfl, hi2, L2_⟩
  refine te [(1, (sl tInt indices1)), (2, (.b 0 0)), (4, (.b 1 0)), (5, (.m [2] 0 all5.length tInt.k)), (12, (intA (db0.facts.length : Int))), (13, (intA (t_1 : Int)))] rfl ?_
  refine T_st (σ' := [.box [(sl tRelation db0.relations), (sl tFact db0.facts)], .box [.n, .n], .row (flat tInt.enc all5)]) rfl ?_
  refine sr ?_
  refine Tp rfl rfl (pur_lss rfl rfl rfl) rfl ?_
  refine TO_nil ?_
  refine te [(1, (sl tInt indices1)), (2, (.b 0 0)), (4, (.b 1 0)), (5, (.m [2] 0 all5.length tInt.k)), (12, (intA (db0.facts.length : Int))), (13, (intA (t_1 : Int))), (14, (boolA (decide ((t_1 : Int) < (db0.facts.length : Int)))))] rfl ?_
  refine T_seq ?_
  refine T_cond (t := decide ((t_1 : Int) < (db0.facts.length : Int))) rfl (fun d2 => ?_) (fun d2 => ?_)
  ·replace d2 := of_decide_eq_true d2
   obtain ⟨C2_, H, K2_⟩ := forM_step L2_ d2
   rw [hb2] at H
   refine T_skip ?_
   refine te [(1, (sl tInt indices1)), (2, (.b 0 0)), (4, (.b 1 0)), (5, (.m [2] 0 all5.length tInt.k)), (12, (intA (db0.facts.length : Int))), (13, (intA (t_1 : Int)))] rfl ?_
   refine T_seq ?_
   refine T_block ?_
   refine sr ?_
   refine Tp rfl rfl (pur_move rfl) rfl ?_
   refine Tp rfl rfl (pur_assign rfl) rfl ?_
   refine TO_nil ?_
   refine te [(1, (sl tInt indices1)), (2, (.b 0 0)), (4, (.b 1 0)), (5, (.m [2] 0 all5.length tInt.k)), (6, (intA (t_1 : Int))), (12, (intA (db0.facts.length : Int))), (13, (intA (t_1 : Int)))] rfl ?_
   refine T_region ?_
   refine Tp rfl rfl (pur_move rfl) rfl ?_
   refine Tp rfl rfl (pur_move rfl) rfl ?_
   refine TO_cons rfl (TOp_lit (nn := 1) (k := 1) sl23 zero3 rfl rfl rfl rfl (by decide) ?_)
   refine TO_st (σ' := [.box [(sl tRelation db0.relations), (sl tFact db0.facts)], .box [.n, .n], .row (flat tInt.enc all5), .row (flat tInt.enc ([(t_1 : Int)] : (List Int)))]) rfl ?_
   obtain ⟨us_4, h_5, H⟩ := bind_inv H
   refine TO_cons rfl (TOp_appZ (T := tInt) (f := tInt.enc) (xs := all5) (ys := ([(t_1 : Int)] : (List Int))) tInt.len sl23 zero3 rfl bytes3 (by decide) rfl rfl rfl rfl (src_mT (f := tInt.enc) tInt.len rfl rfl (flat_cell tInt _)) (flat_cell tInt _) h_5 (lb rfl) ?_)
   refine toe [(1, (sl tInt indices1)), (2, (.b 0 0)), (4, (.b 1 0)), (6, (intA (t_1 : Int))), (12, (intA (db0.facts.length : Int))), (13, (intA (t_1 : Int))), (17, (intA (t_1 : Int))), (18, (.m [3] 0 ([(t_1 : Int)] : (List Int)).length tInt.k)), (19, (.m [2] 0 us_4.length tInt.k))] rfl ?_
   refine TO_st (σ' := [.box [(sl tRelation db0.relations), (sl tFact db0.facts)], .box [.n, .n], .row (flat tInt.enc us_4), .row (flat tInt.enc ([(t_1 : Int)] : (List Int))), .dead]) rfl ?_
   refine Tp rfl rfl (pur_assign rfl) rfl ?_
   refine TO_nil ?_
   refine te [(1, (sl tInt indices1)), (2, (.b 0 0)), (4, (.b 1 0)), (5, (.m [2] 0 us_4.length tInt.k)), (12, (intA (db0.facts.length : Int))), (13, (intA (t_1 : Int)))] rfl ?_
   refine T_region ?_
   refine Tp rfl rfl (pur_add rfl rfl rfl (fits64 (by omega) (by omega))) rfl ?_
   refine Tp rfl rfl (pur_move rfl) rfl ?_
   refine TO_nil ?_
   obtain rfl := some_inj H
   exact again ((db0.facts.length : Int) - (t_1 + 1)).toNat (t_1 + 1, us_4) (by omega) (wp 3 (lb rfl) rfl rfl rfl rfl rfl) ⟨rfl, by omega, K2_⟩
  ·replace d2 := of_decide_eq_false d2
   obtain rfl := forM_end L2_ (by omega)
   refine T_exit ?_
   refine then_exit ?_
   refine then_exit ?_
   refine block_exit ?_
   replace H := N2_
   refine te [(1, (sl tInt indices1)), (2, (.b 0 0)), (4, (.b 1 0)), (5, (.m [2] 0 all5.length tInt.k))] rfl ?_
   obtain ⟨r_6, h_7, H⟩ := bind_inv H
   obtain ⟨r_8, h_9, H⟩ := bind_inv H
   refine T_pad ?_
   refine T_cutX (fun (_ : Unit) => True) (fun _ => [(4, (.b 1 0)), (7, (.b 4 0))]) (fun _ => [.box [(sl tRelation db0.relations), (sl tFact db0.facts)], .box [.n, .n], .dead, .dead, .box [(sl tRelation r_8.1.relations), (sl tFact r_8.1.facts)]]) ?_ ?_
   ·skip
    refine T_regionP mixed ?_
    refine TA_have 2 #[true, true, true, true, true, true, true, true, true, false, false] [(4, (.b 1 0)), (7, (.b 4 0)), (27, (.g (tDatabase.enc r_8.1))), (28, (boolA r_8.2))] [.box [(sl tRelation db0.relations), (sl tFact db0.facts)], .box [.n, .n], .dead, .dead, .box [.n, .n]] ?_ (fun hj0_7 => ?_)
    ·skip
     refine t1 9 (by kernel_rfl) rfl rfl (TOp_storeB sz48 rfl rfl rfl rfl rfl rfl rfl (by decide) (lb rfl) rfl ?_)
     refine TA_st (σ' := [.box [(sl tRelation db0.relations), (sl tFact db0.facts)], .box [.n, .n], .dead, .dead, .box [(sl tRelation r_8.1.relations), (sl tFact r_8.1.facts)]]) rfl ?_
     refine tf 10 rfl (purI_assign rfl) rfl rfl (by kernel_rfl) ?_
     exact TA_nil (by kernel_rfl) (joined () (wp 5 (lb rfl) rfl rfl rfl rfl rfl) trivial)
    refine TA_have 6 #[true, true, true, true, false, false, false, false, true, false, false] [(4, (.b 1 0)), (7, (.b 4 0)), (22, (.g (tDatabase.enc db0))), (25, (sl tInt r_6))] [.box [(sl tRelation db0.relations), (sl tFact db0.facts)], .box [.n, .n], .dead, .dead, .box [.n, .n]] ?_ (fun hj1_7 => ?_)
    ·skip
     refine t1 4 (by kernel_rfl) rfl rfl (TOp_callV (call_static ent172 rfl) (m_impl_SelectFacts_ok _ _ _ h_9) rfl rfl rfl ?_)
     refine tf 5 rfl (purI_move rfl) rfl rfl (by kernel_rfl) ?_
     refine tf 6 rfl (purI_extract rfl rfl rfl) rfl rfl (by kernel_rfl) ?_
     refine tf 7 rfl (purI_extract rfl rfl rfl) rfl rfl (by kernel_rfl) ?_
     exact tj hj0_7 rfl (wp 5 (lb rfl) rfl rfl rfl rfl rfl)
    refine TA_have 7 #[false, true, true, true, false, false, false, false, true, false, false] [(2, (.b 0 0)), (4, (.b 1 0)), (7, (.b 4 0)), (25, (sl tInt r_6))] [.box [(sl tRelation db0.relations), (sl tFact db0.facts)], .box [.n, .n], .dead, .dead, .box [.n, .n]] ?_ (fun hj2_7 => ?_)
    ·skip
     refine t1 0 (by kernel_rfl) rfl rfl (TOp_pure (pur_ldK_b agg48 rfl rfl (lb rfl) rfl) rfl ?_)
     exact tj hj1_7 rfl (wp 5 (lb rfl) rfl rfl rfl rfl rfl)
    refine TA_have 7 #[true, true, true, false, false, false, false, false, true, false, false] [(4, (.b 1 0)), (7, (.b 4 0)), (22, (.g (tDatabase.enc db0))), (23, (sl tInt all5)), (24, (sl tInt indices1))] [.box [(sl tRelation db0.relations), (sl tFact db0.facts)], .box [.n, .n], .dead, .dead, .box [.n, .n]] ?_ (fun hj3_7 => ?_)
    ·skip
     refine t1 3 (by kernel_rfl) rfl rfl (TOp_callV (call_static ent130 rfl) (m_impl_without_ok _ _ _ h_7) rfl rfl rfl ?_)
     exact tj hj1_7 rfl (wp 5 (lb rfl) rfl rfl rfl rfl rfl)
    refine TA_have 7 #[true, true, true, true, false, false, false, false, false, false, false] [(4, (.b 1 0)), (22, (.g (tDatabase.enc db0))), (25, (sl tInt r_6))] [.box [(sl tRelation db0.relations), (sl tFact db0.facts)], .box [.n, .n], .dead, .dead] ?_ (fun hj4_7 => ?_)
    ·skip
     refine TA_all [4, 8] (by kernel_rfl) (by decide) ⟨?_, ?_, trivial⟩
     ·skip
      refine ⟨_, rfl, rfl, (TOp_callV (call_static ent172 rfl) (m_impl_SelectFacts_ok _ _ _ h_9) rfl rfl rfl ?_)⟩
      refine tf 5 rfl (purI_move rfl) rfl rfl (by kernel_rfl) ?_
      refine tf 6 rfl (purI_extract rfl rfl rfl) rfl rfl (by kernel_rfl) ?_
      refine tf 7 rfl (purI_extract rfl rfl rfl) rfl rfl (by kernel_rfl) ?_
      refine t1 8 (by kernel_rfl) rfl rfl (TOp_alloc zero48 rfl rfl ?_)
      exact tj hj0_7 rfl (wp 5 (lb rfl) rfl rfl rfl rfl rfl)
     ·skip
      refine ⟨_, rfl, rfl, (TOp_alloc zero48 rfl rfl ?_)⟩
      exact tj hj1_7 rfl (wp 5 (lb rfl) rfl rfl rfl rfl rfl)
    refine tf 1 rfl (purI_move rfl) rfl rfl (by kernel_rfl) ?_
    refine tf 2 rfl (purI_move rfl) rfl rfl (by kernel_rfl) ?_
    refine TA_ghost (E' := [(1, (sl tInt indices1)), (2, (.b 0 0)), (4, (.b 1 0)), (5, (.m [2] 0 all5.length tInt.k)), (23, (.m [2] 0 all5.length tInt.k)), (24, (sl tInt indices1))]) (σ' := [.box [(sl tRelation db0.relations), (sl tFact db0.facts)], .box [.n, .n], .row (flat tInt.enc all5), .dead]) (Ghost.weak (WeakL.to 4 (lb rfl) rfl rfl rfl rfl ⟨leR rfl, leR rfl, leR rfl, leR rfl, leR rfl, leR rfl, trivial⟩)) ?_
    refine TA_frz1 2 (E' := [(1, (sl tInt indices1)), (2, (.b 0 0)), (4, (.b 1 0)), (5, (sl tInt all5)), (23, (sl tInt all5)), (24, (sl tInt indices1))]) rfl rfl (lb rfl) ⟨(.keep rfl), (.keep rfl), (.keep rfl), fz1E, fz1E, (.keep rfl), trivial⟩ ?_
    refine TA_st (σ' := [.box [(sl tRelation db0.relations), (sl tFact db0.facts)], .box [.n, .n], .dead, .dead]) rfl ?_
    refine TA_all [0, 3, 8] (by kernel_rfl) (by decide) ⟨?_, ?_, ?_, trivial⟩
    ·skip
     refine ⟨_, rfl, rfl, (TOp_pure (pur_ldK_b agg48 rfl rfl (lb rfl) rfl) rfl ?_)⟩
     refine TA_all [3, 8] (by kernel_rfl) (by decide) ⟨?_, ?_, trivial⟩
     ·skip
      refine ⟨_, rfl, rfl, (TOp_callV (call_static ent130 rfl) (m_impl_without_ok _ _ _ h_7) rfl rfl rfl ?_)⟩
      exact tj hj4_7 rfl (wp 4 (lb rfl) rfl rfl rfl rfl rfl)
     ·skip
      refine ⟨_, rfl, rfl, (TOp_alloc zero48 rfl rfl ?_)⟩
      exact tj hj3_7 rfl (wp 5 (lb rfl) rfl rfl rfl rfl rfl)
    ·skip
     refine ⟨_, rfl, rfl, (TOp_callV (call_static ent130 rfl) (m_impl_without_ok _ _ _ h_7) rfl rfl rfl ?_)⟩
     refine TA_all [0, 8] (by kernel_rfl) (by decide) ⟨?_, ?_, trivial⟩
     ·skip
      refine ⟨_, rfl, rfl, (TOp_pure (pur_ldK_b agg48 rfl rfl (lb rfl) rfl) rfl ?_)⟩
      exact tj hj4_7 rfl (wp 4 (lb rfl) rfl rfl rfl rfl rfl)
     ·skip
      refine ⟨_, rfl, rfl, (TOp_alloc zero48 rfl rfl ?_)⟩
      exact tj hj2_7 rfl (wp 5 (lb rfl) rfl rfl rfl rfl rfl)
    ·skip
     refine ⟨_, rfl, rfl, (TOp_alloc zero48 rfl rfl ?_)⟩
     refine TA_all [0, 3] (by kernel_rfl) (by decide) ⟨?_, ?_, trivial⟩
     ·skip
      refine ⟨_, rfl, rfl, (TOp_pure (pur_ldK_b agg48 rfl rfl (lb rfl) rfl) rfl ?_)⟩
      exact tj hj3_7 rfl (wp 5 (lb rfl) rfl rfl rfl rfl rfl)
     ·skip
      refine ⟨_, rfl, rfl, (TOp_callV (call_static ent130 rfl) (m_impl_without_ok _ _ _ h_7) rfl rfl rfl ?_)⟩
      exact tj hj2_7 rfl (wp 5 (lb rfl) rfl rfl rfl rfl rfl)
   ·rintro _ _
    refine te [(4, (.b 1 0)), (7, (.b 4 0))] rfl ?_
    refine sr ?_
    refine Tp rfl rfl (pur_ldK_b agg48 rfl rfl (lb rfl) rfl) rfl ?_
    refine TO_cons rfl (TOp_storeB sz48 rfl rfl rfl rfl rfl rfl rfl (by decide) (lb rfl) rfl ?_)
    refine TO_st (σ' := [.box [(sl tRelation db0.relations), (sl tFact db0.facts)], .box [(sl tRelation r_8.1.relations), (sl tFact r_8.1.facts)], .dead, .dead, .box [(sl tRelation r_8.1.relations), (sl tFact r_8.1.facts)]]) rfl ?_
    refine TO_nil ?_
    refine te [(4, (.b 1 0))] rfl ?_
    refine T_ret ?_
    obtain rfl := some_inj H
    refine end_ret (.cellK rfl agg48 rfl (lb rfl) .nil) rfl rfl ⟨?_, rfl⟩
    rfl

set_option maxHeartbeats 1000000 in
/-- impl.ResolveConflict -/
theorem m_impl_ResolveConflict_ok (db0 : Database) (fact1 : Fact) (r : (Database × Bool)) (H : m_impl_ResolveConflict db0 fact1 = some r) : FnV prg 60 [(.g (tDatabase.enc db0)), (.g (tFact.enc fact1))] (.t [(.g (tDatabase.enc r.1)), (boolA r.2)]) := by
  unfold m_impl_ResolveConflict at H
  refine fnV_of_T Try.func60 rfl rfl (Nat.le_of_ble_eq_true rfl) ?_
  refine te [(0, (.g (tDatabase.enc db0))), (1, (.g (tFact.enc fact1)))] rfl ?_
  refine sr ?_
  refine TO_cons rfl (TOp_box rfl (boxAll rfl) rfl rfl ?_)
  refine TO_cons rfl (TOp_box rfl (boxAll rfl) rfl rfl ?_)
  refine TO_cons rfl (TOp_alloc zero48 rfl rfl ?_)
  refine Tp rfl rfl (pur_assign rfl) rfl ?_
  refine TO_nil ?_
  refine te [(2, (.b 0 0)), (3, (.b 1 0)), (4, (.b 2 0))] rfl ?_
  refine T_seq ?_
  refine sr ?_
  refine Tp rfl rfl (pur_ldK_b agg48 rfl rfl (lb rfl) rfl) rfl ?_
  refine Tp rfl rfl (pur_ldK_b agg65 rfl rfl (lb rfl) rfl) rfl ?_
  obtain ⟨r_1, h_2, H⟩ := bind_inv H
  refine TO_cons rfl (TOp_callV (call_static ent49 rfl) (m_impl_ContainsFact_ok _ _ _ h_2) rfl rfl rfl ?_)
  refine Tp rfl rfl (pur_not rfl rfl) rfl ?_
  refine TO_nil ?_
  refine te [(2, (.b 0 0)), (3, (.b 1 0)), (4, (.b 2 0)), (10, (boolA (!r_1)))] rfl ?_
  refine T_cond (t := (!r_1)) rfl (fun c_3 => ?_) (fun c_3 => ?_)
  ·replace H := cond_t c_3 H
   refine sr ?_
   refine Tp rfl rfl (pur_ldK_b agg48 rfl rfl (lb rfl) rfl) rfl ?_
   obtain ⟨r_4, h_5, H⟩ := bind_inv H
   refine TO_cons rfl (TOp_callV (call_static ent107 rfl) (m_impl_copyDatabase_ok _ _ h_5) rfl rfl rfl ?_)
   refine TO_cons rfl (TOp_storeB sz48 rfl rfl rfl rfl rfl rfl rfl (by decide) (lb rfl) rfl ?_)
   refine TO_st (σ' := [.box [(sl tRelation db0.relations), (sl tFact db0.facts)], .box [(intA fact1.relation), (sl tInt fact1.values)], .box [(sl tRelation r_4.relations), (sl tFact r_4.facts)]]) rfl ?_
   refine Tp rfl rfl (pur_assign rfl) rfl ?_
   refine TO_nil ?_
   refine te [(4, (.b 2 0)), (5, (boolA false))] rfl ?_
   refine T_ret ?_
   refine then_ret ?_
   obtain rfl := some_inj H
   refine end_ret (.cellK rfl agg48 rfl (lb rfl) (.tmp .nil)) rfl rfl ⟨?_, rfl⟩
   rfl
  ·replace H := cond_f c_3 H
   refine T_skip ?_
   refine te [(2, (.b 0 0)), (3, (.b 1 0)), (4, (.b 2 0))] rfl ?_
   refine sr ?_
   refine Tp rfl rfl (pur_ldK_b agg48 rfl rfl (lb rfl) rfl) rfl ?_
   refine Tp rfl rfl (pur_ldK_b agg65 rfl rfl (lb rfl) rfl) rfl ?_
   obtain ⟨r_6, h_7, H⟩ := bind_inv H
   refine TO_cons rfl (TOp_callV (call_static ent106 rfl) (m_impl_FactIndex_ok _ _ _ h_7) rfl rfl rfl ?_)
   refine Tp rfl rfl (pur_assign rfl) rfl ?_
   refine TO_nil ?_
   refine te [(2, (.b 0 0)), (4, (.b 2 0)), (6, (intA r_6))] rfl ?_
   obtain ⟨r_8, h_9, H⟩ := bind_inv H
   obtain ⟨r_10, h_11, H⟩ := bind_inv H
   obtain ⟨r_12, h_13, H⟩ := bind_inv H
   refine T_pad ?_
   refine T_cutX (fun (_ : Unit) => True) (fun _ => [(4, (.b 2 0)), (5, (boolA true))]) (fun _ => [.box [(sl tRelation db0.relations), (sl tFact db0.facts)], .box [(intA fact1.relation), (sl tInt fact1.values)], .box [(sl tRelation r_12.relations), (sl tFact r_12.facts)]]) ?_ ?_
   ·skip
    refine T_regionP mixed ?_
    refine TA_have 3 #[true, true, true, true, true, true, true, false, false, false] [(4, (.b 2 0)), (16, (.g (tDatabase.enc db0))), (22, (sl tInt r_10))] [.box [(sl tRelation db0.relations), (sl tFact db0.facts)], .box [(intA fact1.relation), (sl tInt fact1.values)], .box [.n, .n], .dead] ?_ (fun hj0_4 => ?_)
    ·skip
     refine t1 7 (by kernel_rfl) rfl rfl (TOp_callV (call_static ent129 rfl) (m_impl_withoutFacts_ok _ _ _ h_13) rfl rfl rfl ?_)
     refine t1 8 (by kernel_rfl) rfl rfl (TOp_storeB sz48 rfl rfl rfl rfl rfl rfl rfl (by decide) (lb rfl) rfl ?_)
     refine TA_st (σ' := [.box [(sl tRelation db0.relations), (sl tFact db0.facts)], .box [(intA fact1.relation), (sl tInt fact1.values)], .box [(sl tRelation r_12.relations), (sl tFact r_12.facts)], .dead]) rfl ?_
     refine tf 9 rfl (purI_assign rfl) rfl rfl (by kernel_rfl) ?_
     exact TA_nil (by kernel_rfl) (joined () (wp 3 (lb rfl) rfl rfl rfl rfl rfl) trivial)
    refine TA_have 4 #[true, true, true, true, true, true, false, false, false, false] [(4, (.b 2 0)), (16, (.g (tDatabase.enc db0))), (19, (sl tInt r_8)), (21, (sl tInt ([r_6] : (List Int))))] [.box [(sl tRelation db0.relations), (sl tFact db0.facts)], .box [(intA fact1.relation), (sl tInt fact1.values)], .box [.n, .n], .dead] ?_ (fun hj1_4 => ?_)
    ·skip
     refine t1 6 (by kernel_rfl) rfl rfl (TOp_callV (call_static ent130 rfl) (m_impl_without_ok _ _ _ h_11) rfl rfl rfl ?_)
     exact tj hj0_4 rfl (wp 4 (lb rfl) rfl rfl rfl rfl rfl)
    refine TA_have 5 #[false, true, true, true, true, true, false, false, false, false] [(2, (.b 0 0)), (4, (.b 2 0)), (19, (sl tInt r_8)), (21, (sl tInt ([r_6] : (List Int))))] [.box [(sl tRelation db0.relations), (sl tFact db0.facts)], .box [(intA fact1.relation), (sl tInt fact1.values)], .box [.n, .n], .dead] ?_ (fun hj2_4 => ?_)
    ·skip
     refine TA_all [0, 6] (by kernel_rfl) (by decide) ⟨?_, ?_, trivial⟩
     ·skip
      refine ⟨_, rfl, rfl, (TOp_pure (pur_ldK_b agg48 rfl rfl (lb rfl) rfl) rfl ?_)⟩
      exact tj hj1_4 rfl (wp 4 (lb rfl) rfl rfl rfl rfl rfl)
     ·skip
      refine ⟨_, rfl, rfl, (TOp_callV (call_static ent130 rfl) (m_impl_without_ok _ _ _ h_11) rfl rfl rfl ?_)⟩
      refine t1 0 (by kernel_rfl) rfl rfl (TOp_pure (pur_ldK_b agg48 rfl rfl (lb rfl) rfl) rfl ?_)
      exact tj hj0_4 rfl (wp 4 (lb rfl) rfl rfl rfl rfl rfl)
    refine TA_have 5 #[true, true, true, false, true, true, false, false, false, false] [(4, (.b 2 0)), (16, (.g (tDatabase.enc db0))), (17, (.g (tDatabase.enc db0))), (18, (intA r_6)), (21, (.m [3] 0 ([r_6] : (List Int)).length tInt.k))] [.box [(sl tRelation db0.relations), (sl tFact db0.facts)], .box [(intA fact1.relation), (sl tInt fact1.values)], .box [.n, .n], .row (flat tInt.enc ([r_6] : (List Int)))] ?_ (fun hj3_4 => ?_)
    ·skip
     refine t1 3 (by kernel_rfl) rfl rfl (TOp_callV (call_static ent105 rfl) (m_impl_BlockOf_ok _ _ _ h_9) rfl rfl rfl ?_)
     refine TA_ghost (E' := [(4, (.b 2 0)), (16, (.g (tDatabase.enc db0))), (17, (.g (tDatabase.enc db0))), (18, (intA r_6)), (19, (sl tInt r_8)), (21, (.m [3] 0 ([r_6] : (List Int)).length tInt.k))]) (σ' := [.box [(sl tRelation db0.relations), (sl tFact db0.facts)], .box [(intA fact1.relation), (sl tInt fact1.values)], .box [.n, .n], .row (flat tInt.enc ([r_6] : (List Int)))]) (Ghost.weak (WeakL.to 4 (lb rfl) rfl rfl rfl rfl ⟨leR rfl, leR rfl, leR rfl, leR rfl, leR rfl, leR rfl, trivial⟩)) ?_
     refine TA_frz1 3 (E' := [(4, (.b 2 0)), (16, (.g (tDatabase.enc db0))), (17, (.g (tDatabase.enc db0))), (18, (intA r_6)), (19, (sl tInt r_8)), (21, (sl tInt ([r_6] : (List Int))))]) rfl rfl (lb rfl) ⟨(.keep rfl), (.keep rfl), (.keep rfl), (.keep rfl), (.keep rfl), fz1E, trivial⟩ ?_
     refine TA_st (σ' := [.box [(sl tRelation db0.relations), (sl tFact db0.facts)], .box [(intA fact1.relation), (sl tInt fact1.values)], .box [.n, .n], .dead]) rfl ?_
     exact tj hj1_4 rfl (wp 4 (lb rfl) rfl rfl rfl rfl rfl)
    refine TA_have 5 #[true, true, true, true, true, false, false, false, false, false] [(4, (.b 2 0)), (16, (.g (tDatabase.enc db0))), (19, (sl tInt r_8)), (20, (intA r_6))] [.box [(sl tRelation db0.relations), (sl tFact db0.facts)], .box [(intA fact1.relation), (sl tInt fact1.values)], .box [.n, .n], .dead] ?_ (fun hj4_4 => ?_)
    ·skip
     refine t1 5 (by kernel_rfl) rfl rfl (TOp_lit (nn := 1) (k := 1) sl23 zero3 rfl rfl rfl rfl (by decide) ?_)
     refine tmv 3 4 (by decide) (lb rfl) rfl rfl (lb rfl) ?_
     refine TA_ghost (E' := [(4, (.b 2 0)), (16, (.g (tDatabase.enc db0))), (19, (sl tInt r_8)), (20, (intA r_6)), (21, (.m [3] 0 ([r_6] : (List Int)).length tInt.k))]) (σ' := [.box [(sl tRelation db0.relations), (sl tFact db0.facts)], .box [(intA fact1.relation), (sl tInt fact1.values)], .box [.n, .n], .row (flat tInt.enc ([r_6] : (List Int))), .dead]) (Ghost.weak (WeakL.to 5 (lb rfl) rfl rfl rfl rfl ⟨leR rfl, leR rfl, leR rfl, leR rfl, leR rfl, trivial⟩)) ?_
     refine TA_frz1 3 (E' := [(4, (.b 2 0)), (16, (.g (tDatabase.enc db0))), (19, (sl tInt r_8)), (20, (intA r_6)), (21, (sl tInt ([r_6] : (List Int))))]) rfl rfl (lb rfl) ⟨(.keep rfl), (.keep rfl), (.keep rfl), (.keep rfl), fz1E, trivial⟩ ?_
     refine TA_st (σ' := [.box [(sl tRelation db0.relations), (sl tFact db0.facts)], .box [(intA fact1.relation), (sl tInt fact1.values)], .box [.n, .n], .dead, .dead]) rfl ?_
     exact tj hj1_4 rfl (wp 4 (lb rfl) rfl rfl rfl rfl rfl)
    refine TA_have 6 #[false, true, true, false, true, true, false, false, false, false] [(2, (.b 0 0)), (4, (.b 2 0)), (17, (.g (tDatabase.enc db0))), (18, (intA r_6)), (21, (.m [3] 0 ([r_6] : (List Int)).length tInt.k))] [.box [(sl tRelation db0.relations), (sl tFact db0.facts)], .box [(intA fact1.relation), (sl tInt fact1.values)], .box [.n, .n], .row (flat tInt.enc ([r_6] : (List Int)))] ?_ (fun hj5_4 => ?_)
    ·skip
     refine TA_all [0, 3] (by kernel_rfl) (by decide) ⟨?_, ?_, trivial⟩
     ·skip
      refine ⟨_, rfl, rfl, (TOp_pure (pur_ldK_b agg48 rfl rfl (lb rfl) rfl) rfl ?_)⟩
      exact tj hj3_4 rfl (wp 4 (lb rfl) rfl rfl rfl rfl rfl)
     ·skip
      refine ⟨_, rfl, rfl, (TOp_callV (call_static ent105 rfl) (m_impl_BlockOf_ok _ _ _ h_9) rfl rfl rfl ?_)⟩
      refine TA_ghost (E' := [(2, (.b 0 0)), (4, (.b 2 0)), (17, (.g (tDatabase.enc db0))), (18, (intA r_6)), (19, (sl tInt r_8)), (21, (.m [3] 0 ([r_6] : (List Int)).length tInt.k))]) (σ' := [.box [(sl tRelation db0.relations), (sl tFact db0.facts)], .box [(intA fact1.relation), (sl tInt fact1.values)], .box [.n, .n], .row (flat tInt.enc ([r_6] : (List Int)))]) (Ghost.weak (WeakL.to 4 (lb rfl) rfl rfl rfl rfl ⟨leR rfl, leR rfl, leR rfl, leR rfl, leR rfl, leR rfl, trivial⟩)) ?_
      refine TA_frz1 3 (E' := [(2, (.b 0 0)), (4, (.b 2 0)), (17, (.g (tDatabase.enc db0))), (18, (intA r_6)), (19, (sl tInt r_8)), (21, (sl tInt ([r_6] : (List Int))))]) rfl rfl (lb rfl) ⟨(.keep rfl), (.keep rfl), (.keep rfl), (.keep rfl), (.keep rfl), fz1E, trivial⟩ ?_
      refine TA_st (σ' := [.box [(sl tRelation db0.relations), (sl tFact db0.facts)], .box [(intA fact1.relation), (sl tInt fact1.values)], .box [.n, .n], .dead]) rfl ?_
      exact tj hj2_4 rfl (wp 4 (lb rfl) rfl rfl rfl rfl rfl)
    refine TA_have 6 #[true, false, true, false, true, true, false, false, false, false] [(2, (.b 0 0)), (4, (.b 2 0)), (16, (.g (tDatabase.enc db0))), (18, (intA r_6)), (21, (.m [3] 0 ([r_6] : (List Int)).length tInt.k))] [.box [(sl tRelation db0.relations), (sl tFact db0.facts)], .box [(intA fact1.relation), (sl tInt fact1.values)], .box [.n, .n], .row (flat tInt.enc ([r_6] : (List Int)))] ?_ (fun hj6_4 => ?_)
    ·skip
     refine t1 1 (by kernel_rfl) rfl rfl (TOp_pure (pur_ldK_b agg48 rfl rfl (lb rfl) rfl) rfl ?_)
     exact tj hj3_4 rfl (wp 4 (lb rfl) rfl rfl rfl rfl rfl)
    refine TA_have 6 #[true, true, true, false, true, false, false, false, false, false] [(4, (.b 2 0)), (16, (.g (tDatabase.enc db0))), (17, (.g (tDatabase.enc db0))), (18, (intA r_6)), (20, (intA r_6))] [.box [(sl tRelation db0.relations), (sl tFact db0.facts)], .box [(intA fact1.relation), (sl tInt fact1.values)], .box [.n, .n], .dead] ?_ (fun hj7_4 => ?_)
    ·skip
     refine TA_all [3, 5] (by kernel_rfl) (by decide) ⟨?_, ?_, trivial⟩
     ·skip
      refine ⟨_, rfl, rfl, (TOp_callV (call_static ent105 rfl) (m_impl_BlockOf_ok _ _ _ h_9) rfl rfl rfl ?_)⟩
      exact tj hj4_4 rfl (wp 4 (lb rfl) rfl rfl rfl rfl rfl)
     ·skip
      refine ⟨_, rfl, rfl, (TOp_lit (nn := 1) (k := 1) sl23 zero3 rfl rfl rfl rfl (by decide) ?_)⟩
      refine tmv 3 4 (by decide) (lb rfl) rfl rfl (lb rfl) ?_
      exact tj hj3_4 rfl (wp 4 (lb rfl) rfl rfl rfl rfl rfl)
    refine tf 2 rfl (purI_move rfl) rfl rfl (by kernel_rfl) ?_
    refine tf 4 rfl (purI_move rfl) rfl rfl (by kernel_rfl) ?_
    refine TA_all [0, 1, 5] (by kernel_rfl) (by decide) ⟨?_, ?_, ?_, trivial⟩
    ·skip
     refine ⟨_, rfl, rfl, (TOp_pure (pur_ldK_b agg48 rfl rfl (lb rfl) rfl) rfl ?_)⟩
     refine TA_all [1, 5] (by kernel_rfl) (by decide) ⟨?_, ?_, trivial⟩
     ·skip
      refine ⟨_, rfl, rfl, (TOp_pure (pur_ldK_b agg48 rfl rfl (lb rfl) rfl) rfl ?_)⟩
      exact tj hj7_4 rfl (wp 4 (lb rfl) rfl rfl rfl rfl rfl)
     ·skip
      refine ⟨_, rfl, rfl, (TOp_lit (nn := 1) (k := 1) sl23 zero3 rfl rfl rfl rfl (by decide) ?_)⟩
      refine tmv 3 4 (by decide) (lb rfl) rfl rfl (lb rfl) ?_
      exact tj hj6_4 rfl (wp 4 (lb rfl) rfl rfl rfl rfl rfl)
    ·skip
     refine ⟨_, rfl, rfl, (TOp_pure (pur_ldK_b agg48 rfl rfl (lb rfl) rfl) rfl ?_)⟩
     refine TA_all [0, 3, 5] (by kernel_rfl) (by decide) ⟨?_, ?_, ?_, trivial⟩
     ·skip
      refine ⟨_, rfl, rfl, (TOp_pure (pur_ldK_b agg48 rfl rfl (lb rfl) rfl) rfl ?_)⟩
      exact tj hj7_4 rfl (wp 4 (lb rfl) rfl rfl rfl rfl rfl)
     ·skip
      refine ⟨_, rfl, rfl, (TOp_callV (call_static ent105 rfl) (m_impl_BlockOf_ok _ _ _ h_9) rfl rfl rfl ?_)⟩
      refine TA_all [0, 5] (by kernel_rfl) (by decide) ⟨?_, ?_, trivial⟩
      ·skip
       refine ⟨_, rfl, rfl, (TOp_pure (pur_ldK_b agg48 rfl rfl (lb rfl) rfl) rfl ?_)⟩
       exact tj hj4_4 rfl (wp 4 (lb rfl) rfl rfl rfl rfl rfl)
      ·skip
       refine ⟨_, rfl, rfl, (TOp_lit (nn := 1) (k := 1) sl23 zero3 rfl rfl rfl rfl (by decide) ?_)⟩
       refine tmv 3 4 (by decide) (lb rfl) rfl rfl (lb rfl) ?_
       refine TA_ghost (E' := [(2, (.b 0 0)), (4, (.b 2 0)), (6, (intA r_6)), (17, (.g (tDatabase.enc db0))), (18, (intA r_6)), (19, (sl tInt r_8)), (20, (intA r_6)), (21, (.m [3] 0 ([r_6] : (List Int)).length tInt.k))]) (σ' := [.box [(sl tRelation db0.relations), (sl tFact db0.facts)], .box [(intA fact1.relation), (sl tInt fact1.values)], .box [.n, .n], .row (flat tInt.enc ([r_6] : (List Int))), .dead]) (Ghost.weak (WeakL.to 5 (lb rfl) rfl rfl rfl rfl ⟨leR rfl, leR rfl, leR rfl, leR rfl, leR rfl, leR rfl, leR rfl, leR rfl, trivial⟩)) ?_
       refine TA_frz1 3 (E' := [(2, (.b 0 0)), (4, (.b 2 0)), (6, (intA r_6)), (17, (.g (tDatabase.enc db0))), (18, (intA r_6)), (19, (sl tInt r_8)), (20, (intA r_6)), (21, (sl tInt ([r_6] : (List Int))))]) rfl rfl (lb rfl) ⟨(.keep rfl), (.keep rfl), (.keep rfl), (.keep rfl), (.keep rfl), (.keep rfl), (.keep rfl), fz1E, trivial⟩ ?_
       refine TA_st (σ' := [.box [(sl tRelation db0.relations), (sl tFact db0.facts)], .box [(intA fact1.relation), (sl tInt fact1.values)], .box [.n, .n], .dead, .dead]) rfl ?_
       exact tj hj2_4 rfl (wp 4 (lb rfl) rfl rfl rfl rfl rfl)
     ·skip
      refine ⟨_, rfl, rfl, (TOp_lit (nn := 1) (k := 1) sl23 zero3 rfl rfl rfl rfl (by decide) ?_)⟩
      refine tmv 3 4 (by decide) (lb rfl) rfl rfl (lb rfl) ?_
      exact tj hj5_4 rfl (wp 4 (lb rfl) rfl rfl rfl rfl rfl)
    ·skip
     refine ⟨_, rfl, rfl, (TOp_lit (nn := 1) (k := 1) sl23 zero3 rfl rfl rfl rfl (by decide) ?_)⟩
     refine tmv 3 4 (by decide) (lb rfl) rfl rfl (lb rfl) ?_
     refine TA_all [0, 1] (by kernel_rfl) (by decide) ⟨?_, ?_, trivial⟩
     ·skip
      refine ⟨_, rfl, rfl, (TOp_pure (pur_ldK_b agg48 rfl rfl (lb rfl) rfl) rfl ?_)⟩
      exact tj hj6_4 rfl (wp 4 (lb rfl) rfl rfl rfl rfl rfl)
     ·skip
      refine ⟨_, rfl, rfl, (TOp_pure (pur_ldK_b agg48 rfl rfl (lb rfl) rfl) rfl ?_)⟩
      exact tj hj5_4 rfl (wp 4 (lb rfl) rfl rfl rfl rfl rfl)
   ·rintro _ _
    refine te [(4, (.b 2 0)), (5, (boolA true))] rfl ?_
    refine T_ret ?_
    obtain rfl := some_inj H
    refine end_ret (.cellK rfl agg48 rfl (lb rfl) (.tmp .nil)) rfl rfl ⟨?_, rfl⟩
    rfl

set_option maxHeartbeats 1000000 in
/-- impl.ResolveAll -/
theorem m_impl_ResolveAll_ok (db0 : Database) (facts1 : (List Fact)) (r : (Database × Int)) (H : m_impl_ResolveAll db0 facts1 = some r) : FnV prg 51 [(.g (tDatabase.enc db0)), (sl tFact facts1)] (.t [(.g (tDatabase.enc r.1)), (intA r.2)]) := by
  unfold m_impl_ResolveAll at H
  refine fnV_of_T Try.func51 rfl rfl (Nat.le_of_ble_eq_true rfl) ?_
  refine te [(0, (.g (tDatabase.enc db0))), (1, (sl tFact facts1))] rfl ?_
  refine sr ?_
  refine TO_cons rfl (TOp_box rfl (boxAll rfl) rfl rfl ?_)
  refine TO_cons rfl (TOp_alloc zero48 rfl rfl ?_)
  refine Tp rfl rfl (pur_assign rfl) rfl ?_
  refine TO_nil ?_
  refine te [(1, (sl tFact facts1)), (2, (.b 0 0)), (4, (.b 1 0))] rfl ?_
  refine sr ?_
  refine Tp rfl rfl (pur_ldK_b agg48 rfl rfl (lb rfl) rfl) rfl ?_
  obtain ⟨r_1, h_2, H⟩ := bind_inv H
  refine TO_cons rfl (TOp_callV (call_static ent107 rfl) (m_impl_copyDatabase_ok _ _ h_2) rfl rfl rfl ?_)
  refine TO_cons rfl (TOp_alloc zero48 rfl rfl ?_)
  refine TO_cons rfl (TOp_storeB sz48 rfl rfl rfl rfl rfl rfl rfl (by decide) (lb rfl) rfl ?_)
  refine TO_st (σ' := [.box [(sl tRelation db0.relations), (sl tFact db0.facts)], .box [.n, .n], .box [(sl tRelation r_1.relations), (sl tFact r_1.facts)]]) rfl ?_
  refine Tp rfl rfl (pur_assign rfl) rfl ?_
  refine TO_nil ?_
  refine te [(1, (sl tFact facts1)), (4, (.b 1 0)), (6, (.b 2 0)), (7, (intA 0))] rfl ?_
  refine T_seq ?_
  refine sr ?_
  refine Tp rfl rfl (pur_move rfl) rfl ?_
  refine Tp rfl rfl (pur_lenT (T := tFact) sl46 rfl rfl) rfl ?_
  refine Tp rfl rfl (pur_move rfl) rfl ?_
  refine TO_nil ?_
  refine te [(4, (.b 1 0)), (6, (.b 2 0)), (7, (intA 0)), (14, (sl tFact facts1)), (15, (intA (facts1.length : Int))), (16, (intA 0))] rfl ?_
  obtain ⟨O4_, L4_, N4_⟩ := bind_inv H
  clear H
  obtain ⟨B4_, hb4, L4_⟩ := gen_forS L4_
  refine T_block ?_
  refine T_loopX (fun k => fun (x_ : Nat × Int × Database) => k = facts1.length - x_.1 ∧ forS B4_ (facts1.drop x_.1) (x_.1 : Int) (x_.2.1, x_.2.2) = some O4_) (fun (x_ : Nat × Int × Database) => [(4, (.b 1 0)), (6, (.b 2 0)), (7, (intA x_.2.1)), (14, (sl tFact facts1)), (15, (intA (facts1.length : Int))), (16, (intA (x_.1 : Int)))]) (fun (x_ : Nat × Int × Database) => [.box [(sl tRelation db0.relations), (sl tFact db0.facts)], .box [.n, .n], .box [(sl tRelation x_.2.2.relations), (sl tFact x_.2.2.facts)]]) _ (0, (0, r_1)) (wp 3 (lb rfl) rfl rfl rfl rfl rfl) ⟨rfl, L4_⟩ ?_
  rintro _ ⟨t_3, count7, box2⟩ ⟨rfl, L4_⟩
  refine te [(4, (.b 1 0)), (6, (.b 2 0)), (7, (intA count7)), (14, (sl tFact facts1)), (15, (intA (facts1.length : Int))), (16, (intA (t_3 : Int)))] rfl ?_
  refine T_st (σ' := [.box [(sl tRelation db0.relations), (sl tFact db0.facts)], .box [.n, .n], .box [(sl tRelation box2.relations), (sl tFact box2.facts)]]) rfl ?_
  refine T_fact (len_sl (T := tFact) (.tmp 14) rfl) (fun hl4 => ?_)
  refine sr ?_
  refine Tp rfl rfl (pur_lss rfl rfl rfl) rfl ?_
  refine TO_nil ?_
  refine te [(4, (.b 1 0)), (6, (.b 2 0)), (7, (intA count7)), (14, (sl tFact facts1)), (15, (intA (facts1.length : Int))), (16, (intA (t_3 : Int))), (17, (boolA (decide ((t_3 : Int) < (facts1.length : Int)))))] rfl ?_
  refine T_seq ?_
  refine T_cond (t := decide ((t_3 : Int) < (facts1.length : Int))) rfl (fun d4 => ?_) (fun d4 => ?_)
  ·replace d4 := of_decide_eq_true d4
   obtain ⟨x_t_3, hx_t_3⟩ : ∃ v, (facts1)[t_3]? = some v := ⟨_, List.getElem?_eq_getElem (by omega)⟩
   obtain ⟨C4_, H, K4_⟩ := forS_step L4_ hx_t_3
   rw [hb4] at H
   refine T_skip ?_
   refine te [(4, (.b 1 0)), (6, (.b 2 0)), (7, (intA count7)), (14, (sl tFact facts1)), (15, (intA (facts1.length : Int))), (16, (intA (t_3 : Int)))] rfl ?_
   refine T_seq ?_
   refine T_block ?_
   refine sr ?_
   refine Tp rfl rfl (pur_ixT (T := tFact) sl46 rfl rfl rfl hx_t_3 rfl) rfl ?_
   refine Tp rfl rfl (pur_ldTK (T := tFact) (i := t_3) (off := 0) rfl agg65 rfl rfl hx_t_3 (by decide) rfl) rfl ?_
   refine TO_cons rfl (TOp_alloc zero65 rfl rfl ?_)
   refine TO_cons rfl (TOp_storeB sz65 rfl rfl rfl rfl rfl rfl rfl (by decide) (lb rfl) rfl ?_)
   refine TO_st (σ' := [.box [(sl tRelation db0.relations), (sl tFact db0.facts)], .box [.n, .n], .box [(sl tRelation box2.relations), (sl tFact box2.facts)], .box [(intA x_t_3.relation), (sl tInt x_t_3.values)]]) rfl ?_
   refine TO_nil ?_
   refine te [(4, (.b 1 0)), (6, (.b 2 0)), (7, (intA count7)), (9, (.b 3 0)), (14, (sl tFact facts1)), (15, (intA (facts1.length : Int))), (16, (intA (t_3 : Int)))] rfl ?_
   refine sr ?_
   refine Tp rfl rfl (pur_ldK_b agg48 rfl rfl (lb rfl) rfl) rfl ?_
   refine Tp rfl rfl (pur_ldK_b agg65 rfl rfl (lb rfl) rfl) rfl ?_
   obtain ⟨r_5, h_6, H⟩ := bind_inv H
   refine TO_cons rfl (TOp_callV (call_static ent60 rfl) (m_impl_ResolveConflict_ok _ _ _ h_6) rfl rfl rfl ?_)
   refine Tp rfl rfl (pur_move rfl) rfl ?_
   refine Tp rfl rfl (pur_extract rfl rfl rfl) rfl ?_
   refine Tp rfl rfl (pur_extract rfl rfl rfl) rfl ?_
   refine TO_cons rfl (TOp_alloc zero48 rfl rfl ?_)
   refine TO_cons rfl (TOp_storeB sz48 rfl rfl rfl rfl rfl rfl rfl (by decide) (lb rfl) rfl ?_)
   refine TO_st (σ' := [.box [(sl tRelation db0.relations), (sl tFact db0.facts)], .box [.n, .n], .box [(sl tRelation box2.relations), (sl tFact box2.facts)], .box [(intA x_t_3.relation), (sl tInt x_t_3.values)], .box [(sl tRelation r_5.1.relations), (sl tFact r_5.1.facts)]]) rfl ?_
   refine Tp rfl rfl (pur_assign rfl) rfl ?_
   refine TO_nil ?_
   refine te [(4, (.b 1 0)), (6, (.b 2 0)), (7, (intA count7)), (10, (.b 4 0)), (11, (boolA r_5.2)), (14, (sl tFact facts1)), (15, (intA (facts1.length : Int))), (16, (intA (t_3 : Int)))] rfl ?_
   refine sr ?_
   refine Tp rfl rfl (pur_move rfl) rfl ?_
   refine TO_nil ?_
   refine te [(4, (.b 1 0)), (6, (.b 2 0)), (7, (intA count7)), (10, (.b 4 0)), (14, (sl tFact facts1)), (15, (intA (facts1.length : Int))), (16, (intA (t_3 : Int))), (26, (boolA r_5.2))] rfl ?_
   refine T_cond (t := r_5.2) rfl (fun c_7 => ?_) (fun c_7 => ?_)
   ·replace H := cond_t c_7 H
    refine sr ?_
    refine Tp rfl rfl (pur_ldK_b agg48 rfl rfl (lb rfl) rfl) rfl ?_
    refine TO_cons rfl (TOp_storeB sz48 rfl rfl rfl rfl rfl rfl rfl (by decide) (lb rfl) rfl ?_)
    refine TO_st (σ' := [.box [(sl tRelation db0.relations), (sl tFact db0.facts)], .box [.n, .n], .box [(sl tRelation r_5.1.relations), (sl tFact r_5.1.facts)], .box [(intA x_t_3.relation), (sl tInt x_t_3.values)], .box [(sl tRelation r_5.1.relations), (sl tFact r_5.1.facts)]]) rfl ?_
    refine TO_nil ?_
    refine te [(4, (.b 1 0)), (6, (.b 2 0)), (7, (intA count7)), (14, (sl tFact facts1)), (15, (intA (facts1.length : Int))), (16, (intA (t_3 : Int)))] rfl ?_
    refine T_region ?_
    refine Tp rfl rfl (pur_move rfl) rfl ?_
    refine Tp rfl rfl (pur_wadd rfl rfl rfl) rfl ?_
    refine Tp rfl rfl (pur_assign rfl) rfl ?_
    refine TO_nil ?_
    refine te [(4, (.b 1 0)), (6, (.b 2 0)), (7, (intA (w64 (count7 + 1)))), (14, (sl tFact facts1)), (15, (intA (facts1.length : Int))), (16, (intA (t_3 : Int)))] rfl ?_
    refine T_region ?_
    refine Tp rfl rfl (pur_add rfl rfl rfl (fits64 (by omega) (by omega))) rfl ?_
    refine Tp rfl rfl (pur_move rfl) rfl ?_
    refine TO_nil ?_
    obtain rfl := some_inj H
    exact again (facts1.length - (t_3 + 1)) (t_3 + 1, ((w64 (count7 + 1)), r_5.1)) (by omega) (wp 3 (lb rfl) rfl rfl rfl rfl rfl) ⟨rfl, K4_⟩
   ·replace H := cond_f c_7 H
    refine T_skip ?_
    refine te [(4, (.b 1 0)), (6, (.b 2 0)), (7, (intA count7)), (14, (sl tFact facts1)), (15, (intA (facts1.length : Int))), (16, (intA (t_3 : Int)))] rfl ?_
    refine T_region ?_
    refine Tp rfl rfl (pur_add rfl rfl rfl (fits64 (by omega) (by omega))) rfl ?_
    refine Tp rfl rfl (pur_move rfl) rfl ?_
    refine TO_nil ?_
    obtain rfl := some_inj H
    exact again (facts1.length - (t_3 + 1)) (t_3 + 1, (count7, box2)) (by omega) (wp 3 (lb rfl) rfl rfl rfl rfl rfl) ⟨rfl, K4_⟩
  ·replace d4 := of_decide_eq_false d4
   obtain rfl := forS_end L4_ (by omega)
   refine T_exit ?_
   refine then_exit ?_
   refine then_exit ?_
   refine block_exit ?_
   replace H := N4_
   refine te [(4, (.b 1 0)), (6, (.b 2 0)), (7, (intA count7))] rfl ?_
   refine sr ?_
   refine Tp rfl rfl (pur_ldK_b agg48 rfl rfl (lb rfl) rfl) rfl ?_
   refine Tp rfl rfl (pur_move rfl) rfl ?_
   refine TO_cons rfl (TOp_storeB sz48 rfl rfl rfl rfl rfl rfl rfl (by decide) (lb rfl) rfl ?_)
   refine TO_st (σ' := [.box [(sl tRelation db0.relations), (sl tFact db0.facts)], .box [(sl tRelation box2.relations), (sl tFact box2.facts)], .box [(sl tRelation box2.relations), (sl tFact box2.facts)]]) rfl ?_
   refine Tp rfl rfl (pur_assign rfl) rfl ?_
   refine TO_nil ?_
   refine te [(4, (.b 1 0)), (5, (intA count7))] rfl ?_
   refine T_ret ?_
   obtain rfl := some_inj H
   refine end_ret (.cellK rfl agg48 rfl (lb rfl) (.tmp .nil)) rfl rfl ⟨?_, rfl⟩
   rfl

set_option maxHeartbeats 1000000 in
/-- spec.l7Has -/
theorem m_spec_l7Has_ok (l0 : (List Int)) (x1 : Int) (r : Bool) (H : m_spec_l7Has l0 x1 = some r) : FnV prg 127 [(sl tInt l0), (intA x1)] (boolA r) := by
  unfold m_spec_l7Has at H
  refine fnV_of_T Try.func127 rfl rfl (Nat.le_of_ble_eq_true rfl) ?_
  refine te [(0, (sl tInt l0)), (1, (intA x1))] rfl ?_
  refine sr ?_
  refine Tp rfl rfl (pur_assign rfl) rfl ?_
  refine TO_nil ?_
  refine te [(0, (sl tInt l0)), (1, (intA x1))] rfl ?_
  refine T_seq ?_
  refine sr ?_
  refine Tp rfl rfl (pur_assign rfl) rfl ?_
  refine TO_nil ?_
  refine te [(0, (sl tInt l0)), (1, (intA x1)), (5, (intA 0))] rfl ?_
  obtain ⟨O2_, L2_, N2_⟩ := bind_inv H
  clear H
  obtain ⟨B2_, hb2, L2_⟩ := gen_forL L2_
  refine T_block ?_
  refine T_loopX (fun k => fun (i_1 : Nat) => k = l0.length - i_1 ∧ forL B2_ (l0.drop i_1) (i_1 : Int) () = some O2_) (fun (i_1 : Nat) => [(0, (sl tInt l0)), (1, (intA x1)), (5, (intA (i_1 : Int)))]) (fun (i_1 : Nat) => []) _ (0 : Nat) (wp 0 (lb rfl) rfl rfl rfl rfl rfl) ⟨rfl, L2_⟩ ?_
  rintro _ i_1 ⟨rfl, L2_⟩
  refine te [(0, (sl tInt l0)), (1, (intA x1)), (5, (intA (i_1 : Int)))] rfl ?_
  refine T_st (σ' := []) rfl ?_
  refine T_fact (len_sl (T := tInt) (.tmp 0) rfl) (fun hl2 => ?_)
  refine T_seq ?_
  refine sr ?_
  refine Tp rfl rfl (pur_move rfl) rfl ?_
  refine Tp rfl rfl (pur_move rfl) rfl ?_
  refine Tp rfl rfl (pur_lenT (T := tInt) sl23 rfl rfl) rfl ?_
  refine Tp rfl rfl (pur_lss rfl rfl rfl) rfl ?_
  refine TO_nil ?_
  refine te [(0, (sl tInt l0)), (1, (intA x1)), (5, (intA (i_1 : Int))), (9, (boolA (decide ((i_1 : Int) < (l0.length : Int)))))] rfl ?_
  refine T_cond (t := decide ((i_1 : Int) < (l0.length : Int))) rfl (fun d2 => ?_) (fun d2 => ?_)
  ·replace d2 := of_decide_eq_true d2
   obtain ⟨x_i_1, hx_i_1⟩ : ∃ v, (l0)[i_1]? = some v := ⟨_, List.getElem?_eq_getElem (by omega)⟩
   obtain ⟨C2_, H, K2_⟩ := forL_step L2_ hx_i_1
   rw [hb2] at H
   refine T_skip ?_
   refine te [(0, (sl tInt l0)), (1, (intA x1)), (5, (intA (i_1 : Int)))] rfl ?_
   refine T_seq ?_
   refine T_block ?_
   refine sr ?_
   refine Tp rfl rfl (pur_move rfl) rfl ?_
   refine Tp rfl rfl (pur_move rfl) rfl ?_
   refine Tp rfl rfl (pur_ixT (T := tInt) sl23 rfl rfl rfl hx_i_1 rfl) rfl ?_
   refine Tp rfl rfl (pur_ldT (T := tInt) (i := i_1) (off := 0) rfl one3 rfl rfl hx_i_1 rfl) rfl ?_
   refine Tp rfl rfl (pur_move rfl) rfl ?_
   refine Tp rfl rfl (pur_eql rfl rfl rfl) rfl ?_
   refine TO_nil ?_
   refine te [(0, (sl tInt l0)), (1, (intA x1)), (5, (intA (i_1 : Int))), (17, (boolA (decide (x_i_1 = x1))))] rfl ?_
   refine T_cond (t := decide (x_i_1 = x1)) rfl (fun c_3 => ?_) (fun c_3 => ?_)
   ·replace H := cond_t c_3 H
    refine sr ?_
    refine Tp rfl rfl (pur_assign rfl) rfl ?_
    refine TO_nil ?_
    refine te [(4, (boolA true))] rfl ?_
    refine T_ret ?_
    refine block_ret ?_
    refine then_ret ?_
    refine then_ret ?_
    refine block_ret ?_
    refine then_ret ?_
    obtain rfl := some_inj H
    obtain rfl := some_inj K2_
    replace H := onS_r N2_
    obtain rfl := some_inj H
    refine end_ret (.tmp .nil) rfl rfl ⟨?_, rfl⟩
    rfl
   ·replace H := cond_f c_3 H
    refine T_skip ?_
    refine te [(0, (sl tInt l0)), (1, (intA x1)), (5, (intA (i_1 : Int)))] rfl ?_
    refine T_region ?_
    refine Tp rfl rfl (pur_move rfl) rfl ?_
    refine Tp rfl rfl (pur_add rfl rfl rfl (fits64 (by omega) (by omega))) rfl ?_
    refine Tp rfl rfl (pur_assign rfl) rfl ?_
    refine TO_nil ?_
    obtain rfl := some_inj H
    exact again (l0.length - (i_1 + 1)) (i_1 + 1) (by omega) (wp 0 (lb rfl) rfl rfl rfl rfl rfl) ⟨rfl, K2_⟩
  ·replace d2 := of_decide_eq_false d2
   obtain rfl := forL_end L2_ (by omega)
   refine T_exit ?_
   refine then_exit ?_
   refine then_exit ?_
   refine block_exit ?_
   replace H := onS_l N2_
   refine te [] rfl ?_
   refine sr ?_
   refine Tp rfl rfl (pur_assign rfl) rfl ?_
   refine TO_nil ?_
   refine te [(4, (boolA false))] rfl ?_
   refine T_ret ?_
   obtain rfl := some_inj H
   refine end_ret (.tmp .nil) rfl rfl ⟨?_, rfl⟩
   rfl

set_option maxHeartbeats 1000000 in
/-- spec.l4Set -/
theorem m_spec_l4Set_ok (d0 : Database) (l1 : (List Int)) (r : Bool) (H : m_spec_l4Set d0 l1 = some r) : FnV prg 171 [(.g (tDatabase.enc d0)), (sl tInt l1)] (boolA r) := by
  unfold m_spec_l4Set at H
  refine fnV_of_T Try.func171 rfl rfl (Nat.le_of_ble_eq_true rfl) ?_
  refine te [(0, (.g (tDatabase.enc d0))), (1, (sl tInt l1))] rfl ?_
  refine sr ?_
  refine TO_cons rfl (TOp_box rfl (boxAll rfl) rfl rfl ?_)
  refine Tp rfl rfl (pur_assign rfl) rfl ?_
  refine TO_nil ?_
  refine te [(1, (sl tInt l1)), (2, (.b 0 0))] rfl ?_
  refine T_seq ?_
  refine sr ?_
  refine Tp rfl rfl (pur_assign rfl) rfl ?_
  refine TO_nil ?_
  refine te [(1, (sl tInt l1)), (2, (.b 0 0)), (5, (intA 0))] rfl ?_
  obtain ⟨O2_, L2_, N2_⟩ := bind_inv H
  clear H
  obtain ⟨B2_, hb2, L2_⟩ := gen_forL L2_
  refine T_block ?_
  refine T_loopX (fun k => fun (i_1 : Nat) => k = l1.length - i_1 ∧ forL B2_ (l1.drop i_1) (i_1 : Int) () = some O2_) (fun (i_1 : Nat) => [(1, (sl tInt l1)), (2, (.b 0 0)), (5, (intA (i_1 : Int)))]) (fun (i_1 : Nat) => [.box [(sl tRelation d0.relations), (sl tFact d0.facts)]]) _ (0 : Nat) (wp 1 (lb rfl) rfl rfl rfl rfl rfl) ⟨rfl, L2_⟩ ?_
  rintro _ i_1 ⟨rfl, L2_⟩
  refine te [(1, (sl tInt l1)), (2, (.b 0 0)), (5, (intA (i_1 : Int)))] rfl ?_
  refine T_st (σ' := [.box [(sl tRelation d0.relations), (sl tFact d0.facts)]]) rfl ?_
  refine T_fact (len_sl (T := tInt) (.tmp 1) rfl) (fun hl2 => ?_)
  refine T_seq ?_
  refine sr ?_
  refine Tp rfl rfl (pur_move rfl) rfl ?_
  refine Tp rfl rfl (pur_move rfl) rfl ?_
  refine Tp rfl rfl (pur_lenT (T := tInt) sl23 rfl rfl) rfl ?_
  refine Tp rfl rfl (pur_lss rfl rfl rfl) rfl ?_
  refine TO_nil ?_
  refine te [(1, (sl tInt l1)), (2, (.b 0 0)), (5, (intA (i_1 : Int))), (9, (boolA (decide ((i_1 : Int) < (l1.length : Int)))))] rfl ?_
  refine T_cond (t := decide ((i_1 : Int) < (l1.length : Int))) rfl (fun d2 => ?_) (fun d2 => ?_)
  ·replace d2 := of_decide_eq_true d2
   obtain ⟨x_i_1, hx_i_1⟩ : ∃ v, (l1)[i_1]? = some v := ⟨_, List.getElem?_eq_getElem (by omega)⟩
   obtain ⟨C2_, H, K2_⟩ := forL_step L2_ hx_i_1
   rw [hb2] at H
   refine T_skip ?_
   refine te [(1, (sl tInt l1)), (2, (.b 0 0)), (5, (intA (i_1 : Int)))] rfl ?_
   refine T_seq ?_
   refine T_block ?_
   obtain ⟨t37_3, J_3, H_4⟩ := bind_inv H
   refine T_cutX (fun x => t37_3 = x) (fun (t37_3 : Bool) => [(1, (sl tInt l1)), (2, (.b 0 0)), (5, (intA (i_1 : Int))), (37, (boolA t37_3))]) (fun (t37_3 : Bool) => [.box [(sl tRelation d0.relations), (sl tFact d0.facts)]]) ?_ ?_
   ·replace H := J_3
    refine T_regionD mixed (by kernel_rfl) ?_
    refine TQ_pure rfl (pur_move rfl) rfl ?_
    refine TQ_pure rfl (pur_move rfl) rfl ?_
    refine TQ_pure rfl (pur_ixT (T := tInt) sl23 rfl rfl rfl hx_i_1 rfl) rfl ?_
    refine TQ_pure rfl (pur_ldT (T := tInt) (i := i_1) (off := 0) rfl one3 rfl rfl hx_i_1 rfl) rfl ?_
    refine TQ_pure rfl (pur_fa_b fld48_1 rfl rfl) rfl ?_
    refine TQ_pure rfl (pur_ld_b one46 rfl rfl rfl rfl) rfl ?_
    refine TQ_pure rfl (pur_lenT (T := tFact) sl46 rfl rfl) rfl ?_
    refine TQ_fact (len_sl (T := tFact) (.tmp 17) rfl) (fun hl_5 => ?_)
    refine TQ_pure rfl (pur_sub rfl rfl rfl (fits64 (by omega) (by omega))) rfl ?_
    refine tqe [(1, (sl tInt l1)), (2, (.b 0 0)), (5, (intA (i_1 : Int))), (15, (intA x_i_1)), (19, (intA ((d0.facts.length : Int) - 1)))] rfl ?_
    obtain ⟨r_6, h_7, H⟩ := bind_inv H
    refine TQ_callV rfl (call_static ent137 rfl) (m_spec_l1In_ok _ _ _ _ h_7) rfl rfl ?_
    refine TQ_pure rfl (pur_not rfl rfl) rfl ?_
    refine TQ_pure rfl (pur_move rfl) rfl ?_
    refine TQ_split (t := (!r_6)) 22 rfl (fun g_8 => ?_) (fun g_8 => ?_)
    ·replace H := cond_t g_8 H
     refine TQ_off rfl rfl (by decide) rfl rfl rfl ?_
     refine TQ_off rfl rfl (by decide) rfl rfl rfl ?_
     refine TQ_off rfl rfl (by decide) rfl rfl rfl ?_
     refine TQ_off rfl rfl (by decide) rfl rfl rfl ?_
     refine TQ_off rfl rfl (by decide) rfl rfl rfl ?_
     refine TQ_off rfl rfl (by decide) rfl rfl rfl ?_
     refine TQ_off rfl rfl (by decide) rfl rfl rfl ?_
     refine TQ_off rfl rfl (by decide) rfl rfl rfl ?_
     refine tqe [(1, (sl tInt l1)), (2, (.b 0 0)), (5, (intA (i_1 : Int))), (22, (boolA true)), (25, (.v undef)), (29, (.v undef)), (30, (.v undef))] rfl ?_
     refine TQ_off rfl rfl (by decide) rfl rfl rfl ?_
     refine TQ_off rfl rfl (by decide) rfl rfl rfl ?_
     refine TQ_off rfl rfl (by decide) rfl rfl rfl ?_
     refine TQ_off rfl rfl (by decide) rfl rfl rfl ?_
     refine TQ_off rfl rfl (by decide) rfl rfl rfl ?_
     refine TQ_off rfl rfl (by decide) rfl rfl rfl ?_
     refine TQ_pure rfl (pur_pick (t := true) rfl rfl rfl) rfl ?_
     refine TQ_nil ?_
     exact joined true (wp 1 (lb rfl) rfl rfl rfl rfl rfl) (some_inj H).symm
    ·replace H := cond_f g_8 H
     refine TQ_on rfl rfl (by decide) rfl (pur_move rfl) rfl ?_
     refine TQ_on rfl rfl (by decide) rfl (pur_gtr rfl rfl rfl) rfl ?_
     refine TQ_on rfl rfl (by decide) rfl (pur_move rfl) rfl ?_
     refine TQ_split (t := decide (0 < (i_1 : Int))) 25 rfl (fun g_9 => ?_) (fun g_9 => ?_)
     ·replace H := cond_t g_9 H
      refine TQ_on rfl rfl (by decide) rfl (pur_move rfl) rfl ?_
      refine TQ_on rfl rfl (by decide) rfl (pur_move rfl) rfl ?_
      refine TQ_on rfl rfl (by decide) rfl (pur_ixT (T := tInt) sl23 rfl rfl rfl hx_i_1 rfl) rfl ?_
      refine TQ_on rfl rfl (by decide) rfl (pur_ldT (T := tInt) (i := i_1) (off := 0) rfl one3 rfl rfl hx_i_1 rfl) rfl ?_
      refine TQ_on rfl rfl (by decide) rfl (pur_move rfl) rfl ?_
      refine TQ_on rfl rfl (by decide) rfl (pur_move rfl) rfl ?_
      refine TQ_on rfl rfl (by decide) rfl (pur_sub rfl rfl rfl (fits64 (by omega) (by omega))) rfl ?_
      obtain ⟨v_10, h_11, H⟩ := bind_inv H
      obtain ⟨n_12, hz_13, hv_14⟩ := getI_inv h_11
      refine TQ_on rfl rfl (by decide) rfl (pur_ixT (T := tInt) sl23 rfl rfl hz_13 hv_14 rfl) rfl ?_
      refine tqe [(1, (sl tInt l1)), (2, (.b 0 0)), (5, (intA (i_1 : Int))), (22, (boolA false)), (25, (boolA true)), (29, (intA x_i_1)), (33, (.q (flat tInt.enc l1) (n_12 * tInt.k)))] rfl ?_
      refine TQ_on rfl rfl (by decide) rfl (pur_ldT (T := tInt) (i := n_12) (off := 0) rfl one3 rfl rfl hv_14 rfl) rfl ?_
      refine TQ_on rfl rfl (by decide) rfl (pur_leq rfl rfl rfl) rfl ?_
      refine TQ_on rfl rfl (by decide) rfl (pur_pick (t := true) rfl rfl rfl) rfl ?_
      refine TQ_pure rfl (pur_pick (t := false) rfl rfl rfl) rfl ?_
      refine TQ_nil ?_
      exact joined (decide (x_i_1 ≤ v_10)) (wp 1 (lb rfl) rfl rfl rfl rfl rfl) (some_inj H).symm
     ·replace H := cond_f g_9 H
      refine TQ_off rfl rfl (by decide) rfl rfl rfl ?_
      refine TQ_off rfl rfl (by decide) rfl rfl rfl ?_
      refine TQ_off rfl rfl (by decide) rfl rfl rfl ?_
      refine TQ_off rfl rfl (by decide) rfl rfl rfl ?_
      refine TQ_off rfl rfl (by decide) rfl rfl rfl ?_
      refine TQ_off rfl rfl (by decide) rfl rfl rfl ?_
      refine TQ_off rfl rfl (by decide) rfl rfl rfl ?_
      refine TQ_off rfl rfl (by decide) rfl rfl rfl ?_
      refine tqe [(1, (sl tInt l1)), (2, (.b 0 0)), (5, (intA (i_1 : Int))), (22, (boolA false)), (25, (boolA false)), (29, (.v undef)), (33, (.v undef))] rfl ?_
      refine TQ_off rfl rfl (by decide) rfl rfl rfl ?_
      refine TQ_off rfl rfl (by decide) rfl rfl rfl ?_
      refine TQ_on rfl rfl (by decide) rfl (pur_pick (t := false) rfl rfl rfl) rfl ?_
      refine TQ_pure rfl (pur_pick (t := false) rfl rfl rfl) rfl ?_
      refine TQ_nil ?_
      exact joined false (wp 1 (lb rfl) rfl rfl rfl rfl rfl) (some_inj H).symm
   ·rintro _ rfl
    replace H := H_4
    refine te [(1, (sl tInt l1)), (2, (.b 0 0)), (5, (intA (i_1 : Int))), (37, (boolA t37_3))] rfl ?_
    refine T_cond (t := t37_3) rfl (fun c_15 => ?_) (fun c_15 => ?_)
    ·replace H := cond_t c_15 H
     refine sr ?_
     refine Tp rfl rfl (pur_assign rfl) rfl ?_
     refine TO_nil ?_
     refine te [(4, (boolA false))] rfl ?_
     refine T_ret ?_
     refine block_ret ?_
     refine then_ret ?_
     refine then_ret ?_
     refine block_ret ?_
     refine then_ret ?_
     obtain rfl := some_inj H
     obtain rfl := some_inj K2_
     replace H := onS_r N2_
     obtain rfl := some_inj H
     refine end_ret (.tmp .nil) rfl rfl ⟨?_, rfl⟩
     rfl
    ·replace H := cond_f c_15 H
     refine T_skip ?_
     refine te [(1, (sl tInt l1)), (2, (.b 0 0)), (5, (intA (i_1 : Int)))] rfl ?_
     refine T_region ?_
     refine Tp rfl rfl (pur_move rfl) rfl ?_
     refine Tp rfl rfl (pur_add rfl rfl rfl (fits64 (by omega) (by omega))) rfl ?_
     refine Tp rfl rfl (pur_assign rfl) rfl ?_
     refine TO_nil ?_
     obtain rfl := some_inj H
     exact again (l1.length - (i_1 + 1)) (i_1 + 1) (by omega) (wp 1 (lb rfl) rfl rfl rfl rfl rfl) ⟨rfl, K2_⟩
  ·replace d2 := of_decide_eq_false d2
   obtain rfl := forL_end L2_ (by omega)
   refine T_exit ?_
   refine then_exit ?_
   refine then_exit ?_
   refine block_exit ?_
   replace H := onS_l N2_
   refine te [] rfl ?_
   refine sr ?_
   refine Tp rfl rfl (pur_assign rfl) rfl ?_
   refine TO_nil ?_
   refine te [(4, (boolA true))] rfl ?_
   refine T_ret ?_
   obtain rfl := some_inj H
   refine end_ret (.tmp .nil) rfl rfl ⟨?_, rfl⟩
   rfl
end Go.Proofs.Ytjdpolnakhmkmaa

/- Walks. -/
import Derived.Test.YtglgcncmjnjfgaaM1
set_option linter.unusedVariables false
set_option linter.unusedSimpArgs false
set_option maxRecDepth 4000
namespace Go.Proofs.Ytglgcncmjnjfgaa
open Go Go.Proofs Go.Sep
set_option maxHeartbeats 1000000 in
/-- spec.IsPreferred -/
theorem m_spec_IsPreferred_ok (p0 : (List ConflictEdge)) (a1 : Int) (b2 : Int) (r : Bool) (H : m_spec_IsPreferred p0 a1 b2 = some r) : FnV prg 12 [(sl tConflictEdge p0), (intA a1), (intA b2)] (boolA r) := by
  unfold m_spec_IsPreferred at H
  refine fnV_of_T Try.func12 rfl rfl (Nat.le_of_ble_eq_true rfl) ?_
  refine te [(0, (sl tConflictEdge p0)), (1, (intA a1)), (2, (intA b2))] rfl ?_
  refine sr ?_
  refine Tp rfl rfl (pur_assign rfl) rfl ?_
  refine TO_nil ?_
  refine te [(0, (sl tConflictEdge p0)), (1, (intA a1)), (2, (intA b2))] rfl ?_
  refine T_seq ?_
  refine sr ?_
  refine Tp rfl rfl (pur_assign rfl) rfl ?_
  refine TO_nil ?_
  refine te [(0, (sl tConflictEdge p0)), (1, (intA a1)), (2, (intA b2)), (7, (intA 0))] rfl ?_
  obtain ⟨O2_, L2_, N2_⟩ := bind_inv H
  clear H
  obtain ⟨B2_, hb2, L2_⟩ := gen_forL L2_
  refine T_block ?_
  refine T_loopX (fun k => fun (i_1 : Nat) => k = p0.length - i_1 ∧ forL B2_ (p0.drop i_1) (i_1 : Int) () = some O2_) (fun (i_1 : Nat) => [(0, (sl tConflictEdge p0)), (1, (intA a1)), (2, (intA b2)), (7, (intA (i_1 : Int)))]) (fun (i_1 : Nat) => []) _ (0 : Nat) (wp 0 (lb rfl) rfl rfl rfl rfl rfl) ⟨rfl, L2_⟩ ?_
  rintro _ i_1 ⟨rfl, L2_⟩
  refine te [(0, (sl tConflictEdge p0)), (1, (intA a1)), (2, (intA b2)), (7, (intA (i_1 : Int)))] rfl ?_
  refine T_st (σ' := []) rfl ?_
  refine T_fact (len_sl (T := tConflictEdge) (.tmp 0) rfl) (fun hl2 => ?_)
  refine T_seq ?_
  refine sr ?_
  refine Tp rfl rfl (pur_move rfl) rfl ?_
  refine Tp rfl rfl (pur_move rfl) rfl ?_
  refine Tp rfl rfl (pur_lenT (T := tConflictEdge) sl25 rfl rfl) rfl ?_
  refine Tp rfl rfl (pur_lss rfl rfl rfl) rfl ?_
  refine TO_nil ?_
  refine te [(0, (sl tConflictEdge p0)), (1, (intA a1)), (2, (intA b2)), (7, (intA (i_1 : Int))), (11, (boolA (decide ((i_1 : Int) < (p0.length : Int)))))] rfl ?_
  refine T_cond (t := decide ((i_1 : Int) < (p0.length : Int))) rfl (fun d2 => ?_) (fun d2 => ?_)
  ·replace d2 := of_decide_eq_true d2
   obtain ⟨x_i_1, hx_i_1⟩ : ∃ v, (p0)[i_1]? = some v := ⟨_, List.getElem?_eq_getElem (by omega)⟩
   obtain ⟨C2_, H, K2_⟩ := forL_step L2_ hx_i_1
   rw [hb2] at H
   refine T_skip ?_
   refine te [(0, (sl tConflictEdge p0)), (1, (intA a1)), (2, (intA b2)), (7, (intA (i_1 : Int)))] rfl ?_
   refine T_seq ?_
   refine T_block ?_
   refine T_cutX (fun x => ((decide (x_i_1.a = a1)) && (decide (x_i_1.b = b2))) = x) (fun (t29_3 : Bool) => [(0, (sl tConflictEdge p0)), (1, (intA a1)), (2, (intA b2)), (7, (intA (i_1 : Int))), (29, (boolA t29_3))]) (fun (t29_3 : Bool) => []) ?_ ?_
   ·skip
    refine T_region ?_
    refine Tp rfl rfl (pur_move rfl) rfl ?_
    refine Tp rfl rfl (pur_move rfl) rfl ?_
    refine Tp rfl rfl (pur_ixT (T := tConflictEdge) sl25 rfl rfl rfl hx_i_1 rfl) rfl ?_
    refine Tp rfl rfl (pur_fa_q fld52_0 rfl rfl) rfl ?_
    refine Tp rfl rfl (pur_ldT (T := tConflictEdge) (i := i_1) (off := 0) rfl one3 rfl rfl hx_i_1 rfl) rfl ?_
    refine Tp rfl rfl (pur_move rfl) rfl ?_
    refine Tp rfl rfl (pur_eql rfl rfl rfl) rfl ?_
    refine Tp rfl rfl (pur_move rfl) rfl ?_
    refine toe [(0, (sl tConflictEdge p0)), (1, (intA a1)), (2, (intA b2)), (7, (intA (i_1 : Int))), (21, (boolA (decide (x_i_1.a = a1))))] rfl ?_
    refine TO_split (t := decide (x_i_1.a = a1)) 21 rfl (fun g_5 => ?_) (fun g_5 => ?_)
    ·skip
     refine TO_on rfl rfl (by decide) rfl rfl (TOp_pure (pur_move rfl) rfl ?_)
     refine TO_on rfl rfl (by decide) rfl rfl (TOp_pure (pur_move rfl) rfl ?_)
     refine TO_on rfl rfl (by decide) rfl rfl (TOp_pure (pur_ixT (T := tConflictEdge) sl25 rfl rfl rfl hx_i_1 rfl) rfl ?_)
     refine TO_on rfl rfl (by decide) rfl rfl (TOp_pure (pur_fa_q fld52_1 rfl rfl) rfl ?_)
     refine TO_on rfl rfl (by decide) rfl rfl (TOp_pure (pur_ldT (T := tConflictEdge) (i := i_1) (off := 1) rfl one3 rfl rfl hx_i_1 rfl) rfl ?_)
     refine TO_on rfl rfl (by decide) rfl rfl (TOp_pure (pur_move rfl) rfl ?_)
     refine TO_on rfl rfl (by decide) rfl rfl (TOp_pure (pur_eql rfl rfl rfl) rfl ?_)
     refine Tp rfl rfl (pur_pick (t := true) rfl rfl rfl) rfl ?_
     refine TO_nil ?_
     exact joined (decide (x_i_1.b = b2)) (wp 0 (lb rfl) rfl rfl rfl rfl rfl) (by first | exact Eq.symm ((and_T g_5 rfl)))
    ·skip
     refine TO_off rfl rfl (by decide) rfl rfl rfl ?_
     refine TO_off rfl rfl (by decide) rfl rfl rfl ?_
     refine TO_off rfl rfl (by decide) rfl rfl rfl ?_
     refine TO_off rfl rfl (by decide) rfl rfl rfl ?_
     refine TO_off rfl rfl (by decide) rfl rfl rfl ?_
     refine TO_off rfl rfl (by decide) rfl rfl rfl ?_
     refine TO_off rfl rfl (by decide) rfl rfl rfl ?_
     refine Tp rfl rfl (pur_pick (t := false) rfl rfl rfl) rfl ?_
     refine TO_nil ?_
     exact joined false (wp 0 (lb rfl) rfl rfl rfl rfl rfl) (by first | exact Eq.symm ((and_F g_5 rfl)))
   ·rintro _ rfl
    refine te [(0, (sl tConflictEdge p0)), (1, (intA a1)), (2, (intA b2)), (7, (intA (i_1 : Int))), (29, (boolA ((decide (x_i_1.a = a1)) && (decide (x_i_1.b = b2)))))] rfl ?_
    refine T_cond (t := ((decide (x_i_1.a = a1)) && (decide (x_i_1.b = b2)))) rfl (fun c_6 => ?_) (fun c_6 => ?_)
    ·replace H := cond_t c_6 H
     refine sr ?_
     refine Tp rfl rfl (pur_assign rfl) rfl ?_
     refine TO_nil ?_
     refine te [(6, (boolA true))] rfl ?_
     refine T_ret ?_
     refine block_ret ?_
     refine then_ret ?_
     refine then_ret ?_
     refine block_ret ?_
     refine then_ret ?_
     obtain rfl := some_inj H
     obtain rfl := some_inj K2_
     replace H := onS_r N2_
     obtain rfl := some_inj H
     refine end_ret (.tmp .nil) rfl rfl ⟨?_, rfl⟩
     rfl
    ·replace H := cond_f c_6 H
     refine T_skip ?_
     refine te [(0, (sl tConflictEdge p0)), (1, (intA a1)), (2, (intA b2)), (7, (intA (i_1 : Int)))] rfl ?_
     refine T_region ?_
     refine Tp rfl rfl (pur_move rfl) rfl ?_
     refine Tp rfl rfl (pur_add rfl rfl rfl (fits64 (by omega) (by omega))) rfl ?_
     refine Tp rfl rfl (pur_assign rfl) rfl ?_
     refine TO_nil ?_
     obtain rfl := some_inj H
     exact again (p0.length - (i_1 + 1)) (i_1 + 1) (by omega) (wp 0 (lb rfl) rfl rfl rfl rfl rfl) ⟨rfl, K2_⟩
  ·replace d2 := of_decide_eq_false d2
   obtain rfl := forL_end L2_ (by omega)
   refine T_exit ?_
   refine then_exit ?_
   refine then_exit ?_
   refine block_exit ?_
   replace H := onS_l N2_
   refine te [] rfl ?_
   refine sr ?_
   refine Tp rfl rfl (pur_assign rfl) rfl ?_
   refine TO_nil ?_
   refine te [(6, (boolA false))] rfl ?_
   refine T_ret ?_
   obtain rfl := some_inj H
   refine end_ret (.tmp .nil) rfl rfl ⟨?_, rfl⟩
   rfl

set_option maxHeartbeats 1000000 in
/-- impl.ConflictEdge] -/
theorem m_slices_Index_Simpl_ConflictEdge_impl_ConflictEdge_ok (s0 : (List ConflictEdge)) (v1 : ConflictEdge) (r : Int) (H : m_slices_Index_Simpl_ConflictEdge_impl_ConflictEdge s0 v1 = some r) : FnV prg 75 [(sl tConflictEdge s0), (.g (tConflictEdge.enc v1))] (intA r) := by
  unfold m_slices_Index_Simpl_ConflictEdge_impl_ConflictEdge at H
  refine fnV_of_T Try.func75 rfl rfl (Nat.le_of_ble_eq_true rfl) ?_
  refine te [(0, (sl tConflictEdge s0)), (1, (.g (tConflictEdge.enc v1)))] rfl ?_
  refine sr ?_
  refine TO_cons rfl (TOp_box rfl (boxAll rfl) rfl rfl ?_)
  refine Tp rfl rfl (pur_assign rfl) rfl ?_
  refine TO_nil ?_
  refine te [(0, (sl tConflictEdge s0)), (3, (.b 0 0))] rfl ?_
  refine T_seq ?_
  refine sr ?_
  refine Tp rfl rfl (pur_move rfl) rfl ?_
  refine Tp rfl rfl (pur_lenT (T := tConflictEdge) sl25 rfl rfl) rfl ?_
  refine Tp rfl rfl (pur_move rfl) rfl ?_
  refine TO_nil ?_
  refine te [(0, (sl tConflictEdge s0)), (3, (.b 0 0)), (7, (intA (s0.length : Int))), (8, (intA 0))] rfl ?_
  obtain ⟨O2_, L2_, N2_⟩ := bind_inv H
  clear H
  obtain ⟨B2_, hb2, L2_⟩ := gen_forL L2_
  refine T_block ?_
  refine T_loopX (fun k => fun (t_1 : Nat) => k = s0.length - t_1 ∧ forL B2_ (s0.drop t_1) (t_1 : Int) () = some O2_) (fun (t_1 : Nat) => [(0, (sl tConflictEdge s0)), (3, (.b 0 0)), (7, (intA (s0.length : Int))), (8, (intA (t_1 : Int)))]) (fun (t_1 : Nat) => [.box [(intA v1.a), (intA v1.b)]]) _ (0 : Nat) (wp 1 (lb rfl) rfl rfl rfl rfl rfl) ⟨rfl, L2_⟩ ?_
  rintro _ t_1 ⟨rfl, L2_⟩
  refine te [(0, (sl tConflictEdge s0)), (3, (.b 0 0)), (7, (intA (s0.length : Int))), (8, (intA (t_1 : Int)))] rfl ?_
  refine T_st (σ' := [.box [(intA v1.a), (intA v1.b)]]) rfl ?_
  refine T_fact (len_sl (T := tConflictEdge) (.tmp 0) rfl) (fun hl2 => ?_)
  refine sr ?_
  refine Tp rfl rfl (pur_lss rfl rfl rfl) rfl ?_
  refine TO_nil ?_
  refine te [(0, (sl tConflictEdge s0)), (3, (.b 0 0)), (7, (intA (s0.length : Int))), (8, (intA (t_1 : Int))), (9, (boolA (decide ((t_1 : Int) < (s0.length : Int)))))] rfl ?_
  refine T_seq ?_
  refine T_cond (t := decide ((t_1 : Int) < (s0.length : Int))) rfl (fun d2 => ?_) (fun d2 => ?_)
  ·replace d2 := of_decide_eq_true d2
   obtain ⟨x_t_1, hx_t_1⟩ : ∃ v, (s0)[t_1]? = some v := ⟨_, List.getElem?_eq_getElem (by omega)⟩
   obtain ⟨C2_, H, K2_⟩ := forL_step L2_ hx_t_1
   rw [hb2] at H
   refine T_skip ?_
   refine te [(0, (sl tConflictEdge s0)), (3, (.b 0 0)), (7, (intA (s0.length : Int))), (8, (intA (t_1 : Int)))] rfl ?_
   refine T_seq ?_
   refine T_block ?_
   refine sr ?_
   refine Tp rfl rfl (pur_move rfl) rfl ?_
   refine Tp rfl rfl (pur_assign rfl) rfl ?_
   refine TO_nil ?_
   refine te [(0, (sl tConflictEdge s0)), (3, (.b 0 0)), (5, (intA (t_1 : Int))), (7, (intA (s0.length : Int))), (8, (intA (t_1 : Int)))] rfl ?_
   refine T_seq ?_
   refine T_regionD mixed (by kernel_rfl) ?_
   refine TQ_pure rfl (pur_ldK_b agg52 rfl rfl (lb rfl) rfl) rfl ?_
   refine TQ_pure rfl (pur_move rfl) rfl ?_
   refine TQ_pure rfl (pur_move rfl) rfl ?_
   refine TQ_pure rfl (pur_ixT (T := tConflictEdge) sl25 rfl rfl rfl hx_t_1 rfl) rfl ?_
   refine TQ_pure rfl (pur_ldTK (T := tConflictEdge) (i := t_1) (off := 0) rfl agg52 rfl rfl hx_t_1 (by decide) rfl) rfl ?_
   refine TQ_pure rfl (pur_eql_edge (a := (v1.a, v1.b)) (b := (x_t_1.a, x_t_1.b)) eqe52 rfl rfl rfl) rfl ?_
   refine TQ_nil ?_
   refine te [(0, (sl tConflictEdge s0)), (3, (.b 0 0)), (5, (intA (t_1 : Int))), (7, (intA (s0.length : Int))), (8, (intA (t_1 : Int))), (16, (boolA (decide ((v1.a, v1.b) = (x_t_1.a, x_t_1.b)))))] rfl ?_
   refine T_cond (t := decide ((v1.a, v1.b) = (x_t_1.a, x_t_1.b))) rfl (fun c_3 => ?_) (fun c_3 => ?_)
   ·replace H := cond_t c_3 H
    refine sr ?_
    refine Tp rfl rfl (pur_move rfl) rfl ?_
    refine Tp rfl rfl (pur_assign rfl) rfl ?_
    refine TO_nil ?_
    refine te [(4, (intA (t_1 : Int)))] rfl ?_
    refine T_ret ?_
    refine block_ret ?_
    refine then_ret ?_
    refine then_ret ?_
    refine block_ret ?_
    refine then_ret ?_
    obtain rfl := some_inj H
    obtain rfl := some_inj K2_
    replace H := onS_r N2_
    obtain rfl := some_inj H
    refine end_ret (.tmp .nil) rfl rfl ⟨?_, rfl⟩
    rfl
   ·replace H := cond_f c_3 H
    refine T_skip ?_
    refine te [(0, (sl tConflictEdge s0)), (3, (.b 0 0)), (7, (intA (s0.length : Int))), (8, (intA (t_1 : Int)))] rfl ?_
    refine T_region ?_
    refine Tp rfl rfl (pur_add rfl rfl rfl (fits64 (by omega) (by omega))) rfl ?_
    refine Tp rfl rfl (pur_move rfl) rfl ?_
    refine TO_nil ?_
    obtain rfl := some_inj H
    exact again (s0.length - (t_1 + 1)) (t_1 + 1) (by omega) (wp 1 (lb rfl) rfl rfl rfl rfl rfl) ⟨rfl, K2_⟩
  ·replace d2 := of_decide_eq_false d2
   obtain rfl := forL_end L2_ (by omega)
   refine T_exit ?_
   refine then_exit ?_
   refine then_exit ?_
   refine block_exit ?_
   replace H := onS_l N2_
   refine te [] rfl ?_
   refine sr ?_
   refine Tp rfl rfl (pur_assign rfl) rfl ?_
   refine TO_nil ?_
   refine te [(4, (intA (-1)))] rfl ?_
   refine T_ret ?_
   obtain rfl := some_inj H
   refine end_ret (.tmp .nil) rfl rfl ⟨?_, rfl⟩
   rfl

set_option maxHeartbeats 1000000 in
/-- impl.ConflictEdge] -/
theorem m_slices_Contains_Simpl_ConflictEdge_impl_ConflictEdge_ok (s0 : (List ConflictEdge)) (v1 : ConflictEdge) (r : Bool) (H : m_slices_Contains_Simpl_ConflictEdge_impl_ConflictEdge s0 v1 = some r) : FnV prg 43 [(sl tConflictEdge s0), (.g (tConflictEdge.enc v1))] (boolA r) := by
  unfold m_slices_Contains_Simpl_ConflictEdge_impl_ConflictEdge at H
  refine fnV_of_T Try.func43 rfl rfl (Nat.le_of_ble_eq_true rfl) ?_
  refine te [(0, (sl tConflictEdge s0)), (1, (.g (tConflictEdge.enc v1)))] rfl ?_
  refine sr ?_
  refine TO_cons rfl (TOp_box rfl (boxAll rfl) rfl rfl ?_)
  refine Tp rfl rfl (pur_assign rfl) rfl ?_
  refine TO_nil ?_
  refine te [(0, (sl tConflictEdge s0)), (3, (.b 0 0))] rfl ?_
  refine sr ?_
  refine Tp rfl rfl (pur_move rfl) rfl ?_
  refine Tp rfl rfl (pur_ldK_b agg52 rfl rfl (lb rfl) rfl) rfl ?_
  obtain ⟨r_1, h_2, H⟩ := bind_inv H
  refine TO_cons rfl (TOp_callV (call_static ent75 rfl) (m_slices_Index_Simpl_ConflictEdge_impl_ConflictEdge_ok _ _ _ h_2) rfl rfl rfl ?_)
  refine Tp rfl rfl (pur_geq rfl rfl rfl) rfl ?_
  refine Tp rfl rfl (pur_assign rfl) rfl ?_
  refine TO_nil ?_
  refine te [(4, (boolA (decide (0 ≤ r_1))))] rfl ?_
  refine T_ret ?_
  obtain rfl := some_inj H
  refine end_ret (.tmp .nil) rfl rfl ⟨?_, rfl⟩
  rfl

set_option maxHeartbeats 1000000 in
/-- impl.IsPreferred -/
theorem m_impl_IsPreferred_ok (preferences0 : (List ConflictEdge)) (a1 : Int) (b2 : Int) (r : Bool) (H : m_impl_IsPreferred preferences0 a1 b2 = some r) : FnV prg 14 [(sl tConflictEdge preferences0), (intA a1), (intA b2)] (boolA r) := by
  unfold m_impl_IsPreferred at H
  refine fnV_of_T Try.func14 rfl rfl (Nat.le_of_ble_eq_true rfl) ?_
  refine te [(0, (sl tConflictEdge preferences0)), (1, (intA a1)), (2, (intA b2))] rfl ?_
  refine sr ?_
  refine Tp rfl rfl (pur_assign rfl) rfl ?_
  refine TO_nil ?_
  refine te [(0, (sl tConflictEdge preferences0)), (1, (intA a1)), (2, (intA b2))] rfl ?_
  refine sr ?_
  refine Tp rfl rfl (pur_move rfl) rfl ?_
  refine Tp rfl rfl (pur_move rfl) rfl ?_
  refine Tp rfl rfl (pur_move rfl) rfl ?_
  refine Tp rfl rfl (pur_build bld52 rfl rfl) rfl ?_
  obtain ⟨r_1, h_2, H⟩ := bind_inv H
  refine TO_cons rfl (TOp_callV (call_static ent43 rfl) (m_slices_Contains_Simpl_ConflictEdge_impl_ConflictEdge_ok _ _ _ h_2) rfl rfl rfl ?_)
  refine Tp rfl rfl (pur_assign rfl) rfl ?_
  refine TO_nil ?_
  refine te [(6, (boolA r_1))] rfl ?_
  refine T_ret ?_
  obtain rfl := some_inj H
  refine end_ret (.tmp .nil) rfl rfl ⟨?_, rfl⟩
  rfl

set_option maxHeartbeats 1000000 in
/-- spec.l1In -/
theorem m_spec_l1In_ok (x0 : Int) (low1 : Int) (high2 : Int) (r : Bool) (H : m_spec_l1In x0 low1 high2 = some r) : FnV prg 76 [(intA x0), (intA low1), (intA high2)] (boolA r) := by
  unfold m_spec_l1In at H
  refine fnV_of_T Try.func76 rfl rfl (Nat.le_of_ble_eq_true rfl) ?_
  refine te [(0, (intA x0)), (1, (intA low1)), (2, (intA high2))] rfl ?_
  refine sr ?_
  refine Tp rfl rfl (pur_assign rfl) rfl ?_
  refine TO_nil ?_
  refine te [(0, (intA x0)), (1, (intA low1)), (2, (intA high2))] rfl ?_
  refine T_cutX (fun x => ((decide (low1 ≤ x0)) && (decide (x0 ≤ high2))) = x) (fun (t6_1 : Bool) => [(6, (boolA t6_1))]) (fun (t6_1 : Bool) => []) ?_ ?_
  ·skip
   refine T_region ?_
   refine Tp rfl rfl (pur_move rfl) rfl ?_
   refine Tp rfl rfl (pur_move rfl) rfl ?_
   refine Tp rfl rfl (pur_geq rfl rfl rfl) rfl ?_
   refine Tp rfl rfl (pur_move rfl) rfl ?_
   refine TO_split (t := decide (low1 ≤ x0)) 10 rfl (fun g_3 => ?_) (fun g_3 => ?_)
   ·skip
    refine TO_on rfl rfl (by decide) rfl rfl (TOp_pure (pur_move rfl) rfl ?_)
    refine TO_on rfl rfl (by decide) rfl rfl (TOp_pure (pur_move rfl) rfl ?_)
    refine TO_on rfl rfl (by decide) rfl rfl (TOp_pure (pur_leq rfl rfl rfl) rfl ?_)
    refine Tp rfl rfl (pur_pick (t := true) rfl rfl rfl) rfl ?_
    refine Tp rfl rfl (pur_assign rfl) rfl ?_
    refine TO_nil ?_
    exact joined (decide (x0 ≤ high2)) (wp 0 (lb rfl) rfl rfl rfl rfl rfl) (by first | exact Eq.symm ((and_T g_3 rfl)))
   ·skip
    refine TO_off rfl rfl (by decide) rfl rfl rfl ?_
    refine TO_off rfl rfl (by decide) rfl rfl rfl ?_
    refine TO_off rfl rfl (by decide) rfl rfl rfl ?_
    refine Tp rfl rfl (pur_pick (t := false) rfl rfl rfl) rfl ?_
    refine Tp rfl rfl (pur_assign rfl) rfl ?_
    refine TO_nil ?_
    exact joined false (wp 0 (lb rfl) rfl rfl rfl rfl rfl) (by first | exact Eq.symm ((and_F g_3 rfl)))
  ·rintro _ rfl
   refine te [(6, (boolA ((decide (low1 ≤ x0)) && (decide (x0 ≤ high2)))))] rfl ?_
   refine T_ret ?_
   obtain rfl := some_inj H
   refine end_ret (.tmp .nil) rfl rfl ⟨?_, rfl⟩
   rfl

set_option maxHeartbeats 1000000 in
/-- spec.AreValidEdges -/
theorem m_spec_AreValidEdges_ok (n0 : Int) (l1 : (List ConflictEdge)) (r : Bool) (H : m_spec_AreValidEdges n0 l1 = some r) : FnV prg 45 [(intA n0), (sl tConflictEdge l1)] (boolA r) := by
  unfold m_spec_AreValidEdges at H
  refine fnV_of_T Try.func45 rfl rfl (Nat.le_of_ble_eq_true rfl) ?_
  refine te [(0, (intA n0)), (1, (sl tConflictEdge l1))] rfl ?_
  refine sr ?_
  refine Tp rfl rfl (pur_assign rfl) rfl ?_
  refine TO_nil ?_
  refine te [(0, (intA n0)), (1, (sl tConflictEdge l1))] rfl ?_
  refine T_seq ?_
  refine sr ?_
  refine Tp rfl rfl (pur_assign rfl) rfl ?_
  refine TO_nil ?_
  refine te [(0, (intA n0)), (1, (sl tConflictEdge l1)), (5, (intA 0))] rfl ?_
  obtain ⟨O2_, L2_, N2_⟩ := bind_inv H
  clear H
  obtain ⟨B2_, hb2, L2_⟩ := gen_forL L2_
  refine T_block ?_
  refine T_loopX (fun k => fun (i_1 : Nat) => k = l1.length - i_1 ∧ forL B2_ (l1.drop i_1) (i_1 : Int) () = some O2_) (fun (i_1 : Nat) => [(0, (intA n0)), (1, (sl tConflictEdge l1)), (5, (intA (i_1 : Int)))]) (fun (i_1 : Nat) => []) _ (0 : Nat) (wp 0 (lb rfl) rfl rfl rfl rfl rfl) ⟨rfl, L2_⟩ ?_
  rintro _ i_1 ⟨rfl, L2_⟩
  refine te [(0, (intA n0)), (1, (sl tConflictEdge l1)), (5, (intA (i_1 : Int)))] rfl ?_
  refine T_st (σ' := []) rfl ?_
  refine T_fact (len_sl (T := tConflictEdge) (.tmp 1) rfl) (fun hl2 => ?_)
  refine T_seq ?_
  refine sr ?_
  refine Tp rfl rfl (pur_move rfl) rfl ?_
  refine Tp rfl rfl (pur_move rfl) rfl ?_
  refine Tp rfl rfl (pur_lenT (T := tConflictEdge) sl25 rfl rfl) rfl ?_
  refine Tp rfl rfl (pur_lss rfl rfl rfl) rfl ?_
  refine TO_nil ?_
  refine te [(0, (intA n0)), (1, (sl tConflictEdge l1)), (5, (intA (i_1 : Int))), (9, (boolA (decide ((i_1 : Int) < (l1.length : Int)))))] rfl ?_
  refine T_cond (t := decide ((i_1 : Int) < (l1.length : Int))) rfl (fun d2 => ?_) (fun d2 => ?_)
  ·replace d2 := of_decide_eq_true d2
   obtain ⟨x_i_1, hx_i_1⟩ : ∃ v, (l1)[i_1]? = some v := ⟨_, List.getElem?_eq_getElem (by omega)⟩
   obtain ⟨C2_, H, K2_⟩ := forL_step L2_ hx_i_1
   rw [hb2] at H
   refine T_skip ?_
   refine te [(0, (intA n0)), (1, (sl tConflictEdge l1)), (5, (intA (i_1 : Int)))] rfl ?_
   refine T_seq ?_
   refine T_block ?_
   obtain ⟨t81_3, J_3, H_4⟩ := bind_inv H
   refine T_cutX (fun x => t81_3 = x) (fun (t81_3 : Bool) => [(0, (intA n0)), (1, (sl tConflictEdge l1)), (5, (intA (i_1 : Int))), (81, (boolA t81_3))]) (fun (t81_3 : Bool) => []) ?_ ?_
   ·replace H := J_3
    refine T_regionD mixed (by kernel_rfl) ?_
    refine TQ_pure rfl (pur_move rfl) rfl ?_
    refine TQ_pure rfl (pur_move rfl) rfl ?_
    refine TQ_pure rfl (pur_ixT (T := tConflictEdge) sl25 rfl rfl rfl hx_i_1 rfl) rfl ?_
    refine TQ_pure rfl (pur_fa_q fld52_0 rfl rfl) rfl ?_
    refine TQ_pure rfl (pur_ldT (T := tConflictEdge) (i := i_1) (off := 0) rfl one3 rfl rfl hx_i_1 rfl) rfl ?_
    refine TQ_pure rfl (pur_move rfl) rfl ?_
    refine TQ_pure rfl (pur_move rfl) rfl ?_
    refine TQ_pure rfl (pur_ixT (T := tConflictEdge) sl25 rfl rfl rfl hx_i_1 rfl) rfl ?_
    refine tqe [(0, (intA n0)), (1, (sl tConflictEdge l1)), (5, (intA (i_1 : Int))), (16, (intA x_i_1.a)), (19, (.q (flat tConflictEdge.enc l1) (i_1 * tConflictEdge.k)))] rfl ?_
    refine TQ_pure rfl (pur_fa_q fld52_1 rfl rfl) rfl ?_
    refine TQ_pure rfl (pur_ldT (T := tConflictEdge) (i := i_1) (off := 1) rfl one3 rfl rfl hx_i_1 rfl) rfl ?_
    refine TQ_pure rfl (pur_wsub rfl rfl rfl) rfl ?_
    obtain ⟨r_5, h_6, H⟩ := bind_inv H
    refine TQ_callV rfl (call_static ent76 rfl) (m_spec_l1In_ok _ _ _ _ h_6) rfl rfl ?_
    refine TQ_pure rfl (pur_not rfl rfl) rfl ?_
    refine TQ_pure rfl (pur_move rfl) rfl ?_
    refine TQ_split (t := (!r_5)) 25 rfl (fun g_7 => ?_) (fun g_7 => ?_)
    ·replace H := cond_t g_7 H
     refine TQ_off rfl rfl (by decide) rfl rfl rfl ?_
     refine TQ_off rfl rfl (by decide) rfl rfl rfl ?_
     refine TQ_off rfl rfl (by decide) rfl rfl rfl ?_
     refine TQ_off rfl rfl (by decide) rfl rfl rfl ?_
     refine TQ_off rfl rfl (by decide) rfl rfl rfl ?_
     refine TQ_off rfl rfl (by decide) rfl rfl rfl ?_
     refine TQ_off rfl rfl (by decide) rfl rfl rfl ?_
     refine TQ_off rfl rfl (by decide) rfl rfl rfl ?_
     refine tqe [(0, (intA n0)), (1, (sl tConflictEdge l1)), (5, (intA (i_1 : Int))), (25, (boolA true)), (33, (.v undef))] rfl ?_
     refine TQ_off rfl rfl (by decide) rfl rfl rfl ?_
     refine TQ_pure rfl (pur_pick (t := true) rfl rfl rfl) rfl ?_
     refine TQ_pure rfl (pur_move rfl) rfl ?_
     refine TQ_off rfl rfl (by decide) rfl rfl rfl ?_
     refine TQ_off rfl rfl (by decide) rfl rfl rfl ?_
     refine TQ_off rfl rfl (by decide) rfl rfl rfl ?_
     refine TQ_off rfl rfl (by decide) rfl rfl rfl ?_
     refine TQ_off rfl rfl (by decide) rfl rfl rfl ?_
     refine tqe [(0, (intA n0)), (1, (sl tConflictEdge l1)), (5, (intA (i_1 : Int))), (36, (boolA true)), (39, (.v undef)), (40, (.v undef)), (41, (.v undef))] rfl ?_
     refine TQ_off rfl rfl (by decide) rfl rfl rfl ?_
     refine TQ_off rfl rfl (by decide) rfl rfl rfl ?_
     refine TQ_off rfl rfl (by decide) rfl rfl rfl ?_
     refine TQ_off rfl rfl (by decide) rfl rfl rfl ?_
     refine TQ_off rfl rfl (by decide) rfl rfl rfl ?_
     refine TQ_off rfl rfl (by decide) rfl rfl rfl ?_
     refine TQ_off rfl rfl (by decide) rfl rfl rfl ?_
     refine TQ_off rfl rfl (by decide) rfl rfl rfl ?_
     refine tqe [(0, (intA n0)), (1, (sl tConflictEdge l1)), (5, (intA (i_1 : Int))), (36, (boolA true)), (39, (.v undef)), (44, (.v undef)), (49, (.v undef))] rfl ?_
     refine TQ_off rfl rfl (by decide) rfl rfl rfl ?_
     refine TQ_off rfl rfl (by decide) rfl rfl rfl ?_
     refine TQ_off rfl rfl (by decide) rfl rfl rfl ?_
     refine TQ_off rfl rfl (by decide) rfl rfl rfl ?_
     refine TQ_off rfl rfl (by decide) rfl rfl rfl ?_
     refine TQ_off rfl rfl (by decide) rfl rfl rfl ?_
     refine TQ_off rfl rfl (by decide) rfl rfl rfl ?_
     refine TQ_off rfl rfl (by decide) rfl rfl rfl ?_
     refine tqe [(0, (intA n0)), (1, (sl tConflictEdge l1)), (5, (intA (i_1 : Int))), (36, (boolA true)), (39, (.v undef)), (52, (.v undef)), (57, (.v undef))] rfl ?_
     refine TQ_off rfl rfl (by decide) rfl rfl rfl ?_
     refine TQ_off rfl rfl (by decide) rfl rfl rfl ?_
     refine TQ_off rfl rfl (by decide) rfl rfl rfl ?_
     refine TQ_off rfl rfl (by decide) rfl rfl rfl ?_
     refine TQ_off rfl rfl (by decide) rfl rfl rfl ?_
     refine TQ_off rfl rfl (by decide) rfl rfl rfl ?_
     refine TQ_off rfl rfl (by decide) rfl rfl rfl ?_
     refine TQ_off rfl rfl (by decide) rfl rfl rfl ?_
     refine tqe [(0, (intA n0)), (1, (sl tConflictEdge l1)), (5, (intA (i_1 : Int))), (36, (boolA true)), (39, (.v undef)), (52, (.v undef)), (65, (.v undef))] rfl ?_
     refine TQ_off rfl rfl (by decide) rfl rfl rfl ?_
     refine TQ_off rfl rfl (by decide) rfl rfl rfl ?_
     refine TQ_off rfl rfl (by decide) rfl rfl rfl ?_
     refine TQ_off rfl rfl (by decide) rfl rfl rfl ?_
     refine TQ_off rfl rfl (by decide) rfl rfl rfl ?_
     refine TQ_off rfl rfl (by decide) rfl rfl rfl ?_
     refine TQ_off rfl rfl (by decide) rfl rfl rfl ?_
     refine TQ_off rfl rfl (by decide) rfl rfl rfl ?_
     refine tqe [(0, (intA n0)), (1, (sl tConflictEdge l1)), (5, (intA (i_1 : Int))), (36, (boolA true)), (39, (.v undef)), (52, (.v undef)), (65, (.v undef)), (70, (.v undef)), (71, (.v undef)), (73, (.v undef))] rfl ?_
     refine TQ_off rfl rfl (by decide) rfl rfl rfl ?_
     refine TQ_off rfl rfl (by decide) rfl rfl rfl ?_
     refine TQ_off rfl rfl (by decide) rfl rfl rfl ?_
     refine TQ_off rfl rfl (by decide) rfl rfl rfl ?_
     refine TQ_off rfl rfl (by decide) rfl rfl rfl ?_
     refine TQ_off rfl rfl (by decide) rfl rfl rfl ?_
     refine TQ_off rfl rfl (by decide) rfl rfl rfl ?_
     refine TQ_pure rfl (pur_pick (t := true) rfl rfl rfl) rfl ?_
     refine TQ_nil ?_
     exact joined true (wp 0 (lb rfl) rfl rfl rfl rfl rfl) (some_inj H).symm
    ·replace H := cond_f g_7 H
     refine TQ_on rfl rfl (by decide) rfl (pur_move rfl) rfl ?_
     refine TQ_on rfl rfl (by decide) rfl (pur_move rfl) rfl ?_
     refine TQ_on rfl rfl (by decide) rfl (pur_ixT (T := tConflictEdge) sl25 rfl rfl rfl hx_i_1 rfl) rfl ?_
     refine TQ_on rfl rfl (by decide) rfl (pur_fa_q fld52_1 rfl rfl) rfl ?_
     refine TQ_on rfl rfl (by decide) rfl (pur_ldT (T := tConflictEdge) (i := i_1) (off := 1) rfl one3 rfl rfl hx_i_1 rfl) rfl ?_
     refine TQ_on rfl rfl (by decide) rfl (pur_move rfl) rfl ?_
     refine TQ_on rfl rfl (by decide) rfl (pur_wsub rfl rfl rfl) rfl ?_
     obtain ⟨r_8, h_9, H⟩ := bind_inv H
     refine TQ_onV rfl rfl (by decide) rfl (call_static ent76 rfl) (m_spec_l1In_ok _ _ _ _ h_9) rfl rfl ?_
     refine tqe [(0, (intA n0)), (1, (sl tConflictEdge l1)), (5, (intA (i_1 : Int))), (25, (boolA false)), (33, (boolA r_8))] rfl ?_
     refine TQ_on rfl rfl (by decide) rfl (pur_not rfl rfl) rfl ?_
     refine TQ_pure rfl (pur_pick (t := false) rfl rfl rfl) rfl ?_
     refine TQ_pure rfl (pur_move rfl) rfl ?_
     refine TQ_split (t := (!r_8)) 36 rfl (fun g_10 => ?_) (fun g_10 => ?_)
     ·replace H := cond_t g_10 H
      refine TQ_off rfl rfl (by decide) rfl rfl rfl ?_
      refine TQ_off rfl rfl (by decide) rfl rfl rfl ?_
      refine TQ_off rfl rfl (by decide) rfl rfl rfl ?_
      refine TQ_off rfl rfl (by decide) rfl rfl rfl ?_
      refine TQ_off rfl rfl (by decide) rfl rfl rfl ?_
      refine TQ_off rfl rfl (by decide) rfl rfl rfl ?_
      refine TQ_off rfl rfl (by decide) rfl rfl rfl ?_
      refine TQ_off rfl rfl (by decide) rfl rfl rfl ?_
      refine tqe [(0, (intA n0)), (1, (sl tConflictEdge l1)), (5, (intA (i_1 : Int))), (36, (boolA true)), (39, (.v undef)), (44, (.v undef))] rfl ?_
      refine TQ_off rfl rfl (by decide) rfl rfl rfl ?_
      refine TQ_off rfl rfl (by decide) rfl rfl rfl ?_
      refine TQ_off rfl rfl (by decide) rfl rfl rfl ?_
      refine TQ_off rfl rfl (by decide) rfl rfl rfl ?_
      refine TQ_off rfl rfl (by decide) rfl rfl rfl ?_
      refine TQ_off rfl rfl (by decide) rfl rfl rfl ?_
      refine TQ_off rfl rfl (by decide) rfl rfl rfl ?_
      refine TQ_off rfl rfl (by decide) rfl rfl rfl ?_
      refine tqe [(0, (intA n0)), (1, (sl tConflictEdge l1)), (5, (intA (i_1 : Int))), (36, (boolA true)), (39, (.v undef)), (52, (.v undef))] rfl ?_
      refine TQ_off rfl rfl (by decide) rfl rfl rfl ?_
      refine TQ_off rfl rfl (by decide) rfl rfl rfl ?_
      refine TQ_off rfl rfl (by decide) rfl rfl rfl ?_
      refine TQ_off rfl rfl (by decide) rfl rfl rfl ?_
      refine TQ_off rfl rfl (by decide) rfl rfl rfl ?_
      refine TQ_off rfl rfl (by decide) rfl rfl rfl ?_
      refine TQ_off rfl rfl (by decide) rfl rfl rfl ?_
      refine TQ_off rfl rfl (by decide) rfl rfl rfl ?_
      refine tqe [(0, (intA n0)), (1, (sl tConflictEdge l1)), (5, (intA (i_1 : Int))), (36, (boolA true)), (39, (.v undef)), (52, (.v undef)), (57, (.v undef)), (58, (.v undef)), (60, (.v undef))] rfl ?_
      refine TQ_off rfl rfl (by decide) rfl rfl rfl ?_
      refine TQ_off rfl rfl (by decide) rfl rfl rfl ?_
      refine TQ_off rfl rfl (by decide) rfl rfl rfl ?_
      refine TQ_off rfl rfl (by decide) rfl rfl rfl ?_
      refine TQ_off rfl rfl (by decide) rfl rfl rfl ?_
      refine TQ_off rfl rfl (by decide) rfl rfl rfl ?_
      refine TQ_off rfl rfl (by decide) rfl rfl rfl ?_
      refine TQ_off rfl rfl (by decide) rfl rfl rfl ?_
      refine tqe [(0, (intA n0)), (1, (sl tConflictEdge l1)), (5, (intA (i_1 : Int))), (36, (boolA true)), (39, (.v undef)), (52, (.v undef)), (65, (.v undef)), (68, (.v undef))] rfl ?_
      refine TQ_off rfl rfl (by decide) rfl rfl rfl ?_
      refine TQ_off rfl rfl (by decide) rfl rfl rfl ?_
      refine TQ_off rfl rfl (by decide) rfl rfl rfl ?_
      refine TQ_off rfl rfl (by decide) rfl rfl rfl ?_
      refine TQ_off rfl rfl (by decide) rfl rfl rfl ?_
      refine TQ_off rfl rfl (by decide) rfl rfl rfl ?_
      refine TQ_off rfl rfl (by decide) rfl rfl rfl ?_
      refine TQ_off rfl rfl (by decide) rfl rfl rfl ?_
      refine tqe [(0, (intA n0)), (1, (sl tConflictEdge l1)), (5, (intA (i_1 : Int))), (36, (boolA true)), (39, (.v undef)), (52, (.v undef)), (65, (.v undef)), (70, (.v undef)), (76, (.v undef))] rfl ?_
      refine TQ_off rfl rfl (by decide) rfl rfl rfl ?_
      refine TQ_off rfl rfl (by decide) rfl rfl rfl ?_
      refine TQ_off rfl rfl (by decide) rfl rfl rfl ?_
      refine TQ_off rfl rfl (by decide) rfl rfl rfl ?_
      refine TQ_pure rfl (pur_pick (t := true) rfl rfl rfl) rfl ?_
      refine TQ_nil ?_
      exact joined true (wp 0 (lb rfl) rfl rfl rfl rfl rfl) (some_inj H).symm
     ·replace H := cond_f g_10 H
      refine TQ_on rfl rfl (by decide) rfl (pur_move rfl) rfl ?_
      refine TQ_on rfl rfl (by decide) rfl (pur_gtr rfl rfl rfl) rfl ?_
      refine TQ_on rfl rfl (by decide) rfl (pur_move rfl) rfl ?_
      refine TQ_split (t := decide (0 < (i_1 : Int))) 39 rfl (fun g_11 => ?_) (fun g_11 => ?_)
      ·replace H := cond_t g_11 H
       refine TQ_on rfl rfl (by decide) rfl (pur_move rfl) rfl ?_
       refine TQ_on rfl rfl (by decide) rfl (pur_move rfl) rfl ?_
       refine TQ_on rfl rfl (by decide) rfl (pur_ixT (T := tConflictEdge) sl25 rfl rfl rfl hx_i_1 rfl) rfl ?_
       refine TQ_on rfl rfl (by decide) rfl (pur_fa_q fld52_0 rfl rfl) rfl ?_
       refine TQ_on rfl rfl (by decide) rfl (pur_ldT (T := tConflictEdge) (i := i_1) (off := 0) rfl one3 rfl rfl hx_i_1 rfl) rfl ?_
       refine TQ_on rfl rfl (by decide) rfl (pur_move rfl) rfl ?_
       refine TQ_on rfl rfl (by decide) rfl (pur_move rfl) rfl ?_
       refine TQ_on rfl rfl (by decide) rfl (pur_sub rfl rfl rfl (fits64 (by omega) (by omega))) rfl ?_
       refine tqe [(0, (intA n0)), (1, (sl tConflictEdge l1)), (5, (intA (i_1 : Int))), (36, (boolA false)), (39, (boolA true)), (44, (intA x_i_1.a)), (45, (sl tConflictEdge l1)), (47, (intA ((i_1 : Int) - 1)))] rfl ?_
       obtain ⟨v_12, h_13, H⟩ := bind_inv H
       obtain ⟨n_14, hz_15, hv_16⟩ := getI_inv h_13
       refine TQ_on rfl rfl (by decide) rfl (pur_ixT (T := tConflictEdge) sl25 rfl rfl hz_15 hv_16 rfl) rfl ?_
       refine TQ_on rfl rfl (by decide) rfl (pur_fa_q fld52_0 rfl rfl) rfl ?_
       refine TQ_on rfl rfl (by decide) rfl (pur_ldT (T := tConflictEdge) (i := n_14) (off := 0) rfl one3 rfl rfl hv_16 rfl) rfl ?_
       refine TQ_on rfl rfl (by decide) rfl (pur_lss rfl rfl rfl) rfl ?_
       refine TQ_on rfl rfl (by decide) rfl (pur_move rfl) rfl ?_
       refine TQ_split (t := decide (x_i_1.a < v_12.a)) 52 rfl (fun g_17 => ?_) (fun g_17 => ?_)
       ·replace H := cond_t g_17 H
        refine TQ_off rfl rfl (by decide) rfl rfl rfl ?_
        refine TQ_off rfl rfl (by decide) rfl rfl rfl ?_
        refine TQ_off rfl rfl (by decide) rfl rfl rfl ?_
        refine TQ_off rfl rfl (by decide) rfl rfl rfl ?_
        refine TQ_off rfl rfl (by decide) rfl rfl rfl ?_
        refine TQ_off rfl rfl (by decide) rfl rfl rfl ?_
        refine TQ_off rfl rfl (by decide) rfl rfl rfl ?_
        refine TQ_off rfl rfl (by decide) rfl rfl rfl ?_
        refine tqe [(0, (intA n0)), (1, (sl tConflictEdge l1)), (5, (intA (i_1 : Int))), (36, (boolA false)), (39, (boolA true)), (52, (boolA true)), (57, (.v undef)), (58, (.v undef)), (60, (.v undef))] rfl ?_
        refine TQ_off rfl rfl (by decide) rfl rfl rfl ?_
        refine TQ_off rfl rfl (by decide) rfl rfl rfl ?_
        refine TQ_off rfl rfl (by decide) rfl rfl rfl ?_
        refine TQ_off rfl rfl (by decide) rfl rfl rfl ?_
        refine TQ_off rfl rfl (by decide) rfl rfl rfl ?_
        refine TQ_off rfl rfl (by decide) rfl rfl rfl ?_
        refine TQ_off rfl rfl (by decide) rfl rfl rfl ?_
        refine TQ_off rfl rfl (by decide) rfl rfl rfl ?_
        refine tqe [(0, (intA n0)), (1, (sl tConflictEdge l1)), (5, (intA (i_1 : Int))), (36, (boolA false)), (39, (boolA true)), (52, (boolA true)), (65, (.v undef)), (68, (.v undef))] rfl ?_
        refine TQ_off rfl rfl (by decide) rfl rfl rfl ?_
        refine TQ_off rfl rfl (by decide) rfl rfl rfl ?_
        refine TQ_off rfl rfl (by decide) rfl rfl rfl ?_
        refine TQ_off rfl rfl (by decide) rfl rfl rfl ?_
        refine TQ_off rfl rfl (by decide) rfl rfl rfl ?_
        refine TQ_off rfl rfl (by decide) rfl rfl rfl ?_
        refine TQ_off rfl rfl (by decide) rfl rfl rfl ?_
        refine TQ_off rfl rfl (by decide) rfl rfl rfl ?_
        refine tqe [(0, (intA n0)), (1, (sl tConflictEdge l1)), (5, (intA (i_1 : Int))), (36, (boolA false)), (39, (boolA true)), (52, (boolA true)), (65, (.v undef)), (70, (.v undef)), (76, (.v undef))] rfl ?_
        refine TQ_off rfl rfl (by decide) rfl rfl rfl ?_
        refine TQ_off rfl rfl (by decide) rfl rfl rfl ?_
        refine TQ_on rfl rfl (by decide) rfl (pur_pick (t := true) rfl rfl rfl) rfl ?_
        refine TQ_on rfl rfl (by decide) rfl (pur_pick (t := true) rfl rfl rfl) rfl ?_
        refine TQ_pure rfl (pur_pick (t := false) rfl rfl rfl) rfl ?_
        refine TQ_nil ?_
        exact joined true (wp 0 (lb rfl) rfl rfl rfl rfl rfl) (some_inj H).symm
       ·replace H := cond_f g_17 H
        refine TQ_on rfl rfl (by decide) rfl (pur_move rfl) rfl ?_
        refine TQ_on rfl rfl (by decide) rfl (pur_move rfl) rfl ?_
        refine TQ_on rfl rfl (by decide) rfl (pur_ixT (T := tConflictEdge) sl25 rfl rfl rfl hx_i_1 rfl) rfl ?_
        refine TQ_on rfl rfl (by decide) rfl (pur_fa_q fld52_0 rfl rfl) rfl ?_
        refine TQ_on rfl rfl (by decide) rfl (pur_ldT (T := tConflictEdge) (i := i_1) (off := 0) rfl one3 rfl rfl hx_i_1 rfl) rfl ?_
        refine TQ_on rfl rfl (by decide) rfl (pur_move rfl) rfl ?_
        refine TQ_on rfl rfl (by decide) rfl (pur_move rfl) rfl ?_
        refine TQ_on rfl rfl (by decide) rfl (pur_sub rfl rfl rfl (fits64 (by omega) (by omega))) rfl ?_
        refine tqe [(0, (intA n0)), (1, (sl tConflictEdge l1)), (5, (intA (i_1 : Int))), (36, (boolA false)), (39, (boolA true)), (52, (boolA false)), (57, (intA x_i_1.a)), (58, (sl tConflictEdge l1)), (60, (intA ((i_1 : Int) - 1)))] rfl ?_
        refine TQ_on rfl rfl (by decide) rfl (pur_ixT (T := tConflictEdge) sl25 rfl rfl hz_15 hv_16 rfl) rfl ?_
        refine TQ_on rfl rfl (by decide) rfl (pur_fa_q fld52_0 rfl rfl) rfl ?_
        refine TQ_on rfl rfl (by decide) rfl (pur_ldT (T := tConflictEdge) (i := n_14) (off := 0) rfl one3 rfl rfl hv_16 rfl) rfl ?_
        refine TQ_on rfl rfl (by decide) rfl (pur_eql rfl rfl rfl) rfl ?_
        refine TQ_on rfl rfl (by decide) rfl (pur_move rfl) rfl ?_
        refine TQ_split (t := decide (x_i_1.a = v_12.a)) 65 rfl (fun g_18 => ?_) (fun g_18 => ?_)
        ·replace H := cond_t g_18 H
         refine TQ_on rfl rfl (by decide) rfl (pur_move rfl) rfl ?_
         refine TQ_on rfl rfl (by decide) rfl (pur_move rfl) rfl ?_
         refine TQ_on rfl rfl (by decide) rfl (pur_ixT (T := tConflictEdge) sl25 rfl rfl rfl hx_i_1 rfl) rfl ?_
         refine TQ_on rfl rfl (by decide) rfl (pur_fa_q fld52_1 rfl rfl) rfl ?_
         refine TQ_on rfl rfl (by decide) rfl (pur_ldT (T := tConflictEdge) (i := i_1) (off := 1) rfl one3 rfl rfl hx_i_1 rfl) rfl ?_
         refine TQ_on rfl rfl (by decide) rfl (pur_move rfl) rfl ?_
         refine TQ_on rfl rfl (by decide) rfl (pur_move rfl) rfl ?_
         refine TQ_on rfl rfl (by decide) rfl (pur_sub rfl rfl rfl (fits64 (by omega) (by omega))) rfl ?_
         refine tqe [(0, (intA n0)), (1, (sl tConflictEdge l1)), (5, (intA (i_1 : Int))), (36, (boolA false)), (39, (boolA true)), (52, (boolA false)), (65, (boolA true)), (70, (intA x_i_1.b)), (71, (sl tConflictEdge l1)), (73, (intA ((i_1 : Int) - 1)))] rfl ?_
         refine TQ_on rfl rfl (by decide) rfl (pur_ixT (T := tConflictEdge) sl25 rfl rfl hz_15 hv_16 rfl) rfl ?_
         refine TQ_on rfl rfl (by decide) rfl (pur_fa_q fld52_1 rfl rfl) rfl ?_
         refine TQ_on rfl rfl (by decide) rfl (pur_ldT (T := tConflictEdge) (i := n_14) (off := 1) rfl one3 rfl rfl hv_16 rfl) rfl ?_
         refine TQ_on rfl rfl (by decide) rfl (pur_leq rfl rfl rfl) rfl ?_
         refine TQ_on rfl rfl (by decide) rfl (pur_pick (t := true) rfl rfl rfl) rfl ?_
         refine TQ_on rfl rfl (by decide) rfl (pur_pick (t := false) rfl rfl rfl) rfl ?_
         refine TQ_on rfl rfl (by decide) rfl (pur_pick (t := true) rfl rfl rfl) rfl ?_
         refine TQ_pure rfl (pur_pick (t := false) rfl rfl rfl) rfl ?_
         refine TQ_nil ?_
         exact joined (decide (x_i_1.b ≤ v_12.b)) (wp 0 (lb rfl) rfl rfl rfl rfl rfl) (some_inj H).symm
        ·replace H := cond_f g_18 H
         refine TQ_off rfl rfl (by decide) rfl rfl rfl ?_
         refine TQ_off rfl rfl (by decide) rfl rfl rfl ?_
         refine TQ_off rfl rfl (by decide) rfl rfl rfl ?_
         refine TQ_off rfl rfl (by decide) rfl rfl rfl ?_
         refine TQ_off rfl rfl (by decide) rfl rfl rfl ?_
         refine TQ_off rfl rfl (by decide) rfl rfl rfl ?_
         refine TQ_off rfl rfl (by decide) rfl rfl rfl ?_
         refine TQ_off rfl rfl (by decide) rfl rfl rfl ?_
         refine tqe [(0, (intA n0)), (1, (sl tConflictEdge l1)), (5, (intA (i_1 : Int))), (36, (boolA false)), (39, (boolA true)), (52, (boolA false)), (65, (boolA false)), (70, (.v undef)), (71, (.v undef)), (73, (.v undef))] rfl ?_
         refine TQ_off rfl rfl (by decide) rfl rfl rfl ?_
         refine TQ_off rfl rfl (by decide) rfl rfl rfl ?_
         refine TQ_off rfl rfl (by decide) rfl rfl rfl ?_
         refine TQ_off rfl rfl (by decide) rfl rfl rfl ?_
         refine TQ_on rfl rfl (by decide) rfl (pur_pick (t := false) rfl rfl rfl) rfl ?_
         refine TQ_on rfl rfl (by decide) rfl (pur_pick (t := false) rfl rfl rfl) rfl ?_
         refine TQ_on rfl rfl (by decide) rfl (pur_pick (t := true) rfl rfl rfl) rfl ?_
         refine TQ_pure rfl (pur_pick (t := false) rfl rfl rfl) rfl ?_
         refine TQ_nil ?_
         exact joined false (wp 0 (lb rfl) rfl rfl rfl rfl rfl) (some_inj H).symm
      ·replace H := cond_f g_11 H
       refine TQ_off rfl rfl (by decide) rfl rfl rfl ?_
       refine TQ_off rfl rfl (by decide) rfl rfl rfl ?_
       refine TQ_off rfl rfl (by decide) rfl rfl rfl ?_
       refine TQ_off rfl rfl (by decide) rfl rfl rfl ?_
       refine TQ_off rfl rfl (by decide) rfl rfl rfl ?_
       refine TQ_off rfl rfl (by decide) rfl rfl rfl ?_
       refine TQ_off rfl rfl (by decide) rfl rfl rfl ?_
       refine TQ_off rfl rfl (by decide) rfl rfl rfl ?_
       refine tqe [(0, (intA n0)), (1, (sl tConflictEdge l1)), (5, (intA (i_1 : Int))), (36, (boolA false)), (39, (boolA false)), (44, (.v undef)), (45, (.v undef)), (47, (.v undef))] rfl ?_
       refine TQ_off rfl rfl (by decide) rfl rfl rfl ?_
       refine TQ_off rfl rfl (by decide) rfl rfl rfl ?_
       refine TQ_off rfl rfl (by decide) rfl rfl rfl ?_
       refine TQ_off rfl rfl (by decide) rfl rfl rfl ?_
       refine TQ_off rfl rfl (by decide) rfl rfl rfl ?_
       refine TQ_off rfl rfl (by decide) rfl rfl rfl ?_
       refine TQ_off rfl rfl (by decide) rfl rfl rfl ?_
       refine TQ_off rfl rfl (by decide) rfl rfl rfl ?_
       refine tqe [(0, (intA n0)), (1, (sl tConflictEdge l1)), (5, (intA (i_1 : Int))), (36, (boolA false)), (39, (boolA false)), (52, (.v undef)), (55, (.v undef))] rfl ?_
       refine TQ_off rfl rfl (by decide) rfl rfl rfl ?_
       refine TQ_off rfl rfl (by decide) rfl rfl rfl ?_
       refine TQ_off rfl rfl (by decide) rfl rfl rfl ?_
       refine TQ_off rfl rfl (by decide) rfl rfl rfl ?_
       refine TQ_off rfl rfl (by decide) rfl rfl rfl ?_
       refine TQ_off rfl rfl (by decide) rfl rfl rfl ?_
       refine TQ_off rfl rfl (by decide) rfl rfl rfl ?_
       refine TQ_off rfl rfl (by decide) rfl rfl rfl ?_
       refine tqe [(0, (intA n0)), (1, (sl tConflictEdge l1)), (5, (intA (i_1 : Int))), (36, (boolA false)), (39, (boolA false)), (52, (.v undef)), (57, (.v undef)), (63, (.v undef))] rfl ?_
       refine TQ_off rfl rfl (by decide) rfl rfl rfl ?_
       refine TQ_off rfl rfl (by decide) rfl rfl rfl ?_
       refine TQ_off rfl rfl (by decide) rfl rfl rfl ?_
       refine TQ_off rfl rfl (by decide) rfl rfl rfl ?_
       refine TQ_off rfl rfl (by decide) rfl rfl rfl ?_
       refine TQ_off rfl rfl (by decide) rfl rfl rfl ?_
       refine TQ_off rfl rfl (by decide) rfl rfl rfl ?_
       refine TQ_off rfl rfl (by decide) rfl rfl rfl ?_
       refine tqe [(0, (intA n0)), (1, (sl tConflictEdge l1)), (5, (intA (i_1 : Int))), (36, (boolA false)), (39, (boolA false)), (52, (.v undef)), (65, (.v undef)), (70, (.v undef)), (71, (.v undef))] rfl ?_
       refine TQ_off rfl rfl (by decide) rfl rfl rfl ?_
       refine TQ_off rfl rfl (by decide) rfl rfl rfl ?_
       refine TQ_off rfl rfl (by decide) rfl rfl rfl ?_
       refine TQ_off rfl rfl (by decide) rfl rfl rfl ?_
       refine TQ_off rfl rfl (by decide) rfl rfl rfl ?_
       refine TQ_off rfl rfl (by decide) rfl rfl rfl ?_
       refine TQ_off rfl rfl (by decide) rfl rfl rfl ?_
       refine TQ_off rfl rfl (by decide) rfl rfl rfl ?_
       refine TQ_on rfl rfl (by decide) rfl (pur_pick (t := false) rfl rfl rfl) rfl ?_
       refine TQ_pure rfl (pur_pick (t := false) rfl rfl rfl) rfl ?_
       refine TQ_nil ?_
       exact joined false (wp 0 (lb rfl) rfl rfl rfl rfl rfl) (some_inj H).symm
   ·rintro _ rfl
    replace H := H_4
    refine te [(0, (intA n0)), (1, (sl tConflictEdge l1)), (5, (intA (i_1 : Int))), (81, (boolA t81_3))] rfl ?_
    refine T_cond (t := t81_3) rfl (fun c_19 => ?_) (fun c_19 => ?_)
    ·replace H := cond_t c_19 H
     refine sr ?_
     refine Tp rfl rfl (pur_assign rfl) rfl ?_
     refine TO_nil ?_
     refine te [(4, (boolA false))] rfl ?_
     refine T_ret ?_
     refine block_ret ?_
     refine then_ret ?_
     refine then_ret ?_
     refine block_ret ?_
     refine then_ret ?_
     obtain rfl := some_inj H
     obtain rfl := some_inj K2_
     replace H := onS_r N2_
     obtain rfl := some_inj H
     refine end_ret (.tmp .nil) rfl rfl ⟨?_, rfl⟩
     rfl
    ·replace H := cond_f c_19 H
     refine T_skip ?_
     refine te [(0, (intA n0)), (1, (sl tConflictEdge l1)), (5, (intA (i_1 : Int)))] rfl ?_
     refine T_region ?_
     refine Tp rfl rfl (pur_move rfl) rfl ?_
     refine Tp rfl rfl (pur_add rfl rfl rfl (fits64 (by omega) (by omega))) rfl ?_
     refine Tp rfl rfl (pur_assign rfl) rfl ?_
     refine TO_nil ?_
     obtain rfl := some_inj H
     exact again (l1.length - (i_1 + 1)) (i_1 + 1) (by omega) (wp 0 (lb rfl) rfl rfl rfl rfl rfl) ⟨rfl, K2_⟩
  ·replace d2 := of_decide_eq_false d2
   obtain rfl := forL_end L2_ (by omega)
   refine T_exit ?_
   refine then_exit ?_
   refine then_exit ?_
   refine block_exit ?_
   replace H := onS_l N2_
   refine te [(0, (intA n0))] rfl ?_
   refine sr ?_
   refine Tp rfl rfl (pur_move rfl) rfl ?_
   obtain ⟨r_20, h_21, H⟩ := bind_inv H
   refine TO_cons rfl (TOp_callV (call_static ent76 rfl) (m_spec_l1In_ok _ _ _ _ h_21) rfl rfl rfl ?_)
   refine Tp rfl rfl (pur_assign rfl) rfl ?_
   refine TO_nil ?_
   refine te [(4, (boolA r_20))] rfl ?_
   refine T_ret ?_
   obtain rfl := some_inj H
   refine end_ret (.tmp .nil) rfl rfl ⟨?_, rfl⟩
   rfl

set_option maxHeartbeats 1000000 in
/-- spec.l28Edge -/
theorem m_spec_l28Edge_ok (l0 : (List ConflictEdge)) (a1 : Int) (b2 : Int) (r : Bool) (H : m_spec_l28Edge l0 a1 b2 = some r) : FnV prg 46 [(sl tConflictEdge l0), (intA a1), (intA b2)] (boolA r) := by
  unfold m_spec_l28Edge at H
  refine fnV_of_T Try.func46 rfl rfl (Nat.le_of_ble_eq_true rfl) ?_
  refine te [(0, (sl tConflictEdge l0)), (1, (intA a1)), (2, (intA b2))] rfl ?_
  refine sr ?_
  refine Tp rfl rfl (pur_assign rfl) rfl ?_
  refine TO_nil ?_
  refine te [(0, (sl tConflictEdge l0)), (1, (intA a1)), (2, (intA b2))] rfl ?_
  refine T_seq ?_
  refine sr ?_
  refine Tp rfl rfl (pur_assign rfl) rfl ?_
  refine TO_nil ?_
  refine te [(0, (sl tConflictEdge l0)), (1, (intA a1)), (2, (intA b2)), (7, (intA 0))] rfl ?_
  obtain ⟨O2_, L2_, N2_⟩ := bind_inv H
  clear H
  obtain ⟨B2_, hb2, L2_⟩ := gen_forL L2_
  refine T_block ?_
  refine T_loopX (fun k => fun (i_1 : Nat) => k = l0.length - i_1 ∧ forL B2_ (l0.drop i_1) (i_1 : Int) () = some O2_) (fun (i_1 : Nat) => [(0, (sl tConflictEdge l0)), (1, (intA a1)), (2, (intA b2)), (7, (intA (i_1 : Int)))]) (fun (i_1 : Nat) => []) _ (0 : Nat) (wp 0 (lb rfl) rfl rfl rfl rfl rfl) ⟨rfl, L2_⟩ ?_
  rintro _ i_1 ⟨rfl, L2_⟩
  refine te [(0, (sl tConflictEdge l0)), (1, (intA a1)), (2, (intA b2)), (7, (intA (i_1 : Int)))] rfl ?_
  refine T_st (σ' := []) rfl ?_
  refine T_fact (len_sl (T := tConflictEdge) (.tmp 0) rfl) (fun hl2 => ?_)
  refine T_seq ?_
  refine sr ?_
  refine Tp rfl rfl (pur_move rfl) rfl ?_
  refine Tp rfl rfl (pur_move rfl) rfl ?_
  refine Tp rfl rfl (pur_lenT (T := tConflictEdge) sl25 rfl rfl) rfl ?_
  refine Tp rfl rfl (pur_lss rfl rfl rfl) rfl ?_
  refine TO_nil ?_
  refine te [(0, (sl tConflictEdge l0)), (1, (intA a1)), (2, (intA b2)), (7, (intA (i_1 : Int))), (11, (boolA (decide ((i_1 : Int) < (l0.length : Int)))))] rfl ?_
  refine T_cond (t := decide ((i_1 : Int) < (l0.length : Int))) rfl (fun d2 => ?_) (fun d2 => ?_)
  ·replace d2 := of_decide_eq_true d2
   obtain ⟨x_i_1, hx_i_1⟩ : ∃ v, (l0)[i_1]? = some v := ⟨_, List.getElem?_eq_getElem (by omega)⟩
   obtain ⟨C2_, H, K2_⟩ := forL_step L2_ hx_i_1
   rw [hb2] at H
   refine T_skip ?_
   refine te [(0, (sl tConflictEdge l0)), (1, (intA a1)), (2, (intA b2)), (7, (intA (i_1 : Int)))] rfl ?_
   refine T_seq ?_
   refine T_block ?_
   refine T_cutX (fun x => ((decide (x_i_1.a = (if b2 < a1 then b2 else a1))) && (decide (x_i_1.b = (if a1 < b2 then b2 else a1)))) = x) (fun (t33_3 : Bool) => [(0, (sl tConflictEdge l0)), (1, (intA a1)), (2, (intA b2)), (7, (intA (i_1 : Int))), (33, (boolA t33_3))]) (fun (t33_3 : Bool) => []) ?_ ?_
   ·skip
    refine T_region ?_
    refine Tp rfl rfl (pur_move rfl) rfl ?_
    refine Tp rfl rfl (pur_move rfl) rfl ?_
    refine Tp rfl rfl (pur_ixT (T := tConflictEdge) sl25 rfl rfl rfl hx_i_1 rfl) rfl ?_
    refine Tp rfl rfl (pur_fa_q fld52_0 rfl rfl) rfl ?_
    refine Tp rfl rfl (pur_ldT (T := tConflictEdge) (i := i_1) (off := 0) rfl one3 rfl rfl hx_i_1 rfl) rfl ?_
    refine Tp rfl rfl (pur_move rfl) rfl ?_
    refine Tp rfl rfl (pur_move rfl) rfl ?_
    refine Tp rfl rfl (pur_min rfl rfl rfl) rfl ?_
    refine toe [(0, (sl tConflictEdge l0)), (1, (intA a1)), (2, (intA b2)), (7, (intA (i_1 : Int))), (18, (intA x_i_1.a)), (21, (intA (if b2 < a1 then b2 else a1)))] rfl ?_
    refine Tp rfl rfl (pur_eql rfl rfl rfl) rfl ?_
    refine Tp rfl rfl (pur_move rfl) rfl ?_
    refine TO_split (t := decide (x_i_1.a = (if b2 < a1 then b2 else a1))) 23 rfl (fun g_5 => ?_) (fun g_5 => ?_)
    ·skip
     refine TO_on rfl rfl (by decide) rfl rfl (TOp_pure (pur_move rfl) rfl ?_)
     refine TO_on rfl rfl (by decide) rfl rfl (TOp_pure (pur_move rfl) rfl ?_)
     refine TO_on rfl rfl (by decide) rfl rfl (TOp_pure (pur_ixT (T := tConflictEdge) sl25 rfl rfl rfl hx_i_1 rfl) rfl ?_)
     refine TO_on rfl rfl (by decide) rfl rfl (TOp_pure (pur_fa_q fld52_1 rfl rfl) rfl ?_)
     refine TO_on rfl rfl (by decide) rfl rfl (TOp_pure (pur_ldT (T := tConflictEdge) (i := i_1) (off := 1) rfl one3 rfl rfl hx_i_1 rfl) rfl ?_)
     refine TO_on rfl rfl (by decide) rfl rfl (TOp_pure (pur_move rfl) rfl ?_)
     refine TO_on rfl rfl (by decide) rfl rfl (TOp_pure (pur_move rfl) rfl ?_)
     refine TO_on rfl rfl (by decide) rfl rfl (TOp_pure (pur_max rfl rfl rfl) rfl ?_)
     refine TO_on rfl rfl (by decide) rfl rfl (TOp_pure (pur_eql rfl rfl rfl) rfl ?_)
     refine Tp rfl rfl (pur_pick (t := true) rfl rfl rfl) rfl ?_
     refine TO_nil ?_
     exact joined (decide (x_i_1.b = (if a1 < b2 then b2 else a1))) (wp 0 (lb rfl) rfl rfl rfl rfl rfl) (by first | exact Eq.symm ((and_T g_5 rfl)))
    ·skip
     refine TO_off rfl rfl (by decide) rfl rfl rfl ?_
     refine TO_off rfl rfl (by decide) rfl rfl rfl ?_
     refine TO_off rfl rfl (by decide) rfl rfl rfl ?_
     refine TO_off rfl rfl (by decide) rfl rfl rfl ?_
     refine TO_off rfl rfl (by decide) rfl rfl rfl ?_
     refine TO_off rfl rfl (by decide) rfl rfl rfl ?_
     refine TO_off rfl rfl (by decide) rfl rfl rfl ?_
     refine TO_off rfl rfl (by decide) rfl rfl rfl ?_
     refine TO_off rfl rfl (by decide) rfl rfl rfl ?_
     refine Tp rfl rfl (pur_pick (t := false) rfl rfl rfl) rfl ?_
     refine TO_nil ?_
     exact joined false (wp 0 (lb rfl) rfl rfl rfl rfl rfl) (by first | exact Eq.symm ((and_F g_5 rfl)))
   ·rintro _ rfl
    refine te [(0, (sl tConflictEdge l0)), (1, (intA a1)), (2, (intA b2)), (7, (intA (i_1 : Int))), (33, (boolA ((decide (x_i_1.a = (if b2 < a1 then b2 else a1))) && (decide (x_i_1.b = (if a1 < b2 then b2 else a1))))))] rfl ?_
    refine T_cond (t := ((decide (x_i_1.a = (if b2 < a1 then b2 else a1))) && (decide (x_i_1.b = (if a1 < b2 then b2 else a1))))) rfl (fun c_6 => ?_) (fun c_6 => ?_)
    ·replace H := cond_t c_6 H
     refine sr ?_
     refine Tp rfl rfl (pur_assign rfl) rfl ?_
     refine TO_nil ?_
     refine te [(6, (boolA true))] rfl ?_
     refine T_ret ?_
     refine block_ret ?_
     refine then_ret ?_
     refine then_ret ?_
     refine block_ret ?_
     refine then_ret ?_
     obtain rfl := some_inj H
     obtain rfl := some_inj K2_
     replace H := onS_r N2_
     obtain rfl := some_inj H
     refine end_ret (.tmp .nil) rfl rfl ⟨?_, rfl⟩
     rfl
    ·replace H := cond_f c_6 H
     refine T_skip ?_
     refine te [(0, (sl tConflictEdge l0)), (1, (intA a1)), (2, (intA b2)), (7, (intA (i_1 : Int)))] rfl ?_
     refine T_region ?_
     refine Tp rfl rfl (pur_move rfl) rfl ?_
     refine Tp rfl rfl (pur_add rfl rfl rfl (fits64 (by omega) (by omega))) rfl ?_
     refine Tp rfl rfl (pur_assign rfl) rfl ?_
     refine TO_nil ?_
     obtain rfl := some_inj H
     exact again (l0.length - (i_1 + 1)) (i_1 + 1) (by omega) (wp 0 (lb rfl) rfl rfl rfl rfl rfl) ⟨rfl, K2_⟩
  ·replace d2 := of_decide_eq_false d2
   obtain rfl := forL_end L2_ (by omega)
   refine T_exit ?_
   refine then_exit ?_
   refine then_exit ?_
   refine block_exit ?_
   replace H := onS_l N2_
   refine te [] rfl ?_
   refine sr ?_
   refine Tp rfl rfl (pur_assign rfl) rfl ?_
   refine TO_nil ?_
   refine te [(6, (boolA false))] rfl ?_
   refine T_ret ?_
   obtain rfl := some_inj H
   refine end_ret (.tmp .nil) rfl rfl ⟨?_, rfl⟩
   rfl

set_option maxHeartbeats 1000000 in
/-- spec.IsValidPreference -/
theorem m_spec_IsValidPreference_ok (n0 : Int) (l1 : (List ConflictEdge)) (p2 : (List ConflictEdge)) (r : Bool) (H : m_spec_IsValidPreference n0 l1 p2 = some r) : FnV prg 16 [(intA n0), (sl tConflictEdge l1), (sl tConflictEdge p2)] (boolA r) := by
  unfold m_spec_IsValidPreference at H
  refine fnV_of_T Try.func16 rfl rfl (Nat.le_of_ble_eq_true rfl) ?_
  refine te [(0, (intA n0)), (1, (sl tConflictEdge l1)), (2, (sl tConflictEdge p2))] rfl ?_
  refine sr ?_
  refine Tp rfl rfl (pur_assign rfl) rfl ?_
  refine TO_nil ?_
  refine te [(0, (intA n0)), (1, (sl tConflictEdge l1)), (2, (sl tConflictEdge p2))] rfl ?_
  refine T_seq ?_
  refine sr ?_
  refine Tp rfl rfl (pur_move rfl) rfl ?_
  refine Tp rfl rfl (pur_move rfl) rfl ?_
  obtain ⟨r_1, h_2, H⟩ := bind_inv H
  refine TO_cons rfl (TOp_callV (call_static ent45 rfl) (m_spec_AreValidEdges_ok _ _ _ h_2) rfl rfl rfl ?_)
  refine Tp rfl rfl (pur_not rfl rfl) rfl ?_
  refine TO_nil ?_
  refine te [(0, (intA n0)), (1, (sl tConflictEdge l1)), (2, (sl tConflictEdge p2)), (17, (boolA (!r_1)))] rfl ?_
  refine T_cond (t := (!r_1)) rfl (fun c_3 => ?_) (fun c_3 => ?_)
  ·replace H := cond_t c_3 H
   refine sr ?_
   refine Tp rfl rfl (pur_assign rfl) rfl ?_
   refine TO_nil ?_
   refine te [(6, (boolA false))] rfl ?_
   refine T_ret ?_
   refine then_ret ?_
   obtain rfl := some_inj H
   refine end_ret (.tmp .nil) rfl rfl ⟨?_, rfl⟩
   rfl
  ·replace H := cond_f c_3 H
   refine T_skip ?_
   refine te [(0, (intA n0)), (1, (sl tConflictEdge l1)), (2, (sl tConflictEdge p2))] rfl ?_
   refine T_seq ?_
   refine sr ?_
   refine Tp rfl rfl (pur_assign rfl) rfl ?_
   refine TO_nil ?_
   refine te [(0, (intA n0)), (1, (sl tConflictEdge l1)), (2, (sl tConflictEdge p2)), (7, (intA 0))] rfl ?_
   obtain ⟨O5_, L5_, N5_⟩ := bind_inv H
   clear H
   obtain ⟨B5_, hb5, L5_⟩ := gen_forL L5_
   refine T_block ?_
   refine T_loopX (fun k => fun (i_4 : Nat) => k = p2.length - i_4 ∧ forL B5_ (p2.drop i_4) (i_4 : Int) () = some O5_) (fun (i_4 : Nat) => [(0, (intA n0)), (1, (sl tConflictEdge l1)), (2, (sl tConflictEdge p2)), (7, (intA (i_4 : Int)))]) (fun (i_4 : Nat) => []) _ (0 : Nat) (wp 0 (lb rfl) rfl rfl rfl rfl rfl) ⟨rfl, L5_⟩ ?_
   rintro _ i_4 ⟨rfl, L5_⟩
   refine te [(0, (intA n0)), (1, (sl tConflictEdge l1)), (2, (sl tConflictEdge p2)), (7, (intA (i_4 : Int)))] rfl ?_
   refine T_st (σ' := []) rfl ?_
   refine T_fact (len_sl (T := tConflictEdge) (.tmp 2) rfl) (fun hl5 => ?_)
   refine T_seq ?_
   refine sr ?_
   refine Tp rfl rfl (pur_move rfl) rfl ?_
   refine Tp rfl rfl (pur_move rfl) rfl ?_
   refine Tp rfl rfl (pur_lenT (T := tConflictEdge) sl25 rfl rfl) rfl ?_
   refine Tp rfl rfl (pur_lss rfl rfl rfl) rfl ?_
   refine TO_nil ?_
   refine te [(0, (intA n0)), (1, (sl tConflictEdge l1)), (2, (sl tConflictEdge p2)), (7, (intA (i_4 : Int))), (21, (boolA (decide ((i_4 : Int) < (p2.length : Int)))))] rfl ?_
   refine T_cond (t := decide ((i_4 : Int) < (p2.length : Int))) rfl (fun d5 => ?_) (fun d5 => ?_)
   ·replace d5 := of_decide_eq_true d5
    obtain ⟨x_i_4, hx_i_4⟩ : ∃ v, (p2)[i_4]? = some v := ⟨_, List.getElem?_eq_getElem (by omega)⟩
    obtain ⟨C5_, H, K5_⟩ := forL_step L5_ hx_i_4
    rw [hb5] at H
    refine T_skip ?_
    refine te [(0, (intA n0)), (1, (sl tConflictEdge l1)), (2, (sl tConflictEdge p2)), (7, (intA (i_4 : Int)))] rfl ?_
    refine T_seq ?_
    refine T_block ?_
    obtain ⟨t49_6, J_6, H_7⟩ := bind_inv H
    refine T_cutX (fun x => t49_6 = x) (fun (t49_6 : Bool) => [(0, (intA n0)), (1, (sl tConflictEdge l1)), (2, (sl tConflictEdge p2)), (7, (intA (i_4 : Int))), (49, (boolA t49_6))]) (fun (t49_6 : Bool) => []) ?_ ?_
    ·replace H := J_6
     refine T_regionD mixed (by kernel_rfl) ?_
     refine TQ_pure rfl (pur_move rfl) rfl ?_
     refine TQ_pure rfl (pur_move rfl) rfl ?_
     refine TQ_pure rfl (pur_ixT (T := tConflictEdge) sl25 rfl rfl rfl hx_i_4 rfl) rfl ?_
     refine TQ_pure rfl (pur_fa_q fld52_0 rfl rfl) rfl ?_
     refine TQ_pure rfl (pur_ldT (T := tConflictEdge) (i := i_4) (off := 0) rfl one3 rfl rfl hx_i_4 rfl) rfl ?_
     refine TQ_pure rfl (pur_move rfl) rfl ?_
     refine TQ_pure rfl (pur_move rfl) rfl ?_
     refine TQ_pure rfl (pur_ixT (T := tConflictEdge) sl25 rfl rfl rfl hx_i_4 rfl) rfl ?_
     refine tqe [(0, (intA n0)), (1, (sl tConflictEdge l1)), (2, (sl tConflictEdge p2)), (7, (intA (i_4 : Int))), (28, (intA x_i_4.a)), (31, (.q (flat tConflictEdge.enc p2) (i_4 * tConflictEdge.k)))] rfl ?_
     refine TQ_pure rfl (pur_fa_q fld52_1 rfl rfl) rfl ?_
     refine TQ_pure rfl (pur_ldT (T := tConflictEdge) (i := i_4) (off := 1) rfl one3 rfl rfl hx_i_4 rfl) rfl ?_
     refine TQ_pure rfl (pur_eql rfl rfl rfl) rfl ?_
     refine TQ_pure rfl (pur_move rfl) rfl ?_
     refine TQ_split (t := decide (x_i_4.a = x_i_4.b)) 35 rfl (fun g_8 => ?_) (fun g_8 => ?_)
     ·replace H := cond_t g_8 H
      refine TQ_off rfl rfl (by decide) rfl rfl rfl ?_
      refine TQ_off rfl rfl (by decide) rfl rfl rfl ?_
      refine TQ_off rfl rfl (by decide) rfl rfl rfl ?_
      refine TQ_off rfl rfl (by decide) rfl rfl rfl ?_
      refine TQ_off rfl rfl (by decide) rfl rfl rfl ?_
      refine TQ_off rfl rfl (by decide) rfl rfl rfl ?_
      refine TQ_off rfl rfl (by decide) rfl rfl rfl ?_
      refine TQ_off rfl rfl (by decide) rfl rfl rfl ?_
      refine tqe [(0, (intA n0)), (1, (sl tConflictEdge l1)), (2, (sl tConflictEdge p2)), (7, (intA (i_4 : Int))), (35, (boolA true)), (36, (.v undef)), (41, (.v undef)), (42, (.v undef)), (43, (.v undef))] rfl ?_
      refine TQ_off rfl rfl (by decide) rfl rfl rfl ?_
      refine TQ_off rfl rfl (by decide) rfl rfl rfl ?_
      refine TQ_off rfl rfl (by decide) rfl rfl rfl ?_
      refine TQ_off rfl rfl (by decide) rfl rfl rfl ?_
      refine TQ_off rfl rfl (by decide) rfl rfl rfl ?_
      refine TQ_pure rfl (pur_pick (t := true) rfl rfl rfl) rfl ?_
      refine TQ_nil ?_
      exact joined true (wp 0 (lb rfl) rfl rfl rfl rfl rfl) (some_inj H).symm
     ·replace H := cond_f g_8 H
      refine TQ_on rfl rfl (by decide) rfl (pur_move rfl) rfl ?_
      refine TQ_on rfl rfl (by decide) rfl (pur_move rfl) rfl ?_
      refine TQ_on rfl rfl (by decide) rfl (pur_move rfl) rfl ?_
      refine TQ_on rfl rfl (by decide) rfl (pur_ixT (T := tConflictEdge) sl25 rfl rfl rfl hx_i_4 rfl) rfl ?_
      refine TQ_on rfl rfl (by decide) rfl (pur_fa_q fld52_0 rfl rfl) rfl ?_
      refine TQ_on rfl rfl (by decide) rfl (pur_ldT (T := tConflictEdge) (i := i_4) (off := 0) rfl one3 rfl rfl hx_i_4 rfl) rfl ?_
      refine TQ_on rfl rfl (by decide) rfl (pur_move rfl) rfl ?_
      refine TQ_on rfl rfl (by decide) rfl (pur_move rfl) rfl ?_
      refine tqe [(0, (intA n0)), (1, (sl tConflictEdge l1)), (2, (sl tConflictEdge p2)), (7, (intA (i_4 : Int))), (35, (boolA false)), (36, (sl tConflictEdge l1)), (41, (intA x_i_4.a)), (42, (sl tConflictEdge p2)), (43, (intA (i_4 : Int)))] rfl ?_
      refine TQ_on rfl rfl (by decide) rfl (pur_ixT (T := tConflictEdge) sl25 rfl rfl rfl hx_i_4 rfl) rfl ?_
      refine TQ_on rfl rfl (by decide) rfl (pur_fa_q fld52_1 rfl rfl) rfl ?_
      refine TQ_on rfl rfl (by decide) rfl (pur_ldT (T := tConflictEdge) (i := i_4) (off := 1) rfl one3 rfl rfl hx_i_4 rfl) rfl ?_
      obtain ⟨r_9, h_10, H⟩ := bind_inv H
      refine TQ_onV rfl rfl (by decide) rfl (call_static ent46 rfl) (m_spec_l28Edge_ok _ _ _ _ h_10) rfl rfl ?_
      refine TQ_on rfl rfl (by decide) rfl (pur_not rfl rfl) rfl ?_
      refine TQ_pure rfl (pur_pick (t := false) rfl rfl rfl) rfl ?_
      refine TQ_nil ?_
      exact joined (!r_9) (wp 0 (lb rfl) rfl rfl rfl rfl rfl) (some_inj H).symm
    ·rintro _ rfl
     replace H := H_7
     refine te [(0, (intA n0)), (1, (sl tConflictEdge l1)), (2, (sl tConflictEdge p2)), (7, (intA (i_4 : Int))), (49, (boolA t49_6))] rfl ?_
     refine T_cond (t := t49_6) rfl (fun c_11 => ?_) (fun c_11 => ?_)
     ·replace H := cond_t c_11 H
      refine sr ?_
      refine Tp rfl rfl (pur_assign rfl) rfl ?_
      refine TO_nil ?_
      refine te [(6, (boolA false))] rfl ?_
      refine T_ret ?_
      refine block_ret ?_
      refine then_ret ?_
      refine then_ret ?_
      refine block_ret ?_
      refine then_ret ?_
      obtain rfl := some_inj H
      obtain rfl := some_inj K5_
      replace H := onS_r N5_
      obtain rfl := some_inj H
      refine end_ret (.tmp .nil) rfl rfl ⟨?_, rfl⟩
      rfl
     ·replace H := cond_f c_11 H
      refine T_skip ?_
      refine te [(0, (intA n0)), (1, (sl tConflictEdge l1)), (2, (sl tConflictEdge p2)), (7, (intA (i_4 : Int)))] rfl ?_
      refine T_region ?_
      refine Tp rfl rfl (pur_move rfl) rfl ?_
      refine Tp rfl rfl (pur_add rfl rfl rfl (fits64 (by omega) (by omega))) rfl ?_
      refine Tp rfl rfl (pur_assign rfl) rfl ?_
      refine TO_nil ?_
      obtain rfl := some_inj H
      exact again (p2.length - (i_4 + 1)) (i_4 + 1) (by omega) (wp 0 (lb rfl) rfl rfl rfl rfl rfl) ⟨rfl, K5_⟩
   ·replace d5 := of_decide_eq_false d5
    obtain rfl := forL_end L5_ (by omega)
    refine T_exit ?_
    refine then_exit ?_
    refine then_exit ?_
    refine block_exit ?_
    replace H := onS_l N5_
    refine te [(0, (intA n0)), (2, (sl tConflictEdge p2))] rfl ?_
    refine sr ?_
    refine Tp rfl rfl (pur_move rfl) rfl ?_
    obtain ⟨us_12, h_13, H⟩ := bind_inv H
    refine TO_cons rfl (TOp_makeT (T := tBool) (z := false) rfl sl58 zero4 rfl bytes4 rfl rfl rfl rfl h_13 ?_)
    refine Tp rfl rfl (pur_assign rfl) rfl ?_
    refine TO_nil ?_
    refine te [(0, (intA n0)), (2, (sl tConflictEdge p2)), (8, (.m [0] 0 us_12.length tBool.k))] rfl ?_
    refine T_seq ?_
    refine sr ?_
    refine Tp rfl rfl (pur_assign rfl) rfl ?_
    refine TO_nil ?_
    refine te [(0, (intA n0)), (2, (sl tConflictEdge p2)), (8, (.m [0] 0 us_12.length tBool.k)), (9, (intA 0))] rfl ?_
    obtain ⟨_, h_16, H⟩ := bind_inv H
    replace h_16 := gN_inv h_16
    obtain ⟨O15_, L15_, N15_⟩ := bind_inv H
    clear H
    obtain ⟨B15_, hb15, L15_⟩ := gen_forM L15_
    refine T_block ?_
    refine T_loopX (fun k => fun (x_ : Int × (List Bool)) => k = (n0 - x_.1).toNat ∧ 0 ≤ x_.1 ∧ forM B15_ (n0 - x_.1).toNat x_.1 x_.2 = some O15_) (fun (x_ : Int × (List Bool)) => [(0, (intA n0)), (2, (sl tConflictEdge p2)), (8, (.m [0] 0 x_.2.length tBool.k)), (9, (intA (x_.1 : Int)))]) (fun (x_ : Int × (List Bool)) => [.row (flat tBool.enc x_.2)]) _ (0, us_12) (wp 1 (lb rfl) rfl rfl rfl rfl rfl) ⟨rfl, Int.le_refl _, L15_⟩ ?_
    rintro _ ⟨k_14, gone8⟩ ⟨rfl, hi15, L15_⟩
    refine te [(0, (intA n0)), (2, (sl tConflictEdge p2)), (8, (.m [0] 0 gone8.length tBool.k)), (9, (intA (k_14 : Int)))] rfl ?_
    refine T_st (σ' := [.row (flat tBool.enc gone8)]) rfl ?_
    refine T_seq ?_
    refine sr ?_
    refine Tp rfl rfl (pur_move rfl) rfl ?_
    refine Tp rfl rfl (pur_move rfl) rfl ?_
    refine Tp rfl rfl (pur_lss rfl rfl rfl) rfl ?_
    refine TO_nil ?_
    refine te [(0, (intA n0)), (2, (sl tConflictEdge p2)), (8, (.m [0] 0 gone8.length tBool.k)), (9, (intA (k_14 : Int))), (54, (boolA (decide ((k_14 : Int) < n0))))] rfl ?_
    refine T_cond (t := decide ((k_14 : Int) < n0)) rfl (fun d15 => ?_) (fun d15 => ?_)
    ·replace d15 := of_decide_eq_true d15
     obtain ⟨C15_, H, K15_⟩ := forM_step L15_ d15
     rw [hb15] at H
     refine T_skip ?_
     refine te [(0, (intA n0)), (2, (sl tConflictEdge p2)), (8, (.m [0] 0 gone8.length tBool.k)), (9, (intA (k_14 : Int)))] rfl ?_
     refine T_seq ?_
     refine T_block ?_
     refine sr ?_
     refine Tp rfl rfl (pur_assign rfl) rfl ?_
     refine TO_nil ?_
     refine te [(0, (intA n0)), (2, (sl tConflictEdge p2)), (8, (.m [0] 0 gone8.length tBool.k)), (9, (intA (k_14 : Int))), (10, (intA 0))] rfl ?_
     obtain ⟨_, h_19, H⟩ := bind_inv H
     replace h_19 := gN_inv h_19
     obtain ⟨O18_, L18_, N18_⟩ := bind_inv H
     clear H
     obtain ⟨B18_, hb18, L18_⟩ := gen_forM L18_
     refine T_block ?_
     refine T_loopX (fun k => fun (x_ : Int × (List Bool)) => k = (n0 - x_.1).toNat ∧ 0 ≤ x_.1 ∧ forM B18_ (n0 - x_.1).toNat x_.1 x_.2 = some O18_) (fun (x_ : Int × (List Bool)) => [(0, (intA n0)), (2, (sl tConflictEdge p2)), (8, (.m [0] 0 x_.2.length tBool.k)), (9, (intA (k_14 : Int))), (10, (intA (x_.1 : Int)))]) (fun (x_ : Int × (List Bool)) => [.row (flat tBool.enc x_.2)]) _ (0, gone8) (wp 1 (lb rfl) rfl rfl rfl rfl rfl) ⟨rfl, Int.le_refl _, L18_⟩ ?_
     rintro _ ⟨x_17, gone8⟩ ⟨rfl, hi18, L18_⟩
     refine te [(0, (intA n0)), (2, (sl tConflictEdge p2)), (8, (.m [0] 0 gone8.length tBool.k)), (9, (intA (k_14 : Int))), (10, (intA (x_17 : Int)))] rfl ?_
     refine T_st (σ' := [.row (flat tBool.enc gone8)]) rfl ?_
     refine T_seq ?_
     refine sr ?_
     refine Tp rfl rfl (pur_move rfl) rfl ?_
     refine Tp rfl rfl (pur_move rfl) rfl ?_
     refine Tp rfl rfl (pur_lss rfl rfl rfl) rfl ?_
     refine TO_nil ?_
     refine te [(0, (intA n0)), (2, (sl tConflictEdge p2)), (8, (.m [0] 0 gone8.length tBool.k)), (9, (intA (k_14 : Int))), (10, (intA (x_17 : Int))), (59, (boolA (decide ((x_17 : Int) < n0))))] rfl ?_
     refine T_cond (t := decide ((x_17 : Int) < n0)) rfl (fun d18 => ?_) (fun d18 => ?_)
     ·replace d18 := of_decide_eq_true d18
      obtain ⟨C18_, H, K18_⟩ := forM_step L18_ d18
      rw [hb18] at H
      refine T_skip ?_
      refine te [(0, (intA n0)), (2, (sl tConflictEdge p2)), (8, (.m [0] 0 gone8.length tBool.k)), (9, (intA (k_14 : Int))), (10, (intA (x_17 : Int)))] rfl ?_
      refine T_seq ?_
      refine T_block ?_
      refine sr ?_
      refine Tp rfl rfl (pur_assign rfl) rfl ?_
      refine TO_nil ?_
      refine te [(0, (intA n0)), (2, (sl tConflictEdge p2)), (8, (.m [0] 0 gone8.length tBool.k)), (9, (intA (k_14 : Int))), (10, (intA (x_17 : Int))), (11, (boolA true))] rfl ?_
      refine T_seq ?_
      refine sr ?_
      refine Tp rfl rfl (pur_assign rfl) rfl ?_
      refine TO_nil ?_
      refine te [(0, (intA n0)), (2, (sl tConflictEdge p2)), (8, (.m [0] 0 gone8.length tBool.k)), (9, (intA (k_14 : Int))), (10, (intA (x_17 : Int))), (11, (boolA true)), (12, (intA 0))] rfl ?_
      obtain ⟨O21_, L21_, N21_⟩ := bind_inv H
      clear H
      obtain ⟨B21_, hb21, L21_⟩ := gen_forS L21_
      refine T_block ?_
      refine T_loopX (fun k => fun (x_ : Nat × Bool) => k = p2.length - x_.1 ∧ forS B21_ (p2.drop x_.1) (x_.1 : Int) x_.2 = some O21_) (fun (x_ : Nat × Bool) => [(0, (intA n0)), (2, (sl tConflictEdge p2)), (8, (.m [0] 0 gone8.length tBool.k)), (9, (intA (k_14 : Int))), (10, (intA (x_17 : Int))), (11, (boolA x_.2)), (12, (intA (x_.1 : Int)))]) (fun (x_ : Nat × Bool) => [.row (flat tBool.enc gone8)]) _ (0, true) (wp 1 (lb rfl) rfl rfl rfl rfl rfl) ⟨rfl, L21_⟩ ?_
      rintro _ ⟨i_20, free11⟩ ⟨rfl, L21_⟩
      refine te [(0, (intA n0)), (2, (sl tConflictEdge p2)), (8, (.m [0] 0 gone8.length tBool.k)), (9, (intA (k_14 : Int))), (10, (intA (x_17 : Int))), (11, (boolA free11)), (12, (intA (i_20 : Int)))] rfl ?_
      refine T_st (σ' := [.row (flat tBool.enc gone8)]) rfl ?_
      refine T_fact (len_sl (T := tConflictEdge) (.tmp 2) rfl) (fun hl21 => ?_)
      refine T_seq ?_
      refine sr ?_
      refine Tp rfl rfl (pur_move rfl) rfl ?_
      refine Tp rfl rfl (pur_move rfl) rfl ?_
      refine Tp rfl rfl (pur_lenT (T := tConflictEdge) sl25 rfl rfl) rfl ?_
      refine Tp rfl rfl (pur_lss rfl rfl rfl) rfl ?_
      refine TO_nil ?_
      refine te [(0, (intA n0)), (2, (sl tConflictEdge p2)), (8, (.m [0] 0 gone8.length tBool.k)), (9, (intA (k_14 : Int))), (10, (intA (x_17 : Int))), (11, (boolA free11)), (12, (intA (i_20 : Int))), (65, (boolA (decide ((i_20 : Int) < (p2.length : Int)))))] rfl ?_
      refine T_cond (t := decide ((i_20 : Int) < (p2.length : Int))) rfl (fun d21 => ?_) (fun d21 => ?_)
      ·replace d21 := of_decide_eq_true d21
       obtain ⟨x_i_20, hx_i_20⟩ : ∃ v, (p2)[i_20]? = some v := ⟨_, List.getElem?_eq_getElem (by omega)⟩
       obtain ⟨C21_, H, K21_⟩ := forS_step L21_ hx_i_20
       rw [hb21] at H
       refine T_skip ?_
       refine te [(0, (intA n0)), (2, (sl tConflictEdge p2)), (8, (.m [0] 0 gone8.length tBool.k)), (9, (intA (k_14 : Int))), (10, (intA (x_17 : Int))), (11, (boolA free11)), (12, (intA (i_20 : Int)))] rfl ?_
       refine T_seq ?_
       refine T_block ?_
       refine T_region ?_
       refine Tp rfl rfl (pur_move rfl) rfl ?_
       refine Tp rfl rfl (pur_move rfl) rfl ?_
       refine TO_split (t := free11) 69 rfl (fun g_22 => ?_) (fun g_22 => ?_)
       ·replace H := cond_t g_22 H
        refine TO_on rfl rfl (by decide) rfl rfl (TOp_pure (pur_move rfl) rfl ?_)
        refine TO_on rfl rfl (by decide) rfl rfl (TOp_pure (pur_move rfl) rfl ?_)
        refine TO_on rfl rfl (by decide) rfl rfl (TOp_pure (pur_ixT (T := tConflictEdge) sl25 rfl rfl rfl hx_i_20 rfl) rfl ?_)
        refine TO_on rfl rfl (by decide) rfl rfl (TOp_pure (pur_fa_q fld52_1 rfl rfl) rfl ?_)
        refine TO_on rfl rfl (by decide) rfl rfl (TOp_pure (pur_ldT (T := tConflictEdge) (i := i_20) (off := 1) rfl one3 rfl rfl hx_i_20 rfl) rfl ?_)
        refine TO_on rfl rfl (by decide) rfl rfl (TOp_pure (pur_move rfl) rfl ?_)
        refine TO_on rfl rfl (by decide) rfl rfl (TOp_pure (pur_neq rfl rfl rfl) rfl ?_)
        refine TO_on rfl rfl (by decide) rfl rfl (TOp_pure (pur_move rfl) rfl ?_)
        refine toe [(0, (intA n0)), (2, (sl tConflictEdge p2)), (8, (.m [0] 0 gone8.length tBool.k)), (9, (intA (k_14 : Int))), (10, (intA (x_17 : Int))), (11, (boolA free11)), (12, (intA (i_20 : Int))), (69, (boolA true)), (77, (boolA (decide (x_i_20.b ≠ (x_17 : Int)))))] rfl ?_
        refine TO_split (t := decide (x_i_20.b ≠ (x_17 : Int))) 77 rfl (fun g_23 => ?_) (fun g_23 => ?_)
        ·replace H := cond_t g_23 H
         refine TO_off rfl rfl (by decide) rfl rfl rfl ?_
         refine TO_off rfl rfl (by decide) rfl rfl rfl ?_
         refine TO_off rfl rfl (by decide) rfl rfl rfl ?_
         refine TO_off rfl rfl (by decide) rfl rfl rfl ?_
         refine TO_off rfl rfl (by decide) rfl rfl rfl ?_
         refine TO_off rfl rfl (by decide) rfl rfl rfl ?_
         refine TO_off rfl rfl (by decide) rfl rfl rfl ?_
         refine TO_off rfl rfl (by decide) rfl rfl rfl ?_
         refine toe [(0, (intA n0)), (2, (sl tConflictEdge p2)), (8, (.m [0] 0 gone8.length tBool.k)), (9, (intA (k_14 : Int))), (10, (intA (x_17 : Int))), (11, (boolA free11)), (12, (intA (i_20 : Int))), (69, (boolA true)), (77, (boolA true)), (85, (.v undef))] rfl ?_
         refine TO_on rfl rfl (by decide) rfl rfl (TOp_pure (pur_pick (t := true) rfl rfl rfl) rfl ?_)
         refine Tp rfl rfl (pur_pick (t := true) rfl rfl rfl) rfl ?_
         refine Tp rfl rfl (pur_assign rfl) rfl ?_
         refine TO_nil ?_
         refine te [(0, (intA n0)), (2, (sl tConflictEdge p2)), (8, (.m [0] 0 gone8.length tBool.k)), (9, (intA (k_14 : Int))), (10, (intA (x_17 : Int))), (11, (boolA true)), (12, (intA (i_20 : Int)))] rfl ?_
         refine T_region ?_
         refine Tp rfl rfl (pur_move rfl) rfl ?_
         refine Tp rfl rfl (pur_add rfl rfl rfl (fits64 (by omega) (by omega))) rfl ?_
         refine Tp rfl rfl (pur_assign rfl) rfl ?_
         refine TO_nil ?_
         obtain rfl := some_inj H
         exact again (p2.length - (i_20 + 1)) (i_20 + 1, true) (by omega) (wp 1 (lb rfl) rfl rfl rfl rfl rfl) ⟨rfl, K21_⟩
        ·replace H := cond_f g_23 H
         refine TO_on rfl rfl (by decide) rfl rfl (TOp_pure (pur_move rfl) rfl ?_)
         refine TO_on rfl rfl (by decide) rfl rfl (TOp_pure (pur_move rfl) rfl ?_)
         refine TO_on rfl rfl (by decide) rfl rfl (TOp_pure (pur_move rfl) rfl ?_)
         refine TO_on rfl rfl (by decide) rfl rfl (TOp_pure (pur_ixT (T := tConflictEdge) sl25 rfl rfl rfl hx_i_20 rfl) rfl ?_)
         refine TO_on rfl rfl (by decide) rfl rfl (TOp_pure (pur_fa_q fld52_0 rfl rfl) rfl ?_)
         refine TO_on rfl rfl (by decide) rfl rfl (TOp_pure (pur_ldT (T := tConflictEdge) (i := i_20) (off := 0) rfl one3 rfl rfl hx_i_20 rfl) rfl ?_)
         obtain ⟨v_24, h_25, H⟩ := bind_inv H
         obtain ⟨n_26, hz_27, hv_28⟩ := getI_inv h_25
         refine TO_on rfl rfl (by decide) rfl rfl (TOp_pure (pur_ixM (T := tBool) sl58 rfl rfl hz_27 hv_28 rfl) rfl ?_)
         refine TO_on rfl rfl (by decide) rfl rfl (TOp_pure (pur_ldE (f := tBool.enc) (k := tBool.k) (i := n_26) (off := 0) tBool.len rfl one4 rfl rfl rfl hv_28 rfl rfl) rfl ?_)
         refine toe [(0, (intA n0)), (2, (sl tConflictEdge p2)), (8, (.m [0] 0 gone8.length tBool.k)), (9, (intA (k_14 : Int))), (10, (intA (x_17 : Int))), (11, (boolA free11)), (12, (intA (i_20 : Int))), (69, (boolA true)), (77, (boolA false)), (85, (boolA v_24))] rfl ?_
         refine TO_on rfl rfl (by decide) rfl rfl (TOp_pure (pur_pick (t := false) rfl rfl rfl) rfl ?_)
         refine Tp rfl rfl (pur_pick (t := true) rfl rfl rfl) rfl ?_
         refine Tp rfl rfl (pur_assign rfl) rfl ?_
         refine TO_nil ?_
         refine te [(0, (intA n0)), (2, (sl tConflictEdge p2)), (8, (.m [0] 0 gone8.length tBool.k)), (9, (intA (k_14 : Int))), (10, (intA (x_17 : Int))), (11, (boolA v_24)), (12, (intA (i_20 : Int)))] rfl ?_
         refine T_region ?_
         refine Tp rfl rfl (pur_move rfl) rfl ?_
         refine Tp rfl rfl (pur_add rfl rfl rfl (fits64 (by omega) (by omega))) rfl ?_
         refine Tp rfl rfl (pur_assign rfl) rfl ?_
         refine TO_nil ?_
         obtain rfl := some_inj H
         exact again (p2.length - (i_20 + 1)) (i_20 + 1, v_24) (by omega) (wp 1 (lb rfl) rfl rfl rfl rfl rfl) ⟨rfl, K21_⟩
       ·replace H := cond_f g_22 H
        refine TO_off rfl rfl (by decide) rfl rfl rfl ?_
        refine TO_off rfl rfl (by decide) rfl rfl rfl ?_
        refine TO_off rfl rfl (by decide) rfl rfl rfl ?_
        refine TO_off rfl rfl (by decide) rfl rfl rfl ?_
        refine TO_off rfl rfl (by decide) rfl rfl rfl ?_
        refine TO_off rfl rfl (by decide) rfl rfl rfl ?_
        refine TO_off rfl rfl (by decide) rfl rfl rfl ?_
        refine TO_off rfl rfl (by decide) rfl rfl rfl ?_
        refine toe [(0, (intA n0)), (2, (sl tConflictEdge p2)), (8, (.m [0] 0 gone8.length tBool.k)), (9, (intA (k_14 : Int))), (10, (intA (x_17 : Int))), (11, (boolA free11)), (12, (intA (i_20 : Int))), (69, (boolA false)), (77, (.v undef))] rfl ?_
        refine TO_off rfl rfl (by decide) rfl rfl rfl ?_
        refine TO_off rfl rfl (by decide) rfl rfl rfl ?_
        refine TO_off rfl rfl (by decide) rfl rfl rfl ?_
        refine TO_off rfl rfl (by decide) rfl rfl rfl ?_
        refine TO_off rfl rfl (by decide) rfl rfl rfl ?_
        refine TO_off rfl rfl (by decide) rfl rfl rfl ?_
        refine TO_off rfl rfl (by decide) rfl rfl rfl ?_
        refine TO_off rfl rfl (by decide) rfl rfl rfl ?_
        refine toe [(0, (intA n0)), (2, (sl tConflictEdge p2)), (8, (.m [0] 0 gone8.length tBool.k)), (9, (intA (k_14 : Int))), (10, (intA (x_17 : Int))), (11, (boolA free11)), (12, (intA (i_20 : Int))), (69, (boolA false)), (77, (.v undef)), (85, (.v undef))] rfl ?_
        refine TO_off rfl rfl (by decide) rfl rfl rfl ?_
        refine Tp rfl rfl (pur_pick (t := false) rfl rfl rfl) rfl ?_
        refine Tp rfl rfl (pur_assign rfl) rfl ?_
        refine TO_nil ?_
        refine te [(0, (intA n0)), (2, (sl tConflictEdge p2)), (8, (.m [0] 0 gone8.length tBool.k)), (9, (intA (k_14 : Int))), (10, (intA (x_17 : Int))), (11, (boolA false)), (12, (intA (i_20 : Int)))] rfl ?_
        refine T_region ?_
        refine Tp rfl rfl (pur_move rfl) rfl ?_
        refine Tp rfl rfl (pur_add rfl rfl rfl (fits64 (by omega) (by omega))) rfl ?_
        refine Tp rfl rfl (pur_assign rfl) rfl ?_
        refine TO_nil ?_
        obtain rfl := some_inj H
        exact again (p2.length - (i_20 + 1)) (i_20 + 1, false) (by omega) (wp 1 (lb rfl) rfl rfl rfl rfl rfl) ⟨rfl, K21_⟩
      ·replace d21 := of_decide_eq_false d21
       obtain rfl := forS_end L21_ (by omega)
       refine T_exit ?_
       refine then_exit ?_
       refine then_exit ?_
       refine block_exit ?_
       replace H := N21_
       refine te [(0, (intA n0)), (2, (sl tConflictEdge p2)), (8, (.m [0] 0 gone8.length tBool.k)), (9, (intA (k_14 : Int))), (10, (intA (x_17 : Int))), (11, (boolA free11))] rfl ?_
       refine sr ?_
       refine Tp rfl rfl (pur_move rfl) rfl ?_
       refine TO_nil ?_
       refine te [(0, (intA n0)), (2, (sl tConflictEdge p2)), (8, (.m [0] 0 gone8.length tBool.k)), (9, (intA (k_14 : Int))), (10, (intA (x_17 : Int))), (88, (boolA free11))] rfl ?_
       refine T_cond (t := free11) rfl (fun c_29 => ?_) (fun c_29 => ?_)
       ·replace H := cond_t c_29 H
        refine T_region ?_
        refine Tp rfl rfl (pur_move rfl) rfl ?_
        refine Tp rfl rfl (pur_move rfl) rfl ?_
        obtain ⟨v_30, h_31, H⟩ := bind_inv H
        obtain ⟨n_32, hz_33, hv_34⟩ := getI_inv h_31
        refine Tp rfl rfl (pur_ixM (T := tBool) sl58 rfl rfl hz_33 hv_34 rfl) rfl ?_
        refine TO_cons rfl (TOp_setT (f := tBool.enc) (z := (x_17 : Int)) (y := true) tBool.len tBool.pos hz_33 sz4 rfl rfl rfl rfl rfl hv_34 rfl rfl ?_)
        refine TO_env (E' := [(0, (intA n0)), (2, (sl tConflictEdge p2)), (8, (.m [0] 0 (gone8.set ((x_17 : Int)).toNat true).length tBool.k)), (9, (intA (k_14 : Int))), (10, (intA (x_17 : Int))), (88, (boolA free11)), (89, (.m [0] 0 (gone8.set ((x_17 : Int)).toNat true).length tBool.k)), (90, (intA (x_17 : Int)))]) ⟨rfl, rfl, (congrArg (fun q => A.m [0] 0 q tBool.k) (List.length_set ..).symm), rfl, rfl, rfl, (congrArg (fun q => A.m [0] 0 q tBool.k) (List.length_set ..).symm), rfl, trivial⟩ ?_
        refine TO_st (σ' := [.row (flat tBool.enc (gone8.set ((x_17 : Int)).toNat true))]) rfl ?_
        refine TO_nil ?_
        refine te [(0, (intA n0)), (2, (sl tConflictEdge p2)), (8, (.m [0] 0 (gone8.set ((x_17 : Int)).toNat true).length tBool.k)), (9, (intA (k_14 : Int))), (10, (intA (x_17 : Int)))] rfl ?_
        refine T_region ?_
        refine Tp rfl rfl (pur_move rfl) rfl ?_
        refine Tp rfl rfl (pur_add rfl rfl rfl (fits64 (by omega) (by omega))) rfl ?_
        refine Tp rfl rfl (pur_assign rfl) rfl ?_
        refine TO_nil ?_
        obtain rfl := some_inj H
        exact again (n0 - (x_17 + 1)).toNat (x_17 + 1, (gone8.set ((x_17 : Int)).toNat true)) (by omega) (wp 1 (lb rfl) rfl rfl rfl rfl rfl) ⟨rfl, by omega, K18_⟩
       ·replace H := cond_f c_29 H
        refine T_skip ?_
        refine te [(0, (intA n0)), (2, (sl tConflictEdge p2)), (8, (.m [0] 0 gone8.length tBool.k)), (9, (intA (k_14 : Int))), (10, (intA (x_17 : Int)))] rfl ?_
        refine T_region ?_
        refine Tp rfl rfl (pur_move rfl) rfl ?_
        refine Tp rfl rfl (pur_add rfl rfl rfl (fits64 (by omega) (by omega))) rfl ?_
        refine Tp rfl rfl (pur_assign rfl) rfl ?_
        refine TO_nil ?_
        obtain rfl := some_inj H
        exact again (n0 - (x_17 + 1)).toNat (x_17 + 1, gone8) (by omega) (wp 1 (lb rfl) rfl rfl rfl rfl rfl) ⟨rfl, by omega, K18_⟩
     ·replace d18 := of_decide_eq_false d18
      obtain rfl := forM_end L18_ (by omega)
      refine T_exit ?_
      refine then_exit ?_
      refine then_exit ?_
      refine block_exit ?_
      replace H := N18_
      refine te [(0, (intA n0)), (2, (sl tConflictEdge p2)), (8, (.m [0] 0 gone8.length tBool.k)), (9, (intA (k_14 : Int)))] rfl ?_
      refine T_region ?_
      refine Tp rfl rfl (pur_move rfl) rfl ?_
      refine Tp rfl rfl (pur_add rfl rfl rfl (fits64 (by omega) (by omega))) rfl ?_
      refine Tp rfl rfl (pur_assign rfl) rfl ?_
      refine TO_nil ?_
      obtain rfl := some_inj H
      exact again (n0 - (k_14 + 1)).toNat (k_14 + 1, gone8) (by omega) (wp 1 (lb rfl) rfl rfl rfl rfl rfl) ⟨rfl, by omega, K15_⟩
    ·replace d15 := of_decide_eq_false d15
     obtain rfl := forM_end L15_ (by omega)
     refine T_exit ?_
     refine then_exit ?_
     refine then_exit ?_
     refine block_exit ?_
     replace H := N15_
     refine te [(0, (intA n0)), (8, (.m [0] 0 gone8.length tBool.k))] rfl ?_
     refine T_seq ?_
     refine sr ?_
     refine Tp rfl rfl (pur_assign rfl) rfl ?_
     refine TO_nil ?_
     refine te [(0, (intA n0)), (8, (.m [0] 0 gone8.length tBool.k)), (13, (intA 0))] rfl ?_
     obtain ⟨_, h_37, H⟩ := bind_inv H
     replace h_37 := gN_inv h_37
     obtain ⟨O36_, L36_, N36_⟩ := bind_inv H
     clear H
     obtain ⟨B36_, hb36, L36_⟩ := gen_forN L36_
     refine T_block ?_
     refine T_loopX (fun k => fun (x_35 : Int) => k = (n0 - x_35).toNat ∧ 0 ≤ x_35 ∧ forN B36_ (n0 - x_35).toNat x_35 () = some O36_) (fun (x_35 : Int) => [(0, (intA n0)), (8, (.m [0] 0 gone8.length tBool.k)), (13, (intA (x_35 : Int)))]) (fun (x_35 : Int) => [.row (flat tBool.enc gone8)]) _ (0 : Int) (wp 1 (lb rfl) rfl rfl rfl rfl rfl) ⟨rfl, Int.le_refl _, L36_⟩ ?_
     rintro _ x_35 ⟨rfl, hi36, L36_⟩
     refine te [(0, (intA n0)), (8, (.m [0] 0 gone8.length tBool.k)), (13, (intA (x_35 : Int)))] rfl ?_
     refine T_st (σ' := [.row (flat tBool.enc gone8)]) rfl ?_
     refine T_seq ?_
     refine sr ?_
     refine Tp rfl rfl (pur_move rfl) rfl ?_
     refine Tp rfl rfl (pur_move rfl) rfl ?_
     refine Tp rfl rfl (pur_lss rfl rfl rfl) rfl ?_
     refine TO_nil ?_
     refine te [(0, (intA n0)), (8, (.m [0] 0 gone8.length tBool.k)), (13, (intA (x_35 : Int))), (94, (boolA (decide ((x_35 : Int) < n0))))] rfl ?_
     refine T_cond (t := decide ((x_35 : Int) < n0)) rfl (fun d36 => ?_) (fun d36 => ?_)
     ·replace d36 := of_decide_eq_true d36
      obtain ⟨C36_, H, K36_⟩ := forN_step L36_ d36
      rw [hb36] at H
      refine T_skip ?_
      refine te [(0, (intA n0)), (8, (.m [0] 0 gone8.length tBool.k)), (13, (intA (x_35 : Int)))] rfl ?_
      refine T_seq ?_
      refine T_block ?_
      refine sr ?_
      refine Tp rfl rfl (pur_move rfl) rfl ?_
      refine Tp rfl rfl (pur_move rfl) rfl ?_
      obtain ⟨v_38, h_39, H⟩ := bind_inv H
      obtain ⟨n_40, hz_41, hv_42⟩ := getI_inv h_39
      refine Tp rfl rfl (pur_ixM (T := tBool) sl58 rfl rfl hz_41 hv_42 rfl) rfl ?_
      refine Tp rfl rfl (pur_ldE (f := tBool.enc) (k := tBool.k) (i := n_40) (off := 0) tBool.len rfl one4 rfl rfl rfl hv_42 rfl rfl) rfl ?_
      refine Tp rfl rfl (pur_not rfl rfl) rfl ?_
      refine TO_nil ?_
      refine te [(0, (intA n0)), (8, (.m [0] 0 gone8.length tBool.k)), (13, (intA (x_35 : Int))), (101, (boolA (!v_38)))] rfl ?_
      refine T_cond (t := (!v_38)) rfl (fun c_43 => ?_) (fun c_43 => ?_)
      ·replace H := cond_t c_43 H
       refine sr ?_
       refine Tp rfl rfl (pur_assign rfl) rfl ?_
       refine TO_nil ?_
       refine te [(6, (boolA false))] rfl ?_
       refine T_ret ?_
       refine block_ret ?_
       refine then_ret ?_
       refine then_ret ?_
       refine block_ret ?_
       refine then_ret ?_
       obtain rfl := some_inj H
       obtain rfl := some_inj K36_
       replace H := onS_r N36_
       obtain rfl := some_inj H
       refine end_ret (.tmp .nil) rfl rfl ⟨?_, rfl⟩
       rfl
      ·replace H := cond_f c_43 H
       refine T_skip ?_
       refine te [(0, (intA n0)), (8, (.m [0] 0 gone8.length tBool.k)), (13, (intA (x_35 : Int)))] rfl ?_
       refine T_region ?_
       refine Tp rfl rfl (pur_move rfl) rfl ?_
       refine Tp rfl rfl (pur_add rfl rfl rfl (fits64 (by omega) (by omega))) rfl ?_
       refine Tp rfl rfl (pur_assign rfl) rfl ?_
       refine TO_nil ?_
       obtain rfl := some_inj H
       exact again (n0 - (x_35 + 1)).toNat (x_35 + 1) (by omega) (wp 1 (lb rfl) rfl rfl rfl rfl rfl) ⟨rfl, by omega, K36_⟩
     ·replace d36 := of_decide_eq_false d36
      obtain rfl := forN_end L36_ (by omega)
      refine T_exit ?_
      refine then_exit ?_
      refine then_exit ?_
      refine block_exit ?_
      replace H := onS_l N36_
      refine te [] rfl ?_
      refine sr ?_
      refine Tp rfl rfl (pur_assign rfl) rfl ?_
      refine TO_nil ?_
      refine te [(6, (boolA true))] rfl ?_
      refine T_ret ?_
      obtain rfl := some_inj H
      refine end_ret (.tmp .nil) rfl rfl ⟨?_, rfl⟩
      rfl

set_option maxHeartbeats 1000000 in
/-- spec.l8Set -/
theorem m_spec_l8Set_ok (n0 : Int) (s1 : (List Int)) (r : Bool) (H : m_spec_l8Set n0 s1 = some r) : FnV prg 49 [(intA n0), (sl tInt s1)] (boolA r) := by
  unfold m_spec_l8Set at H
  refine fnV_of_T Try.func49 rfl rfl (Nat.le_of_ble_eq_true rfl) ?_
  refine te [(0, (intA n0)), (1, (sl tInt s1))] rfl ?_
  refine sr ?_
  refine Tp rfl rfl (pur_assign rfl) rfl ?_
  refine TO_nil ?_
  refine te [(0, (intA n0)), (1, (sl tInt s1))] rfl ?_
  refine T_seq ?_
  refine sr ?_
  refine Tp rfl rfl (pur_assign rfl) rfl ?_
  refine TO_nil ?_
  refine te [(0, (intA n0)), (1, (sl tInt s1)), (5, (intA 0))] rfl ?_
  obtain ⟨O2_, L2_, N2_⟩ := bind_inv H
  clear H
  obtain ⟨B2_, hb2, L2_⟩ := gen_forL L2_
  refine T_block ?_
  refine T_loopX (fun k => fun (i_1 : Nat) => k = s1.length - i_1 ∧ forL B2_ (s1.drop i_1) (i_1 : Int) () = some O2_) (fun (i_1 : Nat) => [(0, (intA n0)), (1, (sl tInt s1)), (5, (intA (i_1 : Int)))]) (fun (i_1 : Nat) => []) _ (0 : Nat) (wp 0 (lb rfl) rfl rfl rfl rfl rfl) ⟨rfl, L2_⟩ ?_
  rintro _ i_1 ⟨rfl, L2_⟩
  refine te [(0, (intA n0)), (1, (sl tInt s1)), (5, (intA (i_1 : Int)))] rfl ?_
  refine T_st (σ' := []) rfl ?_
  refine T_fact (len_sl (T := tInt) (.tmp 1) rfl) (fun hl2 => ?_)
  refine T_seq ?_
  refine sr ?_
  refine Tp rfl rfl (pur_move rfl) rfl ?_
  refine Tp rfl rfl (pur_move rfl) rfl ?_
  refine Tp rfl rfl (pur_lenT (T := tInt) sl31 rfl rfl) rfl ?_
  refine Tp rfl rfl (pur_lss rfl rfl rfl) rfl ?_
  refine TO_nil ?_
  refine te [(0, (intA n0)), (1, (sl tInt s1)), (5, (intA (i_1 : Int))), (9, (boolA (decide ((i_1 : Int) < (s1.length : Int)))))] rfl ?_
  refine T_cond (t := decide ((i_1 : Int) < (s1.length : Int))) rfl (fun d2 => ?_) (fun d2 => ?_)
  ·replace d2 := of_decide_eq_true d2
   obtain ⟨x_i_1, hx_i_1⟩ : ∃ v, (s1)[i_1]? = some v := ⟨_, List.getElem?_eq_getElem (by omega)⟩
   obtain ⟨C2_, H, K2_⟩ := forL_step L2_ hx_i_1
   rw [hb2] at H
   refine T_skip ?_
   refine te [(0, (intA n0)), (1, (sl tInt s1)), (5, (intA (i_1 : Int)))] rfl ?_
   refine T_seq ?_
   refine T_block ?_
   obtain ⟨t35_3, J_3, H_4⟩ := bind_inv H
   refine T_cutX (fun x => t35_3 = x) (fun (t35_3 : Bool) => [(0, (intA n0)), (1, (sl tInt s1)), (5, (intA (i_1 : Int))), (35, (boolA t35_3))]) (fun (t35_3 : Bool) => []) ?_ ?_
   ·replace H := J_3
    refine T_regionD mixed (by kernel_rfl) ?_
    refine TQ_pure rfl (pur_move rfl) rfl ?_
    refine TQ_pure rfl (pur_move rfl) rfl ?_
    refine TQ_pure rfl (pur_ixT (T := tInt) sl31 rfl rfl rfl hx_i_1 rfl) rfl ?_
    refine TQ_pure rfl (pur_ldT (T := tInt) (i := i_1) (off := 0) rfl one3 rfl rfl hx_i_1 rfl) rfl ?_
    refine TQ_pure rfl (pur_move rfl) rfl ?_
    refine TQ_pure rfl (pur_wsub rfl rfl rfl) rfl ?_
    obtain ⟨r_5, h_6, H⟩ := bind_inv H
    refine TQ_callV rfl (call_static ent76 rfl) (m_spec_l1In_ok _ _ _ _ h_6) rfl rfl ?_
    refine TQ_pure rfl (pur_not rfl rfl) rfl ?_
    refine tqe [(0, (intA n0)), (1, (sl tInt s1)), (5, (intA (i_1 : Int))), (19, (boolA (!r_5)))] rfl ?_
    refine TQ_pure rfl (pur_move rfl) rfl ?_
    refine TQ_split (t := (!r_5)) 20 rfl (fun g_7 => ?_) (fun g_7 => ?_)
    ·replace H := cond_t g_7 H
     refine TQ_off rfl rfl (by decide) rfl rfl rfl ?_
     refine TQ_off rfl rfl (by decide) rfl rfl rfl ?_
     refine TQ_off rfl rfl (by decide) rfl rfl rfl ?_
     refine TQ_off rfl rfl (by decide) rfl rfl rfl ?_
     refine TQ_off rfl rfl (by decide) rfl rfl rfl ?_
     refine TQ_off rfl rfl (by decide) rfl rfl rfl ?_
     refine TQ_off rfl rfl (by decide) rfl rfl rfl ?_
     refine TQ_off rfl rfl (by decide) rfl rfl rfl ?_
     refine tqe [(0, (intA n0)), (1, (sl tInt s1)), (5, (intA (i_1 : Int))), (20, (boolA true)), (23, (.v undef)), (27, (.v undef)), (28, (.v undef))] rfl ?_
     refine TQ_off rfl rfl (by decide) rfl rfl rfl ?_
     refine TQ_off rfl rfl (by decide) rfl rfl rfl ?_
     refine TQ_off rfl rfl (by decide) rfl rfl rfl ?_
     refine TQ_off rfl rfl (by decide) rfl rfl rfl ?_
     refine TQ_off rfl rfl (by decide) rfl rfl rfl ?_
     refine TQ_off rfl rfl (by decide) rfl rfl rfl ?_
     refine TQ_pure rfl (pur_pick (t := true) rfl rfl rfl) rfl ?_
     refine TQ_nil ?_
     exact joined true (wp 0 (lb rfl) rfl rfl rfl rfl rfl) (some_inj H).symm
    ·replace H := cond_f g_7 H
     refine TQ_on rfl rfl (by decide) rfl (pur_move rfl) rfl ?_
     refine TQ_on rfl rfl (by decide) rfl (pur_gtr rfl rfl rfl) rfl ?_
     refine TQ_on rfl rfl (by decide) rfl (pur_move rfl) rfl ?_
     refine TQ_split (t := decide (0 < (i_1 : Int))) 23 rfl (fun g_8 => ?_) (fun g_8 => ?_)
     ·replace H := cond_t g_8 H
      refine TQ_on rfl rfl (by decide) rfl (pur_move rfl) rfl ?_
      refine TQ_on rfl rfl (by decide) rfl (pur_move rfl) rfl ?_
      refine TQ_on rfl rfl (by decide) rfl (pur_ixT (T := tInt) sl31 rfl rfl rfl hx_i_1 rfl) rfl ?_
      refine TQ_on rfl rfl (by decide) rfl (pur_ldT (T := tInt) (i := i_1) (off := 0) rfl one3 rfl rfl hx_i_1 rfl) rfl ?_
      refine TQ_on rfl rfl (by decide) rfl (pur_move rfl) rfl ?_
      refine TQ_on rfl rfl (by decide) rfl (pur_move rfl) rfl ?_
      refine TQ_on rfl rfl (by decide) rfl (pur_sub rfl rfl rfl (fits64 (by omega) (by omega))) rfl ?_
      obtain ⟨v_9, h_10, H⟩ := bind_inv H
      obtain ⟨n_11, hz_12, hv_13⟩ := getI_inv h_10
      refine TQ_on rfl rfl (by decide) rfl (pur_ixT (T := tInt) sl31 rfl rfl hz_12 hv_13 rfl) rfl ?_
      refine tqe [(0, (intA n0)), (1, (sl tInt s1)), (5, (intA (i_1 : Int))), (20, (boolA false)), (23, (boolA true)), (27, (intA x_i_1)), (31, (.q (flat tInt.enc s1) (n_11 * tInt.k)))] rfl ?_
      refine TQ_on rfl rfl (by decide) rfl (pur_ldT (T := tInt) (i := n_11) (off := 0) rfl one3 rfl rfl hv_13 rfl) rfl ?_
      refine TQ_on rfl rfl (by decide) rfl (pur_leq rfl rfl rfl) rfl ?_
      refine TQ_on rfl rfl (by decide) rfl (pur_pick (t := true) rfl rfl rfl) rfl ?_
      refine TQ_pure rfl (pur_pick (t := false) rfl rfl rfl) rfl ?_
      refine TQ_nil ?_
      exact joined (decide (x_i_1 ≤ v_9)) (wp 0 (lb rfl) rfl rfl rfl rfl rfl) (some_inj H).symm
     ·replace H := cond_f g_8 H
      refine TQ_off rfl rfl (by decide) rfl rfl rfl ?_
      refine TQ_off rfl rfl (by decide) rfl rfl rfl ?_
      refine TQ_off rfl rfl (by decide) rfl rfl rfl ?_
      refine TQ_off rfl rfl (by decide) rfl rfl rfl ?_
      refine TQ_off rfl rfl (by decide) rfl rfl rfl ?_
      refine TQ_off rfl rfl (by decide) rfl rfl rfl ?_
      refine TQ_off rfl rfl (by decide) rfl rfl rfl ?_
      refine TQ_off rfl rfl (by decide) rfl rfl rfl ?_
      refine tqe [(0, (intA n0)), (1, (sl tInt s1)), (5, (intA (i_1 : Int))), (20, (boolA false)), (23, (boolA false)), (27, (.v undef)), (31, (.v undef))] rfl ?_
      refine TQ_off rfl rfl (by decide) rfl rfl rfl ?_
      refine TQ_off rfl rfl (by decide) rfl rfl rfl ?_
      refine TQ_on rfl rfl (by decide) rfl (pur_pick (t := false) rfl rfl rfl) rfl ?_
      refine TQ_pure rfl (pur_pick (t := false) rfl rfl rfl) rfl ?_
      refine TQ_nil ?_
      exact joined false (wp 0 (lb rfl) rfl rfl rfl rfl rfl) (some_inj H).symm
   ·rintro _ rfl
    replace H := H_4
    refine te [(0, (intA n0)), (1, (sl tInt s1)), (5, (intA (i_1 : Int))), (35, (boolA t35_3))] rfl ?_
    refine T_cond (t := t35_3) rfl (fun c_14 => ?_) (fun c_14 => ?_)
    ·replace H := cond_t c_14 H
     refine sr ?_
     refine Tp rfl rfl (pur_assign rfl) rfl ?_
     refine TO_nil ?_
     refine te [(4, (boolA false))] rfl ?_
     refine T_ret ?_
     refine block_ret ?_
     refine then_ret ?_
     refine then_ret ?_
     refine block_ret ?_
     refine then_ret ?_
     obtain rfl := some_inj H
     obtain rfl := some_inj K2_
     replace H := onS_r N2_
     obtain rfl := some_inj H
     refine end_ret (.tmp .nil) rfl rfl ⟨?_, rfl⟩
     rfl
    ·replace H := cond_f c_14 H
     refine T_skip ?_
     refine te [(0, (intA n0)), (1, (sl tInt s1)), (5, (intA (i_1 : Int)))] rfl ?_
     refine T_region ?_
     refine Tp rfl rfl (pur_move rfl) rfl ?_
     refine Tp rfl rfl (pur_add rfl rfl rfl (fits64 (by omega) (by omega))) rfl ?_
     refine Tp rfl rfl (pur_assign rfl) rfl ?_
     refine TO_nil ?_
     obtain rfl := some_inj H
     exact again (s1.length - (i_1 + 1)) (i_1 + 1) (by omega) (wp 0 (lb rfl) rfl rfl rfl rfl rfl) ⟨rfl, K2_⟩
  ·replace d2 := of_decide_eq_false d2
   obtain rfl := forL_end L2_ (by omega)
   refine T_exit ?_
   refine then_exit ?_
   refine then_exit ?_
   refine block_exit ?_
   replace H := onS_l N2_
   refine te [] rfl ?_
   refine sr ?_
   refine Tp rfl rfl (pur_assign rfl) rfl ?_
   refine TO_nil ?_
   refine te [(4, (boolA true))] rfl ?_
   refine T_ret ?_
   obtain rfl := some_inj H
   refine end_ret (.tmp .nil) rfl rfl ⟨?_, rfl⟩
   rfl

set_option maxHeartbeats 1000000 in
/-- spec.UndominatedFacts -/
theorem m_spec_UndominatedFacts_own (n0 : Int) (l1 : (List ConflictEdge)) (p2 : (List ConflictEdge)) (left3 : (List Int)) (r : (List Int)) (H : m_spec_UndominatedFacts n0 l1 p2 left3 = some r) : FnO prg 18 [(intA n0), (sl tConflictEdge l1), (sl tConflictEdge p2), (sl tInt left3)] (.m [0] 0 r.length tInt.k) [.row (flat tInt.own r)] := by
  unfold m_spec_UndominatedFacts at H
  refine fnO_of_T Try.func18 rfl rfl (Nat.le_of_ble_eq_true rfl) ?_
  refine te [(0, (intA n0)), (1, (sl tConflictEdge l1)), (2, (sl tConflictEdge p2)), (3, (sl tInt left3))] rfl ?_
  refine sr ?_
  refine Tp rfl rfl (pur_assign rfl) rfl ?_
  refine TO_nil ?_
  refine te [(0, (intA n0)), (1, (sl tConflictEdge l1)), (2, (sl tConflictEdge p2)), (3, (sl tInt left3))] rfl ?_
  refine sr ?_
  refine TO_cons rfl (TOp_lit (nn := 0) (k := 1) sl31 zero3 rfl rfl rfl rfl (by decide) ?_)
  refine TO_st (σ' := [.row (flat tInt.enc ([] : (List Int)))]) rfl ?_
  refine Tp rfl rfl (pur_assign rfl) rfl ?_
  refine TO_nil ?_
  refine te [(0, (intA n0)), (1, (sl tConflictEdge l1)), (2, (sl tConflictEdge p2)), (3, (sl tInt left3)), (9, (.m [0] 0 ([] : (List Int)).length tInt.k))] rfl ?_
  refine T_seq ?_
  obtain ⟨t24_1, J_1, H_2⟩ := bind_inv H
  refine T_cutX (fun x => t24_1 = x) (fun (t24_1 : Bool) => [(2, (sl tConflictEdge p2)), (3, (sl tInt left3)), (9, (.m [0] 0 ([] : (List Int)).length tInt.k)), (24, (boolA t24_1))]) (fun (t24_1 : Bool) => [.row (flat tInt.enc ([] : (List Int)))]) ?_ ?_
  ·replace H := J_1
   refine T_region ?_
   refine Tp rfl rfl (pur_move rfl) rfl ?_
   refine Tp rfl rfl (pur_move rfl) rfl ?_
   refine Tp rfl rfl (pur_move rfl) rfl ?_
   obtain ⟨r_3, h_4, H⟩ := bind_inv H
   refine TO_cons rfl (TOp_callV (call_static ent16 rfl) (m_spec_IsValidPreference_ok _ _ _ _ h_4) rfl rfl rfl ?_)
   refine Tp rfl rfl (pur_not rfl rfl) rfl ?_
   refine Tp rfl rfl (pur_move rfl) rfl ?_
   refine TO_split (t := (!r_3)) 19 rfl (fun g_5 => ?_) (fun g_5 => ?_)
   ·replace H := cond_t g_5 H
    refine TO_off rfl rfl (by decide) rfl rfl rfl ?_
    refine TO_off rfl rfl (by decide) rfl rfl rfl ?_
    refine TO_off rfl rfl (by decide) rfl rfl rfl ?_
    refine TO_off rfl rfl (by decide) rfl rfl rfl ?_
    refine Tp rfl rfl (pur_pick (t := true) rfl rfl rfl) rfl ?_
    refine TO_nil ?_
    exact joined true (wp 1 (lb rfl) rfl rfl rfl rfl rfl) (some_inj H).symm
   ·replace H := cond_f g_5 H
    refine TO_on rfl rfl (by decide) rfl rfl (TOp_pure (pur_move rfl) rfl ?_)
    refine TO_on rfl rfl (by decide) rfl rfl (TOp_pure (pur_move rfl) rfl ?_)
    obtain ⟨r_6, h_7, H⟩ := bind_inv H
    refine TO_on rfl rfl (by decide) rfl rfl (TOp_callV (call_static ent49 rfl) (m_spec_l8Set_ok _ _ _ h_7) rfl rfl rfl ?_)
    refine TO_on rfl rfl (by decide) rfl rfl (TOp_pure (pur_not rfl rfl) rfl ?_)
    refine Tp rfl rfl (pur_pick (t := false) rfl rfl rfl) rfl ?_
    refine TO_nil ?_
    exact joined (!r_6) (wp 1 (lb rfl) rfl rfl rfl rfl rfl) (some_inj H).symm
  ·rintro _ rfl
   replace H := H_2
   refine te [(2, (sl tConflictEdge p2)), (3, (sl tInt left3)), (9, (.m [0] 0 ([] : (List Int)).length tInt.k)), (24, (boolA t24_1))] rfl ?_
   refine T_cond (t := t24_1) rfl (fun c_8 => ?_) (fun c_8 => ?_)
   ·replace H := cond_t c_8 H
    refine sr ?_
    refine Tp rfl rfl (pur_move rfl) rfl ?_
    refine Tp rfl rfl (pur_assign rfl) rfl ?_
    refine TO_nil ?_
    refine te [(8, (.m [0] 0 ([] : (List Int)).length tInt.k))] rfl ?_
    refine T_ret ?_
    refine then_ret ?_
    obtain rfl := some_inj H
    exact end_pick (.tmp .nil) rfl [0] (by decide) rfl rfl rfl rfl rfl rfl
   ·replace H := cond_f c_8 H
    refine T_skip ?_
    refine te [(2, (sl tConflictEdge p2)), (3, (sl tInt left3)), (9, (.m [0] 0 ([] : (List Int)).length tInt.k))] rfl ?_
    refine T_seq ?_
    refine sr ?_
    refine Tp rfl rfl (pur_assign rfl) rfl ?_
    refine TO_nil ?_
    refine te [(2, (sl tConflictEdge p2)), (3, (sl tInt left3)), (9, (.m [0] 0 ([] : (List Int)).length tInt.k)), (10, (intA 0))] rfl ?_
    obtain ⟨O10_, L10_, N10_⟩ := bind_inv H
    clear H
    obtain ⟨B10_, hb10, L10_⟩ := gen_forS L10_
    refine T_block ?_
    refine T_loopX (fun k => fun (x_ : Nat × (List Int)) => k = left3.length - x_.1 ∧ forS B10_ (left3.drop x_.1) (x_.1 : Int) x_.2 = some O10_) (fun (x_ : Nat × (List Int)) => [(2, (sl tConflictEdge p2)), (3, (sl tInt left3)), (9, (.m [0] 0 x_.2.length tInt.k)), (10, (intA (x_.1 : Int)))]) (fun (x_ : Nat × (List Int)) => [.row (flat tInt.enc x_.2)]) _ (0, ([] : (List Int))) (wp 1 (lb rfl) rfl rfl rfl rfl rfl) ⟨rfl, L10_⟩ ?_
    rintro _ ⟨i_9, out9⟩ ⟨rfl, L10_⟩
    refine te [(2, (sl tConflictEdge p2)), (3, (sl tInt left3)), (9, (.m [0] 0 out9.length tInt.k)), (10, (intA (i_9 : Int)))] rfl ?_
    refine T_st (σ' := [.row (flat tInt.enc out9)]) rfl ?_
    refine T_fact (len_sl (T := tInt) (.tmp 3) rfl) (fun hl10 => ?_)
    refine T_seq ?_
    refine sr ?_
    refine Tp rfl rfl (pur_move rfl) rfl ?_
    refine Tp rfl rfl (pur_move rfl) rfl ?_
    refine Tp rfl rfl (pur_lenT (T := tInt) sl31 rfl rfl) rfl ?_
    refine Tp rfl rfl (pur_lss rfl rfl rfl) rfl ?_
    refine TO_nil ?_
    refine te [(2, (sl tConflictEdge p2)), (3, (sl tInt left3)), (9, (.m [0] 0 out9.length tInt.k)), (10, (intA (i_9 : Int))), (29, (boolA (decide ((i_9 : Int) < (left3.length : Int)))))] rfl ?_
    refine T_cond (t := decide ((i_9 : Int) < (left3.length : Int))) rfl (fun d10 => ?_) (fun d10 => ?_)
    ·replace d10 := of_decide_eq_true d10
     obtain ⟨x_i_9, hx_i_9⟩ : ∃ v, (left3)[i_9]? = some v := ⟨_, List.getElem?_eq_getElem (by omega)⟩
     obtain ⟨C10_, H, K10_⟩ := forS_step L10_ hx_i_9
     rw [hb10] at H
     refine T_skip ?_
     refine te [(2, (sl tConflictEdge p2)), (3, (sl tInt left3)), (9, (.m [0] 0 out9.length tInt.k)), (10, (intA (i_9 : Int)))] rfl ?_
     refine T_seq ?_
     refine T_block ?_
     refine sr ?_
     refine Tp rfl rfl (pur_assign rfl) rfl ?_
     refine TO_nil ?_
     refine te [(2, (sl tConflictEdge p2)), (3, (sl tInt left3)), (9, (.m [0] 0 out9.length tInt.k)), (10, (intA (i_9 : Int))), (11, (boolA true))] rfl ?_
     refine T_seq ?_
     refine sr ?_
     refine Tp rfl rfl (pur_assign rfl) rfl ?_
     refine TO_nil ?_
     refine te [(2, (sl tConflictEdge p2)), (3, (sl tInt left3)), (9, (.m [0] 0 out9.length tInt.k)), (10, (intA (i_9 : Int))), (11, (boolA true)), (12, (intA 0))] rfl ?_
     obtain ⟨O12_, L12_, N12_⟩ := bind_inv H
     clear H
     obtain ⟨B12_, hb12, L12_⟩ := gen_forS L12_
     refine T_block ?_
     refine T_loopX (fun k => fun (x_ : Nat × Bool) => k = left3.length - x_.1 ∧ forS B12_ (left3.drop x_.1) (x_.1 : Int) x_.2 = some O12_) (fun (x_ : Nat × Bool) => [(2, (sl tConflictEdge p2)), (3, (sl tInt left3)), (9, (.m [0] 0 out9.length tInt.k)), (10, (intA (i_9 : Int))), (11, (boolA x_.2)), (12, (intA (x_.1 : Int)))]) (fun (x_ : Nat × Bool) => [.row (flat tInt.enc out9)]) _ (0, true) (wp 1 (lb rfl) rfl rfl rfl rfl rfl) ⟨rfl, L12_⟩ ?_
     rintro _ ⟨k_11, top11⟩ ⟨rfl, L12_⟩
     refine te [(2, (sl tConflictEdge p2)), (3, (sl tInt left3)), (9, (.m [0] 0 out9.length tInt.k)), (10, (intA (i_9 : Int))), (11, (boolA top11)), (12, (intA (k_11 : Int)))] rfl ?_
     refine T_st (σ' := [.row (flat tInt.enc out9)]) rfl ?_
     refine T_fact (len_sl (T := tInt) (.tmp 3) rfl) (fun hl12 => ?_)
     refine T_seq ?_
     refine sr ?_
     refine Tp rfl rfl (pur_move rfl) rfl ?_
     refine Tp rfl rfl (pur_move rfl) rfl ?_
     refine Tp rfl rfl (pur_lenT (T := tInt) sl31 rfl rfl) rfl ?_
     refine Tp rfl rfl (pur_lss rfl rfl rfl) rfl ?_
     refine TO_nil ?_
     refine te [(2, (sl tConflictEdge p2)), (3, (sl tInt left3)), (9, (.m [0] 0 out9.length tInt.k)), (10, (intA (i_9 : Int))), (11, (boolA top11)), (12, (intA (k_11 : Int))), (35, (boolA (decide ((k_11 : Int) < (left3.length : Int)))))] rfl ?_
     refine T_cond (t := decide ((k_11 : Int) < (left3.length : Int))) rfl (fun d12 => ?_) (fun d12 => ?_)
     ·replace d12 := of_decide_eq_true d12
      obtain ⟨x_k_11, hx_k_11⟩ : ∃ v, (left3)[k_11]? = some v := ⟨_, List.getElem?_eq_getElem (by omega)⟩
      obtain ⟨C12_, H, K12_⟩ := forS_step L12_ hx_k_11
      rw [hb12] at H
      refine T_skip ?_
      refine te [(2, (sl tConflictEdge p2)), (3, (sl tInt left3)), (9, (.m [0] 0 out9.length tInt.k)), (10, (intA (i_9 : Int))), (11, (boolA top11)), (12, (intA (k_11 : Int)))] rfl ?_
      refine T_seq ?_
      refine T_block ?_
      refine T_regionD mixed (by kernel_rfl) ?_
      refine TQ_pure rfl (pur_move rfl) rfl ?_
      refine TQ_pure rfl (pur_move rfl) rfl ?_
      refine TQ_split (t := top11) 39 rfl (fun g_13 => ?_) (fun g_13 => ?_)
      ·replace H := cond_t g_13 H
       refine TQ_on rfl rfl (by decide) rfl (pur_move rfl) rfl ?_
       refine TQ_on rfl rfl (by decide) rfl (pur_move rfl) rfl ?_
       refine TQ_on rfl rfl (by decide) rfl (pur_move rfl) rfl ?_
       refine TQ_on rfl rfl (by decide) rfl (pur_ixT (T := tInt) sl31 rfl rfl rfl hx_k_11 rfl) rfl ?_
       refine TQ_on rfl rfl (by decide) rfl (pur_ldT (T := tInt) (i := k_11) (off := 0) rfl one3 rfl rfl hx_k_11 rfl) rfl ?_
       refine TQ_on rfl rfl (by decide) rfl (pur_move rfl) rfl ?_
       refine TQ_on rfl rfl (by decide) rfl (pur_move rfl) rfl ?_
       refine TQ_on rfl rfl (by decide) rfl (pur_ixT (T := tInt) sl31 rfl rfl rfl hx_i_9 rfl) rfl ?_
       refine tqe [(2, (sl tConflictEdge p2)), (3, (sl tInt left3)), (9, (.m [0] 0 out9.length tInt.k)), (10, (intA (i_9 : Int))), (11, (boolA top11)), (12, (intA (k_11 : Int))), (39, (boolA true)), (40, (sl tConflictEdge p2)), (44, (intA x_k_11)), (47, (.q (flat tInt.enc left3) (i_9 * tInt.k)))] rfl ?_
       refine TQ_on rfl rfl (by decide) rfl (pur_ldT (T := tInt) (i := i_9) (off := 0) rfl one3 rfl rfl hx_i_9 rfl) rfl ?_
       obtain ⟨r_14, h_15, H⟩ := bind_inv H
       refine TQ_onV rfl rfl (by decide) rfl (call_static ent12 rfl) (m_spec_IsPreferred_ok _ _ _ _ h_15) rfl rfl ?_
       refine TQ_on rfl rfl (by decide) rfl (pur_not rfl rfl) rfl ?_
       refine TQ_pure rfl (pur_pick (t := true) rfl rfl rfl) rfl ?_
       refine TQ_pure rfl (pur_assign rfl) rfl ?_
       refine TQ_nil ?_
       refine te [(2, (sl tConflictEdge p2)), (3, (sl tInt left3)), (9, (.m [0] 0 out9.length tInt.k)), (10, (intA (i_9 : Int))), (11, (boolA (!r_14))), (12, (intA (k_11 : Int)))] rfl ?_
       refine T_region ?_
       refine Tp rfl rfl (pur_move rfl) rfl ?_
       refine Tp rfl rfl (pur_add rfl rfl rfl (fits64 (by omega) (by omega))) rfl ?_
       refine Tp rfl rfl (pur_assign rfl) rfl ?_
       refine TO_nil ?_
       obtain rfl := some_inj H
       exact again (left3.length - (k_11 + 1)) (k_11 + 1, (!r_14)) (by omega) (wp 1 (lb rfl) rfl rfl rfl rfl rfl) ⟨rfl, K12_⟩
      ·replace H := cond_f g_13 H
       refine TQ_off rfl rfl (by decide) rfl rfl rfl ?_
       refine TQ_off rfl rfl (by decide) rfl rfl rfl ?_
       refine TQ_off rfl rfl (by decide) rfl rfl rfl ?_
       refine TQ_off rfl rfl (by decide) rfl rfl rfl ?_
       refine TQ_off rfl rfl (by decide) rfl rfl rfl ?_
       refine TQ_off rfl rfl (by decide) rfl rfl rfl ?_
       refine TQ_off rfl rfl (by decide) rfl rfl rfl ?_
       refine TQ_off rfl rfl (by decide) rfl rfl rfl ?_
       refine tqe [(2, (sl tConflictEdge p2)), (3, (sl tInt left3)), (9, (.m [0] 0 out9.length tInt.k)), (10, (intA (i_9 : Int))), (11, (boolA top11)), (12, (intA (k_11 : Int))), (39, (boolA false)), (40, (.v undef)), (44, (.v undef)), (47, (.v undef))] rfl ?_
       refine TQ_off rfl rfl (by decide) rfl rfl rfl ?_
       refine TQ_off rfl rfl (by decide) rfl rfl rfl ?_
       refine TQ_off rfl rfl (by decide) rfl rfl rfl ?_
       refine TQ_pure rfl (pur_pick (t := false) rfl rfl rfl) rfl ?_
       refine TQ_pure rfl (pur_assign rfl) rfl ?_
       refine TQ_nil ?_
       refine te [(2, (sl tConflictEdge p2)), (3, (sl tInt left3)), (9, (.m [0] 0 out9.length tInt.k)), (10, (intA (i_9 : Int))), (11, (boolA false)), (12, (intA (k_11 : Int)))] rfl ?_
       refine T_region ?_
       refine Tp rfl rfl (pur_move rfl) rfl ?_
       refine Tp rfl rfl (pur_add rfl rfl rfl (fits64 (by omega) (by omega))) rfl ?_
       refine Tp rfl rfl (pur_assign rfl) rfl ?_
       refine TO_nil ?_
       obtain rfl := some_inj H
       exact again (left3.length - (k_11 + 1)) (k_11 + 1, false) (by omega) (wp 1 (lb rfl) rfl rfl rfl rfl rfl) ⟨rfl, K12_⟩
     ·replace d12 := of_decide_eq_false d12
      obtain rfl := forS_end L12_ (by omega)
      refine T_exit ?_
      refine then_exit ?_
      refine then_exit ?_
      refine block_exit ?_
      replace H := N12_
      refine te [(2, (sl tConflictEdge p2)), (3, (sl tInt left3)), (9, (.m [0] 0 out9.length tInt.k)), (10, (intA (i_9 : Int))), (11, (boolA top11))] rfl ?_
      refine sr ?_
      refine Tp rfl rfl (pur_move rfl) rfl ?_
      refine TO_nil ?_
      refine te [(2, (sl tConflictEdge p2)), (3, (sl tInt left3)), (9, (.m [0] 0 out9.length tInt.k)), (10, (intA (i_9 : Int))), (52, (boolA top11))] rfl ?_
      refine T_cond (t := top11) rfl (fun c_16 => ?_) (fun c_16 => ?_)
      ·replace H := cond_t c_16 H
       refine T_region ?_
       refine Tp rfl rfl (pur_move rfl) rfl ?_
       refine Tp rfl rfl (pur_move rfl) rfl ?_
       refine Tp rfl rfl (pur_move rfl) rfl ?_
       refine Tp rfl rfl (pur_ixT (T := tInt) sl31 rfl rfl rfl hx_i_9 rfl) rfl ?_
       refine Tp rfl rfl (pur_ldT (T := tInt) (i := i_9) (off := 0) rfl one3 rfl rfl hx_i_9 rfl) rfl ?_
       refine TO_cons rfl (TOp_lit (nn := 1) (k := 1) sl31 zero3 rfl rfl rfl rfl (by decide) ?_)
       refine TO_st (σ' := [.row (flat tInt.enc out9), .row (flat tInt.enc ([x_i_9] : (List Int)))]) rfl ?_
       obtain ⟨us_17, h_18, H⟩ := bind_inv H
       refine TO_cons rfl (TOp_appZ (T := tInt) (f := tInt.enc) (xs := out9) (ys := ([x_i_9] : (List Int))) tInt.len sl31 zero3 rfl bytes3 (by decide) rfl rfl rfl rfl (src_mT (f := tInt.enc) tInt.len rfl rfl (flat_cell tInt _)) (flat_cell tInt _) h_18 (lb rfl) ?_)
       refine toe [(2, (sl tConflictEdge p2)), (3, (sl tInt left3)), (10, (intA (i_9 : Int))), (52, (boolA top11)), (54, (sl tInt left3)), (55, (intA (i_9 : Int))), (56, (.q (flat tInt.enc left3) (i_9 * tInt.k))), (57, (intA x_i_9)), (58, (.m [1] 0 ([x_i_9] : (List Int)).length tInt.k)), (59, (.m [0] 0 us_17.length tInt.k))] rfl ?_
       refine TO_st (σ' := [.row (flat tInt.enc us_17), .row (flat tInt.enc ([x_i_9] : (List Int))), .dead]) rfl ?_
       refine Tp rfl rfl (pur_assign rfl) rfl ?_
       refine TO_nil ?_
       refine te [(2, (sl tConflictEdge p2)), (3, (sl tInt left3)), (9, (.m [0] 0 us_17.length tInt.k)), (10, (intA (i_9 : Int)))] rfl ?_
       refine T_region ?_
       refine Tp rfl rfl (pur_move rfl) rfl ?_
       refine Tp rfl rfl (pur_add rfl rfl rfl (fits64 (by omega) (by omega))) rfl ?_
       refine Tp rfl rfl (pur_assign rfl) rfl ?_
       refine TO_nil ?_
       obtain rfl := some_inj H
       exact again (left3.length - (i_9 + 1)) (i_9 + 1, us_17) (by omega) (wp 1 (lb rfl) rfl rfl rfl rfl rfl) ⟨rfl, K10_⟩
      ·replace H := cond_f c_16 H
       refine T_skip ?_
       refine te [(2, (sl tConflictEdge p2)), (3, (sl tInt left3)), (9, (.m [0] 0 out9.length tInt.k)), (10, (intA (i_9 : Int)))] rfl ?_
       refine T_region ?_
       refine Tp rfl rfl (pur_move rfl) rfl ?_
       refine Tp rfl rfl (pur_add rfl rfl rfl (fits64 (by omega) (by omega))) rfl ?_
       refine Tp rfl rfl (pur_assign rfl) rfl ?_
       refine TO_nil ?_
       obtain rfl := some_inj H
       exact again (left3.length - (i_9 + 1)) (i_9 + 1, out9) (by omega) (wp 1 (lb rfl) rfl rfl rfl rfl rfl) ⟨rfl, K10_⟩
    ·replace d10 := of_decide_eq_false d10
     obtain rfl := forS_end L10_ (by omega)
     refine T_exit ?_
     refine then_exit ?_
     refine then_exit ?_
     refine block_exit ?_
     replace H := N10_
     refine te [(9, (.m [0] 0 out9.length tInt.k))] rfl ?_
     refine sr ?_
     refine Tp rfl rfl (pur_move rfl) rfl ?_
     refine Tp rfl rfl (pur_assign rfl) rfl ?_
     refine TO_nil ?_
     refine te [(8, (.m [0] 0 out9.length tInt.k))] rfl ?_
     refine T_ret ?_
     obtain rfl := some_inj H
     exact end_pick (.tmp .nil) rfl [0] (by decide) rfl rfl rfl rfl rfl rfl
theorem m_spec_UndominatedFacts_ok (n0 : Int) (l1 : (List ConflictEdge)) (p2 : (List ConflictEdge)) (left3 : (List Int)) (r : (List Int)) (H : m_spec_UndominatedFacts n0 l1 p2 left3 = some r) : FnV prg 18 [(intA n0), (sl tConflictEdge l1), (sl tConflictEdge p2), (sl tInt left3)] (sl tInt r) := (m_spec_UndominatedFacts_own n0 l1 p2 left3 r H).frz (frzT (T := tInt) rfl)

set_option maxHeartbeats 1000000 in
/-- impl.within -/
theorem m_impl_within_ok (n0 : Int) (low1 : Int) (high2 : Int) (r : Bool) (H : m_impl_within n0 low1 high2 = some r) : FnV prg 77 [(intA n0), (intA low1), (intA high2)] (boolA r) := by
  unfold m_impl_within at H
  refine fnV_of_T Try.func77 rfl rfl (Nat.le_of_ble_eq_true rfl) ?_
  refine te [(0, (intA n0)), (1, (intA low1)), (2, (intA high2))] rfl ?_
  refine sr ?_
  refine Tp rfl rfl (pur_assign rfl) rfl ?_
  refine TO_nil ?_
  refine te [(0, (intA n0)), (1, (intA low1)), (2, (intA high2))] rfl ?_
  refine T_cutX (fun x => ((decide (low1 ≤ n0)) && (decide (n0 ≤ high2))) = x) (fun (t6_1 : Bool) => [(6, (boolA t6_1))]) (fun (t6_1 : Bool) => []) ?_ ?_
  ·skip
   refine T_region ?_
   refine Tp rfl rfl (pur_move rfl) rfl ?_
   refine Tp rfl rfl (pur_move rfl) rfl ?_
   refine Tp rfl rfl (pur_leq rfl rfl rfl) rfl ?_
   refine Tp rfl rfl (pur_move rfl) rfl ?_
   refine TO_split (t := decide (low1 ≤ n0)) 10 rfl (fun g_3 => ?_) (fun g_3 => ?_)
   ·skip
    refine TO_on rfl rfl (by decide) rfl rfl (TOp_pure (pur_move rfl) rfl ?_)
    refine TO_on rfl rfl (by decide) rfl rfl (TOp_pure (pur_move rfl) rfl ?_)
    refine TO_on rfl rfl (by decide) rfl rfl (TOp_pure (pur_leq rfl rfl rfl) rfl ?_)
    refine Tp rfl rfl (pur_pick (t := true) rfl rfl rfl) rfl ?_
    refine Tp rfl rfl (pur_assign rfl) rfl ?_
    refine TO_nil ?_
    exact joined (decide (n0 ≤ high2)) (wp 0 (lb rfl) rfl rfl rfl rfl rfl) (by first | exact Eq.symm ((and_T g_3 rfl)))
   ·skip
    refine TO_off rfl rfl (by decide) rfl rfl rfl ?_
    refine TO_off rfl rfl (by decide) rfl rfl rfl ?_
    refine TO_off rfl rfl (by decide) rfl rfl rfl ?_
    refine Tp rfl rfl (pur_pick (t := false) rfl rfl rfl) rfl ?_
    refine Tp rfl rfl (pur_assign rfl) rfl ?_
    refine TO_nil ?_
    exact joined false (wp 0 (lb rfl) rfl rfl rfl rfl rfl) (by first | exact Eq.symm ((and_F g_3 rfl)))
  ·rintro _ rfl
   refine te [(6, (boolA ((decide (low1 ≤ n0)) && (decide (n0 ≤ high2)))))] rfl ?_
   refine T_ret ?_
   obtain rfl := some_inj H
   refine end_ret (.tmp .nil) rfl rfl ⟨?_, rfl⟩
   rfl
end Go.Proofs.Ytglgcncmjnjfgaa

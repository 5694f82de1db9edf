import Derived.Test.YtmecnecfkgneoaaGreatM1
import Derived.Test.YtmecnecfkgneoaaGreatM2
import Derived.Test.YtmecnecfkgneoaaGreatM3
import Derived.Test.YtmecnecfkgneoaaGreatM4
set_option linter.unusedVariables false
set_option linter.unusedSimpArgs false
set_option maxRecDepth 4000
namespace Go.Proofs.YtmecnecfkgneoaaGreat
open Go Go.Proofs Go.Sep
set_option maxHeartbeats 1000000 in
theorem m_slices_IndexFunc_Simpl_ConflictEdge_impl_ConflictEdge_ok (s0 : (List ConflictEdge)) (f1 : (ConflictEdge → Option Bool)) (f1_g : Nat) (f1_c : List A) (f1_E : EnT prg f1_g) (f1_l : looseL f1_c = true) (f1_m : firmL f1_c = true ∧ fzL f1_c = f1_c) (f1_H : ∀ (x0 : ConflictEdge) r, f1 x0 = some r → FnV prg f1_g ([(.g (tConflictEdge.enc x0))] ++ f1_c) (boolA r)) (r : Int) (H : m_slices_IndexFunc_Simpl_ConflictEdge_impl_ConflictEdge s0 f1 = some r) : FnV prg 89 [(sl tConflictEdge s0), (.f f1_g f1_c)] (intA r) := by
  unfold m_slices_IndexFunc_Simpl_ConflictEdge_impl_ConflictEdge at H
  refine fnV_of_T Tryz.func89 rfl rfl (Nat.le_of_ble_eq_true rfl) ?_
  refine te [(0, (sl tConflictEdge s0)), (1, (.f f1_g f1_c))] rfl ?_
  refine sr ?_
  refine pv tb 1 rfl ?_
  refine TO_nil ?_
  refine T_seq ?_
  refine sr ?_
  refine pv tb 1 rfl ?_
  refine Tp rfl rfl (pur_lenT (T := tConflictEdge) sl24 rfl rfl) rfl ?_
  refine pv tb 1 rfl ?_
  refine TO_nil ?_
  obtain ⟨O2_, L2_, N2_⟩ := bind_inv H
  clear H
  obtain ⟨B2_, hb2, L2_⟩ := gen_forL L2_
  refine T_block ?_
  refine T_loopX (fun k => fun (t_1 : Nat) => k = s0.length - t_1 ∧ forL B2_ (s0.drop t_1) (t_1 : Int) () = some O2_) (fun (t_1 : Nat) => [(0, (sl tConflictEdge s0)), (1, (.f f1_g f1_c)), (7, (intA (s0.length : Int))), (8, (intA (t_1 : Int)))]) (fun (t_1 : Nat) => []) _ (0 : Nat) (wp 0 (lb rfl) rfl rfl (by simp only [namesE, A.names, namesL_enc, Bool.false_or, Bool.or_false, looseL_names f1_l]) rfl rfl) ⟨rfl, L2_⟩ ?_
  rintro _ t_1 ⟨rfl, L2_⟩
  refine T_fact (len_sl (T := tConflictEdge) (.tmp 0) rfl) (fun hl2 => ?_)
  refine sr ?_
  refine pv tb 1 rfl ?_
  refine TO_nil ?_
  refine T_seq ?_
  refine T_cond (t := decide ((t_1 : Int) < (s0.length : Int))) rfl (fun d2 => ?_) (fun d2 => ?_)
  ·replace d2 := of_decide_eq_true d2
   obtain ⟨x_t_1, hx_t_1⟩ : ∃ v, (s0)[t_1]? = some v := ⟨_, List.getElem?_eq_getElem (by omega)⟩
   obtain ⟨C2_, H, K2_⟩ := forL_step L2_ hx_t_1
   rw [hb2] at H
   refine T_skip ?_
   refine T_seq ?_
   refine T_block ?_
   refine sr ?_
   refine pv tb 2 rfl ?_
   refine TO_nil ?_
   refine sr ?_
   refine pv tb 3 rfl ?_
   refine Tp rfl rfl (pur_ixT (T := tConflictEdge) sl24 rfl rfl rfl hx_t_1 rfl) rfl ?_
   refine Tp rfl rfl (pur_ldTK (T := tConflictEdge) (i := t_1) (off := 0) rfl agg45 rfl rfl hx_t_1 (by decide) rfl) rfl ?_
   obtain ⟨r_3, h_4, H⟩ := bind_inv H
   refine TO_cons rfl (TOp_callV (call_closure f1_E rfl rfl) (f1_H _  _ h_4) (looseL_app rfl f1_l) rfl rfl ?_)
   refine TO_nil ?_
   refine T_cond (t := r_3) rfl (fun c_5 => ?_) (fun c_5 => ?_)
   ·replace H := cond_t c_5 H
    refine sr ?_
    refine pv tb 2 rfl ?_
    refine TO_nil ?_
    refine T_ret ?_
    refine block_ret ?_
    refine then_ret ?_
    refine then_ret ?_
    refine block_ret ?_
    refine then_ret ?_
    obtain rfl := some_inj H
    obtain rfl := some_inj K2_
    replace H := onS_r N2_
    obtain rfl := some_inj H
    refine end_ret (.tmp .nil) rfl rfl ⟨?_, rfl⟩
    rfl
   ·replace H := cond_f c_5 H
    refine T_skip ?_
    refine T_region ?_
    refine Tp rfl rfl (pur_add rfl rfl rfl (fits64 (by omega) (by omega))) rfl ?_
    refine pv tb 1 rfl ?_
    refine TO_nil ?_
    obtain rfl := some_inj H
    exact again (s0.length - (t_1 + 1)) (t_1 + 1) (by omega) (wp 0 (lb rfl) rfl rfl (by simp only [namesE, A.names, namesL_enc, Bool.false_or, Bool.or_false, looseL_names f1_l]) rfl rfl) ⟨rfl, K2_⟩
  ·replace d2 := of_decide_eq_false d2
   obtain rfl := forL_end L2_ (by omega)
   refine T_exit ?_
   refine then_exit ?_
   refine then_exit ?_
   refine block_exit ?_
   replace H := onS_l N2_
   refine sr ?_
   refine pv tb 1 rfl ?_
   refine TO_nil ?_
   refine T_ret ?_
   obtain rfl := some_inj H
   refine end_ret (.tmp .nil) rfl rfl ⟨?_, rfl⟩
   rfl

set_option maxHeartbeats 1000000 in
theorem m_slices_ContainsFunc_Simpl_ConflictEdge_impl_ConflictEdge_ok (s0 : (List ConflictEdge)) (f1 : (ConflictEdge → Option Bool)) (f1_g : Nat) (f1_c : List A) (f1_E : EnT prg f1_g) (f1_l : looseL f1_c = true) (f1_m : firmL f1_c = true ∧ fzL f1_c = f1_c) (f1_H : ∀ (x0 : ConflictEdge) r, f1 x0 = some r → FnV prg f1_g ([(.g (tConflictEdge.enc x0))] ++ f1_c) (boolA r)) (r : Bool) (H : m_slices_ContainsFunc_Simpl_ConflictEdge_impl_ConflictEdge s0 f1 = some r) : FnV prg 72 [(sl tConflictEdge s0), (.f f1_g f1_c)] (boolA r) := by
  unfold m_slices_ContainsFunc_Simpl_ConflictEdge_impl_ConflictEdge at H
  refine fnV_of_T Tryz.func72 rfl rfl (Nat.le_of_ble_eq_true rfl) ?_
  refine te [(0, (sl tConflictEdge s0)), (1, (.f f1_g f1_c))] rfl ?_
  refine sr ?_
  refine pv tb 1 rfl ?_
  refine TO_nil ?_
  refine sr ?_
  obtain ⟨r_1, h_2, H⟩ := bind_inv H
  refine pv tb 2 rfl ?_
  refine TO_cons rfl (TOp_callV (call_static ent89 rfl) (m_slices_IndexFunc_Simpl_ConflictEdge_impl_ConflictEdge_ok _ f1 f1_g f1_c f1_E f1_l f1_m f1_H _ h_2) (looseC rfl (looseC f1_l rfl)) rfl rfl ?_)
  refine pv tb 2 rfl ?_
  refine TO_nil ?_
  refine T_ret ?_
  obtain rfl := some_inj H
  refine end_ret (.tmp .nil) rfl rfl ⟨?_, rfl⟩
  rfl

set_option maxHeartbeats 1000000 in
theorem m_impl_IsIndependent_1_ok (e0 : ConflictEdge) (fv1 : (List Int)) (r : Bool) (H : m_impl_IsIndependent_1 e0 fv1 = some r) : FnV prg 73 [(.g (tConflictEdge.enc e0)), (.q [(sl tInt fv1)] 0)] (boolA r) := by
  unfold m_impl_IsIndependent_1 at H
  refine fnV_of_T Tryz.func73 rfl rfl (Nat.le_of_ble_eq_true rfl) ?_
  refine te [(0, (.g (tConflictEdge.enc e0))), (1, (.q [(sl tInt fv1)] 0))] rfl ?_
  refine sr ?_
  refine TO_cons rfl (TOp_box rfl (boxAll rfl) rfl rfl ?_)
  refine pv tb 1 rfl ?_
  refine TO_nil ?_
  obtain ⟨t3_1, J_1, H_2⟩ := bind_inv H
  refine T_cutX (fun x => t3_1 = x) (fun (t3_1 : Bool) => [(3, (boolA t3_1))]) (fun (t3_1 : Bool) => []) ?_ ?_
  ·replace H := J_1
   refine T_region ?_
   obtain ⟨r_3, h_4, H⟩ := bind_inv H
   refine pv tb 3 rfl ?_
   refine TO_cons rfl (TOp_callV (call_static ent28 rfl) (m_slices_Contains_Sint_int_ok _ _ _ h_4) rfl rfl rfl ?_)
   refine pv tb 1 rfl ?_
   refine TO_split (t := r_3) 8 rfl (fun g_5 => ?_) (fun g_5 => ?_)
   ·replace H := cond_t g_5 H
    obtain ⟨r_6, h_7, H⟩ := bind_inv H
    refine pv tb 3 rfl ?_
    refine TO_on rfl rfl (by decide) rfl rfl (TOp_callV (call_static ent28 rfl) (m_slices_Contains_Sint_int_ok _ _ _ h_7) rfl rfl rfl ?_)
    refine pv tb 2 rfl ?_
    refine TO_nil ?_
    exact joined r_6 (w0 0) (some_inj H).symm
   ·replace H := cond_f g_5 H
    refine pv tb 6 rfl ?_
    refine TO_nil ?_
    exact joined false (w0 0) (some_inj H).symm
  ·rintro _ rfl
   replace H := H_2
   refine T_ret ?_
   obtain rfl := some_inj H
   refine end_ret (.tmp .nil) rfl rfl ⟨?_, rfl⟩
   rfl

set_option maxHeartbeats 1000000 in
theorem m_impl_IsIndependent_ok (edges0 : (List ConflictEdge)) (set1 : (List Int)) (r : Bool) (H : m_impl_IsIndependent edges0 set1 = some r) : FnV prg 54 [(sl tConflictEdge edges0), (sl tInt set1)] (boolA r) := by
  unfold m_impl_IsIndependent at H
  refine fnV_of_T Tryz.func54 rfl rfl (Nat.le_of_ble_eq_true rfl) ?_
  refine te [(0, (sl tConflictEdge edges0)), (1, (sl tInt set1))] rfl ?_
  refine sr ?_
  refine TO_cons rfl (TOp_box rfl (boxAll rfl) rfl rfl ?_)
  refine pv tb 1 rfl ?_
  refine TO_nil ?_
  refine sr ?_
  obtain ⟨r_1, h_2, H⟩ := bind_inv H
  refine pv tb 2 rfl ?_
  refine TO_cons rfl (TOp_callB (call_static ent72 rfl) (frz_cons (frz_loose rfl) (frz_cons (frzOK_f (frz_cons (frzOK_b (xs := [(sl tInt set1)]) (ys := [(sl tInt set1)]) rfl rfl rfl) frz_nil).1 (frz_cons (frzOK_b (xs := [(sl tInt set1)]) (ys := [(sl tInt set1)]) rfl rfl rfl) frz_nil).2) frz_nil)).1 (frz_cons (frz_loose rfl) (frz_cons (frzOK_f (frz_cons (frzOK_b (xs := [(sl tInt set1)]) (ys := [(sl tInt set1)]) rfl rfl rfl) frz_nil).1 (frz_cons (frzOK_b (xs := [(sl tInt set1)]) (ys := [(sl tInt set1)]) rfl rfl rfl) frz_nil).2) frz_nil)).2 (m_slices_ContainsFunc_Simpl_ConflictEdge_impl_ConflictEdge_ok _ (fun x0 => m_impl_IsIndependent_1 x0 set1) 73 [(.q [(sl tInt set1)] 0)] ent73 rfl ⟨rfl, rfl⟩ (fun x0 r h => m_impl_IsIndependent_1_ok x0 set1 r h) _ h_2) rfl ?_)
  refine pv tb 2 rfl ?_
  refine TO_nil ?_
  refine T_ret ?_
  obtain rfl := some_inj H
  refine end_ret (.tmp .nil) rfl rfl ⟨?_, rfl⟩
  rfl

set_option maxHeartbeats 1000000 in
theorem m_impl_areIndices_ok (indices0 : (List Int)) (n1 : Int) (r : Bool) (H : m_impl_areIndices indices0 n1 = some r) : FnV prg 71 [(sl tInt indices0), (intA n1)] (boolA r) := by
  unfold m_impl_areIndices at H
  refine fnV_of_T Tryz.func71 rfl rfl (Nat.le_of_ble_eq_true rfl) ?_
  refine te [(0, (sl tInt indices0)), (1, (intA n1))] rfl ?_
  refine sr ?_
  refine pv tb 1 rfl ?_
  refine TO_nil ?_
  refine T_seq ?_
  refine sr ?_
  refine pv tb 1 rfl ?_
  refine Tp rfl rfl (pur_lenT (T := tInt) sl31 rfl rfl) rfl ?_
  refine pv tb 1 rfl ?_
  refine TO_nil ?_
  obtain ⟨O2_, L2_, N2_⟩ := bind_inv H
  clear H
  obtain ⟨B2_, hb2, L2_⟩ := gen_forL L2_
  refine T_block ?_
  refine T_loopX (fun k => fun (t_1 : Nat) => k = indices0.length - t_1 ∧ forL B2_ (indices0.drop t_1) (t_1 : Int) () = some O2_) (fun (t_1 : Nat) => [(0, (sl tInt indices0)), (1, (intA n1)), (7, (sl tInt indices0)), (8, (intA (indices0.length : Int))), (9, (intA (t_1 : Int)))]) (fun (t_1 : Nat) => []) _ (0 : Nat) (w0 0) ⟨rfl, L2_⟩ ?_
  rintro _ t_1 ⟨rfl, L2_⟩
  refine T_fact (len_sl (T := tInt) (.tmp 0) rfl) (fun hl2 => ?_)
  refine sr ?_
  refine pv tb 1 rfl ?_
  refine TO_nil ?_
  refine T_seq ?_
  refine T_cond (t := decide ((t_1 : Int) < (indices0.length : Int))) rfl (fun d2 => ?_) (fun d2 => ?_)
  ·replace d2 := of_decide_eq_true d2
   obtain ⟨x_t_1, hx_t_1⟩ : ∃ v, (indices0)[t_1]? = some v := ⟨_, List.getElem?_eq_getElem (by omega)⟩
   obtain ⟨C2_, H, K2_⟩ := forL_step L2_ hx_t_1
   rw [hb2] at H
   refine T_skip ?_
   refine T_seq ?_
   refine T_block ?_
   refine sr ?_
   refine pv tb 1 rfl ?_
   refine Tp rfl rfl (pur_ixT (T := tInt) sl31 rfl rfl rfl hx_t_1 rfl) rfl ?_
   refine Tp rfl rfl (pur_ldT (T := tInt) (i := t_1) (off := 0) rfl one3 rfl rfl hx_t_1 rfl) rfl ?_
   refine pv tb 2 rfl ?_
   refine TO_nil ?_
   obtain ⟨t31_3, J_3, H_4⟩ := bind_inv H
   refine T_cutX (fun x => t31_3 = x) (fun (t31_3 : Bool) => [(0, (sl tInt indices0)), (1, (intA n1)), (7, (sl tInt indices0)), (8, (intA (indices0.length : Int))), (9, (intA (t_1 : Int))), (31, (boolA t31_3))]) (fun (t31_3 : Bool) => []) ?_ ?_
   ·replace H := J_3
    refine T_region ?_
    obtain ⟨r_5, h_6, H⟩ := bind_inv H
    refine pv tb 3 rfl ?_
    refine TO_cons rfl (TOp_callV (call_static ent61 rfl) (m_impl_within_ok _ _ _ _ h_6) rfl rfl rfl ?_)
    refine pv tb 2 rfl ?_
    refine TO_split (t := (!r_5)) 19 rfl (fun g_7 => ?_) (fun g_7 => ?_)
    ·replace H := cond_t g_7 H
     refine pv tb 8 rfl ?_
     refine toe [(0, (sl tInt indices0)), (1, (intA n1)), (6, (intA x_t_1)), (7, (sl tInt indices0)), (8, (intA (indices0.length : Int))), (9, (intA (t_1 : Int))), (19, (boolA true)), (22, (.v undef)), (27, (.v undef))] rfl ?_
     refine pv tb 4 rfl ?_
     refine TO_nil ?_
     exact joined true (w0 0) (some_inj H).symm
    ·replace H := cond_f g_7 H
     refine pv tb 3 rfl ?_
     refine TO_split (t := decide (0 < (t_1 : Int))) 22 rfl (fun g_8 => ?_) (fun g_8 => ?_)
     ·replace H := cond_t g_8 H
      refine pv tb 2 rfl ?_
      refine TO_on rfl rfl (by decide) rfl rfl (TOp_pure (pur_sub rfl rfl rfl (fits64 (by omega) (by omega))) rfl ?_)
      obtain ⟨v_9, h_10, H⟩ := bind_inv H
      obtain ⟨n_11, hz_12, hv_13⟩ := getI_inv h_10
      refine TO_on rfl rfl (by decide) rfl rfl (TOp_pure (pur_ixT (T := tInt) sl31 rfl rfl hz_12 hv_13 rfl) rfl ?_)
      refine TO_on rfl rfl (by decide) rfl rfl (TOp_pure (pur_ldT (T := tInt) (i := n_11) (off := 0) rfl one3 rfl rfl hv_13 rfl) rfl ?_)
      refine pv tb 4 rfl ?_
      refine TO_nil ?_
      exact joined (decide (x_t_1 ≤ v_9)) (w0 0) (some_inj H).symm
     ·replace H := cond_f g_8 H
      refine pv tb 9 rfl ?_
      refine TO_nil ?_
      exact joined false (w0 0) (some_inj H).symm
   ·rintro _ rfl
    replace H := H_4
    refine T_cond (t := t31_3) rfl (fun c_14 => ?_) (fun c_14 => ?_)
    ·replace H := cond_t c_14 H
     refine sr ?_
     refine pv tb 1 rfl ?_
     refine TO_nil ?_
     refine T_ret ?_
     refine block_ret ?_
     refine then_ret ?_
     refine then_ret ?_
     refine block_ret ?_
     refine then_ret ?_
     obtain rfl := some_inj H
     obtain rfl := some_inj K2_
     replace H := onS_r N2_
     obtain rfl := some_inj H
     refine end_ret (.tmp .nil) rfl rfl ⟨?_, rfl⟩
     rfl
    ·replace H := cond_f c_14 H
     refine T_skip ?_
     refine T_region ?_
     refine Tp rfl rfl (pur_add rfl rfl rfl (fits64 (by omega) (by omega))) rfl ?_
     refine pv tb 1 rfl ?_
     refine TO_nil ?_
     obtain rfl := some_inj H
     exact again (indices0.length - (t_1 + 1)) (t_1 + 1) (by omega) (w0 0) ⟨rfl, K2_⟩
  ·replace d2 := of_decide_eq_false d2
   obtain rfl := forL_end L2_ (by omega)
   refine T_exit ?_
   refine then_exit ?_
   refine then_exit ?_
   refine block_exit ?_
   replace H := onS_l N2_
   refine sr ?_
   refine pv tb 1 rfl ?_
   refine TO_nil ?_
   refine T_ret ?_
   obtain rfl := some_inj H
   refine end_ret (.tmp .nil) rfl rfl ⟨?_, rfl⟩
   rfl

set_option maxHeartbeats 1000000 in
theorem m_impl_isIndependentSet_ok (n0 : Int) (edges1 : (List ConflictEdge)) (set2 : (List Int)) (r : Bool) (H : m_impl_isIndependentSet n0 edges1 set2 = some r) : FnV prg 53 [(intA n0), (sl tConflictEdge edges1), (sl tInt set2)] (boolA r) := by
  unfold m_impl_isIndependentSet at H
  refine fnV_of_T Tryz.func53 rfl rfl (Nat.le_of_ble_eq_true rfl) ?_
  refine te [(0, (intA n0)), (1, (sl tConflictEdge edges1)), (2, (sl tInt set2))] rfl ?_
  refine sr ?_
  refine pv tb 1 rfl ?_
  refine TO_nil ?_
  obtain ⟨t6_1, J_1, H_2⟩ := bind_inv H
  refine T_cutX (fun x => t6_1 = x) (fun (t6_1 : Bool) => [(6, (boolA t6_1))]) (fun (t6_1 : Bool) => []) ?_ ?_
  ·replace H := J_1
   refine T_region ?_
   obtain ⟨r_3, h_4, H⟩ := bind_inv H
   refine pv tb 2 rfl ?_
   refine TO_cons rfl (TOp_callV (call_static ent38 rfl) (m_impl_AreValidEdges_ok _ _ _ h_4) rfl rfl rfl ?_)
   refine pv tb 1 rfl ?_
   refine TO_split (t := r_3) 10 rfl (fun g_5 => ?_) (fun g_5 => ?_)
   ·replace H := cond_t g_5 H
    obtain ⟨r_6, h_7, H⟩ := bind_inv H
    refine pv tb 2 rfl ?_
    refine TO_on rfl rfl (by decide) rfl rfl (TOp_callV (call_static ent71 rfl) (m_impl_areIndices_ok _ _ _ h_7) rfl rfl rfl ?_)
    refine pv tb 2 rfl ?_
    refine TO_split (t := r_6) 15 rfl (fun g_8 => ?_) (fun g_8 => ?_)
    ·replace H := cond_t g_8 H
     obtain ⟨r_9, h_10, H⟩ := bind_inv H
     refine pv tb 2 rfl ?_
     refine TO_on rfl rfl (by decide) rfl rfl (TOp_callV (call_static ent54 rfl) (m_impl_IsIndependent_ok _ _ _ h_10) rfl rfl rfl ?_)
     refine pv tb 2 rfl ?_
     refine TO_nil ?_
     exact joined r_9 (w0 0) (some_inj H).symm
    ·replace H := cond_f g_8 H
     refine pv tb 5 rfl ?_
     refine TO_nil ?_
     exact joined false (w0 0) (some_inj H).symm
   ·replace H := cond_f g_5 H
    refine pv tb 10 rfl ?_
    refine TO_nil ?_
    exact joined false (w0 0) (some_inj H).symm
  ·rintro _ rfl
   replace H := H_2
   refine T_ret ?_
   obtain rfl := some_inj H
   refine end_ret (.tmp .nil) rfl rfl ⟨?_, rfl⟩
   rfl

set_option maxHeartbeats 1000000 in
theorem m_impl_IsMaximalIndependent_ok (n0 : Int) (edges1 : (List ConflictEdge)) (set2 : (List Int)) (r : Bool) (H : m_impl_IsMaximalIndependent n0 edges1 set2 = some r) : FnV prg 27 [(intA n0), (sl tConflictEdge edges1), (sl tInt set2)] (boolA r) := by
  unfold m_impl_IsMaximalIndependent at H
  refine fnV_of_T Tryz.func27 rfl rfl (Nat.le_of_ble_eq_true rfl) ?_
  refine te [(0, (intA n0)), (1, (sl tConflictEdge edges1)), (2, (sl tInt set2))] rfl ?_
  refine sr ?_
  refine pv tb 1 rfl ?_
  refine TO_nil ?_
  refine T_seq ?_
  refine sr ?_
  obtain ⟨r_1, h_2, H⟩ := bind_inv H
  refine pv tb 3 rfl ?_
  refine TO_cons rfl (TOp_callV (call_static ent53 rfl) (m_impl_isIndependentSet_ok _ _ _ _ h_2) rfl rfl rfl ?_)
  refine pv tb 1 rfl ?_
  refine TO_nil ?_
  refine T_cond (t := (!r_1)) rfl (fun c_3 => ?_) (fun c_3 => ?_)
  ·replace H := cond_t c_3 H
   refine sr ?_
   refine pv tb 1 rfl ?_
   refine TO_nil ?_
   refine T_ret ?_
   refine then_ret ?_
   obtain rfl := some_inj H
   refine end_ret (.tmp .nil) rfl rfl ⟨?_, rfl⟩
   rfl
  ·replace H := cond_f c_3 H
   refine T_skip ?_
   refine T_seq ?_
   refine sr ?_
   refine pv tb 2 rfl ?_
   refine TO_nil ?_
   obtain ⟨_, h_6, H⟩ := bind_inv H
   replace h_6 := gN_inv h_6
   obtain ⟨O5_, L5_, N5_⟩ := bind_inv H
   clear H
   obtain ⟨B5_, hb5, L5_⟩ := gen_forN L5_
   refine T_block ?_
   refine T_loopX (fun k => fun (t_4 : Int) => k = (n0 - t_4).toNat ∧ 0 ≤ t_4 ∧ forN B5_ (n0 - t_4).toNat t_4 () = some O5_) (fun (t_4 : Int) => [(1, (sl tConflictEdge edges1)), (2, (sl tInt set2)), (13, (intA n0)), (14, (intA (t_4 : Int)))]) (fun (t_4 : Int) => []) _ (0 : Int) (w0 0) ⟨rfl, Int.le_refl _, L5_⟩ ?_
   rintro _ t_4 ⟨rfl, hi5, L5_⟩
   refine sr ?_
   refine pv tb 1 rfl ?_
   refine TO_nil ?_
   refine T_seq ?_
   refine T_cond (t := decide ((t_4 : Int) < n0)) rfl (fun d5 => ?_) (fun d5 => ?_)
   ·replace d5 := of_decide_eq_true d5
    obtain ⟨C5_, H, K5_⟩ := forN_step L5_ d5
    rw [hb5] at H
    refine T_skip ?_
    refine T_seq ?_
    refine T_block ?_
    refine sr ?_
    refine pv tb 2 rfl ?_
    refine TO_nil ?_
    obtain ⟨t29_7, J_7, H_8⟩ := bind_inv H
    refine T_cutX (fun x => t29_7 = x) (fun (t29_7 : Bool) => [(1, (sl tConflictEdge edges1)), (2, (sl tInt set2)), (13, (intA n0)), (14, (intA (t_4 : Int))), (29, (boolA t29_7))]) (fun (t29_7 : Bool) => []) ?_ ?_
    ·replace H := J_7
     refine T_region ?_
     obtain ⟨r_9, h_10, H⟩ := bind_inv H
     refine pv tb 2 rfl ?_
     refine TO_cons rfl (TOp_callV (call_static ent28 rfl) (m_slices_Contains_Sint_int_ok _ _ _ h_10) rfl rfl rfl ?_)
     refine pv tb 2 rfl ?_
     refine TO_split (t := (!r_9)) 21 rfl (fun g_11 => ?_) (fun g_11 => ?_)
     ·replace H := cond_t g_11 H
      obtain ⟨r_12, h_13, H⟩ := bind_inv H
      refine pv tb 2 rfl ?_
      refine TO_on rfl rfl (by decide) rfl rfl (TOp_callO (call_static ent45 rfl) rfl (m_slices_Clone_Sint_int_own _ _ h_13) rfl rfl rfl ?_)
      refine toe [(1, (sl tConflictEdge edges1)), (2, (sl tInt set2)), (7, (intA (t_4 : Int))), (13, (intA n0)), (14, (intA (t_4 : Int))), (17, (sl tInt set2)), (18, (intA (t_4 : Int))), (19, (boolA r_9)), (20, (boolA (!r_9))), (21, (boolA true)), (22, (sl tConflictEdge edges1)), (23, (sl tInt set2)), (24, (.m [0] 0 r_12.length tInt.k))] rfl ?_
      refine TO_st (σ' := [.row (flat tInt.own r_12)]) rfl ?_
      refine pv tb 1 rfl ?_
      refine TO_on rfl rfl (by decide) rfl rfl (TOp_lit (nn := 1) (k := 1) sl31 zero3 rfl rfl rfl rfl (by decide) ?_)
      refine TO_st (σ' := [.row (flat tInt.own r_12), .row (flat tInt.enc ([(t_4 : Int)] : (List Int)))]) rfl ?_
      obtain ⟨us_14, h_15, H⟩ := bind_inv H
      refine TO_on rfl rfl (by decide) rfl rfl (TOp_appZ (T := tInt) (f := tInt.own) (xs := r_12) (ys := ([(t_4 : Int)] : (List Int))) tInt.lenO sl31 zero3 rfl bytes3 (by decide) rfl rfl rfl rfl (src_mT (f := tInt.own) tInt.lenO rfl rfl (flat_cell tInt _)) (flat_cell tInt _) h_15 (lb rfl) ?_)
      refine toe [(1, (sl tConflictEdge edges1)), (2, (sl tInt set2)), (7, (intA (t_4 : Int))), (13, (intA n0)), (14, (intA (t_4 : Int))), (17, (sl tInt set2)), (18, (intA (t_4 : Int))), (19, (boolA r_9)), (20, (boolA (!r_9))), (21, (boolA true)), (22, (sl tConflictEdge edges1)), (23, (sl tInt set2)), (25, (intA (t_4 : Int))), (26, (.m [1] 0 ([(t_4 : Int)] : (List Int)).length tInt.k)), (27, (.m [0] 0 us_14.length tInt.k))] rfl ?_
      refine TO_st (σ' := [.row (flat tInt.own us_14), .row (flat tInt.enc ([(t_4 : Int)] : (List Int))), .dead]) rfl ?_
      obtain ⟨r_16, h_17, H⟩ := bind_inv H
      refine TO_on rfl rfl (by decide) rfl rfl (TOp_callB (call_static ent54 rfl) (frz_cons (frz_loose rfl) (frz_cons (frzT (T := tInt) rfl) frz_nil)).1 (frz_cons (frz_loose rfl) (frz_cons (frzT (T := tInt) rfl) frz_nil)).2 (m_impl_IsIndependent_ok _ _ _ h_17) rfl ?_)
      refine pv tb 1 rfl ?_
      refine TO_nil ?_
      exact joined r_16 (w0 0) (some_inj H).symm
     ·replace H := cond_f g_11 H
      refine pv tb 8 rfl ?_
      refine TO_nil ?_
      exact joined false (w0 0) (some_inj H).symm
    ·rintro _ rfl
     replace H := H_8
     refine T_cond (t := t29_7) rfl (fun c_18 => ?_) (fun c_18 => ?_)
     ·replace H := cond_t c_18 H
      refine sr ?_
      refine pv tb 1 rfl ?_
      refine TO_nil ?_
      refine T_ret ?_
      refine block_ret ?_
      refine then_ret ?_
      refine then_ret ?_
      refine block_ret ?_
      refine then_ret ?_
      obtain rfl := some_inj H
      obtain rfl := some_inj K5_
      replace H := onS_r N5_
      obtain rfl := some_inj H
      refine end_ret (.tmp .nil) rfl rfl ⟨?_, rfl⟩
      rfl
     ·replace H := cond_f c_18 H
      refine T_skip ?_
      refine T_region ?_
      refine Tp rfl rfl (pur_add rfl rfl rfl (fits64 (by omega) (by omega))) rfl ?_
      refine pv tb 1 rfl ?_
      refine TO_nil ?_
      obtain rfl := some_inj H
      exact again (n0 - (t_4 + 1)).toNat (t_4 + 1) (by omega) (w0 0) ⟨rfl, by omega, K5_⟩
   ·replace d5 := of_decide_eq_false d5
    obtain rfl := forN_end L5_ (by omega)
    refine T_exit ?_
    refine then_exit ?_
    refine then_exit ?_
    refine block_exit ?_
    replace H := onS_l N5_
    refine sr ?_
    refine pv tb 1 rfl ?_
    refine TO_nil ?_
    refine T_ret ?_
    obtain rfl := some_inj H
    refine end_ret (.tmp .nil) rfl rfl ⟨?_, rfl⟩
    rfl

set_option maxHeartbeats 1000000 in
theorem m_impl_IsParetoOptimal_1_ok (own0 : Int) (fv1 : (List ConflictEdge)) (fv2 : Int) (fv3 : (List ConflictEdge)) (r : Bool) (H : m_impl_IsParetoOptimal_1 own0 fv1 fv2 fv3 = some r) : FnV prg 30 [(intA own0), (.q [(sl tConflictEdge fv1)] 0), (.q [(intA fv2)] 0), (.q [(sl tConflictEdge fv3)] 0)] (boolA r) := by
  unfold m_impl_IsParetoOptimal_1 at H
  refine fnV_of_T Tryz.func30 rfl rfl (Nat.le_of_ble_eq_true rfl) ?_
  refine te [(0, (intA own0)), (1, (.q [(sl tConflictEdge fv1)] 0)), (2, (.q [(intA fv2)] 0)), (3, (.q [(sl tConflictEdge fv3)] 0))] rfl ?_
  refine sr ?_
  refine pv tb 1 rfl ?_
  refine TO_nil ?_
  obtain ⟨t5_1, J_1, H_2⟩ := bind_inv H
  refine T_cutX (fun x => t5_1 = x) (fun (t5_1 : Bool) => [(5, (boolA t5_1))]) (fun (t5_1 : Bool) => []) ?_ ?_
  ·replace H := J_1
   refine T_region ?_
   obtain ⟨r_3, h_4, H⟩ := bind_inv H
   refine pv tb 3 rfl ?_
   refine TO_cons rfl (TOp_callV (call_static ent31 rfl) (m_impl_inConflict_ok _ _ _ _ h_4) rfl rfl rfl ?_)
   refine pv tb 1 rfl ?_
   refine TO_split (t := r_3) 10 rfl (fun g_5 => ?_) (fun g_5 => ?_)
   ·replace H := cond_t g_5 H
    obtain ⟨r_6, h_7, H⟩ := bind_inv H
    refine pv tb 3 rfl ?_
    refine TO_on rfl rfl (by decide) rfl rfl (TOp_callV (call_static ent32 rfl) (m_impl_IsPreferred_ok _ _ _ _ h_7) rfl rfl rfl ?_)
    refine pv tb 3 rfl ?_
    refine TO_nil ?_
    exact joined (!r_6) (w0 0) (some_inj H).symm
   ·replace H := cond_f g_5 H
    refine pv tb 7 rfl ?_
    refine TO_nil ?_
    exact joined false (w0 0) (some_inj H).symm
  ·rintro _ rfl
   replace H := H_2
   refine T_ret ?_
   obtain rfl := some_inj H
   refine end_ret (.tmp .nil) rfl rfl ⟨?_, rfl⟩
   rfl

set_option maxHeartbeats 1000000 in
theorem m_impl_IsParetoOptimal_ok (u : Nat) (n0 : Int) (edges1 : (List ConflictEdge)) (preferences2 : (List ConflictEdge)) (set3 : (List Int)) (r : Bool) (H : m_impl_IsParetoOptimal u n0 edges1 preferences2 set3 = some r) : FnV prg 11 [(intA n0), (sl tConflictEdge edges1), (sl tConflictEdge preferences2), (sl tInt set3)] (boolA r) := by
  unfold m_impl_IsParetoOptimal at H
  refine fnV_of_T Tryz.func11 rfl rfl (Nat.le_of_ble_eq_true rfl) ?_
  refine te [(0, (intA n0)), (1, (sl tConflictEdge edges1)), (2, (sl tConflictEdge preferences2)), (3, (sl tInt set3))] rfl ?_
  refine sr ?_
  refine TO_cons rfl (TOp_box rfl (boxAll rfl) rfl rfl ?_)
  refine TO_cons rfl (TOp_box rfl (boxAll rfl) rfl rfl ?_)
  refine pv tb 1 rfl ?_
  refine TO_nil ?_
  refine T_seq ?_
  obtain ⟨t21_1, J_1, H_2⟩ := bind_inv H
  refine T_cutX (fun x => t21_1 = x) (fun (t21_1 : Bool) => [(0, (intA n0)), (3, (sl tInt set3)), (5, (.b 0 0)), (6, (.b 1 0)), (21, (boolA t21_1))]) (fun (t21_1 : Bool) => [.box [(sl tConflictEdge edges1)], .box [(sl tConflictEdge preferences2)]]) ?_ ?_
  ·replace H := J_1
   refine T_region ?_
   obtain ⟨r_3, h_4, H⟩ := bind_inv H
   refine pv tb 3 rfl ?_
   refine TO_cons rfl (TOp_callV (call_static ent17 rfl) (m_impl_IsValidPreference_ok u _ _ _ _ h_4) rfl rfl rfl ?_)
   refine pv tb 2 rfl ?_
   refine TO_split (t := (!r_3)) 15 rfl (fun g_5 => ?_) (fun g_5 => ?_)
   ·replace H := cond_t g_5 H
    refine pv tb 6 rfl ?_
    refine TO_nil ?_
    exact joined true (w0 2) (some_inj H).symm
   ·replace H := cond_f g_5 H
    obtain ⟨r_6, h_7, H⟩ := bind_inv H
    refine pv tb 3 rfl ?_
    refine TO_on rfl rfl (by decide) rfl rfl (TOp_callV (call_static ent27 rfl) (m_impl_IsMaximalIndependent_ok _ _ _ _ h_7) rfl rfl rfl ?_)
    refine pv tb 2 rfl ?_
    refine TO_nil ?_
    exact joined (!r_6) (w0 2) (some_inj H).symm
  ·rintro _ rfl
   replace H := H_2
   refine T_cond (t := t21_1) rfl (fun c_8 => ?_) (fun c_8 => ?_)
   ·replace H := cond_t c_8 H
    refine sr ?_
    refine pv tb 1 rfl ?_
    refine TO_nil ?_
    refine T_ret ?_
    refine then_ret ?_
    obtain rfl := some_inj H
    refine end_ret (.tmp .nil) rfl rfl ⟨?_, rfl⟩
    rfl
   ·replace H := cond_f c_8 H
    refine T_skip ?_
    refine T_seq ?_
    refine sr ?_
    refine pv tb 2 rfl ?_
    refine TO_nil ?_
    obtain ⟨_, h_11, H⟩ := bind_inv H
    replace h_11 := gN_inv h_11
    obtain ⟨O10_, L10_, N10_⟩ := bind_inv H
    clear H
    obtain ⟨B10_, hb10, L10_⟩ := gen_forN L10_
    refine T_block ?_
    refine T_loopX (fun k => fun (t_9 : Int) => k = (n0 - t_9).toNat ∧ 0 ≤ t_9 ∧ forN B10_ (n0 - t_9).toNat t_9 () = some O10_) (fun (t_9 : Int) => [(3, (sl tInt set3)), (5, (.b 0 0)), (6, (.b 1 0)), (22, (intA n0)), (23, (intA (t_9 : Int)))]) (fun (t_9 : Int) => [.box [(sl tConflictEdge edges1)], .box [(sl tConflictEdge preferences2)]]) _ (0 : Int) (w0 2) ⟨rfl, Int.le_refl _, L10_⟩ ?_
    rintro _ t_9 ⟨rfl, hi10, L10_⟩
    refine sr ?_
    refine pv tb 1 rfl ?_
    refine TO_nil ?_
    refine T_seq ?_
    refine T_cond (t := decide ((t_9 : Int) < n0)) rfl (fun d10 => ?_) (fun d10 => ?_)
    ·replace d10 := of_decide_eq_true d10
     obtain ⟨C10_, H, K10_⟩ := forN_step L10_ d10
     rw [hb10] at H
     refine T_skip ?_
     refine T_seq ?_
     refine T_block ?_
     refine sr ?_
     refine pv tb 1 rfl ?_
     refine TO_cons rfl (TOp_alloc zero3 rfl rfl ?_)
     refine TO_cons rfl (TOp_storeB sz3 rfl rfl rfl rfl rfl rfl rfl (by decide) (lb rfl) rfl ?_)
     refine TO_st (σ' := [.box [(sl tConflictEdge edges1)], .box [(sl tConflictEdge preferences2)], .box [(intA (t_9 : Int))]]) rfl ?_
     refine TO_nil ?_
     obtain ⟨t35_12, J_12, H_13⟩ := bind_inv H
     refine T_cutX (fun x => t35_12 = x) (fun (t35_12 : Bool) => [(3, (sl tInt set3)), (5, (.b 0 0)), (6, (.b 1 0)), (22, (intA n0)), (23, (intA (t_9 : Int))), (35, (boolA t35_12))]) (fun (t35_12 : Bool) => [.box [(sl tConflictEdge edges1)], .box [(sl tConflictEdge preferences2)]]) ?_ ?_
     ·replace H := J_12
      refine T_region ?_
      obtain ⟨r_14, h_15, H⟩ := bind_inv H
      refine pv tb 2 rfl ?_
      refine TO_cons rfl (TOp_callV (call_static ent28 rfl) (m_slices_Contains_Sint_int_ok _ _ _ h_15) rfl rfl rfl ?_)
      refine pv tb 2 rfl ?_
      refine TO_split (t := (!r_14)) 30 rfl (fun g_16 => ?_) (fun g_16 => ?_)
      ·replace H := cond_t g_16 H
       obtain ⟨r_17, h_18, H⟩ := bind_inv H
       refine pv tb 2 rfl ?_
       refine TO_on rfl rfl (by decide) rfl rfl (TOp_callB (call_static ent29 rfl) (frz_cons (frz_loose rfl) (frz_cons (frzOK_f (frz_cons (frzOK_b (xs := [(sl tConflictEdge edges1)]) (ys := [(sl tConflictEdge edges1)]) rfl rfl rfl) (frz_cons (frzOK_b (xs := [(intA (t_9 : Int))]) (ys := [(intA (t_9 : Int))]) rfl rfl rfl) (frz_cons (frzOK_b (xs := [(sl tConflictEdge preferences2)]) (ys := [(sl tConflictEdge preferences2)]) rfl rfl rfl) frz_nil))).1 (frz_cons (frzOK_b (xs := [(sl tConflictEdge edges1)]) (ys := [(sl tConflictEdge edges1)]) rfl rfl rfl) (frz_cons (frzOK_b (xs := [(intA (t_9 : Int))]) (ys := [(intA (t_9 : Int))]) rfl rfl rfl) (frz_cons (frzOK_b (xs := [(sl tConflictEdge preferences2)]) (ys := [(sl tConflictEdge preferences2)]) rfl rfl rfl) frz_nil))).2) frz_nil)).1 (frz_cons (frz_loose rfl) (frz_cons (frzOK_f (frz_cons (frzOK_b (xs := [(sl tConflictEdge edges1)]) (ys := [(sl tConflictEdge edges1)]) rfl rfl rfl) (frz_cons (frzOK_b (xs := [(intA (t_9 : Int))]) (ys := [(intA (t_9 : Int))]) rfl rfl rfl) (frz_cons (frzOK_b (xs := [(sl tConflictEdge preferences2)]) (ys := [(sl tConflictEdge preferences2)]) rfl rfl rfl) frz_nil))).1 (frz_cons (frzOK_b (xs := [(sl tConflictEdge edges1)]) (ys := [(sl tConflictEdge edges1)]) rfl rfl rfl) (frz_cons (frzOK_b (xs := [(intA (t_9 : Int))]) (ys := [(intA (t_9 : Int))]) rfl rfl rfl) (frz_cons (frzOK_b (xs := [(sl tConflictEdge preferences2)]) (ys := [(sl tConflictEdge preferences2)]) rfl rfl rfl) frz_nil))).2) frz_nil)).2 (m_slices_ContainsFunc_Sint_int_ok _ (fun x0 => m_impl_IsParetoOptimal_1 x0 edges1 (t_9 : Int) preferences2) 30 [(.q [(sl tConflictEdge edges1)] 0), (.q [(intA (t_9 : Int))] 0), (.q [(sl tConflictEdge preferences2)] 0)] ent30 rfl ⟨rfl, rfl⟩ (fun x0 r h => m_impl_IsParetoOptimal_1_ok x0 edges1 (t_9 : Int) preferences2 r h) _ h_18) rfl ?_)
       refine pv tb 2 rfl ?_
       refine TO_nil ?_
       exact joined (!r_17) (w0 2) (some_inj H).symm
      ·replace H := cond_f g_16 H
       refine pv tb 5 rfl ?_
       refine TO_nil ?_
       exact joined false (w0 2) (some_inj H).symm
     ·rintro _ rfl
      replace H := H_13
      refine T_cond (t := t35_12) rfl (fun c_19 => ?_) (fun c_19 => ?_)
      ·replace H := cond_t c_19 H
       refine sr ?_
       refine pv tb 1 rfl ?_
       refine TO_nil ?_
       refine T_ret ?_
       refine block_ret ?_
       refine then_ret ?_
       refine then_ret ?_
       refine block_ret ?_
       refine then_ret ?_
       obtain rfl := some_inj H
       obtain rfl := some_inj K10_
       replace H := onS_r N10_
       obtain rfl := some_inj H
       refine end_ret (.tmp .nil) rfl rfl ⟨?_, rfl⟩
       rfl
      ·replace H := cond_f c_19 H
       refine T_skip ?_
       refine T_region ?_
       refine Tp rfl rfl (pur_add rfl rfl rfl (fits64 (by omega) (by omega))) rfl ?_
       refine pv tb 1 rfl ?_
       refine TO_nil ?_
       obtain rfl := some_inj H
       exact again (n0 - (t_9 + 1)).toNat (t_9 + 1) (by omega) (w0 2) ⟨rfl, by omega, K10_⟩
    ·replace d10 := of_decide_eq_false d10
     obtain rfl := forN_end L10_ (by omega)
     refine T_exit ?_
     refine then_exit ?_
     refine then_exit ?_
     refine block_exit ?_
     replace H := onS_l N10_
     refine sr ?_
     refine pv tb 1 rfl ?_
     refine TO_nil ?_
     refine T_ret ?_
     obtain rfl := some_inj H
     refine end_ret (.tmp .nil) rfl rfl ⟨?_, rfl⟩
     rfl

set_option maxHeartbeats 1000000 in
theorem m_spec_l7Has_ok (l0 : (List Int)) (x1 : Int) (r : Bool) (H : m_spec_l7Has l0 x1 = some r) : FnV prg 75 [(sl tInt l0), (intA x1)] (boolA r) := by
  unfold m_spec_l7Has at H
  refine fnV_of_T Tryz.func75 rfl rfl (Nat.le_of_ble_eq_true rfl) ?_
  refine te [(0, (sl tInt l0)), (1, (intA x1))] rfl ?_
  refine sr ?_
  refine pv tb 1 rfl ?_
  refine TO_nil ?_
  refine T_seq ?_
  refine sr ?_
  refine pv tb 1 rfl ?_
  refine TO_nil ?_
  obtain ⟨O2_, L2_, N2_⟩ := bind_inv H
  clear H
  obtain ⟨B2_, hb2, L2_⟩ := gen_forL L2_
  refine T_block ?_
  refine T_loopX (fun k => fun (i_1 : Nat) => k = l0.length - i_1 ∧ forL B2_ (l0.drop i_1) (i_1 : Int) () = some O2_) (fun (i_1 : Nat) => [(0, (sl tInt l0)), (1, (intA x1)), (5, (intA (i_1 : Int)))]) (fun (i_1 : Nat) => []) _ (0 : Nat) (w0 0) ⟨rfl, L2_⟩ ?_
  rintro _ i_1 ⟨rfl, L2_⟩
  refine T_fact (len_sl (T := tInt) (.tmp 0) rfl) (fun hl2 => ?_)
  refine T_seq ?_
  refine sr ?_
  refine pv tb 2 rfl ?_
  refine Tp rfl rfl (pur_lenT (T := tInt) sl31 rfl rfl) rfl ?_
  refine pv tb 1 rfl ?_
  refine TO_nil ?_
  refine T_cond (t := decide ((i_1 : Int) < (l0.length : Int))) rfl (fun d2 => ?_) (fun d2 => ?_)
  ·replace d2 := of_decide_eq_true d2
   obtain ⟨x_i_1, hx_i_1⟩ : ∃ v, (l0)[i_1]? = some v := ⟨_, List.getElem?_eq_getElem (by omega)⟩
   obtain ⟨C2_, H, K2_⟩ := forL_step L2_ hx_i_1
   rw [hb2] at H
   refine T_skip ?_
   refine T_seq ?_
   refine T_block ?_
   refine sr ?_
   refine pv tb 2 rfl ?_
   refine Tp rfl rfl (pur_ixT (T := tInt) sl31 rfl rfl rfl hx_i_1 rfl) rfl ?_
   refine Tp rfl rfl (pur_ldT (T := tInt) (i := i_1) (off := 0) rfl one3 rfl rfl hx_i_1 rfl) rfl ?_
   refine pv tb 2 rfl ?_
   refine TO_nil ?_
   refine T_cond (t := decide (x_i_1 = x1)) rfl (fun c_3 => ?_) (fun c_3 => ?_)
   ·replace H := cond_t c_3 H
    refine sr ?_
    refine pv tb 1 rfl ?_
    refine TO_nil ?_
    refine T_ret ?_
    refine block_ret ?_
    refine then_ret ?_
    refine then_ret ?_
    refine block_ret ?_
    refine then_ret ?_
    obtain rfl := some_inj H
    obtain rfl := some_inj K2_
    replace H := onS_r N2_
    obtain rfl := some_inj H
    refine end_ret (.tmp .nil) rfl rfl ⟨?_, rfl⟩
    rfl
   ·replace H := cond_f c_3 H
    refine T_skip ?_
    refine T_region ?_
    refine pv tb 1 rfl ?_
    refine Tp rfl rfl (pur_add rfl rfl rfl (fits64 (by omega) (by omega))) rfl ?_
    refine pv tb 1 rfl ?_
    refine TO_nil ?_
    obtain rfl := some_inj H
    exact again (l0.length - (i_1 + 1)) (i_1 + 1) (by omega) (w0 0) ⟨rfl, K2_⟩
  ·replace d2 := of_decide_eq_false d2
   obtain rfl := forL_end L2_ (by omega)
   refine T_exit ?_
   refine then_exit ?_
   refine then_exit ?_
   refine block_exit ?_
   replace H := onS_l N2_
   refine sr ?_
   refine pv tb 1 rfl ?_
   refine TO_nil ?_
   refine T_ret ?_
   obtain rfl := some_inj H
   refine end_ret (.tmp .nil) rfl rfl ⟨?_, rfl⟩
   rfl

set_option maxHeartbeats 1000000 in
theorem m_spec_IsIndependent_ok (l0 : (List ConflictEdge)) (s1 : (List Int)) (r : Bool) (H : m_spec_IsIndependent l0 s1 = some r) : FnV prg 74 [(sl tConflictEdge l0), (sl tInt s1)] (boolA r) := by
  unfold m_spec_IsIndependent at H
  refine fnV_of_T Tryz.func74 rfl rfl (Nat.le_of_ble_eq_true rfl) ?_
  refine te [(0, (sl tConflictEdge l0)), (1, (sl tInt s1))] rfl ?_
  refine sr ?_
  refine pv tb 1 rfl ?_
  refine TO_nil ?_
  refine T_seq ?_
  refine sr ?_
  refine pv tb 1 rfl ?_
  refine TO_nil ?_
  obtain ⟨O2_, L2_, N2_⟩ := bind_inv H
  clear H
  obtain ⟨B2_, hb2, L2_⟩ := gen_forL L2_
  refine T_block ?_
  refine T_loopX (fun k => fun (i_1 : Nat) => k = l0.length - i_1 ∧ forL B2_ (l0.drop i_1) (i_1 : Int) () = some O2_) (fun (i_1 : Nat) => [(0, (sl tConflictEdge l0)), (1, (sl tInt s1)), (5, (intA (i_1 : Int)))]) (fun (i_1 : Nat) => []) _ (0 : Nat) (w0 0) ⟨rfl, L2_⟩ ?_
  rintro _ i_1 ⟨rfl, L2_⟩
  refine T_fact (len_sl (T := tConflictEdge) (.tmp 0) rfl) (fun hl2 => ?_)
  refine T_seq ?_
  refine sr ?_
  refine pv tb 2 rfl ?_
  refine Tp rfl rfl (pur_lenT (T := tConflictEdge) sl24 rfl rfl) rfl ?_
  refine pv tb 1 rfl ?_
  refine TO_nil ?_
  refine T_cond (t := decide ((i_1 : Int) < (l0.length : Int))) rfl (fun d2 => ?_) (fun d2 => ?_)
  ·replace d2 := of_decide_eq_true d2
   obtain ⟨x_i_1, hx_i_1⟩ : ∃ v, (l0)[i_1]? = some v := ⟨_, List.getElem?_eq_getElem (by omega)⟩
   obtain ⟨C2_, H, K2_⟩ := forL_step L2_ hx_i_1
   rw [hb2] at H
   refine T_skip ?_
   refine T_seq ?_
   refine T_block ?_
   obtain ⟨t27_3, J_3, H_4⟩ := bind_inv H
   refine T_cutX (fun x => t27_3 = x) (fun (t27_3 : Bool) => [(0, (sl tConflictEdge l0)), (1, (sl tInt s1)), (5, (intA (i_1 : Int))), (27, (boolA t27_3))]) (fun (t27_3 : Bool) => []) ?_ ?_
   ·replace H := J_3
    refine T_region ?_
    refine pv tb 3 rfl ?_
    refine Tp rfl rfl (pur_ixT (T := tConflictEdge) sl24 rfl rfl rfl hx_i_1 rfl) rfl ?_
    refine pv tb 1 rfl ?_
    refine Tp rfl rfl (pur_ldT (T := tConflictEdge) (i := i_1) (off := 0) rfl one3 rfl rfl hx_i_1 rfl) rfl ?_
    obtain ⟨r_5, h_6, H⟩ := bind_inv H
    refine TO_cons rfl (TOp_callV (call_static ent75 rfl) (m_spec_l7Has_ok _ _ _ h_6) rfl rfl rfl ?_)
    refine pv tb 1 rfl ?_
    refine TO_split (t := r_5) 19 rfl (fun g_7 => ?_) (fun g_7 => ?_)
    ·replace H := cond_t g_7 H
     refine pv tb 3 rfl ?_
     refine TO_on rfl rfl (by decide) rfl rfl (TOp_pure (pur_ixT (T := tConflictEdge) sl24 rfl rfl rfl hx_i_1 rfl) rfl ?_)
     refine pv tb 1 rfl ?_
     refine TO_on rfl rfl (by decide) rfl rfl (TOp_pure (pur_ldT (T := tConflictEdge) (i := i_1) (off := 1) rfl one3 rfl rfl hx_i_1 rfl) rfl ?_)
     obtain ⟨r_8, h_9, H⟩ := bind_inv H
     refine TO_on rfl rfl (by decide) rfl rfl (TOp_callV (call_static ent75 rfl) (m_spec_l7Has_ok _ _ _ h_9) rfl rfl rfl ?_)
     refine pv tb 1 rfl ?_
     refine TO_nil ?_
     exact joined r_8 (w0 0) (some_inj H).symm
    ·replace H := cond_f g_7 H
     refine pv tb 8 rfl ?_
     refine TO_nil ?_
     exact joined false (w0 0) (some_inj H).symm
   ·rintro _ rfl
    replace H := H_4
    refine T_cond (t := t27_3) rfl (fun c_10 => ?_) (fun c_10 => ?_)
    ·replace H := cond_t c_10 H
     refine sr ?_
     refine pv tb 1 rfl ?_
     refine TO_nil ?_
     refine T_ret ?_
     refine block_ret ?_
     refine then_ret ?_
     refine then_ret ?_
     refine block_ret ?_
     refine then_ret ?_
     obtain rfl := some_inj H
     obtain rfl := some_inj K2_
     replace H := onS_r N2_
     obtain rfl := some_inj H
     refine end_ret (.tmp .nil) rfl rfl ⟨?_, rfl⟩
     rfl
    ·replace H := cond_f c_10 H
     refine T_skip ?_
     refine T_region ?_
     refine pv tb 1 rfl ?_
     refine Tp rfl rfl (pur_add rfl rfl rfl (fits64 (by omega) (by omega))) rfl ?_
     refine pv tb 1 rfl ?_
     refine TO_nil ?_
     obtain rfl := some_inj H
     exact again (l0.length - (i_1 + 1)) (i_1 + 1) (by omega) (w0 0) ⟨rfl, K2_⟩
  ·replace d2 := of_decide_eq_false d2
   obtain rfl := forL_end L2_ (by omega)
   refine T_exit ?_
   refine then_exit ?_
   refine then_exit ?_
   refine block_exit ?_
   replace H := onS_l N2_
   refine sr ?_
   refine pv tb 1 rfl ?_
   refine TO_nil ?_
   refine T_ret ?_
   obtain rfl := some_inj H
   refine end_ret (.tmp .nil) rfl rfl ⟨?_, rfl⟩
   rfl

set_option maxHeartbeats 1000000 in
theorem m_spec_l8Fits_ok (l0 : (List ConflictEdge)) (s1 : (List Int)) (x2 : Int) (r : Bool) (H : m_spec_l8Fits l0 s1 x2 = some r) : FnV prg 58 [(sl tConflictEdge l0), (sl tInt s1), (intA x2)] (boolA r) := by
  unfold m_spec_l8Fits at H
  refine fnV_of_T Tryz.func58 rfl rfl (Nat.le_of_ble_eq_true rfl) ?_
  refine te [(0, (sl tConflictEdge l0)), (1, (sl tInt s1)), (2, (intA x2))] rfl ?_
  refine sr ?_
  refine pv tb 1 rfl ?_
  refine TO_nil ?_
  obtain ⟨t6_1, J_1, H_2⟩ := bind_inv H
  refine T_cutX (fun x => t6_1 = x) (fun (t6_1 : Bool) => [(6, (boolA t6_1))]) (fun (t6_1 : Bool) => []) ?_ ?_
  ·replace H := J_1
   refine T_region ?_
   obtain ⟨r_3, h_4, H⟩ := bind_inv H
   refine pv tb 2 rfl ?_
   refine TO_cons rfl (TOp_callV (call_static ent75 rfl) (m_spec_l7Has_ok _ _ _ h_4) rfl rfl rfl ?_)
   refine pv tb 2 rfl ?_
   refine TO_split (t := (!r_3)) 11 rfl (fun g_5 => ?_) (fun g_5 => ?_)
   ·replace H := cond_t g_5 H
    refine pv tb 1 rfl ?_
    refine TO_on rfl rfl (by decide) rfl rfl (TOp_lit (nn := 0) (k := 1) sl31 zero3 rfl rfl rfl rfl (by decide) ?_)
    refine TO_st (σ' := [.row (flat tInt.enc ([] : (List Int)))]) rfl ?_
    obtain ⟨us_6, h_7, H⟩ := bind_inv H
    refine pv tb 1 rfl ?_
    refine TO_on rfl rfl (by decide) rfl rfl (TOp_appZ (T := tInt) (f := tInt.enc) (xs := ([] : (List Int))) (ys := s1) tInt.len sl31 zero3 rfl bytes3 (by decide) rfl rfl rfl rfl (src_T (T := tInt) rfl) (flat_cell tInt _) h_7 (lb rfl) ?_)
    refine toe [(0, (sl tConflictEdge l0)), (1, (sl tInt s1)), (2, (intA x2)), (7, (sl tInt s1)), (8, (intA x2)), (9, (boolA r_3)), (10, (boolA (!r_3))), (11, (boolA true)), (12, (sl tConflictEdge l0)), (14, (sl tInt s1)), (15, (.m [0] 0 us_6.length tInt.k))] rfl ?_
    refine TO_st (σ' := [.row (flat tInt.enc us_6), .dead]) rfl ?_
    refine pv tb 1 rfl ?_
    refine TO_on rfl rfl (by decide) rfl rfl (TOp_lit (nn := 1) (k := 1) sl31 zero3 rfl rfl rfl rfl (by decide) ?_)
    refine TO_st (σ' := [.row (flat tInt.enc us_6), .dead, .row (flat tInt.enc ([x2] : (List Int)))]) rfl ?_
    obtain ⟨us_8, h_9, H⟩ := bind_inv H
    refine TO_on rfl rfl (by decide) rfl rfl (TOp_appZ (T := tInt) (f := tInt.enc) (xs := us_6) (ys := ([x2] : (List Int))) tInt.len sl31 zero3 rfl bytes3 (by decide) rfl rfl rfl rfl (src_mT (f := tInt.enc) tInt.len rfl rfl (flat_cell tInt _)) (flat_cell tInt _) h_9 (lb rfl) ?_)
    refine toe [(0, (sl tConflictEdge l0)), (1, (sl tInt s1)), (2, (intA x2)), (7, (sl tInt s1)), (8, (intA x2)), (9, (boolA r_3)), (10, (boolA (!r_3))), (11, (boolA true)), (12, (sl tConflictEdge l0)), (14, (sl tInt s1)), (16, (intA x2)), (17, (.m [2] 0 ([x2] : (List Int)).length tInt.k)), (18, (.m [0] 0 us_8.length tInt.k))] rfl ?_
    refine TO_st (σ' := [.row (flat tInt.enc us_8), .dead, .row (flat tInt.enc ([x2] : (List Int))), .dead]) rfl ?_
    obtain ⟨r_10, h_11, H⟩ := bind_inv H
    refine TO_on rfl rfl (by decide) rfl rfl (TOp_callB (call_static ent74 rfl) (frz_cons (frz_loose rfl) (frz_cons (frzTE (T := tInt) rfl) frz_nil)).1 (frz_cons (frz_loose rfl) (frz_cons (frzTE (T := tInt) rfl) frz_nil)).2 (m_spec_IsIndependent_ok _ _ _ h_11) rfl ?_)
    refine pv tb 2 rfl ?_
    refine TO_nil ?_
    exact joined r_10 (w0 0) (some_inj H).symm
   ·replace H := cond_f g_5 H
    refine pv tb 10 rfl ?_
    refine TO_nil ?_
    exact joined false (w0 0) (some_inj H).symm
  ·rintro _ rfl
   replace H := H_2
   refine T_ret ?_
   obtain rfl := some_inj H
   refine end_ret (.tmp .nil) rfl rfl ⟨?_, rfl⟩
   rfl

set_option maxHeartbeats 1000000 in
theorem m_spec_IsMaximalIndependent_ok (n0 : Int) (l1 : (List ConflictEdge)) (s2 : (List Int)) (r : Bool) (H : m_spec_IsMaximalIndependent n0 l1 s2 = some r) : FnV prg 57 [(intA n0), (sl tConflictEdge l1), (sl tInt s2)] (boolA r) := by
  unfold m_spec_IsMaximalIndependent at H
  refine fnV_of_T Tryz.func57 rfl rfl (Nat.le_of_ble_eq_true rfl) ?_
  refine te [(0, (intA n0)), (1, (sl tConflictEdge l1)), (2, (sl tInt s2))] rfl ?_
  refine sr ?_
  refine pv tb 1 rfl ?_
  refine TO_nil ?_
  refine T_seq ?_
  obtain ⟨t23_1, J_1, H_2⟩ := bind_inv H
  refine T_cutX (fun x => t23_1 = x) (fun (t23_1 : Bool) => [(0, (intA n0)), (1, (sl tConflictEdge l1)), (2, (sl tInt s2)), (23, (boolA t23_1))]) (fun (t23_1 : Bool) => []) ?_ ?_
  ·replace H := J_1
   refine T_region ?_
   obtain ⟨r_3, h_4, H⟩ := bind_inv H
   refine pv tb 2 rfl ?_
   refine TO_cons rfl (TOp_callV (call_static ent22 rfl) (m_spec_AreValidEdges_ok _ _ _ h_4) rfl rfl rfl ?_)
   refine pv tb 2 rfl ?_
   refine TO_split (t := (!r_3)) 12 rfl (fun g_5 => ?_) (fun g_5 => ?_)
   ·replace H := cond_t g_5 H
    refine pv tb 11 rfl ?_
    refine TO_nil ?_
    exact joined true (w0 0) (some_inj H).symm
   ·replace H := cond_f g_5 H
    obtain ⟨r_6, h_7, H⟩ := bind_inv H
    refine pv tb 2 rfl ?_
    refine TO_on rfl rfl (by decide) rfl rfl (TOp_callV (call_static ent51 rfl) (m_spec_l8Set_ok _ _ _ h_7) rfl rfl rfl ?_)
    refine pv tb 3 rfl ?_
    refine TO_split (t := (!r_6)) 18 rfl (fun g_8 => ?_) (fun g_8 => ?_)
    ·replace H := cond_t g_8 H
     refine pv tb 5 rfl ?_
     refine TO_nil ?_
     exact joined true (w0 0) (some_inj H).symm
    ·replace H := cond_f g_8 H
     obtain ⟨r_9, h_10, H⟩ := bind_inv H
     refine pv tb 2 rfl ?_
     refine TO_on rfl rfl (by decide) rfl rfl (TOp_callV (call_static ent74 rfl) (m_spec_IsIndependent_ok _ _ _ h_10) rfl rfl rfl ?_)
     refine pv tb 2 rfl ?_
     refine TO_nil ?_
     exact joined (!r_9) (w0 0) (some_inj H).symm
  ·rintro _ rfl
   replace H := H_2
   refine T_cond (t := t23_1) rfl (fun c_11 => ?_) (fun c_11 => ?_)
   ·replace H := cond_t c_11 H
    refine sr ?_
    refine pv tb 1 rfl ?_
    refine TO_nil ?_
    refine T_ret ?_
    refine then_ret ?_
    obtain rfl := some_inj H
    refine end_ret (.tmp .nil) rfl rfl ⟨?_, rfl⟩
    rfl
   ·replace H := cond_f c_11 H
    refine T_skip ?_
    refine T_seq ?_
    refine sr ?_
    refine pv tb 1 rfl ?_
    refine TO_nil ?_
    obtain ⟨_, h_14, H⟩ := bind_inv H
    replace h_14 := gN_inv h_14
    obtain ⟨O13_, L13_, N13_⟩ := bind_inv H
    clear H
    obtain ⟨B13_, hb13, L13_⟩ := gen_forN L13_
    refine T_block ?_
    refine T_loopX (fun k => fun (x_12 : Int) => k = (n0 - x_12).toNat ∧ 0 ≤ x_12 ∧ forN B13_ (n0 - x_12).toNat x_12 () = some O13_) (fun (x_12 : Int) => [(0, (intA n0)), (1, (sl tConflictEdge l1)), (2, (sl tInt s2)), (7, (intA (x_12 : Int)))]) (fun (x_12 : Int) => []) _ (0 : Int) (w0 0) ⟨rfl, Int.le_refl _, L13_⟩ ?_
    rintro _ x_12 ⟨rfl, hi13, L13_⟩
    refine T_seq ?_
    refine sr ?_
    refine pv tb 3 rfl ?_
    refine TO_nil ?_
    refine T_cond (t := decide ((x_12 : Int) < n0)) rfl (fun d13 => ?_) (fun d13 => ?_)
    ·replace d13 := of_decide_eq_true d13
     obtain ⟨C13_, H, K13_⟩ := forN_step L13_ d13
     rw [hb13] at H
     refine T_skip ?_
     refine T_seq ?_
     refine T_block ?_
     refine sr ?_
     obtain ⟨r_15, h_16, H⟩ := bind_inv H
     refine pv tb 3 rfl ?_
     refine TO_cons rfl (TOp_callV (call_static ent58 rfl) (m_spec_l8Fits_ok _ _ _ _ h_16) rfl rfl rfl ?_)
     refine TO_nil ?_
     refine T_cond (t := r_15) rfl (fun c_17 => ?_) (fun c_17 => ?_)
     ·replace H := cond_t c_17 H
      refine sr ?_
      refine pv tb 1 rfl ?_
      refine TO_nil ?_
      refine T_ret ?_
      refine block_ret ?_
      refine then_ret ?_
      refine then_ret ?_
      refine block_ret ?_
      refine then_ret ?_
      obtain rfl := some_inj H
      obtain rfl := some_inj K13_
      replace H := onS_r N13_
      obtain rfl := some_inj H
      refine end_ret (.tmp .nil) rfl rfl ⟨?_, rfl⟩
      rfl
     ·replace H := cond_f c_17 H
      refine T_skip ?_
      refine T_region ?_
      refine pv tb 1 rfl ?_
      refine Tp rfl rfl (pur_add rfl rfl rfl (fits64 (by omega) (by omega))) rfl ?_
      refine pv tb 1 rfl ?_
      refine TO_nil ?_
      obtain rfl := some_inj H
      exact again (n0 - (x_12 + 1)).toNat (x_12 + 1) (by omega) (w0 0) ⟨rfl, by omega, K13_⟩
    ·replace d13 := of_decide_eq_false d13
     obtain rfl := forN_end L13_ (by omega)
     refine T_exit ?_
     refine then_exit ?_
     refine then_exit ?_
     refine block_exit ?_
     replace H := onS_l N13_
     refine sr ?_
     refine pv tb 1 rfl ?_
     refine TO_nil ?_
     refine T_ret ?_
     obtain rfl := some_inj H
     refine end_ret (.tmp .nil) rfl rfl ⟨?_, rfl⟩
     rfl

set_option maxHeartbeats 1000000 in
theorem m_spec_l8Walk_own (u : Nat) (n0 : Int) (l1 : (List ConflictEdge)) (s2 : (List Int)) (x3 : Int) (r : (List (List Int))) (H : m_spec_l8Walk u n0 l1 s2 x3 = some r) : FnO prg 33 [(intA n0), (sl tConflictEdge l1), (sl tInt s2), (intA x3)] (.m [0] 0 r.length (tSl tInt).k) [.row (flat (tSl tInt).own r)] := by
  induction u generalizing n0 l1 s2 x3 r with
  | zero => simp [m_spec_l8Walk] at H
  | succ u IH =>
   rw [m_spec_l8Walk] at H
   have IHv : ∀ (n0 : Int) (l1 : (List ConflictEdge)) (s2 : (List Int)) (x3 : Int) (r : (List (List Int))), m_spec_l8Walk u n0 l1 s2 x3 = some r → FnV prg 33 [(intA n0), (sl tConflictEdge l1), (sl tInt s2), (intA x3)] (sl (tSl tInt) r) := fun n0 l1 s2 x3 r h => (IH n0 l1 s2 x3 r h).frz (frzT (T := (tSl tInt)) rfl)
   refine fnO_of_T Tryz.func33 rfl rfl (Nat.le_of_ble_eq_true rfl) ?_
   refine te [(0, (intA n0)), (1, (sl tConflictEdge l1)), (2, (sl tInt s2)), (3, (intA x3))] rfl ?_
   refine sr ?_
   refine pv tb 1 rfl ?_
   refine TO_nil ?_
   refine T_seq ?_
   refine sr ?_
   refine pv tb 3 rfl ?_
   refine TO_nil ?_
   refine T_cond (t := decide (x3 = n0)) rfl (fun c_1 => ?_) (fun c_1 => ?_)
   ·replace H := cond_t c_1 H
    refine T_seq ?_
    refine sr ?_
    obtain ⟨r_2, h_3, H⟩ := bind_inv H
    refine pv tb 3 rfl ?_
    refine TO_cons rfl (TOp_callV (call_static ent57 rfl) (m_spec_IsMaximalIndependent_ok _ _ _ _ h_3) rfl rfl rfl ?_)
    refine TO_nil ?_
    refine T_cond (t := r_2) rfl (fun c_4 => ?_) (fun c_4 => ?_)
    ·replace H := cond_t c_4 H
     refine sr ?_
     refine TO_cons rfl (TOp_lit (nn := 0) (k := 1) sl31 zero3 rfl rfl rfl rfl (by decide) ?_)
     refine TO_st (σ' := [.row (flat tInt.enc ([] : (List Int)))]) rfl ?_
     obtain ⟨us_5, h_6, H⟩ := bind_inv H
     refine pv tb 1 rfl ?_
     refine TO_cons rfl (TOp_appZ (T := tInt) (f := tInt.enc) (xs := ([] : (List Int))) (ys := s2) tInt.len sl31 zero3 rfl bytes3 (by decide) rfl rfl rfl rfl (src_T (T := tInt) rfl) (flat_cell tInt _) h_6 (lb rfl) ?_)
     refine toe [(2, (sl tInt s2)), (18, (boolA r_2)), (20, (sl tInt s2)), (21, (.m [0] 0 us_5.length tInt.k))] rfl ?_
     refine TO_st (σ' := [.row (flat tInt.enc us_5), .dead]) rfl ?_
     refine TO_cons rfl (TOp_litB (nn := 1) (k := 1) sl27 zero31 rfl rfl rfl rfl (by decide) ?_)
     refine TO_st (σ' := [.row (flat tInt.enc us_5), .dead, .box [(.m [0] 0 us_5.length tInt.k)]]) rfl ?_
     refine toe [(2, (sl tInt s2)), (18, (boolA r_2)), (20, (sl tInt s2)), (22, (.m [2] 0 1 (tSl tInt).k))] rfl ?_
     refine TO_st (σ' := [.row (flat tInt.enc us_5), .dead, .box [(.m [0] 0 us_5.length tInt.k)]]) rfl ?_
     refine TO_absorbA (pr := []) 2 0 0 rfl rfl rfl (by decide) tInt.pos (flat_len tInt.len _) (lb rfl) (lb rfl) rfl (nms_row (nms_dead (nms_box rfl nms_nil))) ?_
     refine TO_st (σ' := [.dead, .dead, .box [.o tInt.k (flat tInt.enc us_5)]]) rfl ?_
     refine TO_rowifyT (T := (tSl tInt)) (xs := []) (us := ([us_5] : List (List Int))) (v := us_5) 2 rfl rfl (app_ok (b := 24) (xs := []) (ys := ([us_5] : List (List Int))) (show (0 + 1) * 24 ≤ 140737488355328 by decide)) (lb rfl) ?_
     refine toe [(2, (sl tInt s2)), (18, (boolA r_2)), (20, (sl tInt s2)), (22, (.m [2] 0 ([us_5] : List (List Int)).length (tSl tInt).k))] rfl ?_
     refine TO_st (σ' := [.dead, .dead, .row (flat (tSl tInt).own ([us_5] : List (List Int)))]) rfl ?_
     refine pv tb 1 rfl ?_
     refine TO_nil ?_
     refine T_ret ?_
     refine then_ret ?_
     refine then_ret ?_
     obtain rfl := some_inj H
     exact end_pick (.tmp .nil) rfl [2] (by decide) rfl rfl rfl rfl rfl rfl
    ·replace H := cond_f c_4 H
     refine T_skip ?_
     refine sr ?_
     refine TO_cons rfl (TOp_lit (nn := 0) (k := 1) sl27 zero31 rfl rfl rfl rfl (by decide) ?_)
     refine TO_st (σ' := [.row (flat (tSl tInt).own ([] : (List (List Int))))]) rfl ?_
     refine pv tb 1 rfl ?_
     refine TO_nil ?_
     refine T_ret ?_
     refine then_ret ?_
     obtain rfl := some_inj H
     exact end_pick (.tmp .nil) rfl [0] (by decide) rfl rfl rfl rfl rfl rfl
   ·replace H := cond_f c_1 H
    refine T_skip ?_
    refine sr ?_
    refine TO_cons rfl (TOp_lit (nn := 0) (k := 1) sl27 zero31 rfl rfl rfl rfl (by decide) ?_)
    refine TO_st (σ' := [.row (flat (tSl tInt).own ([] : (List (List Int))))]) rfl ?_
    refine pv tb 1 rfl ?_
    refine TO_nil ?_
    refine T_seq ?_
    refine sr ?_
    obtain ⟨r_7, h_8, H⟩ := bind_inv H
    refine pv tb 3 rfl ?_
    refine TO_cons rfl (TOp_callV (call_static ent58 rfl) (m_spec_l8Fits_ok _ _ _ _ h_8) rfl rfl rfl ?_)
    refine TO_nil ?_
    refine T_cond (t := r_7) rfl (fun c_9 => ?_) (fun c_9 => ?_)
    ·replace H := cond_t c_9 H
     refine T_region ?_
     refine pv tb 2 rfl ?_
     refine TO_cons rfl (TOp_lit (nn := 0) (k := 1) sl31 zero3 rfl rfl rfl rfl (by decide) ?_)
     refine TO_st (σ' := [.row (flat (tSl tInt).own ([] : (List (List Int)))), .row (flat tInt.enc ([] : (List Int)))]) rfl ?_
     obtain ⟨us_10, h_11, H⟩ := bind_inv H
     refine pv tb 1 rfl ?_
     refine TO_cons rfl (TOp_appZ (T := tInt) (f := tInt.enc) (xs := ([] : (List Int))) (ys := s2) tInt.len sl31 zero3 rfl bytes3 (by decide) rfl rfl rfl rfl (src_T (T := tInt) rfl) (flat_cell tInt _) h_11 (lb rfl) ?_)
     refine toe [(0, (intA n0)), (1, (sl tConflictEdge l1)), (2, (sl tInt s2)), (3, (intA x3)), (9, (.m [0] 0 ([] : (List (List Int))).length (tSl tInt).k)), (28, (boolA r_7)), (29, (intA n0)), (30, (sl tConflictEdge l1)), (32, (sl tInt s2)), (33, (.m [1] 0 us_10.length tInt.k))] rfl ?_
     refine TO_st (σ' := [.row (flat (tSl tInt).own ([] : (List (List Int)))), .row (flat tInt.enc us_10), .dead]) rfl ?_
     refine pv tb 1 rfl ?_
     refine TO_cons rfl (TOp_lit (nn := 1) (k := 1) sl31 zero3 rfl rfl rfl rfl (by decide) ?_)
     refine TO_st (σ' := [.row (flat (tSl tInt).own ([] : (List (List Int)))), .row (flat tInt.enc us_10), .dead, .row (flat tInt.enc ([x3] : (List Int)))]) rfl ?_
     obtain ⟨us_12, h_13, H⟩ := bind_inv H
     refine TO_cons rfl (TOp_appZ (T := tInt) (f := tInt.enc) (xs := us_10) (ys := ([x3] : (List Int))) tInt.len sl31 zero3 rfl bytes3 (by decide) rfl rfl rfl rfl (src_mT (f := tInt.enc) tInt.len rfl rfl (flat_cell tInt _)) (flat_cell tInt _) h_13 (lb rfl) ?_)
     refine toe [(0, (intA n0)), (1, (sl tConflictEdge l1)), (2, (sl tInt s2)), (3, (intA x3)), (9, (.m [0] 0 ([] : (List (List Int))).length (tSl tInt).k)), (28, (boolA r_7)), (29, (intA n0)), (30, (sl tConflictEdge l1)), (32, (sl tInt s2)), (34, (intA x3)), (35, (.m [3] 0 ([x3] : (List Int)).length tInt.k)), (36, (.m [1] 0 us_12.length tInt.k))] rfl ?_
     refine TO_st (σ' := [.row (flat (tSl tInt).own ([] : (List (List Int)))), .row (flat tInt.enc us_12), .dead, .row (flat tInt.enc ([x3] : (List Int))), .dead]) rfl ?_
     obtain ⟨r_14, h_15, H⟩ := bind_inv H
     refine pv tb 2 rfl ?_
     refine TO_cons rfl (TOp_callOG (call_static ent33 rfl) (frz_cons (frz_loose rfl) (frz_cons (frz_loose rfl) (frz_cons (frzTE (T := tInt) rfl) (frz_cons (frz_loose rfl) frz_nil)))).1 (frz_cons (frz_loose rfl) (frz_cons (frz_loose rfl) (frz_cons (frzTE (T := tInt) rfl) (frz_cons (frz_loose rfl) frz_nil)))).2 (IH _ _ _ _ _ h_15) rfl (ownC_of (ownSB_cons (flat_ownR (tSl tInt) _) ownSB_nil)) rfl rfl rfl ?_)
     refine toe [(0, (intA n0)), (1, (sl tConflictEdge l1)), (2, (sl tInt s2)), (3, (intA x3)), (9, (.m [0] 0 ([] : (List (List Int))).length (tSl tInt).k)), (29, (intA n0)), (30, (sl tConflictEdge l1)), (36, (.m [1] 0 us_12.length tInt.k)), (37, (intA x3)), (38, (intA (w64 (x3 + 1)))), (39, (.m [5] 0 r_14.length (tSl tInt).k))] rfl ?_
     refine TO_st (σ' := [.row (flat (tSl tInt).own ([] : (List (List Int)))), .row (flat tInt.enc us_12), .dead, .row (flat tInt.enc ([x3] : (List Int))), .dead, .row (flat (tSl tInt).own r_14)]) rfl ?_
     refine pv tb 1 rfl ?_
     refine TO_nil ?_
     refine sr ?_
     refine pv tb 1 rfl ?_
     refine TO_nil ?_
     refine T_seq ?_
     refine sr ?_
     refine pv tb 1 rfl ?_
     refine TO_nil ?_
     obtain ⟨O17_, L17_, N17_⟩ := bind_inv H
     clear H
     obtain ⟨B17_, hb17, L17_⟩ := gen_forS L17_
     refine T_block ?_
     refine T_loopX (fun k => fun (⟨i_16, met10⟩ : Nat × Bool) => k = l1.length - i_16 ∧ forS B17_ (l1.drop i_16) (i_16 : Int) met10 = some O17_) (fun (⟨i_16, met10⟩ : Nat × Bool) => [(0, (intA n0)), (1, (sl tConflictEdge l1)), (2, (sl tInt s2)), (3, (intA x3)), (9, (.m [5] 0 r_14.length (tSl tInt).k)), (10, (boolA met10)), (11, (intA (i_16 : Int)))]) (fun (⟨i_16, met10⟩ : Nat × Bool) => [.row (flat (tSl tInt).own ([] : (List (List Int)))), .row (flat tInt.enc us_12), .dead, .row (flat tInt.enc ([x3] : (List Int))), .dead, .row (flat (tSl tInt).own r_14)]) _ (0, false) (w0 6) ⟨rfl, L17_⟩ ?_
     rintro _ ⟨i_16, met10⟩ ⟨rfl, L17_⟩
     refine T_fact (len_sl (T := tConflictEdge) (.tmp 1) rfl) (fun hl17 => ?_)
     refine T_seq ?_
     refine sr ?_
     refine pv tb 2 rfl ?_
     refine Tp rfl rfl (pur_lenT (T := tConflictEdge) sl24 rfl rfl) rfl ?_
     refine pv tb 1 rfl ?_
     refine TO_nil ?_
     refine T_cond (t := decide ((i_16 : Int) < (l1.length : Int))) rfl (fun d17 => ?_) (fun d17 => ?_)
     ·replace d17 := of_decide_eq_true d17
      obtain ⟨x_i_16, hx_i_16⟩ : ∃ v, (l1)[i_16]? = some v := ⟨_, List.getElem?_eq_getElem (by omega)⟩
      obtain ⟨C17_, H, K17_⟩ := forS_step L17_ hx_i_16
      rw [hb17] at H
      refine T_skip ?_
      refine T_seq ?_
      refine T_block ?_
      refine T_region ?_
      refine pv tb 2 rfl ?_
      refine TO_split (t := met10) 47 rfl (fun g_18 => ?_) (fun g_18 => ?_)
      ·replace H := cond_t g_18 H
       refine pv tb 18 rfl ?_
       refine TO_nil ?_
       refine te [(0, (intA n0)), (1, (sl tConflictEdge l1)), (2, (sl tInt s2)), (3, (intA x3)), (9, (.m [5] 0 r_14.length (tSl tInt).k)), (10, (boolA true)), (11, (intA (i_16 : Int)))] rfl ?_
       refine T_region ?_
       refine pv tb 1 rfl ?_
       refine Tp rfl rfl (pur_add rfl rfl rfl (fits64 (by omega) (by omega))) rfl ?_
       refine pv tb 1 rfl ?_
       refine TO_nil ?_
       obtain rfl := some_inj H
       exact again (l1.length - (i_16 + 1)) (i_16 + 1, true) (by omega) (w0 6) ⟨rfl, K17_⟩
      ·replace H := cond_f g_18 H
       refine pv tb 2 rfl ?_
       refine TO_on rfl rfl (by decide) rfl rfl (TOp_pure (pur_ixT (T := tConflictEdge) sl24 rfl rfl rfl hx_i_16 rfl) rfl ?_)
       refine pv tb 1 rfl ?_
       refine TO_on rfl rfl (by decide) rfl rfl (TOp_pure (pur_ldT (T := tConflictEdge) (i := i_16) (off := 0) rfl one3 rfl rfl hx_i_16 rfl) rfl ?_)
       refine pv tb 4 rfl ?_
       refine TO_split (t := decide (x_i_16.a = x3)) 56 rfl (fun g_19 => ?_) (fun g_19 => ?_)
       ·replace H := cond_t g_19 H
        refine pv tb 9 rfl ?_
        refine TO_nil ?_
        refine te [(0, (intA n0)), (1, (sl tConflictEdge l1)), (2, (sl tInt s2)), (3, (intA x3)), (9, (.m [5] 0 r_14.length (tSl tInt).k)), (10, (boolA true)), (11, (intA (i_16 : Int)))] rfl ?_
        refine T_region ?_
        refine pv tb 1 rfl ?_
        refine Tp rfl rfl (pur_add rfl rfl rfl (fits64 (by omega) (by omega))) rfl ?_
        refine pv tb 1 rfl ?_
        refine TO_nil ?_
        obtain rfl := some_inj H
        exact again (l1.length - (i_16 + 1)) (i_16 + 1, true) (by omega) (w0 6) ⟨rfl, K17_⟩
       ·replace H := cond_f g_19 H
        refine pv tb 2 rfl ?_
        refine TO_on rfl rfl (by decide) rfl rfl (TOp_pure (pur_ixT (T := tConflictEdge) sl24 rfl rfl rfl hx_i_16 rfl) rfl ?_)
        refine pv tb 1 rfl ?_
        refine TO_on rfl rfl (by decide) rfl rfl (TOp_pure (pur_ldT (T := tConflictEdge) (i := i_16) (off := 1) rfl one3 rfl rfl hx_i_16 rfl) rfl ?_)
        refine pv tb 4 rfl ?_
        refine TO_nil ?_
        refine te [(0, (intA n0)), (1, (sl tConflictEdge l1)), (2, (sl tInt s2)), (3, (intA x3)), (9, (.m [5] 0 r_14.length (tSl tInt).k)), (10, (boolA (decide (x_i_16.b = x3)))), (11, (intA (i_16 : Int)))] rfl ?_
        refine T_region ?_
        refine pv tb 1 rfl ?_
        refine Tp rfl rfl (pur_add rfl rfl rfl (fits64 (by omega) (by omega))) rfl ?_
        refine pv tb 1 rfl ?_
        refine TO_nil ?_
        obtain rfl := some_inj H
        exact again (l1.length - (i_16 + 1)) (i_16 + 1, decide (x_i_16.b = x3)) (by omega) (w0 6) ⟨rfl, K17_⟩
     ·replace d17 := of_decide_eq_false d17
      obtain rfl := forS_end L17_ (by omega)
      refine T_exit ?_
      refine then_exit ?_
      refine then_exit ?_
      refine block_exit ?_
      replace H := N17_
      refine T_seq ?_
      refine sr ?_
      refine pv tb 1 rfl ?_
      refine TO_nil ?_
      refine T_cond (t := met10) rfl (fun c_20 => ?_) (fun c_20 => ?_)
      ·replace H := cond_t c_20 H
       refine T_region ?_
       obtain ⟨r_21, h_22, H⟩ := bind_inv H
       refine pv tb 6 rfl ?_
       refine TO_cons rfl (TOp_callO (call_static ent33 rfl) rfl (IH _ _ _ _ _ h_22) rfl rfl rfl ?_)
       refine toe [(0, (intA n0)), (1, (sl tConflictEdge l1)), (2, (sl tInt s2)), (3, (intA x3)), (9, (.m [5] 0 r_14.length (tSl tInt).k)), (65, (boolA met10)), (66, (.m [5] 0 r_14.length (tSl tInt).k)), (67, (intA n0)), (68, (sl tConflictEdge l1)), (69, (sl tInt s2)), (70, (intA x3)), (71, (intA (w64 (x3 + 1)))), (72, (.m [6] 0 r_21.length (tSl tInt).k))] rfl ?_
       refine TO_st (σ' := [.row (flat (tSl tInt).own ([] : (List (List Int)))), .row (flat tInt.enc us_12), .dead, .row (flat tInt.enc ([x3] : (List Int))), .dead, .row (flat (tSl tInt).own r_14), .row (flat (tSl tInt).own r_21)]) rfl ?_
       obtain ⟨us_23, h_24, H⟩ := bind_inv H
       refine TO_cons rfl (TOp_appOO (Y := (tSl tInt)) (xs := r_14) (ys := r_21) sl27 zero31 rfl bytes31 (by decide) rfl rfl rfl rfl rfl rfl (by decide) h_24 ?_)
       refine toe [(0, (intA n0)), (1, (sl tConflictEdge l1)), (2, (sl tInt s2)), (3, (intA x3)), (65, (boolA met10)), (67, (intA n0)), (68, (sl tConflictEdge l1)), (69, (sl tInt s2)), (70, (intA x3)), (71, (intA (w64 (x3 + 1)))), (73, (.m [7] 0 us_23.length (tSl tInt).k))] rfl ?_
       refine TO_st (σ' := [.row (flat (tSl tInt).own ([] : (List (List Int)))), .row (flat tInt.enc us_12), .dead, .row (flat tInt.enc ([x3] : (List Int))), .dead, .dead, .dead, .row (flat (tSl tInt).own us_23)]) rfl ?_
       refine pv tb 1 rfl ?_
       refine TO_nil ?_
       refine sr ?_
       refine pv tb 2 rfl ?_
       refine TO_nil ?_
       refine T_ret ?_
       obtain rfl := some_inj H
       exact end_pick (.tmp .nil) rfl [7] (by decide) rfl rfl rfl rfl rfl rfl
      ·replace H := cond_f c_20 H
       refine T_skip ?_
       refine sr ?_
       refine pv tb 2 rfl ?_
       refine TO_nil ?_
       refine T_ret ?_
       obtain rfl := some_inj H
       exact end_pick (.tmp .nil) rfl [5] (by decide) rfl rfl rfl rfl rfl rfl
    ·replace H := cond_f c_9 H
     refine T_skip ?_
     refine sr ?_
     refine pv tb 1 rfl ?_
     refine TO_nil ?_
     refine T_seq ?_
     refine sr ?_
     refine pv tb 1 rfl ?_
     refine TO_nil ?_
     obtain ⟨O26_, L26_, N26_⟩ := bind_inv H
     clear H
     obtain ⟨B26_, hb26, L26_⟩ := gen_forS L26_
     refine T_block ?_
     refine T_loopX (fun k => fun (⟨i_25, met10⟩ : Nat × Bool) => k = l1.length - i_25 ∧ forS B26_ (l1.drop i_25) (i_25 : Int) met10 = some O26_) (fun (⟨i_25, met10⟩ : Nat × Bool) => [(0, (intA n0)), (1, (sl tConflictEdge l1)), (2, (sl tInt s2)), (3, (intA x3)), (9, (.m [0] 0 ([] : (List (List Int))).length (tSl tInt).k)), (10, (boolA met10)), (11, (intA (i_25 : Int)))]) (fun (⟨i_25, met10⟩ : Nat × Bool) => [.row (flat (tSl tInt).own ([] : (List (List Int))))]) _ (0, false) (w0 1) ⟨rfl, L26_⟩ ?_
     rintro _ ⟨i_25, met10⟩ ⟨rfl, L26_⟩
     refine T_fact (len_sl (T := tConflictEdge) (.tmp 1) rfl) (fun hl26 => ?_)
     refine T_seq ?_
     refine sr ?_
     refine pv tb 2 rfl ?_
     refine Tp rfl rfl (pur_lenT (T := tConflictEdge) sl24 rfl rfl) rfl ?_
     refine pv tb 1 rfl ?_
     refine TO_nil ?_
     refine T_cond (t := decide ((i_25 : Int) < (l1.length : Int))) rfl (fun d26 => ?_) (fun d26 => ?_)
     ·replace d26 := of_decide_eq_true d26
      obtain ⟨x_i_25, hx_i_25⟩ : ∃ v, (l1)[i_25]? = some v := ⟨_, List.getElem?_eq_getElem (by omega)⟩
      obtain ⟨C26_, H, K26_⟩ := forS_step L26_ hx_i_25
      rw [hb26] at H
      refine T_skip ?_
      refine T_seq ?_
      refine T_block ?_
      refine T_region ?_
      refine pv tb 2 rfl ?_
      refine TO_split (t := met10) 47 rfl (fun g_27 => ?_) (fun g_27 => ?_)
      ·replace H := cond_t g_27 H
       refine pv tb 18 rfl ?_
       refine TO_nil ?_
       refine te [(0, (intA n0)), (1, (sl tConflictEdge l1)), (2, (sl tInt s2)), (3, (intA x3)), (9, (.m [0] 0 ([] : (List (List Int))).length (tSl tInt).k)), (10, (boolA true)), (11, (intA (i_25 : Int)))] rfl ?_
       refine T_region ?_
       refine pv tb 1 rfl ?_
       refine Tp rfl rfl (pur_add rfl rfl rfl (fits64 (by omega) (by omega))) rfl ?_
       refine pv tb 1 rfl ?_
       refine TO_nil ?_
       obtain rfl := some_inj H
       exact again (l1.length - (i_25 + 1)) (i_25 + 1, true) (by omega) (w0 1) ⟨rfl, K26_⟩
      ·replace H := cond_f g_27 H
       refine pv tb 2 rfl ?_
       refine TO_on rfl rfl (by decide) rfl rfl (TOp_pure (pur_ixT (T := tConflictEdge) sl24 rfl rfl rfl hx_i_25 rfl) rfl ?_)
       refine pv tb 1 rfl ?_
       refine TO_on rfl rfl (by decide) rfl rfl (TOp_pure (pur_ldT (T := tConflictEdge) (i := i_25) (off := 0) rfl one3 rfl rfl hx_i_25 rfl) rfl ?_)
       refine pv tb 4 rfl ?_
       refine TO_split (t := decide (x_i_25.a = x3)) 56 rfl (fun g_28 => ?_) (fun g_28 => ?_)
       ·replace H := cond_t g_28 H
        refine pv tb 9 rfl ?_
        refine TO_nil ?_
        refine te [(0, (intA n0)), (1, (sl tConflictEdge l1)), (2, (sl tInt s2)), (3, (intA x3)), (9, (.m [0] 0 ([] : (List (List Int))).length (tSl tInt).k)), (10, (boolA true)), (11, (intA (i_25 : Int)))] rfl ?_
        refine T_region ?_
        refine pv tb 1 rfl ?_
        refine Tp rfl rfl (pur_add rfl rfl rfl (fits64 (by omega) (by omega))) rfl ?_
        refine pv tb 1 rfl ?_
        refine TO_nil ?_
        obtain rfl := some_inj H
        exact again (l1.length - (i_25 + 1)) (i_25 + 1, true) (by omega) (w0 1) ⟨rfl, K26_⟩
       ·replace H := cond_f g_28 H
        refine pv tb 2 rfl ?_
        refine TO_on rfl rfl (by decide) rfl rfl (TOp_pure (pur_ixT (T := tConflictEdge) sl24 rfl rfl rfl hx_i_25 rfl) rfl ?_)
        refine pv tb 1 rfl ?_
        refine TO_on rfl rfl (by decide) rfl rfl (TOp_pure (pur_ldT (T := tConflictEdge) (i := i_25) (off := 1) rfl one3 rfl rfl hx_i_25 rfl) rfl ?_)
        refine pv tb 4 rfl ?_
        refine TO_nil ?_
        refine te [(0, (intA n0)), (1, (sl tConflictEdge l1)), (2, (sl tInt s2)), (3, (intA x3)), (9, (.m [0] 0 ([] : (List (List Int))).length (tSl tInt).k)), (10, (boolA (decide (x_i_25.b = x3)))), (11, (intA (i_25 : Int)))] rfl ?_
        refine T_region ?_
        refine pv tb 1 rfl ?_
        refine Tp rfl rfl (pur_add rfl rfl rfl (fits64 (by omega) (by omega))) rfl ?_
        refine pv tb 1 rfl ?_
        refine TO_nil ?_
        obtain rfl := some_inj H
        exact again (l1.length - (i_25 + 1)) (i_25 + 1, decide (x_i_25.b = x3)) (by omega) (w0 1) ⟨rfl, K26_⟩
     ·replace d26 := of_decide_eq_false d26
      obtain rfl := forS_end L26_ (by omega)
      refine T_exit ?_
      refine then_exit ?_
      refine then_exit ?_
      refine block_exit ?_
      replace H := N26_
      refine T_seq ?_
      refine sr ?_
      refine pv tb 1 rfl ?_
      refine TO_nil ?_
      refine T_cond (t := met10) rfl (fun c_29 => ?_) (fun c_29 => ?_)
      ·replace H := cond_t c_29 H
       refine T_region ?_
       obtain ⟨r_30, h_31, H⟩ := bind_inv H
       refine pv tb 6 rfl ?_
       refine TO_cons rfl (TOp_callO (call_static ent33 rfl) rfl (IH _ _ _ _ _ h_31) rfl rfl rfl ?_)
       refine toe [(0, (intA n0)), (1, (sl tConflictEdge l1)), (2, (sl tInt s2)), (3, (intA x3)), (9, (.m [0] 0 ([] : (List (List Int))).length (tSl tInt).k)), (65, (boolA met10)), (66, (.m [0] 0 ([] : (List (List Int))).length (tSl tInt).k)), (67, (intA n0)), (68, (sl tConflictEdge l1)), (69, (sl tInt s2)), (70, (intA x3)), (71, (intA (w64 (x3 + 1)))), (72, (.m [1] 0 r_30.length (tSl tInt).k))] rfl ?_
       refine TO_st (σ' := [.row (flat (tSl tInt).own ([] : (List (List Int)))), .row (flat (tSl tInt).own r_30)]) rfl ?_
       obtain ⟨us_32, h_33, H⟩ := bind_inv H
       refine TO_cons rfl (TOp_appOO (Y := (tSl tInt)) (xs := ([] : (List (List Int)))) (ys := r_30) sl27 zero31 rfl bytes31 (by decide) rfl rfl rfl rfl rfl rfl (by decide) h_33 ?_)
       refine toe [(0, (intA n0)), (1, (sl tConflictEdge l1)), (2, (sl tInt s2)), (3, (intA x3)), (65, (boolA met10)), (67, (intA n0)), (68, (sl tConflictEdge l1)), (69, (sl tInt s2)), (70, (intA x3)), (71, (intA (w64 (x3 + 1)))), (73, (.m [2] 0 us_32.length (tSl tInt).k))] rfl ?_
       refine TO_st (σ' := [.dead, .dead, .row (flat (tSl tInt).own us_32)]) rfl ?_
       refine pv tb 1 rfl ?_
       refine TO_nil ?_
       refine sr ?_
       refine pv tb 2 rfl ?_
       refine TO_nil ?_
       refine T_ret ?_
       obtain rfl := some_inj H
       exact end_pick (.tmp .nil) rfl [2] (by decide) rfl rfl rfl rfl rfl rfl
      ·replace H := cond_f c_29 H
       refine T_skip ?_
       refine sr ?_
       refine pv tb 2 rfl ?_
       refine TO_nil ?_
       refine T_ret ?_
       obtain rfl := some_inj H
       exact end_pick (.tmp .nil) rfl [0] (by decide) rfl rfl rfl rfl rfl rfl
theorem m_spec_l8Walk_ok (u : Nat) (n0 : Int) (l1 : (List ConflictEdge)) (s2 : (List Int)) (x3 : Int) (r : (List (List Int))) (H : m_spec_l8Walk u n0 l1 s2 x3 = some r) : FnV prg 33 [(intA n0), (sl tConflictEdge l1), (sl tInt s2), (intA x3)] (sl (tSl tInt) r) := (m_spec_l8Walk_own u n0 l1 s2 x3 r H).frz (frzT (T := (tSl tInt)) rfl)

set_option maxHeartbeats 1000000 in
theorem m_spec_MaximalIndependentSets_own (u : Nat) (n0 : Int) (l1 : (List ConflictEdge)) (r : (List (List Int))) (H : m_spec_MaximalIndependentSets u n0 l1 = some r) : FnO prg 13 [(intA n0), (sl tConflictEdge l1)] (.m [0] 0 r.length (tSl tInt).k) [.row (flat (tSl tInt).own r)] := by
  unfold m_spec_MaximalIndependentSets at H
  refine fnO_of_T Tryz.func13 rfl rfl (Nat.le_of_ble_eq_true rfl) ?_
  refine te [(0, (intA n0)), (1, (sl tConflictEdge l1))] rfl ?_
  refine sr ?_
  refine pv tb 1 rfl ?_
  refine TO_nil ?_
  refine T_seq ?_
  refine sr ?_
  obtain ⟨r_1, h_2, H⟩ := bind_inv H
  refine pv tb 2 rfl ?_
  refine TO_cons rfl (TOp_callV (call_static ent22 rfl) (m_spec_AreValidEdges_ok _ _ _ h_2) rfl rfl rfl ?_)
  refine pv tb 1 rfl ?_
  refine TO_nil ?_
  refine T_cond (t := (!r_1)) rfl (fun c_3 => ?_) (fun c_3 => ?_)
  ·replace H := cond_t c_3 H
   refine sr ?_
   refine TO_cons rfl (TOp_lit (nn := 0) (k := 1) sl27 zero31 rfl rfl rfl rfl (by decide) ?_)
   refine TO_st (σ' := [.row (flat (tSl tInt).own ([] : (List (List Int))))]) rfl ?_
   refine pv tb 1 rfl ?_
   refine TO_nil ?_
   refine T_ret ?_
   refine then_ret ?_
   obtain rfl := some_inj H
   exact end_pick (.tmp .nil) rfl [0] (by decide) rfl rfl rfl rfl rfl rfl
  ·replace H := cond_f c_3 H
   refine T_skip ?_
   refine sr ?_
   refine pv tb 2 rfl ?_
   refine TO_cons rfl (TOp_lit (nn := 0) (k := 1) sl31 zero3 rfl rfl rfl rfl (by decide) ?_)
   refine TO_st (σ' := [.row (flat tInt.enc ([] : (List Int)))]) rfl ?_
   obtain ⟨r_4, h_5, H⟩ := bind_inv H
   refine TO_cons rfl (TOp_callOG (call_static ent33 rfl) (frz_cons (frz_loose rfl) (frz_cons (frz_loose rfl) (frz_cons (frzTE (T := tInt) (xs := ([] : (List Int))) rfl) (frz_cons (frz_loose rfl) frz_nil)))).1 (frz_cons (frz_loose rfl) (frz_cons (frz_loose rfl) (frz_cons (frzTE (T := tInt) (xs := ([] : (List Int))) rfl) (frz_cons (frz_loose rfl) frz_nil)))).2 (m_spec_l8Walk_own u _ _ _ _ _ h_5) rfl (ownC_of (ownSB_cons (flat_ownR (tSl tInt) _) ownSB_nil)) rfl rfl rfl ?_)
   refine toe [(0, (intA n0)), (1, (sl tConflictEdge l1)), (10, (intA n0)), (11, (sl tConflictEdge l1)), (12, (.m [0] 0 ([] : (List Int)).length tInt.k)), (13, (.m [1] 0 r_4.length (tSl tInt).k))] rfl ?_
   refine TO_st (σ' := [.row (flat tInt.enc ([] : (List Int))), .row (flat (tSl tInt).own r_4)]) rfl ?_
   refine pv tb 1 rfl ?_
   refine TO_nil ?_
   refine T_ret ?_
   obtain rfl := some_inj H
   exact end_pick (.tmp .nil) rfl [1] (by decide) rfl rfl rfl rfl rfl rfl
theorem m_spec_MaximalIndependentSets_ok (u : Nat) (n0 : Int) (l1 : (List ConflictEdge)) (r : (List (List Int))) (H : m_spec_MaximalIndependentSets u n0 l1 = some r) : FnV prg 13 [(intA n0), (sl tConflictEdge l1)] (sl (tSl tInt) r) := (m_spec_MaximalIndependentSets_own u n0 l1 r H).frz (frzT (T := (tSl tInt)) rfl)

set_option maxHeartbeats 1000000 in
theorem m_impl_MaximalIndependentSets_1_c (u : Nat) (v0 : Int) (set1 : (List Int)) (fv2 : Int) (fv3 : (List ConflictEdge)) (fv4 : (List (List Int))) (r : (List (List Int))) (H : m_impl_MaximalIndependentSets_1 u v0 set1 fv2 fv3 fv4 = some r) : FnS prg 59 [(intA v0), (sl tInt set1), .b 0 0, .b 1 0, .b 2 0, .b 3 0] [.box [(intA fv2)], .box [(sl tConflictEdge fv3)], .box [(.m [4] 0 fv4.length (tSl tInt).k)], .box [(.f 59 [(.b 0 0), (.b 1 0), (.b 2 0), (.b 3 0)])], .row (flat (tSl tInt).own fv4)] (.t []) [.box [(intA fv2)], .box [(sl tConflictEdge fv3)], .box [(.m [5] 0 r.length (tSl tInt).k)], .box [(.f 59 [(.b 0 0), (.b 1 0), (.b 2 0), (.b 3 0)])], .dead, .row (flat (tSl tInt).own r)] := by
  induction u generalizing v0 set1 fv2 fv3 fv4 r with
  | zero => simp [m_impl_MaximalIndependentSets_1] at H
  | succ u IH =>
   rw [m_impl_MaximalIndependentSets_1] at H
   refine fnS_of_T Tryz.func59 rfl rfl (Nat.le_of_ble_eq_true rfl) ?_
   refine te [(0, (intA v0)), (1, (sl tInt set1)), (2, .b 0 0), (3, .b 1 0), (4, .b 2 0), (5, .b 3 0)] rfl ?_
   refine T_st (σ' := [.box [(intA fv2)], .box [(sl tConflictEdge fv3)], .box [(.m [4] 0 fv4.length (tSl tInt).k)], .box [(.f 59 [(.b 0 0), (.b 1 0), (.b 2 0), (.b 3 0)])], .row (flat (tSl tInt).own fv4)]) rfl ?_
   refine T_pad ?_
   refine T_move' 5 4 (by decide) (lb rfl) rfl rfl (lb rfl) ?_
   refine te [(0, (intA v0)), (1, (sl tInt set1)), (2, (.b 0 0)), (3, (.b 1 0)), (4, (.b 2 0)), (5, (.b 3 0))] rfl ?_
   refine T_st (σ' := [.box [(intA fv2)], .box [(sl tConflictEdge fv3)], .box [(.m [5] 0 fv4.length (tSl tInt).k)], .box [(.f 59 [(.b 0 0), (.b 1 0), (.b 2 0), (.b 3 0)])], .dead, .row (flat (tSl tInt).own fv4)]) rfl ?_
   refine T_seq ?_
   refine sr ?_
   refine pv tb 3 rfl ?_
   refine TO_nil ?_
   refine T_cond (t := decide (v0 = fv2)) rfl (fun c_1 => ?_) (fun c_1 => ?_)
   ·replace H := cond_t c_1 H
    refine T_seq ?_
    refine sr ?_
    obtain ⟨r_2, h_3, H⟩ := bind_inv H
    refine pv tb 3 rfl ?_
    refine TO_cons rfl (TOp_callV (call_static ent27 rfl) (m_impl_IsMaximalIndependent_ok _ _ _ _ h_3) rfl rfl rfl ?_)
    refine TO_nil ?_
    refine T_cond (t := r_2) rfl (fun c_4 => ?_) (fun c_4 => ?_)
    ·replace H := cond_t c_4 H
     obtain ⟨us_5, h_6, H⟩ := bind_inv H
     obtain ⟨us_7, h_8, H⟩ := bind_inv H
     refine T_pad ?_
     refine T_pad ?_
     refine T_pad ?_
     refine T_pad ?_
     refine T_regionPh 6 6 mixed rfl (by kernel_rfl) ?_
     refine pa tb [0, 2] 4 rfl (by kernel_rfl) rfl ?_
     refine t1 1 (by kernel_rfl) rfl rfl (TOp_lit (nn := 0) (k := 1) sl31 zero3 rfl rfl rfl rfl (by decide) ?_)
     refine tmw 6 10 (by decide) (lb rfl) rfl rfl (lb rfl) rfl ?_
     refine t1 3 (by kernel_rfl) rfl rfl (TOp_appY (T := tInt) (f := tInt.enc) (xs := ([] : (List Int))) (ys := set1) tInt.len sl31 zero3 rfl bytes3 (by decide) rfl rfl rfl rfl (src_T (T := tInt) rfl) (flat_cell tInt _) h_6 ?_)
     refine tmw 6 11 (by decide) (lb rfl) rfl rfl (lb rfl) rfl ?_
     refine tae [(4, (.b 2 0)), (16, (.m [5] 0 fv4.length (tSl tInt).k)), (19, (.m [6] 0 us_5.length tInt.k))] rfl ?_
     refine TA_st (σ' := [.dead, .dead, .dead, .dead, .dead, .row (flat (tSl tInt).own fv4), .row (flat tInt.enc us_5), .dead, .dead, .dead, .dead, .dead]) rfl ?_
     refine t1 4 (by kernel_rfl) rfl rfl (TOp_ghost (E' := [(4, (.b 2 0)), (16, (.m [5] 0 fv4.length (tSl tInt).k)), (19, (.m [6] 0 us_5.length tInt.k))]) (σ' := [.dead, .dead, .dead, .dead, .dead, .row (flat (tSl tInt).own fv4), .row (flat tInt.enc us_5), .dead, .dead, .dead]) (by exact Ghost.weak (w0 10)) (TOp_litB (nn := 1) (k := 1) sl27 zero31 rfl rfl rfl rfl (by decide) ?_))
     refine TA_st (σ' := [.dead, .dead, .dead, .dead, .dead, .row (flat (tSl tInt).own fv4), .row (flat tInt.enc us_5), .dead, .dead, .dead, .box [(.m [6] 0 us_5.length tInt.k)]]) rfl ?_
     refine tmw 9 5 (by decide) (lb rfl) rfl rfl (lb rfl) rfl ?_
     refine t1 5 (by kernel_rfl) rfl rfl (TOp_boxify 9 rfl (lb rfl) (TOp_appB (T := (tSl tInt)) (xs := fv4) (v := us_5) sl27 zero31 rfl bytes31 (by decide) rfl rfl rfl rfl rfl rfl rfl rfl h_8 (lb rfl) ?_))
     refine tae [(4, (.b 2 0)), (21, .m [11] 0 (fv4.length + 1) (tSl tInt).k)] rfl ?_
     refine TA_st (σ' := [.dead, .dead, .dead, .dead, .dead, .dead, .row (flat tInt.enc us_5), .dead, .dead, .dead, .box [(.m [6] 0 us_5.length tInt.k)], .box (flat (tSl tInt).own fv4 ++ [(.m [6] 0 us_5.length tInt.k)])]) rfl ?_
     refine TA_absorbA (pr := flat (tSl tInt).own fv4) 11 0 6 rfl rfl rfl (by decide) tInt.pos (flat_len tInt.len _) (lb rfl) (lb rfl) rfl (nms_dead (nms_dead (nms_dead (nms_dead (nms_dead (nms_dead (nms_row (nms_dead (nms_dead (nms_dead (nms_box rfl (nms_box (namesA namesL_own rfl) nms_nil)))))))))))) ?_
     refine TA_st (σ' := [.dead, .dead, .dead, .dead, .dead, .dead, .dead, .dead, .dead, .dead, .box [(.m [6] 0 us_5.length tInt.k)], .box (flat (tSl tInt).own fv4 ++ [.o tInt.k (flat tInt.enc us_5)])]) rfl ?_
     refine TA_rowifyT (T := (tSl tInt)) (xs := fv4) (v := us_5) 11 rfl rfl h_8 (lb rfl) ?_
     refine TA_st (σ' := [.dead, .dead, .dead, .dead, .dead, .dead, .dead, .dead, .dead, .dead, .box [(.m [6] 0 us_5.length tInt.k)], .row (flat (tSl tInt).own us_7)]) rfl ?_
     refine TA_move 9 11 (by decide) (lb rfl) rfl rfl (lb rfl) ?_
     refine TA_env (E' := [(4, (.b 2 0)), (21, (.m [9] 0 us_7.length (tSl tInt).k))]) ⟨rfl, (congrArg (fun q => A.m [9] 0 q (tSl tInt).k) (app_len h_8)), trivial⟩ ?_
     refine TA_kill 10 (lb rfl) ?_
     refine TA_st (σ' := [.dead, .dead, .dead, .dead, .dead, .dead, .dead, .dead, .dead, .row (flat (tSl tInt).own us_7), .dead, .dead]) rfl ?_
     refine TA_nil (by kernel_rfl) ?_
     refine TA_st (σ' := [.box [(intA fv2)], .box [(sl tConflictEdge fv3)], .box [(.m [5] 0 fv4.length (tSl tInt).k)], .box [(.f 59 [(.b 0 0), (.b 1 0), (.b 2 0), (.b 3 0)])], .dead, .dead, .dead, .dead, .dead, .row (flat (tSl tInt).own us_7), .dead, .dead]) rfl ?_
     refine tmv 5 9 (by decide) (lb rfl) rfl rfl (lb rfl) ?_
     refine TA_st (σ' := [.box [(intA fv2)], .box [(sl tConflictEdge fv3)], .box [.j], .box [(.f 59 [(.b 0 0), (.b 1 0), (.b 2 0), (.b 3 0)])], .dead, .row (flat (tSl tInt).own us_7), .dead, .dead, .dead, .dead, .dead, .dead]) rfl ?_
     refine t1 6 (by kernel_rfl) rfl rfl (TOp_storeB sz27 rfl rfl rfl rfl rfl rfl rfl (by decide) (lb rfl) rfl ?_)
     refine TA_st (σ' := [.box [(intA fv2)], .box [(sl tConflictEdge fv3)], .box [(.m [5] 0 us_7.length (tSl tInt).k)], .box [(.f 59 [(.b 0 0), (.b 1 0), (.b 2 0), (.b 3 0)])], .dead, .row (flat (tSl tInt).own us_7), .dead, .dead, .dead, .dead, .dead, .dead]) rfl ?_
     refine TA_nil (by kernel_rfl) ?_
     refine T_ret ?_
     refine then_ret ?_
     obtain rfl := some_inj H
     exact end_pickX .nil rfl [0, 1, 2, 3, 4, 5] (by decide) (lb rfl) rfl (lb rfl) rfl rfl rfl rfl rfl rfl
    ·replace H := cond_f c_4 H
     refine T_skip ?_
     refine T_ret ?_
     refine then_ret ?_
     obtain rfl := some_inj H
     exact end_pickX .nil rfl [0, 1, 2, 3, 4, 5] (by decide) (lb rfl) rfl (lb rfl) rfl rfl rfl rfl rfl rfl
   ·replace H := cond_f c_1 H
    refine T_skip ?_
    refine T_seq ?_
    refine sr ?_
    obtain ⟨r_9, h_10, H⟩ := bind_inv H
    refine pv tb 1 rfl ?_
    refine TO_cons rfl (TOp_callO (call_static ent45 rfl) rfl (m_slices_Clone_Sint_int_own _ _ h_10) rfl rfl rfl ?_)
    refine toe [(0, (intA v0)), (1, (sl tInt set1)), (3, (.b 1 0)), (5, (.b 3 0)), (22, (sl tInt set1)), (23, (.m [6] 0 r_9.length tInt.k))] rfl ?_
    refine TO_st (σ' := [.box [(intA fv2)], .box [(sl tConflictEdge fv3)], .box [(.m [5] 0 fv4.length (tSl tInt).k)], .box [(.f 59 [(.b 0 0), (.b 1 0), (.b 2 0), (.b 3 0)])], .dead, .row (flat (tSl tInt).own fv4), .row (flat tInt.own r_9)]) rfl ?_
    refine pv tb 1 rfl ?_
    refine TO_cons rfl (TOp_lit (nn := 1) (k := 1) sl31 zero3 rfl rfl rfl rfl (by decide) ?_)
    refine TO_st (σ' := [.box [(intA fv2)], .box [(sl tConflictEdge fv3)], .box [(.m [5] 0 fv4.length (tSl tInt).k)], .box [(.f 59 [(.b 0 0), (.b 1 0), (.b 2 0), (.b 3 0)])], .dead, .row (flat (tSl tInt).own fv4), .row (flat tInt.own r_9), .row (flat tInt.enc ([v0] : (List Int)))]) rfl ?_
    obtain ⟨us_11, h_12, H⟩ := bind_inv H
    refine TO_cons rfl (TOp_appZ (T := tInt) (f := tInt.own) (xs := r_9) (ys := ([v0] : (List Int))) tInt.lenO sl31 zero3 rfl bytes3 (by decide) rfl rfl rfl rfl (src_mT (f := tInt.own) tInt.lenO rfl rfl (flat_cell tInt _)) (flat_cell tInt _) h_12 (lb rfl) ?_)
    refine toe [(0, (intA v0)), (1, (sl tInt set1)), (3, (.b 1 0)), (5, (.b 3 0)), (22, (sl tInt set1)), (24, (intA v0)), (25, (.m [7] 0 ([v0] : (List Int)).length tInt.k)), (26, (.m [6] 0 us_11.length tInt.k))] rfl ?_
    refine TO_st (σ' := [.box [(intA fv2)], .box [(sl tConflictEdge fv3)], .box [(.m [5] 0 fv4.length (tSl tInt).k)], .box [(.f 59 [(.b 0 0), (.b 1 0), (.b 2 0), (.b 3 0)])], .dead, .row (flat (tSl tInt).own fv4), .row (flat tInt.own us_11), .row (flat tInt.enc ([v0] : (List Int))), .dead]) rfl ?_
    refine pv tb 1 rfl ?_
    refine TO_nil ?_
    refine sr ?_
    obtain ⟨r_13, h_14, H⟩ := bind_inv H
    refine pv tb 2 rfl ?_
    refine TO_cons rfl (TOp_callB (call_static ent54 rfl) (frz_cons (frz_loose rfl) (frz_cons (frzT (T := tInt) rfl) frz_nil)).1 (frz_cons (frz_loose rfl) (frz_cons (frzT (T := tInt) rfl) frz_nil)).2 (m_impl_IsIndependent_ok _ _ _ h_14) rfl ?_)
    refine TO_nil ?_
    refine T_cond (t := r_13) rfl (fun c_15 => ?_) (fun c_15 => ?_)
    ·replace H := cond_t c_15 H
     refine T_region ?_
     refine pv tb 4 rfl ?_
     refine TO_frz1 6 (E' := [(0, (intA v0)), (1, (sl tInt set1)), (5, (.b 3 0)), (8, (sl tInt us_11)), (29, (boolA r_13)), (30, (.f 59 [(.b 0 0), (.b 1 0), (.b 2 0), (.b 3 0)])), (31, (intA v0)), (32, (intA (w64 (v0 + 1)))), (33, (sl tInt us_11))]) rfl rfl (lb rfl) ⟨(.keep rfl), (.keep rfl), (.keep rfl), fz1T, (.keep rfl), (.keep rfl), (.keep rfl), (.keep rfl), fz1T, trivial⟩ ?_
     refine TO_st (σ' := [.box [(intA fv2)], .box [(sl tConflictEdge fv3)], .box [(.m [5] 0 fv4.length (tSl tInt).k)], .box [(.f 59 [(.b 0 0), (.b 1 0), (.b 2 0), (.b 3 0)])], .dead, .row (flat (tSl tInt).own fv4), .dead, .row (flat tInt.enc ([v0] : (List Int))), .dead]) rfl ?_
     obtain ⟨r_16, h_17, H⟩ := bind_inv H
     refine TO_cons rfl (TOp_callS [0, 1, 2, 3, 5] (call_closure (caps := [(.b 0 0), (.b 1 0), (.b 2 0), (.b 3 0)]) ent59 rfl rfl) (by decide) rfl rfl rfl rfl rfl rfl (IH _ _ _ _ _ _ h_17) rfl rfl ?_)
     refine toe [(0, (intA v0)), (1, (sl tInt set1)), (5, (.b 3 0)), (8, (sl tInt us_11)), (29, (boolA r_13)), (30, (.f 59 [(.b 0 0), (.b 1 0), (.b 2 0), (.b 3 0)])), (31, (intA v0)), (32, (intA (w64 (v0 + 1)))), (33, (sl tInt us_11))] rfl ?_
     refine TO_st (σ' := [.box [(intA fv2)], .box [(sl tConflictEdge fv3)], .box [(.m [9] 0 r_16.length (tSl tInt).k)], .box [(.f 59 [(.b 0 0), (.b 1 0), (.b 2 0), (.b 3 0)])], .dead, .dead, .dead, .row (flat tInt.enc ([v0] : (List Int))), .dead, .row (flat (tSl tInt).own r_16)]) rfl ?_
     refine TO_move 5 9 (by decide) (lb rfl) rfl rfl (lb rfl) ?_
     refine toe [(0, (intA v0)), (1, (sl tInt set1)), (5, (.b 3 0)), (8, (sl tInt us_11)), (29, (boolA r_13)), (30, (.f 59 [(.b 0 0), (.b 1 0), (.b 2 0), (.b 3 0)])), (31, (intA v0)), (32, (intA (w64 (v0 + 1)))), (33, (sl tInt us_11))] rfl ?_
     refine TO_st (σ' := [.box [(intA fv2)], .box [(sl tConflictEdge fv3)], .box [(.m [5] 0 r_16.length (tSl tInt).k)], .box [(.f 59 [(.b 0 0), (.b 1 0), (.b 2 0), (.b 3 0)])], .dead, .row (flat (tSl tInt).own r_16), .dead, .row (flat tInt.enc ([v0] : (List Int))), .dead, .dead]) rfl ?_
     refine TO_nil ?_
     refine T_region ?_
     obtain ⟨r_18, h_19, H⟩ := bind_inv H
     refine pv tb 4 rfl ?_
     refine TO_cons rfl (TOp_callS [0, 1, 2, 3, 5] (call_closure (caps := [(.b 0 0), (.b 1 0), (.b 2 0), (.b 3 0)]) ent59 rfl rfl) (by decide) rfl rfl rfl rfl rfl rfl (IH _ _ _ _ _ _ h_19) rfl rfl ?_)
     refine toe [(0, (intA v0)), (1, (sl tInt set1)), (5, (.b 3 0)), (35, (.f 59 [(.b 0 0), (.b 1 0), (.b 2 0), (.b 3 0)])), (36, (intA v0)), (37, (intA (w64 (v0 + 1)))), (38, (sl tInt set1))] rfl ?_
     refine TO_st (σ' := [.box [(intA fv2)], .box [(sl tConflictEdge fv3)], .box [(.m [10] 0 r_18.length (tSl tInt).k)], .box [(.f 59 [(.b 0 0), (.b 1 0), (.b 2 0), (.b 3 0)])], .dead, .dead, .dead, .row (flat tInt.enc ([v0] : (List Int))), .dead, .dead, .row (flat (tSl tInt).own r_18)]) rfl ?_
     refine TO_move 5 10 (by decide) (lb rfl) rfl rfl (lb rfl) ?_
     refine toe [(0, (intA v0)), (1, (sl tInt set1)), (5, (.b 3 0)), (35, (.f 59 [(.b 0 0), (.b 1 0), (.b 2 0), (.b 3 0)])), (36, (intA v0)), (37, (intA (w64 (v0 + 1)))), (38, (sl tInt set1))] rfl ?_
     refine TO_st (σ' := [.box [(intA fv2)], .box [(sl tConflictEdge fv3)], .box [(.m [5] 0 r_18.length (tSl tInt).k)], .box [(.f 59 [(.b 0 0), (.b 1 0), (.b 2 0), (.b 3 0)])], .dead, .row (flat (tSl tInt).own r_18), .dead, .row (flat tInt.enc ([v0] : (List Int))), .dead, .dead, .dead]) rfl ?_
     refine TO_nil ?_
     obtain rfl := some_inj H
     exact end_pickX .nil rfl [0, 1, 2, 3, 4, 5] (by decide) (lb rfl) rfl (lb rfl) rfl rfl rfl rfl rfl rfl
    ·replace H := cond_f c_15 H
     refine T_skip ?_
     refine T_region ?_
     obtain ⟨r_20, h_21, H⟩ := bind_inv H
     refine pv tb 4 rfl ?_
     refine TO_cons rfl (TOp_callS [0, 1, 2, 3, 5] (call_closure (caps := [(.b 0 0), (.b 1 0), (.b 2 0), (.b 3 0)]) ent59 rfl rfl) (by decide) rfl rfl rfl rfl rfl rfl (IH _ _ _ _ _ _ h_21) rfl rfl ?_)
     refine toe [(0, (intA v0)), (1, (sl tInt set1)), (5, (.b 3 0)), (35, (.f 59 [(.b 0 0), (.b 1 0), (.b 2 0), (.b 3 0)])), (36, (intA v0)), (37, (intA (w64 (v0 + 1)))), (38, (sl tInt set1))] rfl ?_
     refine TO_st (σ' := [.box [(intA fv2)], .box [(sl tConflictEdge fv3)], .box [(.m [9] 0 r_20.length (tSl tInt).k)], .box [(.f 59 [(.b 0 0), (.b 1 0), (.b 2 0), (.b 3 0)])], .dead, .dead, .row (flat tInt.own us_11), .row (flat tInt.enc ([v0] : (List Int))), .dead, .row (flat (tSl tInt).own r_20)]) rfl ?_
     refine TO_move 5 9 (by decide) (lb rfl) rfl rfl (lb rfl) ?_
     refine toe [(0, (intA v0)), (1, (sl tInt set1)), (5, (.b 3 0)), (35, (.f 59 [(.b 0 0), (.b 1 0), (.b 2 0), (.b 3 0)])), (36, (intA v0)), (37, (intA (w64 (v0 + 1)))), (38, (sl tInt set1))] rfl ?_
     refine TO_st (σ' := [.box [(intA fv2)], .box [(sl tConflictEdge fv3)], .box [(.m [5] 0 r_20.length (tSl tInt).k)], .box [(.f 59 [(.b 0 0), (.b 1 0), (.b 2 0), (.b 3 0)])], .dead, .row (flat (tSl tInt).own r_20), .row (flat tInt.own us_11), .row (flat tInt.enc ([v0] : (List Int))), .dead, .dead]) rfl ?_
     refine TO_nil ?_
     obtain rfl := some_inj H
     exact end_pickX .nil rfl [0, 1, 2, 3, 4, 5] (by decide) (lb rfl) rfl (lb rfl) rfl rfl rfl rfl rfl rfl

set_option maxHeartbeats 1000000 in
theorem m_impl_MaximalIndependentSets_own (u : Nat) (n0 : Int) (edges1 : (List ConflictEdge)) (r : (List (List Int))) (H : m_impl_MaximalIndependentSets u n0 edges1 = some r) : FnO prg 34 [(intA n0), (sl tConflictEdge edges1)] (.m [0] 0 r.length (tSl tInt).k) [.row (flat (tSl tInt).own r)] := by
  unfold m_impl_MaximalIndependentSets at H
  refine fnO_of_T Tryz.func34 rfl rfl (Nat.le_of_ble_eq_true rfl) ?_
  refine te [(0, (intA n0)), (1, (sl tConflictEdge edges1))] rfl ?_
  refine sr ?_
  refine TO_cons rfl (TOp_box rfl (boxAll rfl) rfl rfl ?_)
  refine TO_cons rfl (TOp_box rfl (boxAll rfl) rfl rfl ?_)
  refine pv tb 1 rfl ?_
  refine TO_nil ?_
  refine T_seq ?_
  refine sr ?_
  obtain ⟨r_1, h_2, H⟩ := bind_inv H
  refine pv tb 2 rfl ?_
  refine TO_cons rfl (TOp_callV (call_static ent38 rfl) (m_impl_AreValidEdges_ok _ _ _ h_2) rfl rfl rfl ?_)
  refine pv tb 1 rfl ?_
  refine TO_nil ?_
  refine T_cond (t := (!r_1)) rfl (fun c_3 => ?_) (fun c_3 => ?_)
  ·replace H := cond_t c_3 H
   refine sr ?_
   refine pv tb 1 rfl ?_
   refine TO_nil ?_
   refine T_row0 ?_
   refine T_envL (E' := [(4, (.m [2] 0 ([] : (List (List Int))).length (tSl tInt).k))]) ⟨leM, trivial⟩ ?_
   refine T_st (σ' := [.box [(intA n0)], .box [(sl tConflictEdge edges1)], .row (flat (tSl tInt).own ([] : (List (List Int))))]) rfl ?_
   refine T_ret ?_
   refine then_ret ?_
   obtain rfl := some_inj H
   exact end_pick (.tmp .nil) rfl [2] (by decide) rfl rfl rfl rfl rfl rfl
  ·replace H := cond_f c_3 H
   refine T_skip ?_
   refine sr ?_
   refine TO_cons rfl (TOp_lit (nn := 0) (k := 1) sl27 zero31 rfl rfl rfl rfl (by decide) ?_)
   refine TO_st (σ' := [.box [(intA n0)], .box [(sl tConflictEdge edges1)], .row (flat (tSl tInt).own ([] : (List (List Int))))]) rfl ?_
   refine TO_cons rfl (TOp_alloc zero27 rfl rfl ?_)
   refine TO_cons rfl (TOp_storeB sz27 rfl rfl rfl rfl rfl rfl rfl (by decide) (lb rfl) rfl ?_)
   refine TO_st (σ' := [.box [(intA n0)], .box [(sl tConflictEdge edges1)], .row (flat (tSl tInt).own ([] : (List (List Int)))), .box [(.m [2] 0 ([] : (List (List Int))).length (tSl tInt).k)]]) rfl ?_
   refine TO_nil ?_
   refine sr ?_
   refine TO_cons rfl (TOp_alloc zero74 rfl rfl ?_)
   refine TO_nil ?_
   refine sr ?_
   refine pv tb 1 rfl ?_
   refine TO_cons rfl (TOp_storeB sz74 rfl rfl rfl rfl rfl rfl rfl (by decide) (lb rfl) rfl ?_)
   refine TO_st (σ' := [.box [(intA n0)], .box [(sl tConflictEdge edges1)], .row (flat (tSl tInt).own ([] : (List (List Int)))), .box [(.m [2] 0 ([] : (List (List Int))).length (tSl tInt).k)], .box [(.f 59 [(.b 0 0), (.b 1 0), (.b 3 0), (.b 4 0)])]]) rfl ?_
   refine TO_nil ?_
   refine sr ?_
   obtain ⟨r_4, h_5, H⟩ := bind_inv H
   refine pv tb 1 rfl ?_
   refine TO_cons rfl (TOp_callS [0, 1, 3, 4, 2] (CallOp.le (call_closure (caps := [(.b 0 0), (.b 1 0), (.b 3 0), (.b 4 0)]) ent59 rfl rfl) (leCons (leR rfl) (leCons leN (leCons (leR rfl) (leCons (leR rfl) (leCons (leR rfl) (leCons (leR rfl) leNil))))))) (by decide) rfl rfl rfl rfl rfl rfl (m_impl_MaximalIndependentSets_1_c u _ _ _ _ _ _ h_5) rfl rfl ?_)
   refine toe [(5, (.b 3 0)), (6, (.b 4 0)), (13, (.f 59 [(.b 0 0), (.b 1 0), (.b 3 0), (.b 4 0)]))] rfl ?_
   refine TO_st (σ' := [.box [(intA n0)], .box [(sl tConflictEdge edges1)], .dead, .box [(.m [5] 0 r_4.length (tSl tInt).k)], .box [(.f 59 [(.b 0 0), (.b 1 0), (.b 3 0), (.b 4 0)])], .row (flat (tSl tInt).own r_4)]) rfl ?_
   refine TO_move 2 5 (by decide) (lb rfl) rfl rfl (lb rfl) ?_
   refine toe [(5, (.b 3 0)), (6, (.b 4 0)), (13, (.f 59 [(.b 0 0), (.b 1 0), (.b 3 0), (.b 4 0)]))] rfl ?_
   refine TO_st (σ' := [.box [(intA n0)], .box [(sl tConflictEdge edges1)], .row (flat (tSl tInt).own r_4), .box [(.m [2] 0 r_4.length (tSl tInt).k)], .box [(.f 59 [(.b 0 0), (.b 1 0), (.b 3 0), (.b 4 0)])], .dead]) rfl ?_
   refine TO_nil ?_
   refine sr ?_
   refine pv tb 2 rfl ?_
   refine TO_nil ?_
   refine T_ret ?_
   obtain rfl := some_inj H
   exact end_pick (.tmp .nil) rfl [2] (by decide) rfl rfl rfl rfl rfl rfl
theorem m_impl_MaximalIndependentSets_ok (u : Nat) (n0 : Int) (edges1 : (List ConflictEdge)) (r : (List (List Int))) (H : m_impl_MaximalIndependentSets u n0 edges1 = some r) : FnV prg 34 [(intA n0), (sl tConflictEdge edges1)] (sl (tSl tInt) r) := (m_impl_MaximalIndependentSets_own u n0 edges1 r H).frz (frzT (T := (tSl tInt)) rfl)

set_option maxHeartbeats 1000000 in
theorem m_impl_ParetoOptimalRepairs_own (u : Nat) (n0 : Int) (edges1 : (List ConflictEdge)) (preferences2 : (List ConflictEdge)) (r : (List (List Int))) (H : m_impl_ParetoOptimalRepairs u n0 edges1 preferences2 = some r) : FnO prg 14 [(intA n0), (sl tConflictEdge edges1), (sl tConflictEdge preferences2)] (.m [0] 0 r.length (tSl tInt).k) [.row (flat (tSl tInt).own r)] := by
  unfold m_impl_ParetoOptimalRepairs at H
  refine fnO_of_T Tryz.func14 rfl rfl (Nat.le_of_ble_eq_true rfl) ?_
  refine te [(0, (intA n0)), (1, (sl tConflictEdge edges1)), (2, (sl tConflictEdge preferences2))] rfl ?_
  refine sr ?_
  refine pv tb 1 rfl ?_
  refine TO_nil ?_
  refine sr ?_
  refine TO_cons rfl (TOp_lit (nn := 0) (k := 1) sl27 zero31 rfl rfl rfl rfl (by decide) ?_)
  refine TO_st (σ' := [.row (flat (tSl tInt).own ([] : (List (List Int))))]) rfl ?_
  refine pv tb 1 rfl ?_
  refine TO_nil ?_
  refine T_seq ?_
  refine sr ?_
  obtain ⟨r_1, h_2, H⟩ := bind_inv H
  refine pv tb 2 rfl ?_
  refine TO_cons rfl (TOp_callO (call_static ent34 rfl) rfl (m_impl_MaximalIndependentSets_own u _ _ _ h_2) rfl rfl rfl ?_)
  refine toe [(0, (intA n0)), (1, (sl tConflictEdge edges1)), (2, (sl tConflictEdge preferences2)), (7, (.m [0] 0 ([] : (List (List Int))).length (tSl tInt).k)), (11, (intA n0)), (12, (sl tConflictEdge edges1)), (13, (.m [1] 0 r_1.length (tSl tInt).k))] rfl ?_
  refine TO_st (σ' := [.row (flat (tSl tInt).own ([] : (List (List Int)))), .row (flat (tSl tInt).own r_1)]) rfl ?_
  refine Tp rfl rfl (pur_len_m sl27 rfl rfl) rfl ?_
  refine pv tb 1 rfl ?_
  refine TO_nil ?_
  obtain ⟨O4_, L4_, N4_⟩ := bind_inv H
  clear H
  obtain ⟨B4_, hb4, L4_⟩ := gen_forS L4_
  refine T_block ?_
  refine T_st (σ' := [.row (flat (tSl tInt).own ([] : (List (List Int)))), .row (hideTo (0 * (tSl tInt).k) (flat (tSl tInt).own r_1))]) (by rw [Nat.zero_mul, hideTo_zero]) ?_
  refine T_loopX (fun k => fun (⟨t_3, out7⟩ : Nat × (List (List Int))) => k = r_1.length - t_3 ∧ forS B4_ (r_1.drop t_3) (t_3 : Int) out7 = some O4_) (fun (⟨t_3, out7⟩ : Nat × (List (List Int))) => [(0, (intA n0)), (1, (sl tConflictEdge edges1)), (2, (sl tConflictEdge preferences2)), (7, (.m [0] 0 out7.length (tSl tInt).k)), (13, (.m [1] 0 r_1.length (tSl tInt).k)), (14, (intA (r_1.length : Int))), (15, (intA (t_3 : Int)))]) (fun (⟨t_3, out7⟩ : Nat × (List (List Int))) => [.row (flat (tSl tInt).own out7), .row (hideTo (t_3 * (tSl tInt).k) (flat (tSl tInt).own r_1))]) _ (0, ([] : (List (List Int)))) (w0 2) ⟨rfl, L4_⟩ ?_
  rintro _ ⟨t_3, out7⟩ ⟨rfl, L4_⟩
  refine T_fact (len_m (.tmp 13) rfl) (fun hl4 => ?_)
  refine sr ?_
  refine pv tb 1 rfl ?_
  refine TO_nil ?_
  refine T_seq ?_
  refine T_cond (t := decide ((t_3 : Int) < (r_1.length : Int))) rfl (fun d4 => ?_) (fun d4 => ?_)
  ·replace d4 := of_decide_eq_true d4
   obtain ⟨x_t_3, hx_t_3⟩ : ∃ v, (r_1)[t_3]? = some v := ⟨_, List.getElem?_eq_getElem (by omega)⟩
   obtain ⟨C4_, H, K4_⟩ := forS_step L4_ hx_t_3
   rw [hb4] at H
   refine T_skip ?_
   refine T_seq ?_
   refine T_block ?_
   refine sr ?_
   refine Tp rfl rfl (pur_ixM (T := (tSl tInt)) sl27 rfl rfl rfl hx_t_3 rfl) rfl ?_
   refine Tp rfl rfl (pur_ldG (T := (tSl tInt)) (i := t_3) (off := 0) rfl one31 rfl rfl rfl (Nat.le_refl _) hx_t_3 rfl cellVal_sl) rfl ?_
   refine TO_gh (E' := [(0, (intA n0)), (1, (sl tConflictEdge edges1)), (2, (sl tConflictEdge preferences2)), (7, (.m [0] 0 out7.length (tSl tInt).k)), (13, (.m [1] 0 r_1.length (tSl tInt).k)), (14, (intA (r_1.length : Int))), (15, (intA (t_3 : Int))), (18, (.m [2] 0 x_t_3.length tInt.k))]) (Ghost.detT (T := (tSl tInt)) (T2 := tInt) (s := 1) (c := t_3 * (tSl tInt).k) (i := t_3) (off := 0) (xs := r_1) (v := x_t_3) (ys := x_t_3) rfl hx_t_3 (by omega) rfl (by exact lb rfl) ⟨.r _, .r _, .r _, .r _, .r _, .r _, .r _, .m _ _ _, trivial⟩) ?_
   refine TO_st (σ' := [.row (flat (tSl tInt).own out7), .row (hideTo (t_3 * (tSl tInt).k + 0 + 1) (flat (tSl tInt).own r_1)), .row (flat tInt.own x_t_3)]) rfl ?_
   refine pv tb 1 rfl ?_
   refine TO_nil ?_
   refine sr ?_
   obtain ⟨r_5, h_6, H⟩ := bind_inv H
   refine pv tb 4 rfl ?_
   refine TO_cons rfl (TOp_callB (call_static ent11 rfl) (frz_cons (frz_loose rfl) (frz_cons (frz_loose rfl) (frz_cons (frz_loose rfl) (frz_cons (frzT (T := tInt) rfl) frz_nil)))).1 (frz_cons (frz_loose rfl) (frz_cons (frz_loose rfl) (frz_cons (frz_loose rfl) (frz_cons (frzT (T := tInt) rfl) frz_nil)))).2 (m_impl_IsParetoOptimal_ok u _ _ _ _ _ h_6) rfl ?_)
   refine TO_nil ?_
   refine T_cond (t := r_5) rfl (fun c_7 => ?_) (fun c_7 => ?_)
   ·replace H := cond_t c_7 H
    refine T_region ?_
    refine pv tb 2 rfl ?_
    refine TO_cons rfl (TOp_litB (nn := 1) (k := 1) sl27 zero31 rfl rfl rfl rfl (by decide) ?_)
    refine TO_st (σ' := [.row (flat (tSl tInt).own out7), .row (hideTo (t_3 * (tSl tInt).k + 0 + 1) (flat (tSl tInt).own r_1)), .row (flat tInt.own x_t_3), .box [(.m [2] 0 x_t_3.length tInt.k)]]) rfl ?_
    refine TO_boxify 0 rfl (lb rfl) ?_
    obtain ⟨us_8, h_9, H⟩ := bind_inv H
    refine TO_cons rfl (TOp_appB (T := (tSl tInt)) (xs := out7) (v := x_t_3) sl27 zero31 rfl bytes31 (by decide) rfl rfl rfl rfl rfl rfl rfl rfl h_9 (lb rfl) ?_)
    refine toe [(0, (intA n0)), (1, (sl tConflictEdge edges1)), (2, (sl tConflictEdge preferences2)), (13, (.m [1] 0 r_1.length (tSl tInt).k)), (14, (intA (r_1.length : Int))), (15, (intA (t_3 : Int))), (23, (boolA r_5)), (27, .m [4] 0 (out7.length + 1) (tSl tInt).k)] rfl ?_
    refine TO_st (σ' := [.dead, .row (hideTo (t_3 * (tSl tInt).k + 0 + 1) (flat (tSl tInt).own r_1)), .row (flat tInt.own x_t_3), .box [(.m [2] 0 x_t_3.length tInt.k)], .box (flat (tSl tInt).own out7 ++ [(.m [2] 0 x_t_3.length tInt.k)])]) rfl ?_
    refine TO_absorbA (pr := flat (tSl tInt).own out7) 4 0 2 rfl rfl rfl (by decide) tInt.pos (flat_len tInt.lenO _) (lb rfl) (lb rfl) rfl (nms_dead (nms_row (nms_row (nms_box rfl (nms_box (namesA namesL_own rfl) nms_nil))))) ?_
    refine TO_st (σ' := [.dead, .row (hideTo (t_3 * (tSl tInt).k + 0 + 1) (flat (tSl tInt).own r_1)), .dead, .box [(.m [2] 0 x_t_3.length tInt.k)], .box (flat (tSl tInt).own out7 ++ [.o tInt.k (flat tInt.own x_t_3)])]) rfl ?_
    refine TO_rowifyT (T := (tSl tInt)) (xs := out7) (v := x_t_3) 4 rfl rfl h_9 (lb rfl) ?_
    refine TO_st (σ' := [.dead, .row (hideTo (t_3 * (tSl tInt).k + 0 + 1) (flat (tSl tInt).own r_1)), .dead, .box [(.m [2] 0 x_t_3.length tInt.k)], .row (flat (tSl tInt).own us_8)]) rfl ?_
    refine TO_move 0 4 (by decide) (lb rfl) rfl rfl (lb rfl) ?_
    refine TO_env (E' := [(0, (intA n0)), (1, (sl tConflictEdge edges1)), (2, (sl tConflictEdge preferences2)), (13, (.m [1] 0 r_1.length (tSl tInt).k)), (14, (intA (r_1.length : Int))), (15, (intA (t_3 : Int))), (23, (boolA r_5)), (27, (.m [0] 0 us_8.length (tSl tInt).k))]) ⟨rfl, rfl, rfl, rfl, rfl, rfl, rfl, (congrArg (fun q => A.m [0] 0 q (tSl tInt).k) (app_len h_9)), trivial⟩ ?_
    refine TO_kill 3 (lb rfl) ?_
    refine TO_st (σ' := [.row (flat (tSl tInt).own us_8), .row (hideTo (t_3 * (tSl tInt).k + 0 + 1) (flat (tSl tInt).own r_1)), .dead, .dead, .dead]) rfl ?_
    refine pv tb 1 rfl ?_
    refine TO_nil ?_
    refine T_gh (Ghost.hide (s := 1) (c := t_3 * (tSl tInt).k + 0 + 1) (c' := (t_3 + 1) * (tSl tInt).k) (hide_le1 (d := 0) (by decide)) rfl (by exact lb rfl)) ?_
    refine T_st (σ' := [.row (flat (tSl tInt).own us_8), .row (hideTo ((t_3 + 1) * (tSl tInt).k) (flat (tSl tInt).own r_1)), .dead, .dead, .dead]) rfl ?_
    refine T_region ?_
    refine Tp rfl rfl (pur_add rfl rfl rfl (fits64 (by omega) (by omega))) rfl ?_
    refine pv tb 1 rfl ?_
    refine TO_nil ?_
    obtain rfl := some_inj H
    exact again (r_1.length - (t_3 + 1)) (t_3 + 1, us_8) (by omega) (w0 2) ⟨rfl, K4_⟩
   ·replace H := cond_f c_7 H
    refine T_skip ?_
    refine T_gh (Ghost.hide (s := 1) (c := t_3 * (tSl tInt).k + 0 + 1) (c' := (t_3 + 1) * (tSl tInt).k) (hide_le1 (d := 0) (by decide)) rfl (by exact lb rfl)) ?_
    refine T_st (σ' := [.row (flat (tSl tInt).own out7), .row (hideTo ((t_3 + 1) * (tSl tInt).k) (flat (tSl tInt).own r_1)), .row (flat tInt.own x_t_3)]) rfl ?_
    refine T_region ?_
    refine Tp rfl rfl (pur_add rfl rfl rfl (fits64 (by omega) (by omega))) rfl ?_
    refine pv tb 1 rfl ?_
    refine TO_nil ?_
    obtain rfl := some_inj H
    exact again (r_1.length - (t_3 + 1)) (t_3 + 1, out7) (by omega) (w0 2) ⟨rfl, K4_⟩
  ·replace d4 := of_decide_eq_false d4
   obtain rfl := forS_end L4_ (by omega)
   refine T_exit ?_
   refine then_exit ?_
   refine then_exit ?_
   refine block_exit ?_
   refine T_kill 1 (lb rfl) ?_
   refine T_st (σ' := [.row (flat (tSl tInt).own out7), .dead]) rfl ?_
   replace H := N4_
   refine sr ?_
   refine pv tb 2 rfl ?_
   refine TO_nil ?_
   refine T_ret ?_
   obtain rfl := some_inj H
   exact end_pick (.tmp .nil) rfl [0] (by decide) rfl rfl rfl rfl rfl rfl
theorem m_impl_ParetoOptimalRepairs_ok (u : Nat) (n0 : Int) (edges1 : (List ConflictEdge)) (preferences2 : (List ConflictEdge)) (r : (List (List Int))) (H : m_impl_ParetoOptimalRepairs u n0 edges1 preferences2 = some r) : FnV prg 14 [(intA n0), (sl tConflictEdge edges1), (sl tConflictEdge preferences2)] (sl (tSl tInt) r) := (m_impl_ParetoOptimalRepairs_own u n0 edges1 preferences2 r H).frz (frzT (T := (tSl tInt)) rfl)

set_option maxHeartbeats 1000000 in
theorem m_laws_FnGreedyRepairs_ok (u : Nat) (code0 : (List Int)) (r : Bool) (H : m_laws_FnGreedyRepairs u code0 = some r) : FnV prg 3 [(sl (tI .u8) code0)] (boolA r) := by
  unfold m_laws_FnGreedyRepairs at H
  refine fnV_of_T Tryz.func3 rfl rfl (Nat.le_of_ble_eq_true rfl) ?_
  refine te [(0, (sl (tI .u8) code0))] rfl ?_
  refine sr ?_
  refine pv tb 1 rfl ?_
  refine TO_nil ?_
  refine T_seq ?_
  refine sr ?_
  obtain ⟨r_1, h_2, H⟩ := bind_inv H
  refine pv tb 1 rfl ?_
  refine TO_cons rfl (TOp_callV (call_static ent4 rfl) (m_laws_big_ok _ _ h_2) rfl rfl rfl ?_)
  refine TO_nil ?_
  refine T_cond (t := r_1) rfl (fun c_3 => ?_) (fun c_3 => ?_)
  ·replace H := cond_t c_3 H
   refine sr ?_
   refine pv tb 1 rfl ?_
   refine TO_nil ?_
   refine T_ret ?_
   refine then_ret ?_
   obtain rfl := some_inj H
   refine end_ret (.tmp .nil) rfl rfl ⟨?_, rfl⟩
   rfl
  ·replace H := cond_f c_3 H
   refine T_skip ?_
   refine sr ?_
   obtain ⟨r_4, h_5, H⟩ := bind_inv H
   refine pv tb 1 rfl ?_
   refine TO_cons rfl (TOp_callV (call_static ent5 rfl) (m_spec_DrawGreedyRepairs_ok u _ _ h_5) rfl rfl rfl ?_)
   refine pv tb 7 rfl ?_
   refine TO_nil ?_
   refine sr ?_
   obtain ⟨r_6, h_7, H⟩ := bind_inv H
   refine pv tb 3 rfl ?_
   refine TO_cons rfl (TOp_callV (call_static ent6 rfl) (m_impl_GreedyRepairs_ok u _ _ _ _ h_7) rfl rfl rfl ?_)
   refine pv tb 1 rfl ?_
   refine TO_nil ?_
   refine T_seq ?_
   refine sr ?_
   obtain ⟨r_8, h_9, H⟩ := bind_inv H
   refine pv tb 4 rfl ?_
   refine TO_cons rfl (TOp_callV (call_static ent8 rfl) (m_spec_GreedyRepairs_ok u _ _ _ _ h_9) rfl rfl rfl ?_)
   obtain ⟨r_10, h_11, H⟩ := bind_inv H
   refine TO_cons rfl (TOp_callV (call_static ent7 rfl) (m_laws_sameRows_ok _ _ _ h_11) rfl rfl rfl ?_)
   refine pv tb 1 rfl ?_
   refine TO_nil ?_
   refine te [(3, (intA r_4.1)), (4, (sl tConflictEdge r_4.2.1)), (5, (sl tConflictEdge r_4.2.2)), (6, (sl (tSl tInt) r_6)), (29, (boolA (!r_10)))] rfl ?_
   refine T_cond (t := (!r_10)) rfl (fun c_12 => ?_) (fun c_12 => ?_)
   ·replace H := cond_t c_12 H
    refine sr ?_
    refine pv tb 1 rfl ?_
    refine TO_nil ?_
    refine T_ret ?_
    refine then_ret ?_
    obtain rfl := some_inj H
    refine end_ret (.tmp .nil) rfl rfl ⟨?_, rfl⟩
    rfl
   ·replace H := cond_f c_12 H
    refine T_skip ?_
    refine T_seq ?_
    refine sr ?_
    obtain ⟨r_13, h_14, H⟩ := bind_inv H
    refine pv tb 3 rfl ?_
    refine TO_cons rfl (TOp_callV (call_static ent9 rfl) (m_spec_IsValidPreference_ok _ _ _ _ h_14) rfl rfl rfl ?_)
    refine pv tb 1 rfl ?_
    refine TO_nil ?_
    refine T_cond (t := (!r_13)) rfl (fun c_15 => ?_) (fun c_15 => ?_)
    ·replace H := cond_t c_15 H
     refine sr ?_
     refine pv tb 1 rfl ?_
     refine Tp rfl rfl (pur_lenT (T := (tSl tInt)) sl27 rfl rfl) rfl ?_
     refine pv tb 2 rfl ?_
     refine TO_nil ?_
     refine T_ret ?_
     refine then_ret ?_
     obtain rfl := some_inj H
     refine end_ret (.tmp .nil) rfl rfl ⟨?_, rfl⟩
     rfl
    ·replace H := cond_f c_15 H
     refine T_skip ?_
     refine sr ?_
     obtain ⟨r_16, h_17, H⟩ := bind_inv H
     refine pv tb 3 rfl ?_
     refine TO_cons rfl (TOp_callV (call_static ent10 rfl) (m_spec_GreedyRepair_ok u _ _ _ _ h_17) rfl rfl rfl ?_)
     refine pv tb 1 rfl ?_
     refine TO_nil ?_
     refine sr ?_
     refine pv tb 1 rfl ?_
     refine TO_nil ?_
     refine T_seq ?_
     refine sr ?_
     refine pv tb 1 rfl ?_
     refine TO_nil ?_
     obtain ⟨O19_, L19_, N19_⟩ := bind_inv H
     clear H
     obtain ⟨B19_, hb19, L19_⟩ := gen_forL L19_
     refine T_block ?_
     refine T_loopX (fun k => fun (⟨i_18, met8⟩ : Nat × Bool) => k = r_6.length - i_18 ∧ forL B19_ (r_6.drop i_18) (i_18 : Int) met8 = some O19_) (fun (⟨i_18, met8⟩ : Nat × Bool) => [(3, (intA r_4.1)), (4, (sl tConflictEdge r_4.2.1)), (5, (sl tConflictEdge r_4.2.2)), (6, (sl (tSl tInt) r_6)), (7, (sl tInt r_16)), (8, (boolA met8)), (9, (intA (i_18 : Int)))]) (fun (⟨i_18, met8⟩ : Nat × Bool) => []) _ (0, false) (w0 0) ⟨rfl, L19_⟩ ?_
     rintro _ ⟨i_18, met8⟩ ⟨rfl, L19_⟩
     refine T_fact (len_sl (T := (tSl tInt)) (.tmp 6) rfl) (fun hl19 => ?_)
     refine T_seq ?_
     refine sr ?_
     refine pv tb 2 rfl ?_
     refine Tp rfl rfl (pur_lenT (T := (tSl tInt)) sl27 rfl rfl) rfl ?_
     refine pv tb 1 rfl ?_
     refine TO_nil ?_
     refine T_cond (t := decide ((i_18 : Int) < (r_6.length : Int))) rfl (fun d19 => ?_) (fun d19 => ?_)
     ·replace d19 := of_decide_eq_true d19
      obtain ⟨x_i_18, hx_i_18⟩ : ∃ v, (r_6)[i_18]? = some v := ⟨_, List.getElem?_eq_getElem (by omega)⟩
      obtain ⟨C19_, H, K19_⟩ := forL_step L19_ hx_i_18
      rw [hb19] at H
      refine T_skip ?_
      refine T_seq ?_
      refine T_block ?_
      refine T_seq ?_
      refine sr ?_
      refine pv tb 5 rfl ?_
      refine Tp rfl rfl (pur_ixT (T := (tSl tInt)) sl27 rfl rfl rfl hx_i_18 rfl) rfl ?_
      refine Tp rfl rfl (pur_ldT (T := (tSl tInt)) (i := i_18) (off := 0) rfl one31 rfl rfl hx_i_18 rfl) rfl ?_
      obtain ⟨r_20, h_21, H⟩ := bind_inv H
      refine TO_cons rfl (TOp_callV (call_static ent11 rfl) (m_impl_IsParetoOptimal_ok u _ _ _ _ _ h_21) rfl rfl rfl ?_)
      refine pv tb 1 rfl ?_
      refine TO_nil ?_
      refine T_cond (t := (!r_20)) rfl (fun c_22 => ?_) (fun c_22 => ?_)
      ·replace H := cond_t c_22 H
       refine sr ?_
       refine pv tb 1 rfl ?_
       refine TO_nil ?_
       refine te [(2, (boolA false))] rfl ?_
       refine T_ret ?_
       refine then_ret ?_
       refine block_ret ?_
       refine then_ret ?_
       refine then_ret ?_
       refine block_ret ?_
       refine then_ret ?_
       obtain rfl := some_inj H
       obtain rfl := some_inj K19_
       replace H := onS_r N19_
       obtain rfl := some_inj H
       refine end_ret (.tmp .nil) rfl rfl ⟨?_, rfl⟩
       rfl
      ·replace H := cond_f c_22 H
       refine T_skip ?_
       refine T_region ?_
       refine pv tb 2 rfl ?_
       refine TO_split (t := met8) 58 rfl (fun g_23 => ?_) (fun g_23 => ?_)
       ·replace H := cond_t g_23 H
        refine pv tb 8 rfl ?_
        refine TO_nil ?_
        refine te [(3, (intA r_4.1)), (4, (sl tConflictEdge r_4.2.1)), (5, (sl tConflictEdge r_4.2.2)), (6, (sl (tSl tInt) r_6)), (7, (sl tInt r_16)), (8, (boolA true)), (9, (intA (i_18 : Int)))] rfl ?_
        refine T_region ?_
        refine pv tb 1 rfl ?_
        refine Tp rfl rfl (pur_add rfl rfl rfl (fits64 (by omega) (by omega))) rfl ?_
        refine pv tb 1 rfl ?_
        refine TO_nil ?_
        obtain rfl := some_inj H
        exact again (r_6.length - (i_18 + 1)) (i_18 + 1, true) (by omega) (w0 0) ⟨rfl, K19_⟩
       ·replace H := cond_f g_23 H
        refine pv tb 2 rfl ?_
        refine TO_on rfl rfl (by decide) rfl rfl (TOp_pure (pur_ixT (T := (tSl tInt)) sl27 rfl rfl rfl hx_i_18 rfl) rfl ?_)
        refine TO_on rfl rfl (by decide) rfl rfl (TOp_pure (pur_ldT (T := (tSl tInt)) (i := i_18) (off := 0) rfl one31 rfl rfl hx_i_18 rfl) rfl ?_)
        obtain ⟨r_24, h_25, H⟩ := bind_inv H
        refine pv tb 1 rfl ?_
        refine TO_on rfl rfl (by decide) rfl rfl (TOp_callV (call_static ent12 rfl) (m_laws_sameInts_ok _ _ _ h_25) rfl rfl rfl ?_)
        refine pv tb 2 rfl ?_
        refine TO_nil ?_
        refine te [(3, (intA r_4.1)), (4, (sl tConflictEdge r_4.2.1)), (5, (sl tConflictEdge r_4.2.2)), (6, (sl (tSl tInt) r_6)), (7, (sl tInt r_16)), (8, (boolA r_24)), (9, (intA (i_18 : Int)))] rfl ?_
        refine T_region ?_
        refine pv tb 1 rfl ?_
        refine Tp rfl rfl (pur_add rfl rfl rfl (fits64 (by omega) (by omega))) rfl ?_
        refine pv tb 1 rfl ?_
        refine TO_nil ?_
        obtain rfl := some_inj H
        exact again (r_6.length - (i_18 + 1)) (i_18 + 1, r_24) (by omega) (w0 0) ⟨rfl, K19_⟩
     ·replace d19 := of_decide_eq_false d19
      obtain rfl := forL_end L19_ (by omega)
      refine T_exit ?_
      refine then_exit ?_
      refine then_exit ?_
      refine block_exit ?_
      replace H := onS_l N19_
      refine sr ?_
      refine pv tb 2 rfl ?_
      refine TO_cons rfl (TOp_lit (nn := 0) (k := 2) sl24 zero45 rfl rfl rfl rfl (by decide) ?_)
      refine TO_st (σ' := [.row (flat tConflictEdge.enc ([] : (List ConflictEdge)))]) rfl ?_
      refine TO_frz1 0 (E' := [(3, (intA r_4.1)), (4, (sl tConflictEdge r_4.2.1)), (8, (boolA met8)), (66, (intA r_4.1)), (67, (sl tConflictEdge r_4.2.1)), (68, (sl tConflictEdge ([] : (List ConflictEdge))))]) rfl rfl (lb rfl) ⟨(.keep rfl), (.keep rfl), (.keep rfl), (.keep rfl), (.keep rfl), fz1E, trivial⟩ ?_
      refine TO_st (σ' := [.dead]) rfl ?_
      obtain ⟨r_26, h_27, H⟩ := bind_inv H
      refine TO_cons rfl (TOp_callV (call_static ent6 rfl) (m_impl_GreedyRepairs_ok u _ _ _ _ h_27) rfl rfl rfl ?_)
      refine pv tb 1 rfl ?_
      refine TO_nil ?_
      obtain ⟨t2_28, J_28, H_29⟩ := bind_inv H
      refine T_cutX (fun x => t2_28 = x) (fun (t2_28 : Bool) => [(2, (boolA t2_28))]) (fun (t2_28 : Bool) => []) ?_ ?_
      ·replace H := J_28
       refine T_region ?_
       refine pv tb 2 rfl ?_
       refine TO_split (t := met8) 71 rfl (fun g_30 => ?_) (fun g_30 => ?_)
       ·replace H := cond_t g_30 H
        refine pv tb 1 rfl ?_
        refine TO_on rfl rfl (by decide) rfl rfl (TOp_pure (pur_lenT (T := (tSl tInt)) sl27 rfl rfl) rfl ?_)
        obtain ⟨r_31, h_32, H⟩ := bind_inv H
        refine pv tb 2 rfl ?_
        refine TO_on rfl rfl (by decide) rfl rfl (TOp_callV (call_static ent13 rfl) (m_spec_MaximalIndependentSets_ok u _ _ _ h_32) rfl rfl rfl ?_)
        refine TO_on rfl rfl (by decide) rfl rfl (TOp_pure (pur_lenT (T := (tSl tInt)) sl27 rfl rfl) rfl ?_)
        refine pv tb 2 rfl ?_
        refine toe [(3, (intA r_4.1)), (4, (sl tConflictEdge r_4.2.1)), (10, (sl (tSl tInt) r_26)), (79, (boolA (decide ((r_26.length : Int) = (r_31.length : Int)))))] rfl ?_
        refine pv tb 1 rfl ?_
        refine TO_split (t := decide ((r_26.length : Int) = (r_31.length : Int))) 80 rfl (fun g_33 => ?_) (fun g_33 => ?_)
        ·replace H := cond_t g_33 H
         refine pv tb 2 rfl ?_
         refine TO_on rfl rfl (by decide) rfl rfl (TOp_lit (nn := 0) (k := 2) sl24 zero45 rfl rfl rfl rfl (by decide) ?_)
         refine TO_st (σ' := [.dead, .row (flat tConflictEdge.enc ([] : (List ConflictEdge)))]) rfl ?_
         refine TO_frz1 1 (E' := [(3, (intA r_4.1)), (4, (sl tConflictEdge r_4.2.1)), (10, (sl (tSl tInt) r_26)), (79, (boolA (decide ((r_26.length : Int) = (r_31.length : Int))))), (80, (boolA true)), (81, (intA r_4.1)), (82, (sl tConflictEdge r_4.2.1)), (83, (sl tConflictEdge ([] : (List ConflictEdge))))]) rfl rfl (lb rfl) ⟨(.keep rfl), (.keep rfl), (.keep rfl), (.keep rfl), (.keep rfl), (.keep rfl), (.keep rfl), fz1E, trivial⟩ ?_
         refine TO_st (σ' := [.dead, .dead]) rfl ?_
         obtain ⟨r_34, h_35, H⟩ := bind_inv H
         refine TO_on rfl rfl (by decide) rfl rfl (TOp_callV (call_static ent14 rfl) (m_impl_ParetoOptimalRepairs_ok u _ _ _ _ h_35) rfl rfl rfl ?_)
         refine TO_on rfl rfl (by decide) rfl rfl (TOp_pure (pur_lenT (T := (tSl tInt)) sl27 rfl rfl) rfl ?_)
         refine pv tb 1 rfl ?_
         refine TO_on rfl rfl (by decide) rfl rfl (TOp_pure (pur_lenT (T := (tSl tInt)) sl27 rfl rfl) rfl ?_)
         refine pv tb 3 rfl ?_
         refine TO_nil ?_
         exact joined (decide ((r_34.length : Int) = (r_26.length : Int))) (w0 0) (some_inj H).symm
        ·replace H := cond_f g_33 H
         refine pv tb 10 rfl ?_
         refine TO_nil ?_
         exact joined false (w0 0) (some_inj H).symm
       ·replace H := cond_f g_30 H
        refine pv tb 8 rfl ?_
        refine toe [(3, (intA r_4.1)), (4, (sl tConflictEdge r_4.2.1)), (10, (sl (tSl tInt) r_26)), (79, (boolA false))] rfl ?_
        refine pv tb 11 rfl ?_
        refine TO_nil ?_
        exact joined false (w0 0) (some_inj H).symm
      ·rintro _ rfl
       replace H := H_29
       refine T_ret ?_
       obtain rfl := some_inj H
       refine end_ret (.tmp .nil) rfl rfl ⟨?_, rfl⟩
       rfl
end Go.Proofs.YtmecnecfkgneoaaGreat

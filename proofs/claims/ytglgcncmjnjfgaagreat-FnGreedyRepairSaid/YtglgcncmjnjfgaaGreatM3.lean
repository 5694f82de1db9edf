import Derived.Test.YtglgcncmjnjfgaaGreatM1
import Derived.Test.YtglgcncmjnjfgaaGreatM2
set_option linter.unusedVariables false
set_option linter.unusedSimpArgs false
set_option maxRecDepth 4000
namespace Go.Proofs.YtglgcncmjnjfgaaGreat
open Go Go.Proofs Go.Sep
set_option maxHeartbeats 1000000 in
theorem m_impl_without_own (a0 : (List Int)) (b1 : (List Int)) (r : (List Int)) (H : m_impl_without a0 b1 = some r) : FnO prg 68 [(sl tInt a0), (sl tInt b1)] (.m [0] 0 r.length tInt.k) [.row (flat tInt.own r)] := by
  unfold m_impl_without at H
  refine fnO_of_T Tryz.func68 rfl rfl (Nat.le_of_ble_eq_true rfl) ?_
  refine te [(0, (sl tInt a0)), (1, (sl tInt b1))] rfl ?_
  refine sr ?_
  refine pv tb 1 rfl ?_
  refine TO_nil ?_
  refine sr ?_
  refine TO_cons rfl (TOp_lit (nn := 0) (k := 1) sl31 zero3 rfl rfl rfl rfl (by decide) ?_)
  refine TO_st (σ' := [.row (flat tInt.enc ([] : (List Int)))]) rfl ?_
  refine pv tb 1 rfl ?_
  refine TO_nil ?_
  refine T_seq ?_
  refine sr ?_
  refine pv tb 1 rfl ?_
  refine Tp rfl rfl (pur_lenT (T := tInt) sl31 rfl rfl) rfl ?_
  refine pv tb 1 rfl ?_
  refine TO_nil ?_
  obtain ⟨O2_, L2_, N2_⟩ := bind_inv H
  clear H
  obtain ⟨B2_, hb2, L2_⟩ := gen_forS L2_
  refine T_block ?_
  refine T_loopX (fun k => fun (⟨t_1, out5⟩ : Nat × (List Int)) => k = a0.length - t_1 ∧ forS B2_ (a0.drop t_1) (t_1 : Int) out5 = some O2_) (fun (⟨t_1, out5⟩ : Nat × (List Int)) => [(1, (sl tInt b1)), (5, (.m [0] 0 out5.length tInt.k)), (9, (sl tInt a0)), (10, (intA (a0.length : Int))), (11, (intA (t_1 : Int)))]) (fun (⟨t_1, out5⟩ : Nat × (List Int)) => [.row (flat tInt.enc out5)]) _ (0, ([] : (List Int))) (w0 1) ⟨rfl, L2_⟩ ?_
  rintro _ ⟨t_1, out5⟩ ⟨rfl, L2_⟩
  refine T_fact (len_sl (T := tInt) (.tmp 9) rfl) (fun hl2 => ?_)
  refine sr ?_
  refine pv tb 1 rfl ?_
  refine TO_nil ?_
  refine T_seq ?_
  refine T_cond (t := decide ((t_1 : Int) < (a0.length : Int))) rfl (fun d2 => ?_) (fun d2 => ?_)
  ·replace d2 := of_decide_eq_true d2
   obtain ⟨x_t_1, hx_t_1⟩ : ∃ v, (a0)[t_1]? = some v := ⟨_, List.getElem?_eq_getElem (by omega)⟩
   obtain ⟨C2_, H, K2_⟩ := forS_step L2_ hx_t_1
   rw [hb2] at H
   refine T_skip ?_
   refine T_seq ?_
   refine T_block ?_
   refine sr ?_
   refine Tp rfl rfl (pur_ixT (T := tInt) sl31 rfl rfl rfl hx_t_1 rfl) rfl ?_
   refine Tp rfl rfl (pur_ldT (T := tInt) (i := t_1) (off := 0) rfl one3 rfl rfl hx_t_1 rfl) rfl ?_
   refine pv tb 1 rfl ?_
   refine TO_nil ?_
   refine sr ?_
   obtain ⟨r_3, h_4, H⟩ := bind_inv H
   refine pv tb 2 rfl ?_
   refine TO_cons rfl (TOp_callV (call_static ent32 rfl) (m_slices_Contains_Sint_int_ok _ _ _ h_4) rfl rfl rfl ?_)
   refine pv tb 1 rfl ?_
   refine TO_nil ?_
   refine T_cond (t := (!r_3)) rfl (fun c_5 => ?_) (fun c_5 => ?_)
   ·replace H := cond_t c_5 H
    refine T_region ?_
    refine pv tb 2 rfl ?_
    refine TO_cons rfl (TOp_lit (nn := 1) (k := 1) sl31 zero3 rfl rfl rfl rfl (by decide) ?_)
    refine TO_st (σ' := [.row (flat tInt.enc out5), .row (flat tInt.enc ([x_t_1] : (List Int)))]) rfl ?_
    obtain ⟨us_6, h_7, H⟩ := bind_inv H
    refine TO_cons rfl (TOp_appZ (T := tInt) (f := tInt.enc) (xs := out5) (ys := ([x_t_1] : (List Int))) tInt.len sl31 zero3 rfl bytes3 (by decide) rfl rfl rfl rfl (src_mT (f := tInt.enc) tInt.len rfl rfl (flat_cell tInt _)) (flat_cell tInt _) h_7 (lb rfl) ?_)
    refine toe [(1, (sl tInt b1)), (7, (intA x_t_1)), (9, (sl tInt a0)), (10, (intA (a0.length : Int))), (11, (intA (t_1 : Int))), (18, (boolA (!r_3))), (20, (intA x_t_1)), (21, (.m [1] 0 ([x_t_1] : (List Int)).length tInt.k)), (22, (.m [0] 0 us_6.length tInt.k))] rfl ?_
    refine TO_st (σ' := [.row (flat tInt.enc us_6), .row (flat tInt.enc ([x_t_1] : (List Int))), .dead]) rfl ?_
    refine pv tb 1 rfl ?_
    refine TO_nil ?_
    refine T_region ?_
    refine Tp rfl rfl (pur_add rfl rfl rfl (fits64 (by omega) (by omega))) rfl ?_
    refine pv tb 1 rfl ?_
    refine TO_nil ?_
    obtain rfl := some_inj H
    exact again (a0.length - (t_1 + 1)) (t_1 + 1, us_6) (by omega) (w0 1) ⟨rfl, K2_⟩
   ·replace H := cond_f c_5 H
    refine T_skip ?_
    refine T_region ?_
    refine Tp rfl rfl (pur_add rfl rfl rfl (fits64 (by omega) (by omega))) rfl ?_
    refine pv tb 1 rfl ?_
    refine TO_nil ?_
    obtain rfl := some_inj H
    exact again (a0.length - (t_1 + 1)) (t_1 + 1, out5) (by omega) (w0 1) ⟨rfl, K2_⟩
  ·replace d2 := of_decide_eq_false d2
   obtain rfl := forS_end L2_ (by omega)
   refine T_exit ?_
   refine then_exit ?_
   refine then_exit ?_
   refine block_exit ?_
   replace H := N2_
   refine sr ?_
   refine pv tb 2 rfl ?_
   refine TO_nil ?_
   refine T_ret ?_
   obtain rfl := some_inj H
   exact end_pick (.tmp .nil) rfl [0] (by decide) rfl rfl rfl rfl rfl rfl
theorem m_impl_without_ok (a0 : (List Int)) (b1 : (List Int)) (r : (List Int)) (H : m_impl_without a0 b1 = some r) : FnV prg 68 [(sl tInt a0), (sl tInt b1)] (sl tInt r) := (m_impl_without_own a0 b1 r H).frz (frzT (T := tInt) rfl)

set_option maxHeartbeats 1000000 in
theorem m_impl_areAcyclic_ok (u : Nat) (n0 : Int) (preferences1 : (List ConflictEdge)) (r : Bool) (H : m_impl_areAcyclic u n0 preferences1 = some r) : FnV prg 42 [(intA n0), (sl tConflictEdge preferences1)] (boolA r) := by
  unfold m_impl_areAcyclic at H
  refine fnV_of_T Tryz.func42 rfl rfl (Nat.le_of_ble_eq_true rfl) ?_
  refine te [(0, (intA n0)), (1, (sl tConflictEdge preferences1))] rfl ?_
  refine sr ?_
  refine pv tb 1 rfl ?_
  refine TO_nil ?_
  refine sr ?_
  refine TO_cons rfl (TOp_lit (nn := 0) (k := 1) sl31 zero3 rfl rfl rfl rfl (by decide) ?_)
  refine TO_st (σ' := [.row (flat tInt.enc ([] : (List Int)))]) rfl ?_
  refine pv tb 1 rfl ?_
  refine TO_nil ?_
  refine T_seq ?_
  refine sr ?_
  refine pv tb 2 rfl ?_
  refine TO_nil ?_
  obtain ⟨_, h_3, H⟩ := bind_inv H
  replace h_3 := gN_inv h_3
  obtain ⟨O2_, L2_, N2_⟩ := bind_inv H
  clear H
  obtain ⟨B2_, hb2, L2_⟩ := gen_forM L2_
  refine T_block ?_
  refine T_loopX (fun k => fun (⟨t_1, left5⟩ : Int × (List Int)) => k = (n0 - t_1).toNat ∧ 0 ≤ t_1 ∧ forM B2_ (n0 - t_1).toNat t_1 left5 = some O2_) (fun (⟨t_1, left5⟩ : Int × (List Int)) => [(1, (sl tConflictEdge preferences1)), (5, (.m [0] 0 left5.length tInt.k)), (9, (intA n0)), (10, (intA (t_1 : Int)))]) (fun (⟨t_1, left5⟩ : Int × (List Int)) => [.row (flat tInt.enc left5)]) _ (0, ([] : (List Int))) (w0 1) ⟨rfl, Int.le_refl _, L2_⟩ ?_
  rintro _ ⟨t_1, left5⟩ ⟨rfl, hi2, L2_⟩
  refine sr ?_
  refine pv tb 1 rfl ?_
  refine TO_nil ?_
  refine T_seq ?_
  refine T_cond (t := decide ((t_1 : Int) < n0)) rfl (fun d2 => ?_) (fun d2 => ?_)
  ·replace d2 := of_decide_eq_true d2
   obtain ⟨C2_, H, K2_⟩ := forM_step L2_ d2
   rw [hb2] at H
   refine T_skip ?_
   refine T_seq ?_
   refine T_block ?_
   refine sr ?_
   refine pv tb 2 rfl ?_
   refine TO_nil ?_
   refine T_region ?_
   refine pv tb 2 rfl ?_
   refine TO_cons rfl (TOp_lit (nn := 1) (k := 1) sl31 zero3 rfl rfl rfl rfl (by decide) ?_)
   refine TO_st (σ' := [.row (flat tInt.enc left5), .row (flat tInt.enc ([(t_1 : Int)] : (List Int)))]) rfl ?_
   obtain ⟨us_4, h_5, H⟩ := bind_inv H
   refine TO_cons rfl (TOp_appZ (T := tInt) (f := tInt.enc) (xs := left5) (ys := ([(t_1 : Int)] : (List Int))) tInt.len sl31 zero3 rfl bytes3 (by decide) rfl rfl rfl rfl (src_mT (f := tInt.enc) tInt.len rfl rfl (flat_cell tInt _)) (flat_cell tInt _) h_5 (lb rfl) ?_)
   refine toe [(1, (sl tConflictEdge preferences1)), (6, (intA (t_1 : Int))), (9, (intA n0)), (10, (intA (t_1 : Int))), (14, (intA (t_1 : Int))), (15, (.m [1] 0 ([(t_1 : Int)] : (List Int)).length tInt.k)), (16, (.m [0] 0 us_4.length tInt.k))] rfl ?_
   refine TO_st (σ' := [.row (flat tInt.enc us_4), .row (flat tInt.enc ([(t_1 : Int)] : (List Int))), .dead]) rfl ?_
   refine pv tb 1 rfl ?_
   refine TO_nil ?_
   refine T_region ?_
   refine Tp rfl rfl (pur_add rfl rfl rfl (fits64 (by omega) (by omega))) rfl ?_
   refine pv tb 1 rfl ?_
   refine TO_nil ?_
   obtain rfl := some_inj H
   exact again (n0 - (t_1 + 1)).toNat (t_1 + 1, us_4) (by omega) (w0 1) ⟨rfl, by omega, K2_⟩
  ·replace d2 := of_decide_eq_false d2
   obtain rfl := forM_end L2_ (by omega)
   refine T_exit ?_
   refine then_exit ?_
   refine then_exit ?_
   refine block_exit ?_
   replace H := N2_
   obtain ⟨O6_, L6_, N6_⟩ := bind_inv H
   clear H
   obtain ⟨B6_, hb6, L6_⟩ := gen_whileF L6_
   refine T_cutX (fun (x : (List Int)) => O6_ = .inl x) (fun (left5 : (List Int)) => []) (fun (left5 : (List Int)) => []) ?_ ?_
   ·skip
    refine T_block ?_
    refine T_loopX (fun k => fun (left5 : (List Int)) => whileF B6_ k left5 = some O6_) (fun (left5 : (List Int)) => [(1, (sl tConflictEdge preferences1)), (5, (.m [0] 0 left5.length tInt.k))]) (fun (left5 : (List Int)) => [.row (flat tInt.enc left5)]) u left5 (w0 1) L6_ ?_
    rintro _ left5 L6_
    obtain ⟨k6, rfl, C6_, H, K6_⟩ := while_step L6_
    rw [hb6] at H
    refine T_seq ?_
    refine sr ?_
    refine pv tb 1 rfl ?_
    refine Tp rfl rfl (pur_len_m sl31 rfl rfl) rfl ?_
    refine pv tb 1 rfl ?_
    refine TO_nil ?_
    refine T_cond (t := decide (0 < (left5.length : Int))) rfl (fun c_7 => ?_) (fun c_7 => ?_)
    ·replace H := cond_t c_7 H
     refine T_skip ?_
     refine T_block ?_
     refine sr ?_
     refine pv tb 3 rfl ?_
     refine TO_frz1 0 (E' := [(1, (sl tConflictEdge preferences1)), (5, (sl tInt left5)), (21, (sl tInt left5)), (22, (sl tConflictEdge preferences1)), (23, (sl tInt left5))]) rfl rfl (lb rfl) ⟨(.keep rfl), fz1E, fz1E, (.keep rfl), fz1E, trivial⟩ ?_
     refine TO_st (σ' := [.dead]) rfl ?_
     obtain ⟨r_8, h_9, H⟩ := bind_inv H
     refine TO_cons rfl (TOp_callV (call_static ent51 rfl) (m_impl_undominated_ok _ _ _ h_9) rfl rfl rfl ?_)
     obtain ⟨r_10, h_11, H⟩ := bind_inv H
     refine TO_cons rfl (TOp_callO (call_static ent68 rfl) rfl (m_impl_without_own _ _ _ h_11) rfl rfl rfl ?_)
     refine toe [(1, (sl tConflictEdge preferences1)), (5, (sl tInt left5)), (21, (sl tInt left5)), (22, (sl tConflictEdge preferences1)), (23, (sl tInt left5)), (24, (sl tInt r_8)), (25, (.m [1] 0 r_10.length tInt.k))] rfl ?_
     refine TO_st (σ' := [.dead, .row (flat tInt.own r_10)]) rfl ?_
     refine pv tb 1 rfl ?_
     refine TO_nil ?_
     refine T_seq ?_
     refine sr ?_
     refine pv tb 1 rfl ?_
     refine Tp rfl rfl (pur_len_m sl31 rfl rfl) rfl ?_
     refine pv tb 1 rfl ?_
     refine Tp rfl rfl (pur_lenT (T := tInt) sl31 rfl rfl) rfl ?_
     refine pv tb 1 rfl ?_
     refine TO_nil ?_
     refine T_cond (t := decide ((r_10.length : Int) = (left5.length : Int))) rfl (fun c_12 => ?_) (fun c_12 => ?_)
     ·replace H := cond_t c_12 H
      refine sr ?_
      refine pv tb 1 rfl ?_
      refine TO_nil ?_
      refine T_ret ?_
      refine then_ret ?_
      refine block_ret ?_
      refine then_ret ?_
      refine block_ret ?_
      refine then_ret ?_
      obtain rfl := some_inj H
      obtain rfl := some_inj K6_
      replace H := onS_r N6_
      obtain rfl := some_inj H
      refine end_ret (.tmp .nil) rfl rfl ⟨?_, rfl⟩
      rfl
     ·replace H := cond_f c_12 H
      refine T_skip ?_
      refine T_region ?_
      refine pv tb 2 rfl ?_
      refine TO_move 0 1 (by decide) (lb rfl) rfl rfl (lb rfl) ?_
      refine toe [(1, (sl tConflictEdge preferences1)), (5, (.m [0] 0 r_10.length tInt.k)), (7, (.m [0] 0 r_10.length tInt.k)), (31, (.m [0] 0 r_10.length tInt.k))] rfl ?_
      refine TO_st (σ' := [.row (flat tInt.own r_10), .dead]) rfl ?_
      refine TO_nil ?_
      obtain rfl := some_inj H
      exact again k6 r_10 (Nat.lt_succ_self _) (w0 1) K6_
    ·replace H := cond_f c_7 H
     refine T_exit ?_
     refine then_exit ?_
     refine then_exit ?_
     refine block_exit ?_
     obtain rfl := some_inj H
     obtain rfl := some_inj K6_
     exact joined left5 (w0 0) rfl
   ·rintro left5 rfl
    replace H := onS_l N6_
    refine sr ?_
    refine pv tb 1 rfl ?_
    refine TO_nil ?_
    refine T_ret ?_
    obtain rfl := some_inj H
    refine end_ret (.tmp .nil) rfl rfl ⟨?_, rfl⟩
    rfl

set_option maxHeartbeats 1000000 in
theorem m_impl_IsValidPreference_ok (u : Nat) (n0 : Int) (edges1 : (List ConflictEdge)) (preferences2 : (List ConflictEdge)) (r : Bool) (H : m_impl_IsValidPreference u n0 edges1 preferences2 = some r) : FnV prg 18 [(intA n0), (sl tConflictEdge edges1), (sl tConflictEdge preferences2)] (boolA r) := by
  unfold m_impl_IsValidPreference at H
  refine fnV_of_T Tryz.func18 rfl rfl (Nat.le_of_ble_eq_true rfl) ?_
  refine te [(0, (intA n0)), (1, (sl tConflictEdge edges1)), (2, (sl tConflictEdge preferences2))] rfl ?_
  refine sr ?_
  refine pv tb 1 rfl ?_
  refine TO_nil ?_
  refine T_seq ?_
  refine sr ?_
  obtain ⟨r_1, h_2, H⟩ := bind_inv H
  refine pv tb 2 rfl ?_
  refine TO_cons rfl (TOp_callV (call_static ent40 rfl) (m_impl_AreValidEdges_ok _ _ _ h_2) rfl rfl rfl ?_)
  refine pv tb 1 rfl ?_
  refine TO_nil ?_
  refine T_cond (t := (!r_1)) rfl (fun c_3 => ?_) (fun c_3 => ?_)
  ·replace H := cond_t c_3 H
   refine sr ?_
   refine pv tb 1 rfl ?_
   refine TO_nil ?_
   refine T_ret ?_
   refine then_ret ?_
   obtain rfl := some_inj H
   refine end_ret (.tmp .nil) rfl rfl ⟨?_, rfl⟩
   rfl
  ·replace H := cond_f c_3 H
   refine T_skip ?_
   refine T_seq ?_
   refine sr ?_
   refine pv tb 1 rfl ?_
   refine Tp rfl rfl (pur_lenT (T := tConflictEdge) sl24 rfl rfl) rfl ?_
   refine pv tb 1 rfl ?_
   refine TO_nil ?_
   obtain ⟨O5_, L5_, N5_⟩ := bind_inv H
   clear H
   obtain ⟨B5_, hb5, L5_⟩ := gen_forL L5_
   refine T_block ?_
   refine T_loopX (fun k => fun (t_4 : Nat) => k = preferences2.length - t_4 ∧ forL B5_ (preferences2.drop t_4) (t_4 : Int) () = some O5_) (fun (t_4 : Nat) => [(0, (intA n0)), (1, (sl tConflictEdge edges1)), (2, (sl tConflictEdge preferences2)), (13, (sl tConflictEdge preferences2)), (14, (intA (preferences2.length : Int))), (15, (intA (t_4 : Int)))]) (fun (t_4 : Nat) => []) _ (0 : Nat) (w0 0) ⟨rfl, L5_⟩ ?_
   rintro _ t_4 ⟨rfl, L5_⟩
   refine T_fact (len_sl (T := tConflictEdge) (.tmp 2) rfl) (fun hl5 => ?_)
   refine sr ?_
   refine pv tb 1 rfl ?_
   refine TO_nil ?_
   refine T_seq ?_
   refine T_cond (t := decide ((t_4 : Int) < (preferences2.length : Int))) rfl (fun d5 => ?_) (fun d5 => ?_)
   ·replace d5 := of_decide_eq_true d5
    obtain ⟨x_t_4, hx_t_4⟩ : ∃ v, (preferences2)[t_4]? = some v := ⟨_, List.getElem?_eq_getElem (by omega)⟩
    obtain ⟨C5_, H, K5_⟩ := forL_step L5_ hx_t_4
    rw [hb5] at H
    refine T_skip ?_
    refine T_seq ?_
    refine T_block ?_
    refine sr ?_
    refine Tp rfl rfl (pur_ixT (T := tConflictEdge) sl24 rfl rfl rfl hx_t_4 rfl) rfl ?_
    refine Tp rfl rfl (pur_ldTK (T := tConflictEdge) (i := t_4) (off := 0) rfl agg45 rfl rfl hx_t_4 (by decide) rfl) rfl ?_
    refine TO_cons rfl (TOp_alloc zero45 rfl rfl ?_)
    refine TO_cons rfl (TOp_storeB sz45 rfl rfl rfl rfl rfl rfl rfl (by decide) (lb rfl) rfl ?_)
    refine TO_st (σ' := [.box [(intA x_t_4.a), (intA x_t_4.b)]]) rfl ?_
    refine TO_nil ?_
    obtain ⟨t32_6, J_6, H_7⟩ := bind_inv H
    refine T_cutX (fun x => t32_6 = x) (fun (t32_6 : Bool) => [(0, (intA n0)), (1, (sl tConflictEdge edges1)), (2, (sl tConflictEdge preferences2)), (13, (sl tConflictEdge preferences2)), (14, (intA (preferences2.length : Int))), (15, (intA (t_4 : Int))), (32, (boolA t32_6))]) (fun (t32_6 : Bool) => []) ?_ ?_
    ·replace H := J_6
     refine T_region ?_
     obtain ⟨r_8, h_9, H⟩ := bind_inv H
     refine pv tb 2 rfl ?_
     refine TO_cons rfl (TOp_callV (call_static ent41 rfl) (m_slices_Contains_Simpl_ConflictEdge_impl_ConflictEdge_ok _ _ _ h_9) rfl rfl rfl ?_)
     refine pv tb 2 rfl ?_
     refine TO_split (t := (!r_8)) 23 rfl (fun g_10 => ?_) (fun g_10 => ?_)
     ·replace H := cond_t g_10 H
      refine pv tb 5 rfl ?_
      refine TO_on rfl rfl (by decide) rfl rfl (TOp_pure (pur_build bld45 rfl rfl) rfl ?_)
      obtain ⟨r_11, h_12, H⟩ := bind_inv H
      refine TO_on rfl rfl (by decide) rfl rfl (TOp_callV (call_static ent41 rfl) (m_slices_Contains_Simpl_ConflictEdge_impl_ConflictEdge_ok _ _ _ h_12) rfl rfl rfl ?_)
      refine pv tb 2 rfl ?_
      refine TO_nil ?_
      exact joined (!r_11) (w0 0) (some_inj H).symm
     ·replace H := cond_f g_10 H
      refine pv tb 9 rfl ?_
      refine TO_nil ?_
      exact joined false (w0 0) (some_inj H).symm
    ·rintro _ rfl
     replace H := H_7
     refine T_cond (t := t32_6) rfl (fun c_13 => ?_) (fun c_13 => ?_)
     ·replace H := cond_t c_13 H
      refine sr ?_
      refine pv tb 1 rfl ?_
      refine TO_nil ?_
      refine T_ret ?_
      refine block_ret ?_
      refine then_ret ?_
      refine then_ret ?_
      refine block_ret ?_
      refine then_ret ?_
      obtain rfl := some_inj H
      obtain rfl := some_inj K5_
      replace H := onS_r N5_
      obtain rfl := some_inj H
      refine end_ret (.tmp .nil) rfl rfl ⟨?_, rfl⟩
      rfl
     ·replace H := cond_f c_13 H
      refine T_skip ?_
      refine T_region ?_
      refine Tp rfl rfl (pur_add rfl rfl rfl (fits64 (by omega) (by omega))) rfl ?_
      refine pv tb 1 rfl ?_
      refine TO_nil ?_
      obtain rfl := some_inj H
      exact again (preferences2.length - (t_4 + 1)) (t_4 + 1) (by omega) (w0 0) ⟨rfl, K5_⟩
   ·replace d5 := of_decide_eq_false d5
    obtain rfl := forL_end L5_ (by omega)
    refine T_exit ?_
    refine then_exit ?_
    refine then_exit ?_
    refine block_exit ?_
    replace H := onS_l N5_
    refine sr ?_
    obtain ⟨r_14, h_15, H⟩ := bind_inv H
    refine pv tb 2 rfl ?_
    refine TO_cons rfl (TOp_callV (call_static ent42 rfl) (m_impl_areAcyclic_ok u _ _ _ h_15) rfl rfl rfl ?_)
    refine pv tb 1 rfl ?_
    refine TO_nil ?_
    refine T_ret ?_
    obtain rfl := some_inj H
    refine end_ret (.tmp .nil) rfl rfl ⟨?_, rfl⟩
    rfl

set_option maxHeartbeats 1000000 in
theorem m_slices_Clone_Sint_int_own (s0 : (List Int)) (r : (List Int)) (H : m_slices_Clone_Sint_int s0 = some r) : FnO prg 53 [(sl tInt s0)] (.m [0] 0 r.length tInt.k) [.row (flat tInt.own r)] := by
  unfold m_slices_Clone_Sint_int at H
  refine fnO_of_T Tryz.func53 rfl rfl (Nat.le_of_ble_eq_true rfl) ?_
  refine te [(0, (sl tInt s0))] rfl ?_
  refine sr ?_
  refine pv tb 1 rfl ?_
  refine TO_nil ?_
  refine T_seq ?_
  refine sr ?_
  refine pv tb 1 rfl ?_
  refine TO_cons rfl (TOp_isnil_i Tryz.underlying31 rfl rfl rfl (fun b_1 hb_2 => ?_))
  replace hb_2 := fun h => flat_nil (T := tInt) (hb_2 h)
  refine TO_nil ?_
  refine T_cond (t := b_1) rfl (fun c_3 => ?_) (fun c_3 => ?_)
  ·obtain rfl := hb_2 c_3
   refine sr ?_
   refine pv tb 1 rfl ?_
   refine TO_nil ?_
   refine T_row0 ?_
   refine T_envL (E' := [(2, (.m [0] 0 ([] : (List Int)).length tInt.k))]) ⟨leM, trivial⟩ ?_
   refine T_st (σ' := [.row (flat tInt.own ([] : (List Int)))]) rfl ?_
   refine T_ret ?_
   refine then_ret ?_
   obtain rfl : ([] : (List Int)) = r := by simpa [app] using H
   exact end_pick (.tmp .nil) rfl [0] (by decide) rfl rfl rfl rfl rfl rfl
  ·skip
   refine T_skip ?_
   refine sr ?_
   refine TO_cons rfl (TOp_lit (nn := 0) (k := 1) sl31 zero3 rfl rfl rfl rfl (by decide) ?_)
   refine TO_st (σ' := [.row (flat tInt.enc ([] : (List Int)))]) rfl ?_
   obtain ⟨us_4, h_5, H⟩ := bind_inv H
   refine pv tb 1 rfl ?_
   refine TO_cons rfl (TOp_appZ (T := tInt) (f := tInt.enc) (xs := ([] : (List Int))) (ys := s0) tInt.len sl31 zero3 rfl bytes3 (by decide) rfl rfl rfl rfl (src_T (T := tInt) rfl) (flat_cell tInt _) h_5 (lb rfl) ?_)
   refine toe [(0, (sl tInt s0)), (6, (sl tInt s0)), (7, (.m [0] 0 us_4.length tInt.k))] rfl ?_
   refine TO_st (σ' := [.row (flat tInt.enc us_4), .dead]) rfl ?_
   refine pv tb 1 rfl ?_
   refine TO_nil ?_
   refine T_ret ?_
   obtain rfl := some_inj H
   exact end_pick (.tmp .nil) rfl [0] (by decide) rfl rfl rfl rfl rfl rfl
theorem m_slices_Clone_Sint_int_ok (s0 : (List Int)) (r : (List Int)) (H : m_slices_Clone_Sint_int s0 = some r) : FnV prg 53 [(sl tInt s0)] (sl tInt r) := (m_slices_Clone_Sint_int_own s0 r H).frz (frzT (T := tInt) rfl)

set_option maxHeartbeats 1000000 in
theorem m_slices_IndexFunc_Simpl_ConflictEdge_impl_ConflictEdge_ok (s0 : (List ConflictEdge)) (f1 : (ConflictEdge → Option Bool)) (f1_g : Nat) (f1_c : List A) (f1_E : EnT prg f1_g) (f1_l : looseL f1_c = true) (f1_m : firmL f1_c = true ∧ fzL f1_c = f1_c) (f1_H : ∀ (x0 : ConflictEdge) r, f1 x0 = some r → FnV prg f1_g ([(.g (tConflictEdge.enc x0))] ++ f1_c) (boolA r)) (r : Int) (H : m_slices_IndexFunc_Simpl_ConflictEdge_impl_ConflictEdge s0 f1 = some r) : FnV prg 94 [(sl tConflictEdge s0), (.f f1_g f1_c)] (intA r) := by
  unfold m_slices_IndexFunc_Simpl_ConflictEdge_impl_ConflictEdge at H
  refine fnV_of_T Tryz.func94 rfl rfl (Nat.le_of_ble_eq_true rfl) ?_
  refine te [(0, (sl tConflictEdge s0)), (1, (.f f1_g f1_c))] rfl ?_
  refine sr ?_
  refine pv tb 1 rfl ?_
  refine TO_nil ?_
  refine T_seq ?_
  refine sr ?_
  refine pv tb 1 rfl ?_
  refine Tp rfl rfl (pur_lenT (T := tConflictEdge) sl24 rfl rfl) rfl ?_
  refine pv tb 1 rfl ?_
  refine TO_nil ?_
  obtain ⟨O2_, L2_, N2_⟩ := bind_inv H
  clear H
  obtain ⟨B2_, hb2, L2_⟩ := gen_forL L2_
  refine T_block ?_
  refine T_loopX (fun k => fun (t_1 : Nat) => k = s0.length - t_1 ∧ forL B2_ (s0.drop t_1) (t_1 : Int) () = some O2_) (fun (t_1 : Nat) => [(0, (sl tConflictEdge s0)), (1, (.f f1_g f1_c)), (7, (intA (s0.length : Int))), (8, (intA (t_1 : Int)))]) (fun (t_1 : Nat) => []) _ (0 : Nat) (wp 0 (lb rfl) rfl rfl (by simp only [namesE, A.names, namesL_enc, Bool.false_or, Bool.or_false, looseL_names f1_l]) rfl rfl) ⟨rfl, L2_⟩ ?_
  rintro _ t_1 ⟨rfl, L2_⟩
  refine T_fact (len_sl (T := tConflictEdge) (.tmp 0) rfl) (fun hl2 => ?_)
  refine sr ?_
  refine pv tb 1 rfl ?_
  refine TO_nil ?_
  refine T_seq ?_
  refine T_cond (t := decide ((t_1 : Int) < (s0.length : Int))) rfl (fun d2 => ?_) (fun d2 => ?_)
  ·replace d2 := of_decide_eq_true d2
   obtain ⟨x_t_1, hx_t_1⟩ : ∃ v, (s0)[t_1]? = some v := ⟨_, List.getElem?_eq_getElem (by omega)⟩
   obtain ⟨C2_, H, K2_⟩ := forL_step L2_ hx_t_1
   rw [hb2] at H
   refine T_skip ?_
   refine T_seq ?_
   refine T_block ?_
   refine sr ?_
   refine pv tb 2 rfl ?_
   refine TO_nil ?_
   refine sr ?_
   refine pv tb 3 rfl ?_
   refine Tp rfl rfl (pur_ixT (T := tConflictEdge) sl24 rfl rfl rfl hx_t_1 rfl) rfl ?_
   refine Tp rfl rfl (pur_ldTK (T := tConflictEdge) (i := t_1) (off := 0) rfl agg45 rfl rfl hx_t_1 (by decide) rfl) rfl ?_
   obtain ⟨r_3, h_4, H⟩ := bind_inv H
   refine TO_cons rfl (TOp_callV (call_closure f1_E rfl rfl) (f1_H _  _ h_4) (looseL_app rfl f1_l) rfl rfl ?_)
   refine TO_nil ?_
   refine T_cond (t := r_3) rfl (fun c_5 => ?_) (fun c_5 => ?_)
   ·replace H := cond_t c_5 H
    refine sr ?_
    refine pv tb 2 rfl ?_
    refine TO_nil ?_
    refine T_ret ?_
    refine block_ret ?_
    refine then_ret ?_
    refine then_ret ?_
    refine block_ret ?_
    refine then_ret ?_
    obtain rfl := some_inj H
    obtain rfl := some_inj K2_
    replace H := onS_r N2_
    obtain rfl := some_inj H
    refine end_ret (.tmp .nil) rfl rfl ⟨?_, rfl⟩
    rfl
   ·replace H := cond_f c_5 H
    refine T_skip ?_
    refine T_region ?_
    refine Tp rfl rfl (pur_add rfl rfl rfl (fits64 (by omega) (by omega))) rfl ?_
    refine pv tb 1 rfl ?_
    refine TO_nil ?_
    obtain rfl := some_inj H
    exact again (s0.length - (t_1 + 1)) (t_1 + 1) (by omega) (wp 0 (lb rfl) rfl rfl (by simp only [namesE, A.names, namesL_enc, Bool.false_or, Bool.or_false, looseL_names f1_l]) rfl rfl) ⟨rfl, K2_⟩
  ·replace d2 := of_decide_eq_false d2
   obtain rfl := forL_end L2_ (by omega)
   refine T_exit ?_
   refine then_exit ?_
   refine then_exit ?_
   refine block_exit ?_
   replace H := onS_l N2_
   refine sr ?_
   refine pv tb 1 rfl ?_
   refine TO_nil ?_
   refine T_ret ?_
   obtain rfl := some_inj H
   refine end_ret (.tmp .nil) rfl rfl ⟨?_, rfl⟩
   rfl

set_option maxHeartbeats 1000000 in
theorem m_slices_ContainsFunc_Simpl_ConflictEdge_impl_ConflictEdge_ok (s0 : (List ConflictEdge)) (f1 : (ConflictEdge → Option Bool)) (f1_g : Nat) (f1_c : List A) (f1_E : EnT prg f1_g) (f1_l : looseL f1_c = true) (f1_m : firmL f1_c = true ∧ fzL f1_c = f1_c) (f1_H : ∀ (x0 : ConflictEdge) r, f1 x0 = some r → FnV prg f1_g ([(.g (tConflictEdge.enc x0))] ++ f1_c) (boolA r)) (r : Bool) (H : m_slices_ContainsFunc_Simpl_ConflictEdge_impl_ConflictEdge s0 f1 = some r) : FnV prg 79 [(sl tConflictEdge s0), (.f f1_g f1_c)] (boolA r) := by
  unfold m_slices_ContainsFunc_Simpl_ConflictEdge_impl_ConflictEdge at H
  refine fnV_of_T Tryz.func79 rfl rfl (Nat.le_of_ble_eq_true rfl) ?_
  refine te [(0, (sl tConflictEdge s0)), (1, (.f f1_g f1_c))] rfl ?_
  refine sr ?_
  refine pv tb 1 rfl ?_
  refine TO_nil ?_
  refine sr ?_
  obtain ⟨r_1, h_2, H⟩ := bind_inv H
  refine pv tb 2 rfl ?_
  refine TO_cons rfl (TOp_callV (call_static ent94 rfl) (m_slices_IndexFunc_Simpl_ConflictEdge_impl_ConflictEdge_ok _ f1 f1_g f1_c f1_E f1_l f1_m f1_H _ h_2) (looseC rfl (looseC f1_l rfl)) rfl rfl ?_)
  refine pv tb 2 rfl ?_
  refine TO_nil ?_
  refine T_ret ?_
  obtain rfl := some_inj H
  refine end_ret (.tmp .nil) rfl rfl ⟨?_, rfl⟩
  rfl

set_option maxHeartbeats 1000000 in
theorem m_impl_IsIndependent_1_ok (e0 : ConflictEdge) (fv1 : (List Int)) (r : Bool) (H : m_impl_IsIndependent_1 e0 fv1 = some r) : FnV prg 80 [(.g (tConflictEdge.enc e0)), (.q [(sl tInt fv1)] 0)] (boolA r) := by
  unfold m_impl_IsIndependent_1 at H
  refine fnV_of_T Tryz.func80 rfl rfl (Nat.le_of_ble_eq_true rfl) ?_
  refine te [(0, (.g (tConflictEdge.enc e0))), (1, (.q [(sl tInt fv1)] 0))] rfl ?_
  refine sr ?_
  refine TO_cons rfl (TOp_box rfl (boxAll rfl) rfl rfl ?_)
  refine pv tb 1 rfl ?_
  refine TO_nil ?_
  obtain ⟨t3_1, J_1, H_2⟩ := bind_inv H
  refine T_cutX (fun x => t3_1 = x) (fun (t3_1 : Bool) => [(3, (boolA t3_1))]) (fun (t3_1 : Bool) => []) ?_ ?_
  ·replace H := J_1
   refine T_region ?_
   obtain ⟨r_3, h_4, H⟩ := bind_inv H
   refine pv tb 3 rfl ?_
   refine TO_cons rfl (TOp_callV (call_static ent32 rfl) (m_slices_Contains_Sint_int_ok _ _ _ h_4) rfl rfl rfl ?_)
   refine pv tb 1 rfl ?_
   refine TO_split (t := r_3) 8 rfl (fun g_5 => ?_) (fun g_5 => ?_)
   ·replace H := cond_t g_5 H
    obtain ⟨r_6, h_7, H⟩ := bind_inv H
    refine pv tb 3 rfl ?_
    refine TO_on rfl rfl (by decide) rfl rfl (TOp_callV (call_static ent32 rfl) (m_slices_Contains_Sint_int_ok _ _ _ h_7) rfl rfl rfl ?_)
    refine pv tb 2 rfl ?_
    refine TO_nil ?_
    exact joined r_6 (w0 0) (some_inj H).symm
   ·replace H := cond_f g_5 H
    refine pv tb 6 rfl ?_
    refine TO_nil ?_
    exact joined false (w0 0) (some_inj H).symm
  ·rintro _ rfl
   replace H := H_2
   refine T_ret ?_
   obtain rfl := some_inj H
   refine end_ret (.tmp .nil) rfl rfl ⟨?_, rfl⟩
   rfl

set_option maxHeartbeats 1000000 in
theorem m_impl_IsIndependent_ok (edges0 : (List ConflictEdge)) (set1 : (List Int)) (r : Bool) (H : m_impl_IsIndependent edges0 set1 = some r) : FnV prg 61 [(sl tConflictEdge edges0), (sl tInt set1)] (boolA r) := by
  unfold m_impl_IsIndependent at H
  refine fnV_of_T Tryz.func61 rfl rfl (Nat.le_of_ble_eq_true rfl) ?_
  refine te [(0, (sl tConflictEdge edges0)), (1, (sl tInt set1))] rfl ?_
  refine sr ?_
  refine TO_cons rfl (TOp_box rfl (boxAll rfl) rfl rfl ?_)
  refine pv tb 1 rfl ?_
  refine TO_nil ?_
  refine sr ?_
  obtain ⟨r_1, h_2, H⟩ := bind_inv H
  refine pv tb 2 rfl ?_
  refine TO_cons rfl (TOp_callB (call_static ent79 rfl) (frz_cons (frz_loose rfl) (frz_cons (frzOK_f (frz_cons (frzOK_b (xs := [(sl tInt set1)]) (ys := [(sl tInt set1)]) rfl rfl rfl) frz_nil).1 (frz_cons (frzOK_b (xs := [(sl tInt set1)]) (ys := [(sl tInt set1)]) rfl rfl rfl) frz_nil).2) frz_nil)).1 (frz_cons (frz_loose rfl) (frz_cons (frzOK_f (frz_cons (frzOK_b (xs := [(sl tInt set1)]) (ys := [(sl tInt set1)]) rfl rfl rfl) frz_nil).1 (frz_cons (frzOK_b (xs := [(sl tInt set1)]) (ys := [(sl tInt set1)]) rfl rfl rfl) frz_nil).2) frz_nil)).2 (m_slices_ContainsFunc_Simpl_ConflictEdge_impl_ConflictEdge_ok _ (fun x0 => m_impl_IsIndependent_1 x0 set1) 80 [(.q [(sl tInt set1)] 0)] ent80 rfl ⟨rfl, rfl⟩ (fun x0 r h => m_impl_IsIndependent_1_ok x0 set1 r h) _ h_2) rfl ?_)
  refine pv tb 2 rfl ?_
  refine TO_nil ?_
  refine T_ret ?_
  obtain rfl := some_inj H
  refine end_ret (.tmp .nil) rfl rfl ⟨?_, rfl⟩
  rfl

set_option maxHeartbeats 1000000 in
theorem m_impl_areIndices_ok (indices0 : (List Int)) (n1 : Int) (r : Bool) (H : m_impl_areIndices indices0 n1 = some r) : FnV prg 78 [(sl tInt indices0), (intA n1)] (boolA r) := by
  unfold m_impl_areIndices at H
  refine fnV_of_T Tryz.func78 rfl rfl (Nat.le_of_ble_eq_true rfl) ?_
  refine te [(0, (sl tInt indices0)), (1, (intA n1))] rfl ?_
  refine sr ?_
  refine pv tb 1 rfl ?_
  refine TO_nil ?_
  refine T_seq ?_
  refine sr ?_
  refine pv tb 1 rfl ?_
  refine Tp rfl rfl (pur_lenT (T := tInt) sl31 rfl rfl) rfl ?_
  refine pv tb 1 rfl ?_
  refine TO_nil ?_
  obtain ⟨O2_, L2_, N2_⟩ := bind_inv H
  clear H
  obtain ⟨B2_, hb2, L2_⟩ := gen_forL L2_
  refine T_block ?_
  refine T_loopX (fun k => fun (t_1 : Nat) => k = indices0.length - t_1 ∧ forL B2_ (indices0.drop t_1) (t_1 : Int) () = some O2_) (fun (t_1 : Nat) => [(0, (sl tInt indices0)), (1, (intA n1)), (7, (sl tInt indices0)), (8, (intA (indices0.length : Int))), (9, (intA (t_1 : Int)))]) (fun (t_1 : Nat) => []) _ (0 : Nat) (w0 0) ⟨rfl, L2_⟩ ?_
  rintro _ t_1 ⟨rfl, L2_⟩
  refine T_fact (len_sl (T := tInt) (.tmp 0) rfl) (fun hl2 => ?_)
  refine sr ?_
  refine pv tb 1 rfl ?_
  refine TO_nil ?_
  refine T_seq ?_
  refine T_cond (t := decide ((t_1 : Int) < (indices0.length : Int))) rfl (fun d2 => ?_) (fun d2 => ?_)
  ·replace d2 := of_decide_eq_true d2
   obtain ⟨x_t_1, hx_t_1⟩ : ∃ v, (indices0)[t_1]? = some v := ⟨_, List.getElem?_eq_getElem (by omega)⟩
   obtain ⟨C2_, H, K2_⟩ := forL_step L2_ hx_t_1
   rw [hb2] at H
   refine T_skip ?_
   refine T_seq ?_
   refine T_block ?_
   refine sr ?_
   refine pv tb 1 rfl ?_
   refine Tp rfl rfl (pur_ixT (T := tInt) sl31 rfl rfl rfl hx_t_1 rfl) rfl ?_
   refine Tp rfl rfl (pur_ldT (T := tInt) (i := t_1) (off := 0) rfl one3 rfl rfl hx_t_1 rfl) rfl ?_
   refine pv tb 2 rfl ?_
   refine TO_nil ?_
   obtain ⟨t31_3, J_3, H_4⟩ := bind_inv H
   refine T_cutX (fun x => t31_3 = x) (fun (t31_3 : Bool) => [(0, (sl tInt indices0)), (1, (intA n1)), (7, (sl tInt indices0)), (8, (intA (indices0.length : Int))), (9, (intA (t_1 : Int))), (31, (boolA t31_3))]) (fun (t31_3 : Bool) => []) ?_ ?_
   ·replace H := J_3
    refine T_region ?_
    obtain ⟨r_5, h_6, H⟩ := bind_inv H
    refine pv tb 3 rfl ?_
    refine TO_cons rfl (TOp_callV (call_static ent66 rfl) (m_impl_within_ok _ _ _ _ h_6) rfl rfl rfl ?_)
    refine pv tb 2 rfl ?_
    refine TO_split (t := (!r_5)) 19 rfl (fun g_7 => ?_) (fun g_7 => ?_)
    ·replace H := cond_t g_7 H
     refine pv tb 8 rfl ?_
     refine toe [(0, (sl tInt indices0)), (1, (intA n1)), (6, (intA x_t_1)), (7, (sl tInt indices0)), (8, (intA (indices0.length : Int))), (9, (intA (t_1 : Int))), (19, (boolA true)), (22, (.v undef)), (27, (.v undef))] rfl ?_
     refine pv tb 4 rfl ?_
     refine TO_nil ?_
     exact joined true (w0 0) (some_inj H).symm
    ·replace H := cond_f g_7 H
     refine pv tb 3 rfl ?_
     refine TO_split (t := decide (0 < (t_1 : Int))) 22 rfl (fun g_8 => ?_) (fun g_8 => ?_)
     ·replace H := cond_t g_8 H
      refine pv tb 2 rfl ?_
      refine TO_on rfl rfl (by decide) rfl rfl (TOp_pure (pur_sub rfl rfl rfl (fits64 (by omega) (by omega))) rfl ?_)
      obtain ⟨v_9, h_10, H⟩ := bind_inv H
      obtain ⟨n_11, hz_12, hv_13⟩ := getI_inv h_10
      refine TO_on rfl rfl (by decide) rfl rfl (TOp_pure (pur_ixT (T := tInt) sl31 rfl rfl hz_12 hv_13 rfl) rfl ?_)
      refine TO_on rfl rfl (by decide) rfl rfl (TOp_pure (pur_ldT (T := tInt) (i := n_11) (off := 0) rfl one3 rfl rfl hv_13 rfl) rfl ?_)
      refine pv tb 4 rfl ?_
      refine TO_nil ?_
      exact joined (decide (x_t_1 ≤ v_9)) (w0 0) (some_inj H).symm
     ·replace H := cond_f g_8 H
      refine pv tb 9 rfl ?_
      refine TO_nil ?_
      exact joined false (w0 0) (some_inj H).symm
   ·rintro _ rfl
    replace H := H_4
    refine T_cond (t := t31_3) rfl (fun c_14 => ?_) (fun c_14 => ?_)
    ·replace H := cond_t c_14 H
     refine sr ?_
     refine pv tb 1 rfl ?_
     refine TO_nil ?_
     refine T_ret ?_
     refine block_ret ?_
     refine then_ret ?_
     refine then_ret ?_
     refine block_ret ?_
     refine then_ret ?_
     obtain rfl := some_inj H
     obtain rfl := some_inj K2_
     replace H := onS_r N2_
     obtain rfl := some_inj H
     refine end_ret (.tmp .nil) rfl rfl ⟨?_, rfl⟩
     rfl
    ·replace H := cond_f c_14 H
     refine T_skip ?_
     refine T_region ?_
     refine Tp rfl rfl (pur_add rfl rfl rfl (fits64 (by omega) (by omega))) rfl ?_
     refine pv tb 1 rfl ?_
     refine TO_nil ?_
     obtain rfl := some_inj H
     exact again (indices0.length - (t_1 + 1)) (t_1 + 1) (by omega) (w0 0) ⟨rfl, K2_⟩
  ·replace d2 := of_decide_eq_false d2
   obtain rfl := forL_end L2_ (by omega)
   refine T_exit ?_
   refine then_exit ?_
   refine then_exit ?_
   refine block_exit ?_
   replace H := onS_l N2_
   refine sr ?_
   refine pv tb 1 rfl ?_
   refine TO_nil ?_
   refine T_ret ?_
   obtain rfl := some_inj H
   refine end_ret (.tmp .nil) rfl rfl ⟨?_, rfl⟩
   rfl

set_option maxHeartbeats 1000000 in
theorem m_impl_isIndependentSet_ok (n0 : Int) (edges1 : (List ConflictEdge)) (set2 : (List Int)) (r : Bool) (H : m_impl_isIndependentSet n0 edges1 set2 = some r) : FnV prg 60 [(intA n0), (sl tConflictEdge edges1), (sl tInt set2)] (boolA r) := by
  unfold m_impl_isIndependentSet at H
  refine fnV_of_T Tryz.func60 rfl rfl (Nat.le_of_ble_eq_true rfl) ?_
  refine te [(0, (intA n0)), (1, (sl tConflictEdge edges1)), (2, (sl tInt set2))] rfl ?_
  refine sr ?_
  refine pv tb 1 rfl ?_
  refine TO_nil ?_
  obtain ⟨t6_1, J_1, H_2⟩ := bind_inv H
  refine T_cutX (fun x => t6_1 = x) (fun (t6_1 : Bool) => [(6, (boolA t6_1))]) (fun (t6_1 : Bool) => []) ?_ ?_
  ·replace H := J_1
   refine T_region ?_
   obtain ⟨r_3, h_4, H⟩ := bind_inv H
   refine pv tb 2 rfl ?_
   refine TO_cons rfl (TOp_callV (call_static ent40 rfl) (m_impl_AreValidEdges_ok _ _ _ h_4) rfl rfl rfl ?_)
   refine pv tb 1 rfl ?_
   refine TO_split (t := r_3) 10 rfl (fun g_5 => ?_) (fun g_5 => ?_)
   ·replace H := cond_t g_5 H
    obtain ⟨r_6, h_7, H⟩ := bind_inv H
    refine pv tb 2 rfl ?_
    refine TO_on rfl rfl (by decide) rfl rfl (TOp_callV (call_static ent78 rfl) (m_impl_areIndices_ok _ _ _ h_7) rfl rfl rfl ?_)
    refine pv tb 2 rfl ?_
    refine TO_split (t := r_6) 15 rfl (fun g_8 => ?_) (fun g_8 => ?_)
    ·replace H := cond_t g_8 H
     obtain ⟨r_9, h_10, H⟩ := bind_inv H
     refine pv tb 2 rfl ?_
     refine TO_on rfl rfl (by decide) rfl rfl (TOp_callV (call_static ent61 rfl) (m_impl_IsIndependent_ok _ _ _ h_10) rfl rfl rfl ?_)
     refine pv tb 2 rfl ?_
     refine TO_nil ?_
     exact joined r_9 (w0 0) (some_inj H).symm
    ·replace H := cond_f g_8 H
     refine pv tb 5 rfl ?_
     refine TO_nil ?_
     exact joined false (w0 0) (some_inj H).symm
   ·replace H := cond_f g_5 H
    refine pv tb 10 rfl ?_
    refine TO_nil ?_
    exact joined false (w0 0) (some_inj H).symm
  ·rintro _ rfl
   replace H := H_2
   refine T_ret ?_
   obtain rfl := some_inj H
   refine end_ret (.tmp .nil) rfl rfl ⟨?_, rfl⟩
   rfl

set_option maxHeartbeats 1000000 in
theorem m_impl_IsMaximalIndependent_ok (n0 : Int) (edges1 : (List ConflictEdge)) (set2 : (List Int)) (r : Bool) (H : m_impl_IsMaximalIndependent n0 edges1 set2 = some r) : FnV prg 31 [(intA n0), (sl tConflictEdge edges1), (sl tInt set2)] (boolA r) := by
  unfold m_impl_IsMaximalIndependent at H
  refine fnV_of_T Tryz.func31 rfl rfl (Nat.le_of_ble_eq_true rfl) ?_
  refine te [(0, (intA n0)), (1, (sl tConflictEdge edges1)), (2, (sl tInt set2))] rfl ?_
  refine sr ?_
  refine pv tb 1 rfl ?_
  refine TO_nil ?_
  refine T_seq ?_
  refine sr ?_
  obtain ⟨r_1, h_2, H⟩ := bind_inv H
  refine pv tb 3 rfl ?_
  refine TO_cons rfl (TOp_callV (call_static ent60 rfl) (m_impl_isIndependentSet_ok _ _ _ _ h_2) rfl rfl rfl ?_)
  refine pv tb 1 rfl ?_
  refine TO_nil ?_
  refine T_cond (t := (!r_1)) rfl (fun c_3 => ?_) (fun c_3 => ?_)
  ·replace H := cond_t c_3 H
   refine sr ?_
   refine pv tb 1 rfl ?_
   refine TO_nil ?_
   refine T_ret ?_
   refine then_ret ?_
   obtain rfl := some_inj H
   refine end_ret (.tmp .nil) rfl rfl ⟨?_, rfl⟩
   rfl
  ·replace H := cond_f c_3 H
   refine T_skip ?_
   refine T_seq ?_
   refine sr ?_
   refine pv tb 2 rfl ?_
   refine TO_nil ?_
   obtain ⟨_, h_6, H⟩ := bind_inv H
   replace h_6 := gN_inv h_6
   obtain ⟨O5_, L5_, N5_⟩ := bind_inv H
   clear H
   obtain ⟨B5_, hb5, L5_⟩ := gen_forN L5_
   refine T_block ?_
   refine T_loopX (fun k => fun (t_4 : Int) => k = (n0 - t_4).toNat ∧ 0 ≤ t_4 ∧ forN B5_ (n0 - t_4).toNat t_4 () = some O5_) (fun (t_4 : Int) => [(1, (sl tConflictEdge edges1)), (2, (sl tInt set2)), (13, (intA n0)), (14, (intA (t_4 : Int)))]) (fun (t_4 : Int) => []) _ (0 : Int) (w0 0) ⟨rfl, Int.le_refl _, L5_⟩ ?_
   rintro _ t_4 ⟨rfl, hi5, L5_⟩
   refine sr ?_
   refine pv tb 1 rfl ?_
   refine TO_nil ?_
   refine T_seq ?_
   refine T_cond (t := decide ((t_4 : Int) < n0)) rfl (fun d5 => ?_) (fun d5 => ?_)
   ·replace d5 := of_decide_eq_true d5
    obtain ⟨C5_, H, K5_⟩ := forN_step L5_ d5
    rw [hb5] at H
    refine T_skip ?_
    refine T_seq ?_
    refine T_block ?_
    refine sr ?_
    refine pv tb 2 rfl ?_
    refine TO_nil ?_
    obtain ⟨t29_7, J_7, H_8⟩ := bind_inv H
    refine T_cutX (fun x => t29_7 = x) (fun (t29_7 : Bool) => [(1, (sl tConflictEdge edges1)), (2, (sl tInt set2)), (13, (intA n0)), (14, (intA (t_4 : Int))), (29, (boolA t29_7))]) (fun (t29_7 : Bool) => []) ?_ ?_
    ·replace H := J_7
     refine T_region ?_
     obtain ⟨r_9, h_10, H⟩ := bind_inv H
     refine pv tb 2 rfl ?_
     refine TO_cons rfl (TOp_callV (call_static ent32 rfl) (m_slices_Contains_Sint_int_ok _ _ _ h_10) rfl rfl rfl ?_)
     refine pv tb 2 rfl ?_
     refine TO_split (t := (!r_9)) 21 rfl (fun g_11 => ?_) (fun g_11 => ?_)
     ·replace H := cond_t g_11 H
      obtain ⟨r_12, h_13, H⟩ := bind_inv H
      refine pv tb 2 rfl ?_
      refine TO_on rfl rfl (by decide) rfl rfl (TOp_callO (call_static ent53 rfl) rfl (m_slices_Clone_Sint_int_own _ _ h_13) rfl rfl rfl ?_)
      refine toe [(1, (sl tConflictEdge edges1)), (2, (sl tInt set2)), (7, (intA (t_4 : Int))), (13, (intA n0)), (14, (intA (t_4 : Int))), (17, (sl tInt set2)), (18, (intA (t_4 : Int))), (19, (boolA r_9)), (20, (boolA (!r_9))), (21, (boolA true)), (22, (sl tConflictEdge edges1)), (23, (sl tInt set2)), (24, (.m [0] 0 r_12.length tInt.k))] rfl ?_
      refine TO_st (σ' := [.row (flat tInt.own r_12)]) rfl ?_
      refine pv tb 1 rfl ?_
      refine TO_on rfl rfl (by decide) rfl rfl (TOp_lit (nn := 1) (k := 1) sl31 zero3 rfl rfl rfl rfl (by decide) ?_)
      refine TO_st (σ' := [.row (flat tInt.own r_12), .row (flat tInt.enc ([(t_4 : Int)] : (List Int)))]) rfl ?_
      obtain ⟨us_14, h_15, H⟩ := bind_inv H
      refine TO_on rfl rfl (by decide) rfl rfl (TOp_appZ (T := tInt) (f := tInt.own) (xs := r_12) (ys := ([(t_4 : Int)] : (List Int))) tInt.lenO sl31 zero3 rfl bytes3 (by decide) rfl rfl rfl rfl (src_mT (f := tInt.own) tInt.lenO rfl rfl (flat_cell tInt _)) (flat_cell tInt _) h_15 (lb rfl) ?_)
      refine toe [(1, (sl tConflictEdge edges1)), (2, (sl tInt set2)), (7, (intA (t_4 : Int))), (13, (intA n0)), (14, (intA (t_4 : Int))), (17, (sl tInt set2)), (18, (intA (t_4 : Int))), (19, (boolA r_9)), (20, (boolA (!r_9))), (21, (boolA true)), (22, (sl tConflictEdge edges1)), (23, (sl tInt set2)), (25, (intA (t_4 : Int))), (26, (.m [1] 0 ([(t_4 : Int)] : (List Int)).length tInt.k)), (27, (.m [0] 0 us_14.length tInt.k))] rfl ?_
      refine TO_st (σ' := [.row (flat tInt.own us_14), .row (flat tInt.enc ([(t_4 : Int)] : (List Int))), .dead]) rfl ?_
      obtain ⟨r_16, h_17, H⟩ := bind_inv H
      refine TO_on rfl rfl (by decide) rfl rfl (TOp_callB (call_static ent61 rfl) (frz_cons (frz_loose rfl) (frz_cons (frzT (T := tInt) rfl) frz_nil)).1 (frz_cons (frz_loose rfl) (frz_cons (frzT (T := tInt) rfl) frz_nil)).2 (m_impl_IsIndependent_ok _ _ _ h_17) rfl ?_)
      refine pv tb 1 rfl ?_
      refine TO_nil ?_
      exact joined r_16 (w0 0) (some_inj H).symm
     ·replace H := cond_f g_11 H
      refine pv tb 8 rfl ?_
      refine TO_nil ?_
      exact joined false (w0 0) (some_inj H).symm
    ·rintro _ rfl
     replace H := H_8
     refine T_cond (t := t29_7) rfl (fun c_18 => ?_) (fun c_18 => ?_)
     ·replace H := cond_t c_18 H
      refine sr ?_
      refine pv tb 1 rfl ?_
      refine TO_nil ?_
      refine T_ret ?_
      refine block_ret ?_
      refine then_ret ?_
      refine then_ret ?_
      refine block_ret ?_
      refine then_ret ?_
      obtain rfl := some_inj H
      obtain rfl := some_inj K5_
      replace H := onS_r N5_
      obtain rfl := some_inj H
      refine end_ret (.tmp .nil) rfl rfl ⟨?_, rfl⟩
      rfl
     ·replace H := cond_f c_18 H
      refine T_skip ?_
      refine T_region ?_
      refine Tp rfl rfl (pur_add rfl rfl rfl (fits64 (by omega) (by omega))) rfl ?_
      refine pv tb 1 rfl ?_
      refine TO_nil ?_
      obtain rfl := some_inj H
      exact again (n0 - (t_4 + 1)).toNat (t_4 + 1) (by omega) (w0 0) ⟨rfl, by omega, K5_⟩
   ·replace d5 := of_decide_eq_false d5
    obtain rfl := forN_end L5_ (by omega)
    refine T_exit ?_
    refine then_exit ?_
    refine then_exit ?_
    refine block_exit ?_
    replace H := onS_l N5_
    refine sr ?_
    refine pv tb 1 rfl ?_
    refine TO_nil ?_
    refine T_ret ?_
    obtain rfl := some_inj H
    refine end_ret (.tmp .nil) rfl rfl ⟨?_, rfl⟩
    rfl

set_option maxHeartbeats 1000000 in
theorem m_impl_inConflict_ok (edges0 : (List ConflictEdge)) (a1 : Int) (b2 : Int) (r : Bool) (H : m_impl_inConflict edges0 a1 b2 = some r) : FnV prg 35 [(sl tConflictEdge edges0), (intA a1), (intA b2)] (boolA r) := by
  unfold m_impl_inConflict at H
  refine fnV_of_T Tryz.func35 rfl rfl (Nat.le_of_ble_eq_true rfl) ?_
  refine te [(0, (sl tConflictEdge edges0)), (1, (intA a1)), (2, (intA b2))] rfl ?_
  refine sr ?_
  refine pv tb 1 rfl ?_
  refine TO_nil ?_
  obtain ⟨t6_1, J_1, H_2⟩ := bind_inv H
  refine T_cutX (fun x => t6_1 = x) (fun (t6_1 : Bool) => [(6, (boolA t6_1))]) (fun (t6_1 : Bool) => []) ?_ ?_
  ·replace H := J_1
   refine T_region ?_
   refine pv tb 3 rfl ?_
   refine Tp rfl rfl (pur_build bld45 rfl rfl) rfl ?_
   obtain ⟨r_3, h_4, H⟩ := bind_inv H
   refine TO_cons rfl (TOp_callV (call_static ent41 rfl) (m_slices_Contains_Simpl_ConflictEdge_impl_ConflictEdge_ok _ _ _ h_4) rfl rfl rfl ?_)
   refine pv tb 1 rfl ?_
   refine TO_split (t := r_3) 12 rfl (fun g_5 => ?_) (fun g_5 => ?_)
   ·replace H := cond_t g_5 H
    refine pv tb 7 rfl ?_
    refine TO_nil ?_
    exact joined true (w0 0) (some_inj H).symm
   ·replace H := cond_f g_5 H
    refine pv tb 3 rfl ?_
    refine TO_on rfl rfl (by decide) rfl rfl (TOp_pure (pur_build bld45 rfl rfl) rfl ?_)
    obtain ⟨r_6, h_7, H⟩ := bind_inv H
    refine TO_on rfl rfl (by decide) rfl rfl (TOp_callV (call_static ent41 rfl) (m_slices_Contains_Simpl_ConflictEdge_impl_ConflictEdge_ok _ _ _ h_7) rfl rfl rfl ?_)
    refine pv tb 2 rfl ?_
    refine TO_nil ?_
    exact joined r_6 (w0 0) (some_inj H).symm
  ·rintro _ rfl
   replace H := H_2
   refine T_ret ?_
   obtain rfl := some_inj H
   refine end_ret (.tmp .nil) rfl rfl ⟨?_, rfl⟩
   rfl

set_option maxHeartbeats 1000000 in
theorem m_impl_IsParetoOptimal_1_ok (own0 : Int) (fv1 : (List ConflictEdge)) (fv2 : Int) (fv3 : (List ConflictEdge)) (r : Bool) (H : m_impl_IsParetoOptimal_1 own0 fv1 fv2 fv3 = some r) : FnV prg 34 [(intA own0), (.q [(sl tConflictEdge fv1)] 0), (.q [(intA fv2)] 0), (.q [(sl tConflictEdge fv3)] 0)] (boolA r) := by
  unfold m_impl_IsParetoOptimal_1 at H
  refine fnV_of_T Tryz.func34 rfl rfl (Nat.le_of_ble_eq_true rfl) ?_
  refine te [(0, (intA own0)), (1, (.q [(sl tConflictEdge fv1)] 0)), (2, (.q [(intA fv2)] 0)), (3, (.q [(sl tConflictEdge fv3)] 0))] rfl ?_
  refine sr ?_
  refine pv tb 1 rfl ?_
  refine TO_nil ?_
  obtain ⟨t5_1, J_1, H_2⟩ := bind_inv H
  refine T_cutX (fun x => t5_1 = x) (fun (t5_1 : Bool) => [(5, (boolA t5_1))]) (fun (t5_1 : Bool) => []) ?_ ?_
  ·replace H := J_1
   refine T_region ?_
   obtain ⟨r_3, h_4, H⟩ := bind_inv H
   refine pv tb 3 rfl ?_
   refine TO_cons rfl (TOp_callV (call_static ent35 rfl) (m_impl_inConflict_ok _ _ _ _ h_4) rfl rfl rfl ?_)
   refine pv tb 1 rfl ?_
   refine TO_split (t := r_3) 10 rfl (fun g_5 => ?_) (fun g_5 => ?_)
   ·replace H := cond_t g_5 H
    obtain ⟨r_6, h_7, H⟩ := bind_inv H
    refine pv tb 3 rfl ?_
    refine TO_on rfl rfl (by decide) rfl rfl (TOp_callV (call_static ent36 rfl) (m_impl_IsPreferred_ok _ _ _ _ h_7) rfl rfl rfl ?_)
    refine pv tb 3 rfl ?_
    refine TO_nil ?_
    exact joined (!r_6) (w0 0) (some_inj H).symm
   ·replace H := cond_f g_5 H
    refine pv tb 7 rfl ?_
    refine TO_nil ?_
    exact joined false (w0 0) (some_inj H).symm
  ·rintro _ rfl
   replace H := H_2
   refine T_ret ?_
   obtain rfl := some_inj H
   refine end_ret (.tmp .nil) rfl rfl ⟨?_, rfl⟩
   rfl

set_option maxHeartbeats 1000000 in
theorem m_impl_IsParetoOptimal_ok (u : Nat) (n0 : Int) (edges1 : (List ConflictEdge)) (preferences2 : (List ConflictEdge)) (set3 : (List Int)) (r : Bool) (H : m_impl_IsParetoOptimal u n0 edges1 preferences2 set3 = some r) : FnV prg 12 [(intA n0), (sl tConflictEdge edges1), (sl tConflictEdge preferences2), (sl tInt set3)] (boolA r) := by
  unfold m_impl_IsParetoOptimal at H
  refine fnV_of_T Tryz.func12 rfl rfl (Nat.le_of_ble_eq_true rfl) ?_
  refine te [(0, (intA n0)), (1, (sl tConflictEdge edges1)), (2, (sl tConflictEdge preferences2)), (3, (sl tInt set3))] rfl ?_
  refine sr ?_
  refine TO_cons rfl (TOp_box rfl (boxAll rfl) rfl rfl ?_)
  refine TO_cons rfl (TOp_box rfl (boxAll rfl) rfl rfl ?_)
  refine pv tb 1 rfl ?_
  refine TO_nil ?_
  refine T_seq ?_
  obtain ⟨t21_1, J_1, H_2⟩ := bind_inv H
  refine T_cutX (fun x => t21_1 = x) (fun (t21_1 : Bool) => [(0, (intA n0)), (3, (sl tInt set3)), (5, (.b 0 0)), (6, (.b 1 0)), (21, (boolA t21_1))]) (fun (t21_1 : Bool) => [.box [(sl tConflictEdge edges1)], .box [(sl tConflictEdge preferences2)]]) ?_ ?_
  ·replace H := J_1
   refine T_region ?_
   obtain ⟨r_3, h_4, H⟩ := bind_inv H
   refine pv tb 3 rfl ?_
   refine TO_cons rfl (TOp_callV (call_static ent18 rfl) (m_impl_IsValidPreference_ok u _ _ _ _ h_4) rfl rfl rfl ?_)
   refine pv tb 2 rfl ?_
   refine TO_split (t := (!r_3)) 15 rfl (fun g_5 => ?_) (fun g_5 => ?_)
   ·replace H := cond_t g_5 H
    refine pv tb 6 rfl ?_
    refine TO_nil ?_
    exact joined true (w0 2) (some_inj H).symm
   ·replace H := cond_f g_5 H
    obtain ⟨r_6, h_7, H⟩ := bind_inv H
    refine pv tb 3 rfl ?_
    refine TO_on rfl rfl (by decide) rfl rfl (TOp_callV (call_static ent31 rfl) (m_impl_IsMaximalIndependent_ok _ _ _ _ h_7) rfl rfl rfl ?_)
    refine pv tb 2 rfl ?_
    refine TO_nil ?_
    exact joined (!r_6) (w0 2) (some_inj H).symm
  ·rintro _ rfl
   replace H := H_2
   refine T_cond (t := t21_1) rfl (fun c_8 => ?_) (fun c_8 => ?_)
   ·replace H := cond_t c_8 H
    refine sr ?_
    refine pv tb 1 rfl ?_
    refine TO_nil ?_
    refine T_ret ?_
    refine then_ret ?_
    obtain rfl := some_inj H
    refine end_ret (.tmp .nil) rfl rfl ⟨?_, rfl⟩
    rfl
   ·replace H := cond_f c_8 H
    refine T_skip ?_
    refine T_seq ?_
    refine sr ?_
    refine pv tb 2 rfl ?_
    refine TO_nil ?_
    obtain ⟨_, h_11, H⟩ := bind_inv H
    replace h_11 := gN_inv h_11
    obtain ⟨O10_, L10_, N10_⟩ := bind_inv H
    clear H
    obtain ⟨B10_, hb10, L10_⟩ := gen_forN L10_
    refine T_block ?_
    refine T_loopX (fun k => fun (t_9 : Int) => k = (n0 - t_9).toNat ∧ 0 ≤ t_9 ∧ forN B10_ (n0 - t_9).toNat t_9 () = some O10_) (fun (t_9 : Int) => [(3, (sl tInt set3)), (5, (.b 0 0)), (6, (.b 1 0)), (22, (intA n0)), (23, (intA (t_9 : Int)))]) (fun (t_9 : Int) => [.box [(sl tConflictEdge edges1)], .box [(sl tConflictEdge preferences2)]]) _ (0 : Int) (w0 2) ⟨rfl, Int.le_refl _, L10_⟩ ?_
    rintro _ t_9 ⟨rfl, hi10, L10_⟩
    refine sr ?_
    refine pv tb 1 rfl ?_
    refine TO_nil ?_
    refine T_seq ?_
    refine T_cond (t := decide ((t_9 : Int) < n0)) rfl (fun d10 => ?_) (fun d10 => ?_)
    ·replace d10 := of_decide_eq_true d10
     obtain ⟨C10_, H, K10_⟩ := forN_step L10_ d10
     rw [hb10] at H
     refine T_skip ?_
     refine T_seq ?_
     refine T_block ?_
     refine sr ?_
     refine pv tb 1 rfl ?_
     refine TO_cons rfl (TOp_alloc zero3 rfl rfl ?_)
     refine TO_cons rfl (TOp_storeB sz3 rfl rfl rfl rfl rfl rfl rfl (by decide) (lb rfl) rfl ?_)
     refine TO_st (σ' := [.box [(sl tConflictEdge edges1)], .box [(sl tConflictEdge preferences2)], .box [(intA (t_9 : Int))]]) rfl ?_
     refine TO_nil ?_
     obtain ⟨t35_12, J_12, H_13⟩ := bind_inv H
     refine T_cutX (fun x => t35_12 = x) (fun (t35_12 : Bool) => [(3, (sl tInt set3)), (5, (.b 0 0)), (6, (.b 1 0)), (22, (intA n0)), (23, (intA (t_9 : Int))), (35, (boolA t35_12))]) (fun (t35_12 : Bool) => [.box [(sl tConflictEdge edges1)], .box [(sl tConflictEdge preferences2)]]) ?_ ?_
     ·replace H := J_12
      refine T_region ?_
      obtain ⟨r_14, h_15, H⟩ := bind_inv H
      refine pv tb 2 rfl ?_
      refine TO_cons rfl (TOp_callV (call_static ent32 rfl) (m_slices_Contains_Sint_int_ok _ _ _ h_15) rfl rfl rfl ?_)
      refine pv tb 2 rfl ?_
      refine TO_split (t := (!r_14)) 30 rfl (fun g_16 => ?_) (fun g_16 => ?_)
      ·replace H := cond_t g_16 H
       obtain ⟨r_17, h_18, H⟩ := bind_inv H
       refine pv tb 2 rfl ?_
       refine TO_on rfl rfl (by decide) rfl rfl (TOp_callB (call_static ent33 rfl) (frz_cons (frz_loose rfl) (frz_cons (frzOK_f (frz_cons (frzOK_b (xs := [(sl tConflictEdge edges1)]) (ys := [(sl tConflictEdge edges1)]) rfl rfl rfl) (frz_cons (frzOK_b (xs := [(intA (t_9 : Int))]) (ys := [(intA (t_9 : Int))]) rfl rfl rfl) (frz_cons (frzOK_b (xs := [(sl tConflictEdge preferences2)]) (ys := [(sl tConflictEdge preferences2)]) rfl rfl rfl) frz_nil))).1 (frz_cons (frzOK_b (xs := [(sl tConflictEdge edges1)]) (ys := [(sl tConflictEdge edges1)]) rfl rfl rfl) (frz_cons (frzOK_b (xs := [(intA (t_9 : Int))]) (ys := [(intA (t_9 : Int))]) rfl rfl rfl) (frz_cons (frzOK_b (xs := [(sl tConflictEdge preferences2)]) (ys := [(sl tConflictEdge preferences2)]) rfl rfl rfl) frz_nil))).2) frz_nil)).1 (frz_cons (frz_loose rfl) (frz_cons (frzOK_f (frz_cons (frzOK_b (xs := [(sl tConflictEdge edges1)]) (ys := [(sl tConflictEdge edges1)]) rfl rfl rfl) (frz_cons (frzOK_b (xs := [(intA (t_9 : Int))]) (ys := [(intA (t_9 : Int))]) rfl rfl rfl) (frz_cons (frzOK_b (xs := [(sl tConflictEdge preferences2)]) (ys := [(sl tConflictEdge preferences2)]) rfl rfl rfl) frz_nil))).1 (frz_cons (frzOK_b (xs := [(sl tConflictEdge edges1)]) (ys := [(sl tConflictEdge edges1)]) rfl rfl rfl) (frz_cons (frzOK_b (xs := [(intA (t_9 : Int))]) (ys := [(intA (t_9 : Int))]) rfl rfl rfl) (frz_cons (frzOK_b (xs := [(sl tConflictEdge preferences2)]) (ys := [(sl tConflictEdge preferences2)]) rfl rfl rfl) frz_nil))).2) frz_nil)).2 (m_slices_ContainsFunc_Sint_int_ok _ (fun x0 => m_impl_IsParetoOptimal_1 x0 edges1 (t_9 : Int) preferences2) 34 [(.q [(sl tConflictEdge edges1)] 0), (.q [(intA (t_9 : Int))] 0), (.q [(sl tConflictEdge preferences2)] 0)] ent34 rfl ⟨rfl, rfl⟩ (fun x0 r h => m_impl_IsParetoOptimal_1_ok x0 edges1 (t_9 : Int) preferences2 r h) _ h_18) rfl ?_)
       refine pv tb 2 rfl ?_
       refine TO_nil ?_
       exact joined (!r_17) (w0 2) (some_inj H).symm
      ·replace H := cond_f g_16 H
       refine pv tb 5 rfl ?_
       refine TO_nil ?_
       exact joined false (w0 2) (some_inj H).symm
     ·rintro _ rfl
      replace H := H_13
      refine T_cond (t := t35_12) rfl (fun c_19 => ?_) (fun c_19 => ?_)
      ·replace H := cond_t c_19 H
       refine sr ?_
       refine pv tb 1 rfl ?_
       refine TO_nil ?_
       refine T_ret ?_
       refine block_ret ?_
       refine then_ret ?_
       refine then_ret ?_
       refine block_ret ?_
       refine then_ret ?_
       obtain rfl := some_inj H
       obtain rfl := some_inj K10_
       replace H := onS_r N10_
       obtain rfl := some_inj H
       refine end_ret (.tmp .nil) rfl rfl ⟨?_, rfl⟩
       rfl
      ·replace H := cond_f c_19 H
       refine T_skip ?_
       refine T_region ?_
       refine Tp rfl rfl (pur_add rfl rfl rfl (fits64 (by omega) (by omega))) rfl ?_
       refine pv tb 1 rfl ?_
       refine TO_nil ?_
       obtain rfl := some_inj H
       exact again (n0 - (t_9 + 1)).toNat (t_9 + 1) (by omega) (w0 2) ⟨rfl, by omega, K10_⟩
    ·replace d10 := of_decide_eq_false d10
     obtain rfl := forN_end L10_ (by omega)
     refine T_exit ?_
     refine then_exit ?_
     refine then_exit ?_
     refine block_exit ?_
     replace H := onS_l N10_
     refine sr ?_
     refine pv tb 1 rfl ?_
     refine TO_nil ?_
     refine T_ret ?_
     obtain rfl := some_inj H
     refine end_ret (.tmp .nil) rfl rfl ⟨?_, rfl⟩
     rfl

set_option maxHeartbeats 1000000 in
theorem m_laws_sameInts_ok (a0 : (List Int)) (b1 : (List Int)) (r : Bool) (H : m_laws_sameInts a0 b1 = some r) : FnV prg 13 [(sl tInt a0), (sl tInt b1)] (boolA r) := by
  unfold m_laws_sameInts at H
  refine fnV_of_T Tryz.func13 rfl rfl (Nat.le_of_ble_eq_true rfl) ?_
  refine te [(0, (sl tInt a0)), (1, (sl tInt b1))] rfl ?_
  refine sr ?_
  refine pv tb 1 rfl ?_
  refine TO_nil ?_
  refine T_seq ?_
  refine sr ?_
  refine pv tb 1 rfl ?_
  refine Tp rfl rfl (pur_lenT (T := tInt) sl31 rfl rfl) rfl ?_
  refine pv tb 1 rfl ?_
  refine Tp rfl rfl (pur_lenT (T := tInt) sl31 rfl rfl) rfl ?_
  refine pv tb 1 rfl ?_
  refine TO_nil ?_
  refine T_cond (t := decide ((a0.length : Int) ≠ (b1.length : Int))) rfl (fun c_1 => ?_) (fun c_1 => ?_)
  ·replace H := cond_t c_1 H
   refine sr ?_
   refine pv tb 1 rfl ?_
   refine TO_nil ?_
   refine T_ret ?_
   refine then_ret ?_
   obtain rfl := some_inj H
   refine end_ret (.tmp .nil) rfl rfl ⟨?_, rfl⟩
   rfl
  ·replace H := cond_f c_1 H
   refine T_skip ?_
   refine T_seq ?_
   refine sr ?_
   refine pv tb 1 rfl ?_
   refine TO_nil ?_
   obtain ⟨O3_, L3_, N3_⟩ := bind_inv H
   clear H
   obtain ⟨B3_, hb3, L3_⟩ := gen_forL L3_
   refine T_block ?_
   refine T_loopX (fun k => fun (i_2 : Nat) => k = a0.length - i_2 ∧ forL B3_ (a0.drop i_2) (i_2 : Int) () = some O3_) (fun (i_2 : Nat) => [(0, (sl tInt a0)), (1, (sl tInt b1)), (5, (intA (i_2 : Int)))]) (fun (i_2 : Nat) => []) _ (0 : Nat) (w0 0) ⟨rfl, L3_⟩ ?_
   rintro _ i_2 ⟨rfl, L3_⟩
   refine T_fact (len_sl (T := tInt) (.tmp 0) rfl) (fun hl3 => ?_)
   refine T_seq ?_
   refine sr ?_
   refine pv tb 2 rfl ?_
   refine Tp rfl rfl (pur_lenT (T := tInt) sl31 rfl rfl) rfl ?_
   refine pv tb 1 rfl ?_
   refine TO_nil ?_
   refine T_cond (t := decide ((i_2 : Int) < (a0.length : Int))) rfl (fun d3 => ?_) (fun d3 => ?_)
   ·replace d3 := of_decide_eq_true d3
    obtain ⟨x_i_2, hx_i_2⟩ : ∃ v, (a0)[i_2]? = some v := ⟨_, List.getElem?_eq_getElem (by omega)⟩
    obtain ⟨C3_, H, K3_⟩ := forL_step L3_ hx_i_2
    rw [hb3] at H
    refine T_skip ?_
    refine T_seq ?_
    refine T_block ?_
    refine T_seq ?_
    refine T_regionD mixed (by kernel_rfl) ?_
    refine pq tb 2 rfl ?_
    refine TQ_pure rfl (pur_ixT (T := tInt) sl31 rfl rfl rfl hx_i_2 rfl) rfl ?_
    refine TQ_pure rfl (pur_ldT (T := tInt) (i := i_2) (off := 0) rfl one3 rfl rfl hx_i_2 rfl) rfl ?_
    obtain ⟨v_4, h_5, H⟩ := bind_inv H
    obtain ⟨n_6, hz_7, hv_8⟩ := getI_inv h_5
    refine pq tb 2 rfl ?_
    refine TQ_pure rfl (pur_ixT (T := tInt) sl31 rfl rfl hz_7 hv_8 rfl) rfl ?_
    refine TQ_pure rfl (pur_ldT (T := tInt) (i := n_6) (off := 0) rfl one3 rfl rfl hv_8 rfl) rfl ?_
    refine pq tb 1 rfl ?_
    refine TQ_nil ?_
    refine T_cond (t := decide (x_i_2 ≠ v_4)) rfl (fun c_9 => ?_) (fun c_9 => ?_)
    ·replace H := cond_t c_9 H
     refine sr ?_
     refine pv tb 1 rfl ?_
     refine TO_nil ?_
     refine te [(4, (boolA false))] rfl ?_
     refine T_ret ?_
     refine block_ret ?_
     refine then_ret ?_
     refine then_ret ?_
     refine block_ret ?_
     refine then_ret ?_
     obtain rfl := some_inj H
     obtain rfl := some_inj K3_
     replace H := onS_r N3_
     obtain rfl := some_inj H
     refine end_ret (.tmp .nil) rfl rfl ⟨?_, rfl⟩
     rfl
    ·replace H := cond_f c_9 H
     refine T_skip ?_
     refine T_region ?_
     refine pv tb 1 rfl ?_
     refine Tp rfl rfl (pur_add rfl rfl rfl (fits64 (by omega) (by omega))) rfl ?_
     refine pv tb 1 rfl ?_
     refine TO_nil ?_
     obtain rfl := some_inj H
     exact again (a0.length - (i_2 + 1)) (i_2 + 1) (by omega) (w0 0) ⟨rfl, K3_⟩
   ·replace d3 := of_decide_eq_false d3
    obtain rfl := forL_end L3_ (by omega)
    refine T_exit ?_
    refine then_exit ?_
    refine then_exit ?_
    refine block_exit ?_
    replace H := onS_l N3_
    refine sr ?_
    refine pv tb 1 rfl ?_
    refine TO_nil ?_
    refine T_ret ?_
    obtain rfl := some_inj H
    refine end_ret (.tmp .nil) rfl rfl ⟨?_, rfl⟩
    rfl

set_option maxHeartbeats 1000000 in
theorem m_impl_MaximalIndependentSets_1_c (u : Nat) (v0 : Int) (set1 : (List Int)) (fv2 : Int) (fv3 : (List ConflictEdge)) (fv4 : (List (List Int))) (r : (List (List Int))) (H : m_impl_MaximalIndependentSets_1 u v0 set1 fv2 fv3 fv4 = some r) : FnS prg 65 [(intA v0), (sl tInt set1), .b 0 0, .b 1 0, .b 2 0, .b 3 0] [.box [(intA fv2)], .box [(sl tConflictEdge fv3)], .box [(.m [4] 0 fv4.length (tSl tInt).k)], .box [(.f 65 [(.b 0 0), (.b 1 0), (.b 2 0), (.b 3 0)])], .row (flat (tSl tInt).own fv4)] (.t []) [.box [(intA fv2)], .box [(sl tConflictEdge fv3)], .box [(.m [5] 0 r.length (tSl tInt).k)], .box [(.f 65 [(.b 0 0), (.b 1 0), (.b 2 0), (.b 3 0)])], .dead, .row (flat (tSl tInt).own r)] := by
  induction u generalizing v0 set1 fv2 fv3 fv4 r with
  | zero => simp [m_impl_MaximalIndependentSets_1] at H
  | succ u IH =>
   rw [m_impl_MaximalIndependentSets_1] at H
   refine fnS_of_T Tryz.func65 rfl rfl (Nat.le_of_ble_eq_true rfl) ?_
   refine te [(0, (intA v0)), (1, (sl tInt set1)), (2, .b 0 0), (3, .b 1 0), (4, .b 2 0), (5, .b 3 0)] rfl ?_
   refine T_st (σ' := [.box [(intA fv2)], .box [(sl tConflictEdge fv3)], .box [(.m [4] 0 fv4.length (tSl tInt).k)], .box [(.f 65 [(.b 0 0), (.b 1 0), (.b 2 0), (.b 3 0)])], .row (flat (tSl tInt).own fv4)]) rfl ?_
   refine T_pad ?_
   refine T_move' 5 4 (by decide) (lb rfl) rfl rfl (lb rfl) ?_
   refine te [(0, (intA v0)), (1, (sl tInt set1)), (2, (.b 0 0)), (3, (.b 1 0)), (4, (.b 2 0)), (5, (.b 3 0))] rfl ?_
   refine T_st (σ' := [.box [(intA fv2)], .box [(sl tConflictEdge fv3)], .box [(.m [5] 0 fv4.length (tSl tInt).k)], .box [(.f 65 [(.b 0 0), (.b 1 0), (.b 2 0), (.b 3 0)])], .dead, .row (flat (tSl tInt).own fv4)]) rfl ?_
   refine T_seq ?_
   refine sr ?_
   refine pv tb 3 rfl ?_
   refine TO_nil ?_
   refine T_cond (t := decide (v0 = fv2)) rfl (fun c_1 => ?_) (fun c_1 => ?_)
   ·replace H := cond_t c_1 H
    refine T_seq ?_
    refine sr ?_
    obtain ⟨r_2, h_3, H⟩ := bind_inv H
    refine pv tb 3 rfl ?_
    refine TO_cons rfl (TOp_callV (call_static ent31 rfl) (m_impl_IsMaximalIndependent_ok _ _ _ _ h_3) rfl rfl rfl ?_)
    refine TO_nil ?_
    refine T_cond (t := r_2) rfl (fun c_4 => ?_) (fun c_4 => ?_)
    ·replace H := cond_t c_4 H
     obtain ⟨us_5, h_6, H⟩ := bind_inv H
     obtain ⟨us_7, h_8, H⟩ := bind_inv H
     refine T_pad ?_
     refine T_pad ?_
     refine T_pad ?_
     refine T_pad ?_
     refine T_regionPh 6 6 mixed rfl (by kernel_rfl) ?_
     refine pa tb [0, 2] 4 rfl (by kernel_rfl) rfl ?_
     refine t1 1 (by kernel_rfl) rfl rfl (TOp_lit (nn := 0) (k := 1) sl31 zero3 rfl rfl rfl rfl (by decide) ?_)
     refine tmw 6 10 (by decide) (lb rfl) rfl rfl (lb rfl) rfl ?_
     refine t1 3 (by kernel_rfl) rfl rfl (TOp_appY (T := tInt) (f := tInt.enc) (xs := ([] : (List Int))) (ys := set1) tInt.len sl31 zero3 rfl bytes3 (by decide) rfl rfl rfl rfl (src_T (T := tInt) rfl) (flat_cell tInt _) h_6 ?_)
     refine tmw 6 11 (by decide) (lb rfl) rfl rfl (lb rfl) rfl ?_
     refine tae [(4, (.b 2 0)), (16, (.m [5] 0 fv4.length (tSl tInt).k)), (19, (.m [6] 0 us_5.length tInt.k))] rfl ?_
     refine TA_st (σ' := [.dead, .dead, .dead, .dead, .dead, .row (flat (tSl tInt).own fv4), .row (flat tInt.enc us_5), .dead, .dead, .dead, .dead, .dead]) rfl ?_
     refine t1 4 (by kernel_rfl) rfl rfl (TOp_ghost (E' := [(4, (.b 2 0)), (16, (.m [5] 0 fv4.length (tSl tInt).k)), (19, (.m [6] 0 us_5.length tInt.k))]) (σ' := [.dead, .dead, .dead, .dead, .dead, .row (flat (tSl tInt).own fv4), .row (flat tInt.enc us_5), .dead, .dead, .dead]) (by exact Ghost.weak (w0 10)) (TOp_litB (nn := 1) (k := 1) sl27 zero31 rfl rfl rfl rfl (by decide) ?_))
     refine TA_st (σ' := [.dead, .dead, .dead, .dead, .dead, .row (flat (tSl tInt).own fv4), .row (flat tInt.enc us_5), .dead, .dead, .dead, .box [(.m [6] 0 us_5.length tInt.k)]]) rfl ?_
     refine tmw 9 5 (by decide) (lb rfl) rfl rfl (lb rfl) rfl ?_
     refine t1 5 (by kernel_rfl) rfl rfl (TOp_boxify 9 rfl (lb rfl) (TOp_appB (T := (tSl tInt)) (xs := fv4) (v := us_5) sl27 zero31 rfl bytes31 (by decide) rfl rfl rfl rfl rfl rfl rfl rfl h_8 (lb rfl) ?_))
     refine tae [(4, (.b 2 0)), (21, .m [11] 0 (fv4.length + 1) (tSl tInt).k)] rfl ?_
     refine TA_st (σ' := [.dead, .dead, .dead, .dead, .dead, .dead, .row (flat tInt.enc us_5), .dead, .dead, .dead, .box [(.m [6] 0 us_5.length tInt.k)], .box (flat (tSl tInt).own fv4 ++ [(.m [6] 0 us_5.length tInt.k)])]) rfl ?_
     refine TA_absorbA (pr := flat (tSl tInt).own fv4) 11 0 6 rfl rfl rfl (by decide) tInt.pos (flat_len tInt.len _) (lb rfl) (lb rfl) rfl (nms_dead (nms_dead (nms_dead (nms_dead (nms_dead (nms_dead (nms_row (nms_dead (nms_dead (nms_dead (nms_box rfl (nms_box (namesA namesL_own rfl) nms_nil)))))))))))) ?_
     refine TA_st (σ' := [.dead, .dead, .dead, .dead, .dead, .dead, .dead, .dead, .dead, .dead, .box [(.m [6] 0 us_5.length tInt.k)], .box (flat (tSl tInt).own fv4 ++ [.o tInt.k (flat tInt.enc us_5)])]) rfl ?_
     refine TA_rowifyT (T := (tSl tInt)) (xs := fv4) (v := us_5) 11 rfl rfl h_8 (lb rfl) ?_
     refine TA_st (σ' := [.dead, .dead, .dead, .dead, .dead, .dead, .dead, .dead, .dead, .dead, .box [(.m [6] 0 us_5.length tInt.k)], .row (flat (tSl tInt).own us_7)]) rfl ?_
     refine TA_move 9 11 (by decide) (lb rfl) rfl rfl (lb rfl) ?_
     refine TA_env (E' := [(4, (.b 2 0)), (21, (.m [9] 0 us_7.length (tSl tInt).k))]) ⟨rfl, (congrArg (fun q => A.m [9] 0 q (tSl tInt).k) (app_len h_8)), trivial⟩ ?_
     refine TA_kill 10 (lb rfl) ?_
     refine TA_st (σ' := [.dead, .dead, .dead, .dead, .dead, .dead, .dead, .dead, .dead, .row (flat (tSl tInt).own us_7), .dead, .dead]) rfl ?_
     refine TA_nil (by kernel_rfl) ?_
     refine TA_st (σ' := [.box [(intA fv2)], .box [(sl tConflictEdge fv3)], .box [(.m [5] 0 fv4.length (tSl tInt).k)], .box [(.f 65 [(.b 0 0), (.b 1 0), (.b 2 0), (.b 3 0)])], .dead, .dead, .dead, .dead, .dead, .row (flat (tSl tInt).own us_7), .dead, .dead]) rfl ?_
     refine tmv 5 9 (by decide) (lb rfl) rfl rfl (lb rfl) ?_
     refine TA_st (σ' := [.box [(intA fv2)], .box [(sl tConflictEdge fv3)], .box [.j], .box [(.f 65 [(.b 0 0), (.b 1 0), (.b 2 0), (.b 3 0)])], .dead, .row (flat (tSl tInt).own us_7), .dead, .dead, .dead, .dead, .dead, .dead]) rfl ?_
     refine t1 6 (by kernel_rfl) rfl rfl (TOp_storeB sz27 rfl rfl rfl rfl rfl rfl rfl (by decide) (lb rfl) rfl ?_)
     refine TA_st (σ' := [.box [(intA fv2)], .box [(sl tConflictEdge fv3)], .box [(.m [5] 0 us_7.length (tSl tInt).k)], .box [(.f 65 [(.b 0 0), (.b 1 0), (.b 2 0), (.b 3 0)])], .dead, .row (flat (tSl tInt).own us_7), .dead, .dead, .dead, .dead, .dead, .dead]) rfl ?_
     refine TA_nil (by kernel_rfl) ?_
     refine T_ret ?_
     refine then_ret ?_
     obtain rfl := some_inj H
     exact end_pickX .nil rfl [0, 1, 2, 3, 4, 5] (by decide) (lb rfl) rfl (lb rfl) rfl rfl rfl rfl rfl rfl
    ·replace H := cond_f c_4 H
     refine T_skip ?_
     refine T_ret ?_
     refine then_ret ?_
     obtain rfl := some_inj H
     exact end_pickX .nil rfl [0, 1, 2, 3, 4, 5] (by decide) (lb rfl) rfl (lb rfl) rfl rfl rfl rfl rfl rfl
   ·replace H := cond_f c_1 H
    refine T_skip ?_
    refine T_seq ?_
    refine sr ?_
    obtain ⟨r_9, h_10, H⟩ := bind_inv H
    refine pv tb 1 rfl ?_
    refine TO_cons rfl (TOp_callO (call_static ent53 rfl) rfl (m_slices_Clone_Sint_int_own _ _ h_10) rfl rfl rfl ?_)
    refine toe [(0, (intA v0)), (1, (sl tInt set1)), (3, (.b 1 0)), (5, (.b 3 0)), (22, (sl tInt set1)), (23, (.m [6] 0 r_9.length tInt.k))] rfl ?_
    refine TO_st (σ' := [.box [(intA fv2)], .box [(sl tConflictEdge fv3)], .box [(.m [5] 0 fv4.length (tSl tInt).k)], .box [(.f 65 [(.b 0 0), (.b 1 0), (.b 2 0), (.b 3 0)])], .dead, .row (flat (tSl tInt).own fv4), .row (flat tInt.own r_9)]) rfl ?_
    refine pv tb 1 rfl ?_
    refine TO_cons rfl (TOp_lit (nn := 1) (k := 1) sl31 zero3 rfl rfl rfl rfl (by decide) ?_)
    refine TO_st (σ' := [.box [(intA fv2)], .box [(sl tConflictEdge fv3)], .box [(.m [5] 0 fv4.length (tSl tInt).k)], .box [(.f 65 [(.b 0 0), (.b 1 0), (.b 2 0), (.b 3 0)])], .dead, .row (flat (tSl tInt).own fv4), .row (flat tInt.own r_9), .row (flat tInt.enc ([v0] : (List Int)))]) rfl ?_
    obtain ⟨us_11, h_12, H⟩ := bind_inv H
    refine TO_cons rfl (TOp_appZ (T := tInt) (f := tInt.own) (xs := r_9) (ys := ([v0] : (List Int))) tInt.lenO sl31 zero3 rfl bytes3 (by decide) rfl rfl rfl rfl (src_mT (f := tInt.own) tInt.lenO rfl rfl (flat_cell tInt _)) (flat_cell tInt _) h_12 (lb rfl) ?_)
    refine toe [(0, (intA v0)), (1, (sl tInt set1)), (3, (.b 1 0)), (5, (.b 3 0)), (22, (sl tInt set1)), (24, (intA v0)), (25, (.m [7] 0 ([v0] : (List Int)).length tInt.k)), (26, (.m [6] 0 us_11.length tInt.k))] rfl ?_
    refine TO_st (σ' := [.box [(intA fv2)], .box [(sl tConflictEdge fv3)], .box [(.m [5] 0 fv4.length (tSl tInt).k)], .box [(.f 65 [(.b 0 0), (.b 1 0), (.b 2 0), (.b 3 0)])], .dead, .row (flat (tSl tInt).own fv4), .row (flat tInt.own us_11), .row (flat tInt.enc ([v0] : (List Int))), .dead]) rfl ?_
    refine pv tb 1 rfl ?_
    refine TO_nil ?_
    refine sr ?_
    obtain ⟨r_13, h_14, H⟩ := bind_inv H
    refine pv tb 2 rfl ?_
    refine TO_cons rfl (TOp_callB (call_static ent61 rfl) (frz_cons (frz_loose rfl) (frz_cons (frzT (T := tInt) rfl) frz_nil)).1 (frz_cons (frz_loose rfl) (frz_cons (frzT (T := tInt) rfl) frz_nil)).2 (m_impl_IsIndependent_ok _ _ _ h_14) rfl ?_)
    refine TO_nil ?_
    refine T_cond (t := r_13) rfl (fun c_15 => ?_) (fun c_15 => ?_)
    ·replace H := cond_t c_15 H
     refine T_region ?_
     refine pv tb 4 rfl ?_
     refine TO_frz1 6 (E' := [(0, (intA v0)), (1, (sl tInt set1)), (5, (.b 3 0)), (8, (sl tInt us_11)), (29, (boolA r_13)), (30, (.f 65 [(.b 0 0), (.b 1 0), (.b 2 0), (.b 3 0)])), (31, (intA v0)), (32, (intA (w64 (v0 + 1)))), (33, (sl tInt us_11))]) rfl rfl (lb rfl) ⟨(.keep rfl), (.keep rfl), (.keep rfl), fz1T, (.keep rfl), (.keep rfl), (.keep rfl), (.keep rfl), fz1T, trivial⟩ ?_
     refine TO_st (σ' := [.box [(intA fv2)], .box [(sl tConflictEdge fv3)], .box [(.m [5] 0 fv4.length (tSl tInt).k)], .box [(.f 65 [(.b 0 0), (.b 1 0), (.b 2 0), (.b 3 0)])], .dead, .row (flat (tSl tInt).own fv4), .dead, .row (flat tInt.enc ([v0] : (List Int))), .dead]) rfl ?_
     obtain ⟨r_16, h_17, H⟩ := bind_inv H
     refine TO_cons rfl (TOp_callS [0, 1, 2, 3, 5] (call_closure (caps := [(.b 0 0), (.b 1 0), (.b 2 0), (.b 3 0)]) ent65 rfl rfl) (by decide) rfl rfl rfl rfl rfl rfl (IH _ _ _ _ _ _ h_17) rfl rfl ?_)
     refine toe [(0, (intA v0)), (1, (sl tInt set1)), (5, (.b 3 0)), (8, (sl tInt us_11)), (29, (boolA r_13)), (30, (.f 65 [(.b 0 0), (.b 1 0), (.b 2 0), (.b 3 0)])), (31, (intA v0)), (32, (intA (w64 (v0 + 1)))), (33, (sl tInt us_11))] rfl ?_
     refine TO_st (σ' := [.box [(intA fv2)], .box [(sl tConflictEdge fv3)], .box [(.m [9] 0 r_16.length (tSl tInt).k)], .box [(.f 65 [(.b 0 0), (.b 1 0), (.b 2 0), (.b 3 0)])], .dead, .dead, .dead, .row (flat tInt.enc ([v0] : (List Int))), .dead, .row (flat (tSl tInt).own r_16)]) rfl ?_
     refine TO_move 5 9 (by decide) (lb rfl) rfl rfl (lb rfl) ?_
     refine toe [(0, (intA v0)), (1, (sl tInt set1)), (5, (.b 3 0)), (8, (sl tInt us_11)), (29, (boolA r_13)), (30, (.f 65 [(.b 0 0), (.b 1 0), (.b 2 0), (.b 3 0)])), (31, (intA v0)), (32, (intA (w64 (v0 + 1)))), (33, (sl tInt us_11))] rfl ?_
     refine TO_st (σ' := [.box [(intA fv2)], .box [(sl tConflictEdge fv3)], .box [(.m [5] 0 r_16.length (tSl tInt).k)], .box [(.f 65 [(.b 0 0), (.b 1 0), (.b 2 0), (.b 3 0)])], .dead, .row (flat (tSl tInt).own r_16), .dead, .row (flat tInt.enc ([v0] : (List Int))), .dead, .dead]) rfl ?_
     refine TO_nil ?_
     refine T_region ?_
     obtain ⟨r_18, h_19, H⟩ := bind_inv H
     refine pv tb 4 rfl ?_
     refine TO_cons rfl (TOp_callS [0, 1, 2, 3, 5] (call_closure (caps := [(.b 0 0), (.b 1 0), (.b 2 0), (.b 3 0)]) ent65 rfl rfl) (by decide) rfl rfl rfl rfl rfl rfl (IH _ _ _ _ _ _ h_19) rfl rfl ?_)
     refine toe [(0, (intA v0)), (1, (sl tInt set1)), (5, (.b 3 0)), (35, (.f 65 [(.b 0 0), (.b 1 0), (.b 2 0), (.b 3 0)])), (36, (intA v0)), (37, (intA (w64 (v0 + 1)))), (38, (sl tInt set1))] rfl ?_
     refine TO_st (σ' := [.box [(intA fv2)], .box [(sl tConflictEdge fv3)], .box [(.m [10] 0 r_18.length (tSl tInt).k)], .box [(.f 65 [(.b 0 0), (.b 1 0), (.b 2 0), (.b 3 0)])], .dead, .dead, .dead, .row (flat tInt.enc ([v0] : (List Int))), .dead, .dead, .row (flat (tSl tInt).own r_18)]) rfl ?_
     refine TO_move 5 10 (by decide) (lb rfl) rfl rfl (lb rfl) ?_
     refine toe [(0, (intA v0)), (1, (sl tInt set1)), (5, (.b 3 0)), (35, (.f 65 [(.b 0 0), (.b 1 0), (.b 2 0), (.b 3 0)])), (36, (intA v0)), (37, (intA (w64 (v0 + 1)))), (38, (sl tInt set1))] rfl ?_
     refine TO_st (σ' := [.box [(intA fv2)], .box [(sl tConflictEdge fv3)], .box [(.m [5] 0 r_18.length (tSl tInt).k)], .box [(.f 65 [(.b 0 0), (.b 1 0), (.b 2 0), (.b 3 0)])], .dead, .row (flat (tSl tInt).own r_18), .dead, .row (flat tInt.enc ([v0] : (List Int))), .dead, .dead, .dead]) rfl ?_
     refine TO_nil ?_
     obtain rfl := some_inj H
     exact end_pickX .nil rfl [0, 1, 2, 3, 4, 5] (by decide) (lb rfl) rfl (lb rfl) rfl rfl rfl rfl rfl rfl
    ·replace H := cond_f c_15 H
     refine T_skip ?_
     refine T_region ?_
     obtain ⟨r_20, h_21, H⟩ := bind_inv H
     refine pv tb 4 rfl ?_
     refine TO_cons rfl (TOp_callS [0, 1, 2, 3, 5] (call_closure (caps := [(.b 0 0), (.b 1 0), (.b 2 0), (.b 3 0)]) ent65 rfl rfl) (by decide) rfl rfl rfl rfl rfl rfl (IH _ _ _ _ _ _ h_21) rfl rfl ?_)
     refine toe [(0, (intA v0)), (1, (sl tInt set1)), (5, (.b 3 0)), (35, (.f 65 [(.b 0 0), (.b 1 0), (.b 2 0), (.b 3 0)])), (36, (intA v0)), (37, (intA (w64 (v0 + 1)))), (38, (sl tInt set1))] rfl ?_
     refine TO_st (σ' := [.box [(intA fv2)], .box [(sl tConflictEdge fv3)], .box [(.m [9] 0 r_20.length (tSl tInt).k)], .box [(.f 65 [(.b 0 0), (.b 1 0), (.b 2 0), (.b 3 0)])], .dead, .dead, .row (flat tInt.own us_11), .row (flat tInt.enc ([v0] : (List Int))), .dead, .row (flat (tSl tInt).own r_20)]) rfl ?_
     refine TO_move 5 9 (by decide) (lb rfl) rfl rfl (lb rfl) ?_
     refine toe [(0, (intA v0)), (1, (sl tInt set1)), (5, (.b 3 0)), (35, (.f 65 [(.b 0 0), (.b 1 0), (.b 2 0), (.b 3 0)])), (36, (intA v0)), (37, (intA (w64 (v0 + 1)))), (38, (sl tInt set1))] rfl ?_
     refine TO_st (σ' := [.box [(intA fv2)], .box [(sl tConflictEdge fv3)], .box [(.m [5] 0 r_20.length (tSl tInt).k)], .box [(.f 65 [(.b 0 0), (.b 1 0), (.b 2 0), (.b 3 0)])], .dead, .row (flat (tSl tInt).own r_20), .row (flat tInt.own us_11), .row (flat tInt.enc ([v0] : (List Int))), .dead, .dead]) rfl ?_
     refine TO_nil ?_
     obtain rfl := some_inj H
     exact end_pickX .nil rfl [0, 1, 2, 3, 4, 5] (by decide) (lb rfl) rfl (lb rfl) rfl rfl rfl rfl rfl rfl

set_option maxHeartbeats 1000000 in
theorem m_impl_MaximalIndependentSets_own (u : Nat) (n0 : Int) (edges1 : (List ConflictEdge)) (r : (List (List Int))) (H : m_impl_MaximalIndependentSets u n0 edges1 = some r) : FnO prg 38 [(intA n0), (sl tConflictEdge edges1)] (.m [0] 0 r.length (tSl tInt).k) [.row (flat (tSl tInt).own r)] := by
  unfold m_impl_MaximalIndependentSets at H
  refine fnO_of_T Tryz.func38 rfl rfl (Nat.le_of_ble_eq_true rfl) ?_
  refine te [(0, (intA n0)), (1, (sl tConflictEdge edges1))] rfl ?_
  refine sr ?_
  refine TO_cons rfl (TOp_box rfl (boxAll rfl) rfl rfl ?_)
  refine TO_cons rfl (TOp_box rfl (boxAll rfl) rfl rfl ?_)
  refine pv tb 1 rfl ?_
  refine TO_nil ?_
  refine T_seq ?_
  refine sr ?_
  obtain ⟨r_1, h_2, H⟩ := bind_inv H
  refine pv tb 2 rfl ?_
  refine TO_cons rfl (TOp_callV (call_static ent40 rfl) (m_impl_AreValidEdges_ok _ _ _ h_2) rfl rfl rfl ?_)
  refine pv tb 1 rfl ?_
  refine TO_nil ?_
  refine T_cond (t := (!r_1)) rfl (fun c_3 => ?_) (fun c_3 => ?_)
  ·replace H := cond_t c_3 H
   refine sr ?_
   refine pv tb 1 rfl ?_
   refine TO_nil ?_
   refine T_row0 ?_
   refine T_envL (E' := [(4, (.m [2] 0 ([] : (List (List Int))).length (tSl tInt).k))]) ⟨leM, trivial⟩ ?_
   refine T_st (σ' := [.box [(intA n0)], .box [(sl tConflictEdge edges1)], .row (flat (tSl tInt).own ([] : (List (List Int))))]) rfl ?_
   refine T_ret ?_
   refine then_ret ?_
   obtain rfl := some_inj H
   exact end_pick (.tmp .nil) rfl [2] (by decide) rfl rfl rfl rfl rfl rfl
  ·replace H := cond_f c_3 H
   refine T_skip ?_
   refine sr ?_
   refine TO_cons rfl (TOp_lit (nn := 0) (k := 1) sl27 zero31 rfl rfl rfl rfl (by decide) ?_)
   refine TO_st (σ' := [.box [(intA n0)], .box [(sl tConflictEdge edges1)], .row (flat (tSl tInt).own ([] : (List (List Int))))]) rfl ?_
   refine TO_cons rfl (TOp_alloc zero27 rfl rfl ?_)
   refine TO_cons rfl (TOp_storeB sz27 rfl rfl rfl rfl rfl rfl rfl (by decide) (lb rfl) rfl ?_)
   refine TO_st (σ' := [.box [(intA n0)], .box [(sl tConflictEdge edges1)], .row (flat (tSl tInt).own ([] : (List (List Int)))), .box [(.m [2] 0 ([] : (List (List Int))).length (tSl tInt).k)]]) rfl ?_
   refine TO_nil ?_
   refine sr ?_
   refine TO_cons rfl (TOp_alloc zero74 rfl rfl ?_)
   refine TO_nil ?_
   refine sr ?_
   refine pv tb 1 rfl ?_
   refine TO_cons rfl (TOp_storeB sz74 rfl rfl rfl rfl rfl rfl rfl (by decide) (lb rfl) rfl ?_)
   refine TO_st (σ' := [.box [(intA n0)], .box [(sl tConflictEdge edges1)], .row (flat (tSl tInt).own ([] : (List (List Int)))), .box [(.m [2] 0 ([] : (List (List Int))).length (tSl tInt).k)], .box [(.f 65 [(.b 0 0), (.b 1 0), (.b 3 0), (.b 4 0)])]]) rfl ?_
   refine TO_nil ?_
   refine sr ?_
   obtain ⟨r_4, h_5, H⟩ := bind_inv H
   refine pv tb 1 rfl ?_
   refine TO_cons rfl (TOp_callS [0, 1, 3, 4, 2] (CallOp.le (call_closure (caps := [(.b 0 0), (.b 1 0), (.b 3 0), (.b 4 0)]) ent65 rfl rfl) (leCons (leR rfl) (leCons leN (leCons (leR rfl) (leCons (leR rfl) (leCons (leR rfl) (leCons (leR rfl) leNil))))))) (by decide) rfl rfl rfl rfl rfl rfl (m_impl_MaximalIndependentSets_1_c u _ _ _ _ _ _ h_5) rfl rfl ?_)
   refine toe [(5, (.b 3 0)), (6, (.b 4 0)), (13, (.f 65 [(.b 0 0), (.b 1 0), (.b 3 0), (.b 4 0)]))] rfl ?_
   refine TO_st (σ' := [.box [(intA n0)], .box [(sl tConflictEdge edges1)], .dead, .box [(.m [5] 0 r_4.length (tSl tInt).k)], .box [(.f 65 [(.b 0 0), (.b 1 0), (.b 3 0), (.b 4 0)])], .row (flat (tSl tInt).own r_4)]) rfl ?_
   refine TO_move 2 5 (by decide) (lb rfl) rfl rfl (lb rfl) ?_
   refine toe [(5, (.b 3 0)), (6, (.b 4 0)), (13, (.f 65 [(.b 0 0), (.b 1 0), (.b 3 0), (.b 4 0)]))] rfl ?_
   refine TO_st (σ' := [.box [(intA n0)], .box [(sl tConflictEdge edges1)], .row (flat (tSl tInt).own r_4), .box [(.m [2] 0 r_4.length (tSl tInt).k)], .box [(.f 65 [(.b 0 0), (.b 1 0), (.b 3 0), (.b 4 0)])], .dead]) rfl ?_
   refine TO_nil ?_
   refine sr ?_
   refine pv tb 2 rfl ?_
   refine TO_nil ?_
   refine T_ret ?_
   obtain rfl := some_inj H
   exact end_pick (.tmp .nil) rfl [2] (by decide) rfl rfl rfl rfl rfl rfl
theorem m_impl_MaximalIndependentSets_ok (u : Nat) (n0 : Int) (edges1 : (List ConflictEdge)) (r : (List (List Int))) (H : m_impl_MaximalIndependentSets u n0 edges1 = some r) : FnV prg 38 [(intA n0), (sl tConflictEdge edges1)] (sl (tSl tInt) r) := (m_impl_MaximalIndependentSets_own u n0 edges1 r H).frz (frzT (T := (tSl tInt)) rfl)

set_option maxHeartbeats 1000000 in
theorem m_impl_ParetoOptimalRepairs_own (u : Nat) (n0 : Int) (edges1 : (List ConflictEdge)) (preferences2 : (List ConflictEdge)) (r : (List (List Int))) (H : m_impl_ParetoOptimalRepairs u n0 edges1 preferences2 = some r) : FnO prg 15 [(intA n0), (sl tConflictEdge edges1), (sl tConflictEdge preferences2)] (.m [0] 0 r.length (tSl tInt).k) [.row (flat (tSl tInt).own r)] := by
  unfold m_impl_ParetoOptimalRepairs at H
  refine fnO_of_T Tryz.func15 rfl rfl (Nat.le_of_ble_eq_true rfl) ?_
  refine te [(0, (intA n0)), (1, (sl tConflictEdge edges1)), (2, (sl tConflictEdge preferences2))] rfl ?_
  refine sr ?_
  refine pv tb 1 rfl ?_
  refine TO_nil ?_
  refine sr ?_
  refine TO_cons rfl (TOp_lit (nn := 0) (k := 1) sl27 zero31 rfl rfl rfl rfl (by decide) ?_)
  refine TO_st (σ' := [.row (flat (tSl tInt).own ([] : (List (List Int))))]) rfl ?_
  refine pv tb 1 rfl ?_
  refine TO_nil ?_
  refine T_seq ?_
  refine sr ?_
  obtain ⟨r_1, h_2, H⟩ := bind_inv H
  refine pv tb 2 rfl ?_
  refine TO_cons rfl (TOp_callO (call_static ent38 rfl) rfl (m_impl_MaximalIndependentSets_own u _ _ _ h_2) rfl rfl rfl ?_)
  refine toe [(0, (intA n0)), (1, (sl tConflictEdge edges1)), (2, (sl tConflictEdge preferences2)), (7, (.m [0] 0 ([] : (List (List Int))).length (tSl tInt).k)), (11, (intA n0)), (12, (sl tConflictEdge edges1)), (13, (.m [1] 0 r_1.length (tSl tInt).k))] rfl ?_
  refine TO_st (σ' := [.row (flat (tSl tInt).own ([] : (List (List Int)))), .row (flat (tSl tInt).own r_1)]) rfl ?_
  refine Tp rfl rfl (pur_len_m sl27 rfl rfl) rfl ?_
  refine pv tb 1 rfl ?_
  refine TO_nil ?_
  obtain ⟨O4_, L4_, N4_⟩ := bind_inv H
  clear H
  obtain ⟨B4_, hb4, L4_⟩ := gen_forS L4_
  refine T_block ?_
  refine T_st (σ' := [.row (flat (tSl tInt).own ([] : (List (List Int)))), .row (hideTo (0 * (tSl tInt).k) (flat (tSl tInt).own r_1))]) (by rw [Nat.zero_mul, hideTo_zero]) ?_
  refine T_loopX (fun k => fun (⟨t_3, out7⟩ : Nat × (List (List Int))) => k = r_1.length - t_3 ∧ forS B4_ (r_1.drop t_3) (t_3 : Int) out7 = some O4_) (fun (⟨t_3, out7⟩ : Nat × (List (List Int))) => [(0, (intA n0)), (1, (sl tConflictEdge edges1)), (2, (sl tConflictEdge preferences2)), (7, (.m [0] 0 out7.length (tSl tInt).k)), (13, (.m [1] 0 r_1.length (tSl tInt).k)), (14, (intA (r_1.length : Int))), (15, (intA (t_3 : Int)))]) (fun (⟨t_3, out7⟩ : Nat × (List (List Int))) => [.row (flat (tSl tInt).own out7), .row (hideTo (t_3 * (tSl tInt).k) (flat (tSl tInt).own r_1))]) _ (0, ([] : (List (List Int)))) (w0 2) ⟨rfl, L4_⟩ ?_
  rintro _ ⟨t_3, out7⟩ ⟨rfl, L4_⟩
  refine T_fact (len_m (.tmp 13) rfl) (fun hl4 => ?_)
  refine sr ?_
  refine pv tb 1 rfl ?_
  refine TO_nil ?_
  refine T_seq ?_
  refine T_cond (t := decide ((t_3 : Int) < (r_1.length : Int))) rfl (fun d4 => ?_) (fun d4 => ?_)
  ·replace d4 := of_decide_eq_true d4
   obtain ⟨x_t_3, hx_t_3⟩ : ∃ v, (r_1)[t_3]? = some v := ⟨_, List.getElem?_eq_getElem (by omega)⟩
   obtain ⟨C4_, H, K4_⟩ := forS_step L4_ hx_t_3
   rw [hb4] at H
   refine T_skip ?_
   refine T_seq ?_
   refine T_block ?_
   refine sr ?_
   refine Tp rfl rfl (pur_ixM (T := (tSl tInt)) sl27 rfl rfl rfl hx_t_3 rfl) rfl ?_
   refine Tp rfl rfl (pur_ldG (T := (tSl tInt)) (i := t_3) (off := 0) rfl one31 rfl rfl rfl (Nat.le_refl _) hx_t_3 rfl cellVal_sl) rfl ?_
   refine TO_gh (E' := [(0, (intA n0)), (1, (sl tConflictEdge edges1)), (2, (sl tConflictEdge preferences2)), (7, (.m [0] 0 out7.length (tSl tInt).k)), (13, (.m [1] 0 r_1.length (tSl tInt).k)), (14, (intA (r_1.length : Int))), (15, (intA (t_3 : Int))), (18, (.m [2] 0 x_t_3.length tInt.k))]) (Ghost.detT (T := (tSl tInt)) (T2 := tInt) (s := 1) (c := t_3 * (tSl tInt).k) (i := t_3) (off := 0) (xs := r_1) (v := x_t_3) (ys := x_t_3) rfl hx_t_3 (by omega) rfl (by exact lb rfl) ⟨.r _, .r _, .r _, .r _, .r _, .r _, .r _, .m _ _ _, trivial⟩) ?_
   refine TO_st (σ' := [.row (flat (tSl tInt).own out7), .row (hideTo (t_3 * (tSl tInt).k + 0 + 1) (flat (tSl tInt).own r_1)), .row (flat tInt.own x_t_3)]) rfl ?_
   refine pv tb 1 rfl ?_
   refine TO_nil ?_
   refine sr ?_
   obtain ⟨r_5, h_6, H⟩ := bind_inv H
   refine pv tb 4 rfl ?_
   refine TO_cons rfl (TOp_callB (call_static ent12 rfl) (frz_cons (frz_loose rfl) (frz_cons (frz_loose rfl) (frz_cons (frz_loose rfl) (frz_cons (frzT (T := tInt) rfl) frz_nil)))).1 (frz_cons (frz_loose rfl) (frz_cons (frz_loose rfl) (frz_cons (frz_loose rfl) (frz_cons (frzT (T := tInt) rfl) frz_nil)))).2 (m_impl_IsParetoOptimal_ok u _ _ _ _ _ h_6) rfl ?_)
   refine TO_nil ?_
   refine T_cond (t := r_5) rfl (fun c_7 => ?_) (fun c_7 => ?_)
   ·replace H := cond_t c_7 H
    refine T_region ?_
    refine pv tb 2 rfl ?_
    refine TO_cons rfl (TOp_litB (nn := 1) (k := 1) sl27 zero31 rfl rfl rfl rfl (by decide) ?_)
    refine TO_st (σ' := [.row (flat (tSl tInt).own out7), .row (hideTo (t_3 * (tSl tInt).k + 0 + 1) (flat (tSl tInt).own r_1)), .row (flat tInt.own x_t_3), .box [(.m [2] 0 x_t_3.length tInt.k)]]) rfl ?_
    refine TO_boxify 0 rfl (lb rfl) ?_
    obtain ⟨us_8, h_9, H⟩ := bind_inv H
    refine TO_cons rfl (TOp_appB (T := (tSl tInt)) (xs := out7) (v := x_t_3) sl27 zero31 rfl bytes31 (by decide) rfl rfl rfl rfl rfl rfl rfl rfl h_9 (lb rfl) ?_)
    refine toe [(0, (intA n0)), (1, (sl tConflictEdge edges1)), (2, (sl tConflictEdge preferences2)), (13, (.m [1] 0 r_1.length (tSl tInt).k)), (14, (intA (r_1.length : Int))), (15, (intA (t_3 : Int))), (23, (boolA r_5)), (27, .m [4] 0 (out7.length + 1) (tSl tInt).k)] rfl ?_
    refine TO_st (σ' := [.dead, .row (hideTo (t_3 * (tSl tInt).k + 0 + 1) (flat (tSl tInt).own r_1)), .row (flat tInt.own x_t_3), .box [(.m [2] 0 x_t_3.length tInt.k)], .box (flat (tSl tInt).own out7 ++ [(.m [2] 0 x_t_3.length tInt.k)])]) rfl ?_
    refine TO_absorbA (pr := flat (tSl tInt).own out7) 4 0 2 rfl rfl rfl (by decide) tInt.pos (flat_len tInt.lenO _) (lb rfl) (lb rfl) rfl (nms_dead (nms_row (nms_row (nms_box rfl (nms_box (namesA namesL_own rfl) nms_nil))))) ?_
    refine TO_st (σ' := [.dead, .row (hideTo (t_3 * (tSl tInt).k + 0 + 1) (flat (tSl tInt).own r_1)), .dead, .box [(.m [2] 0 x_t_3.length tInt.k)], .box (flat (tSl tInt).own out7 ++ [.o tInt.k (flat tInt.own x_t_3)])]) rfl ?_
    refine TO_rowifyT (T := (tSl tInt)) (xs := out7) (v := x_t_3) 4 rfl rfl h_9 (lb rfl) ?_
    refine TO_st (σ' := [.dead, .row (hideTo (t_3 * (tSl tInt).k + 0 + 1) (flat (tSl tInt).own r_1)), .dead, .box [(.m [2] 0 x_t_3.length tInt.k)], .row (flat (tSl tInt).own us_8)]) rfl ?_
    refine TO_move 0 4 (by decide) (lb rfl) rfl rfl (lb rfl) ?_
    refine TO_env (E' := [(0, (intA n0)), (1, (sl tConflictEdge edges1)), (2, (sl tConflictEdge preferences2)), (13, (.m [1] 0 r_1.length (tSl tInt).k)), (14, (intA (r_1.length : Int))), (15, (intA (t_3 : Int))), (23, (boolA r_5)), (27, (.m [0] 0 us_8.length (tSl tInt).k))]) ⟨rfl, rfl, rfl, rfl, rfl, rfl, rfl, (congrArg (fun q => A.m [0] 0 q (tSl tInt).k) (app_len h_9)), trivial⟩ ?_
    refine TO_kill 3 (lb rfl) ?_
    refine TO_st (σ' := [.row (flat (tSl tInt).own us_8), .row (hideTo (t_3 * (tSl tInt).k + 0 + 1) (flat (tSl tInt).own r_1)), .dead, .dead, .dead]) rfl ?_
    refine pv tb 1 rfl ?_
    refine TO_nil ?_
    refine T_gh (Ghost.hide (s := 1) (c := t_3 * (tSl tInt).k + 0 + 1) (c' := (t_3 + 1) * (tSl tInt).k) (hide_le1 (d := 0) (by decide)) rfl (by exact lb rfl)) ?_
    refine T_st (σ' := [.row (flat (tSl tInt).own us_8), .row (hideTo ((t_3 + 1) * (tSl tInt).k) (flat (tSl tInt).own r_1)), .dead, .dead, .dead]) rfl ?_
    refine T_region ?_
    refine Tp rfl rfl (pur_add rfl rfl rfl (fits64 (by omega) (by omega))) rfl ?_
    refine pv tb 1 rfl ?_
    refine TO_nil ?_
    obtain rfl := some_inj H
    exact again (r_1.length - (t_3 + 1)) (t_3 + 1, us_8) (by omega) (w0 2) ⟨rfl, K4_⟩
   ·replace H := cond_f c_7 H
    refine T_skip ?_
    refine T_gh (Ghost.hide (s := 1) (c := t_3 * (tSl tInt).k + 0 + 1) (c' := (t_3 + 1) * (tSl tInt).k) (hide_le1 (d := 0) (by decide)) rfl (by exact lb rfl)) ?_
    refine T_st (σ' := [.row (flat (tSl tInt).own out7), .row (hideTo ((t_3 + 1) * (tSl tInt).k) (flat (tSl tInt).own r_1)), .row (flat tInt.own x_t_3)]) rfl ?_
    refine T_region ?_
    refine Tp rfl rfl (pur_add rfl rfl rfl (fits64 (by omega) (by omega))) rfl ?_
    refine pv tb 1 rfl ?_
    refine TO_nil ?_
    obtain rfl := some_inj H
    exact again (r_1.length - (t_3 + 1)) (t_3 + 1, out7) (by omega) (w0 2) ⟨rfl, K4_⟩
  ·replace d4 := of_decide_eq_false d4
   obtain rfl := forS_end L4_ (by omega)
   refine T_exit ?_
   refine then_exit ?_
   refine then_exit ?_
   refine block_exit ?_
   refine T_kill 1 (lb rfl) ?_
   refine T_st (σ' := [.row (flat (tSl tInt).own out7), .dead]) rfl ?_
   replace H := N4_
   refine sr ?_
   refine pv tb 2 rfl ?_
   refine TO_nil ?_
   refine T_ret ?_
   obtain rfl := some_inj H
   exact end_pick (.tmp .nil) rfl [0] (by decide) rfl rfl rfl rfl rfl rfl
theorem m_impl_ParetoOptimalRepairs_ok (u : Nat) (n0 : Int) (edges1 : (List ConflictEdge)) (preferences2 : (List ConflictEdge)) (r : (List (List Int))) (H : m_impl_ParetoOptimalRepairs u n0 edges1 preferences2 = some r) : FnV prg 15 [(intA n0), (sl tConflictEdge edges1), (sl tConflictEdge preferences2)] (sl (tSl tInt) r) := (m_impl_ParetoOptimalRepairs_own u n0 edges1 preferences2 r H).frz (frzT (T := (tSl tInt)) rfl)

set_option maxHeartbeats 1000000 in
theorem m_spec_l1Byte_x (c0 : l1Cur) (r : (Int × l1Cur)) (H : m_spec_l1Byte c0 = some r) : FnS prg 70 [(.b 0 0)] [.box [(sl (tI .u8) c0.b), (intA c0.i), (intA c0.h)]] (intA r.1) [.box [(sl (tI .u8) r.2.b), (intA r.2.i), (intA r.2.h)]] := by
  unfold m_spec_l1Byte at H
  refine fnS_of_T Tryz.func70 rfl rfl (Nat.le_of_ble_eq_true rfl) ?_
  refine te [(0, (.b 0 0))] rfl ?_
  refine T_st (σ' := [.box [(sl (tI .u8) c0.b), (intA c0.i), (intA c0.h)]]) rfl ?_
  refine sr ?_
  refine pv tb 1 rfl ?_
  refine TO_nil ?_
  refine sr ?_
  refine pv tb 2 rfl ?_
  refine Tp rfl rfl (pur_nil_b rfl rfl) rfl ?_
  refine pv tb 4 rfl ?_
  refine Tp rfl rfl (pur_nil_b rfl rfl) rfl ?_
  refine pv tb 1 rfl ?_
  refine TO_cons rfl (TOp_storeB sz3 rfl rfl rfl rfl rfl rfl rfl (by decide) (lb rfl) rfl ?_)
  refine TO_st (σ' := [.box [(sl (tI .u8) c0.b), (intA c0.i), (intA (w64 ((w64 (c0.h * 6364136223846793005)) + 1442695040888963407)))]]) rfl ?_
  refine TO_nil ?_
  refine T_seq ?_
  refine T_regionD mixed (by kernel_rfl) ?_
  refine pq tb 1 rfl ?_
  refine TQ_pure rfl (pur_nil_b rfl rfl) rfl ?_
  refine pq tb 2 rfl ?_
  refine TQ_pure rfl (pur_shr rfl rfl rfl (by decide)) rfl ?_
  refine pq tb 1 rfl ?_
  refine TQ_pure rfl (pur_nil_b rfl rfl) rfl ?_
  refine pq tb 1 rfl ?_
  refine tqe [(0, (.b 0 0)), (17, (intA (shrI .i64 (w64 ((w64 (c0.h * 6364136223846793005)) + 1442695040888963407)) 33))), (20, (.b 0 2))] rfl ?_
  refine pq tb 1 rfl ?_
  refine TQ_pure rfl (pur_shr rfl rfl rfl (by decide)) rfl ?_
  refine TQ_pure rfl (pur_xor rfl rfl rfl) rfl ?_
  refine TQ_pure rfl (pur_and rfl rfl rfl) rfl ?_
  refine pq tb 1 rfl ?_
  refine TQ_nil ?_
  refine T_seq ?_
  refine T_seq ?_
  refine T_regionD mixed (by kernel_rfl) ?_
  refine pq tb 1 rfl ?_
  refine TQ_pure rfl (pur_nil_b rfl rfl) rfl ?_
  refine pq tb 3 rfl ?_
  refine TQ_pure rfl (pur_nil_b rfl rfl) rfl ?_
  refine pq tb 2 rfl ?_
  refine TQ_pure rfl (pur_lenT (T := (tI .u8)) sl22 rfl rfl) rfl ?_
  refine pq tb 1 rfl ?_
  refine TQ_nil ?_
  refine te [(0, (.b 0 0)), (3, (intA (bitI .and .i64 (bitI .xor .i64 (shrI .i64 (w64 ((w64 (c0.h * 6364136223846793005)) + 1442695040888963407)) 33) (shrI .i64 (w64 ((w64 (c0.h * 6364136223846793005)) + 1442695040888963407)) 45)) 255))), (34, (boolA (decide (c0.i < (c0.b.length : Int)))))] rfl ?_
  refine T_cond (t := decide (c0.i < (c0.b.length : Int))) rfl (fun c_1 => ?_) (fun c_1 => ?_)
  ·replace H := cond_t c_1 H
   refine T_seq ?_
   refine T_regionD mixed (by kernel_rfl) ?_
   refine pq tb 2 rfl ?_
   refine TQ_pure rfl (pur_nil_b rfl rfl) rfl ?_
   refine pq tb 3 rfl ?_
   refine TQ_pure rfl (pur_nil_b rfl rfl) rfl ?_
   obtain ⟨v_2, h_3, H⟩ := bind_inv H
   obtain ⟨n_4, hz_5, hv_6⟩ := getI_inv h_3
   refine pq tb 2 rfl ?_
   refine TQ_pure rfl (pur_ixT (T := (tI .u8)) sl22 rfl rfl hz_5 hv_6 rfl) rfl ?_
   refine TQ_pure rfl (pur_ldT (T := (tI .u8)) (i := n_4) (off := 0) rfl one5 rfl rfl hv_6 rfl) rfl ?_
   refine TQ_pure rfl (pur_convI (k := .i64) (k' := .u8) ⟨_, Tryz.underlying5⟩ Tryz.underlying3 rfl rfl) rfl ?_
   refine pq tb 1 rfl ?_
   refine TQ_pure rfl (pur_and rfl rfl rfl) rfl ?_
   refine pq tb 1 rfl ?_
   refine TQ_nil ?_
   refine te [(0, (.b 0 0)), (3, (intA (bitI .and .i64 (w64 ((bitI .and .i64 (bitI .xor .i64 (shrI .i64 (w64 ((w64 (c0.h * 6364136223846793005)) + 1442695040888963407)) 33) (shrI .i64 (w64 ((w64 (c0.h * 6364136223846793005)) + 1442695040888963407)) 45)) 255) + (w64 v_2))) 255)))] rfl ?_
   refine T_region ?_
   refine pv tb 2 rfl ?_
   refine Tp rfl rfl (pur_nil_b rfl rfl) rfl ?_
   refine pv tb 3 rfl ?_
   refine Tp rfl rfl (pur_nil_b rfl rfl) rfl ?_
   refine pv tb 1 rfl ?_
   refine TO_cons rfl (TOp_storeB sz3 rfl rfl rfl rfl rfl rfl rfl (by decide) (lb rfl) rfl ?_)
   refine TO_st (σ' := [.box [(sl (tI .u8) c0.b), (intA (w64 (c0.i + 1))), (intA (w64 ((w64 (c0.h * 6364136223846793005)) + 1442695040888963407)))]]) rfl ?_
   refine TO_nil ?_
   refine sr ?_
   refine pv tb 2 rfl ?_
   refine TO_nil ?_
   refine T_ret ?_
   obtain rfl := some_inj H
   exact end_pickX (.tmp .nil) rfl [0] (by decide) (lb rfl) rfl (lb rfl) rfl rfl rfl rfl rfl rfl
  ·replace H := cond_f c_1 H
   refine T_skip ?_
   refine sr ?_
   refine pv tb 2 rfl ?_
   refine TO_nil ?_
   refine T_ret ?_
   obtain rfl := some_inj H
   exact end_pickX (.tmp .nil) rfl [0] (by decide) (lb rfl) rfl (lb rfl) rfl rfl rfl rfl rfl rfl

set_option maxHeartbeats 1000000 in
theorem m_spec_l1Below_x (c0 : l1Cur) (n1 : Int) (r : (Int × l1Cur)) (H : m_spec_l1Below c0 n1 = some r) : FnS prg 47 [(.b 0 0), (intA n1)] [.box [(sl (tI .u8) c0.b), (intA c0.i), (intA c0.h)]] (intA r.1) [.box [(sl (tI .u8) r.2.b), (intA r.2.i), (intA r.2.h)]] := by
  unfold m_spec_l1Below at H
  refine fnS_of_T Tryz.func47 rfl rfl (Nat.le_of_ble_eq_true rfl) ?_
  refine te [(0, (.b 0 0)), (1, (intA n1))] rfl ?_
  refine T_st (σ' := [.box [(sl (tI .u8) c0.b), (intA c0.i), (intA c0.h)]]) rfl ?_
  refine sr ?_
  refine pv tb 1 rfl ?_
  refine TO_nil ?_
  refine T_seq ?_
  refine sr ?_
  refine pv tb 2 rfl ?_
  refine TO_nil ?_
  refine T_cond (t := decide (n1 ≤ 0)) rfl (fun c_1 => ?_) (fun c_1 => ?_)
  ·replace H := cond_t c_1 H
   refine sr ?_
   refine pv tb 1 rfl ?_
   refine TO_nil ?_
   refine T_ret ?_
   refine then_ret ?_
   obtain rfl := some_inj H
   exact end_pickX (.tmp .nil) rfl [0] (by decide) (lb rfl) rfl (lb rfl) rfl rfl rfl rfl rfl rfl
  ·replace H := cond_f c_1 H
   refine T_skip ?_
   refine T_seq ?_
   refine sr ?_
   refine pv tb 2 rfl ?_
   refine TO_nil ?_
   refine T_cond (t := decide (n1 ≤ 256)) rfl (fun c_2 => ?_) (fun c_2 => ?_)
   ·replace H := cond_t c_2 H
    refine sr ?_
    obtain ⟨r_3, h_4, H⟩ := bind_inv H
    refine pv tb 1 rfl ?_
    refine TO_cons rfl (TOp_callS [0] (call_static ent70 rfl) (by decide) rfl rfl rfl rfl rfl rfl (m_spec_l1Byte_x _ _ h_4) rfl rfl ?_)
    refine toe [(0, (.b 0 0)), (1, (intA n1)), (12, (boolA (decide (n1 ≤ 256)))), (13, (.b 0 0)), (14, (intA r_3.1))] rfl ?_
    refine TO_st (σ' := [.box [(sl (tI .u8) r_3.2.b), (intA r_3.2.i), (intA r_3.2.h)]]) rfl ?_
    obtain ⟨_u, h_5, H⟩ := bind_inv H
    refine pv tb 1 rfl ?_
    refine Tp rfl rfl (pur_rem rfl rfl rfl (gD_inv h_5)) rfl ?_
    refine pv tb 1 rfl ?_
    refine TO_nil ?_
    refine T_ret ?_
    refine then_ret ?_
    obtain rfl := some_inj H
    exact end_pickX (.tmp .nil) rfl [0] (by decide) (lb rfl) rfl (lb rfl) rfl rfl rfl rfl rfl rfl
   ·replace H := cond_f c_2 H
    refine T_skip ?_
    refine sr ?_
    obtain ⟨r_6, h_7, H⟩ := bind_inv H
    refine pv tb 1 rfl ?_
    refine TO_cons rfl (TOp_callS [0] (call_static ent70 rfl) (by decide) rfl rfl rfl rfl rfl rfl (m_spec_l1Byte_x _ _ h_7) rfl rfl ?_)
    refine toe [(0, (.b 0 0)), (1, (intA n1)), (17, (.b 0 0)), (18, (intA r_6.1))] rfl ?_
    refine TO_st (σ' := [.box [(sl (tI .u8) r_6.2.b), (intA r_6.2.i), (intA r_6.2.h)]]) rfl ?_
    refine pv tb 1 rfl ?_
    refine TO_nil ?_
    refine sr ?_
    obtain ⟨r_8, h_9, H⟩ := bind_inv H
    refine pv tb 1 rfl ?_
    refine TO_cons rfl (TOp_callS [0] (call_static ent70 rfl) (by decide) rfl rfl rfl rfl rfl rfl (m_spec_l1Byte_x _ _ h_9) rfl rfl ?_)
    refine toe [(0, (.b 0 0)), (1, (intA n1)), (5, (intA r_6.1)), (19, (.b 0 0)), (20, (intA r_8.1))] rfl ?_
    refine TO_st (σ' := [.box [(sl (tI .u8) r_8.2.b), (intA r_8.2.i), (intA r_8.2.h)]]) rfl ?_
    refine pv tb 1 rfl ?_
    refine TO_nil ?_
    refine sr ?_
    obtain ⟨r_10, h_11, H⟩ := bind_inv H
    refine pv tb 1 rfl ?_
    refine TO_cons rfl (TOp_callS [0] (call_static ent70 rfl) (by decide) rfl rfl rfl rfl rfl rfl (m_spec_l1Byte_x _ _ h_11) rfl rfl ?_)
    refine toe [(0, (.b 0 0)), (1, (intA n1)), (5, (intA r_6.1)), (6, (intA r_8.1)), (21, (.b 0 0)), (22, (intA r_10.1))] rfl ?_
    refine TO_st (σ' := [.box [(sl (tI .u8) r_10.2.b), (intA r_10.2.i), (intA r_10.2.h)]]) rfl ?_
    refine pv tb 1 rfl ?_
    refine TO_nil ?_
    refine sr ?_
    obtain ⟨r_12, h_13, H⟩ := bind_inv H
    refine pv tb 1 rfl ?_
    refine TO_cons rfl (TOp_callS [0] (call_static ent70 rfl) (by decide) rfl rfl rfl rfl rfl rfl (m_spec_l1Byte_x _ _ h_13) rfl rfl ?_)
    refine toe [(0, (.b 0 0)), (1, (intA n1)), (5, (intA r_6.1)), (6, (intA r_8.1)), (7, (intA r_10.1)), (23, (.b 0 0)), (24, (intA r_12.1))] rfl ?_
    refine TO_st (σ' := [.box [(sl (tI .u8) r_12.2.b), (intA r_12.2.i), (intA r_12.2.h)]]) rfl ?_
    refine pv tb 1 rfl ?_
    refine TO_nil ?_
    refine sr ?_
    obtain ⟨_u, h_14, H⟩ := bind_inv H
    refine pv tb 11 rfl ?_
    refine Tp rfl rfl (pur_rem rfl rfl rfl (gD_inv h_14)) rfl ?_
    refine pv tb 1 rfl ?_
    refine TO_nil ?_
    refine te [(4, (intA ((w64 ((w64 ((w64 ((w64 (r_6.1 * 16777216)) + (w64 (r_8.1 * 65536)))) + (w64 (r_10.1 * 256)))) + r_12.1)).tmod n1)))] rfl ?_
    refine T_ret ?_
    obtain rfl := some_inj H
    exact end_pickX (.tmp .nil) rfl [0] (by decide) (lb rfl) rfl (lb rfl) rfl rfl rfl rfl rfl rfl

set_option maxHeartbeats 1000000 in
theorem m_spec_l1Once_x (c0 : l1Cur) (n1 : Int) (r : (Bool × l1Cur)) (H : m_spec_l1Once c0 n1 = some r) : FnS prg 48 [(.b 0 0), (intA n1)] [.box [(sl (tI .u8) c0.b), (intA c0.i), (intA c0.h)]] (boolA r.1) [.box [(sl (tI .u8) r.2.b), (intA r.2.i), (intA r.2.h)]] := by
  unfold m_spec_l1Once at H
  refine fnS_of_T Tryz.func48 rfl rfl (Nat.le_of_ble_eq_true rfl) ?_
  refine te [(0, (.b 0 0)), (1, (intA n1))] rfl ?_
  refine T_st (σ' := [.box [(sl (tI .u8) c0.b), (intA c0.i), (intA c0.h)]]) rfl ?_
  refine sr ?_
  refine pv tb 1 rfl ?_
  refine TO_nil ?_
  refine sr ?_
  obtain ⟨r_1, h_2, H⟩ := bind_inv H
  refine pv tb 2 rfl ?_
  refine TO_cons rfl (TOp_callS [0] (call_static ent47 rfl) (by decide) rfl rfl rfl rfl rfl rfl (m_spec_l1Below_x _ _ _ h_2) rfl rfl ?_)
  refine toe [(0, (.b 0 0)), (1, (intA n1)), (5, (.b 0 0)), (6, (intA n1)), (7, (intA r_1.1))] rfl ?_
  refine TO_st (σ' := [.box [(sl (tI .u8) r_1.2.b), (intA r_1.2.i), (intA r_1.2.h)]]) rfl ?_
  refine pv tb 2 rfl ?_
  refine TO_nil ?_
  refine T_ret ?_
  obtain rfl := some_inj H
  exact end_pickX (.tmp .nil) rfl [0] (by decide) (lb rfl) rfl (lb rfl) rfl rfl rfl rfl rfl rfl

set_option maxHeartbeats 1000000 in
theorem m_spec_l8Edges_x (c0 : l1Cur) (r : ((Int × (List ConflictEdge)) × l1Cur)) (H : m_spec_l8Edges c0 = some r) : FnS prg 46 [(.b 0 0)] [.box [(sl (tI .u8) c0.b), (intA c0.i), (intA c0.h)]] (.t [(intA r.1.1), (.m [1] 0 r.1.2.length tConflictEdge.k)]) [.box [(sl (tI .u8) r.2.b), (intA r.2.i), (intA r.2.h)], .row (flat tConflictEdge.enc r.1.2)] := by
  unfold m_spec_l8Edges at H
  refine fnS_of_T Tryz.func46 rfl rfl (Nat.le_of_ble_eq_true rfl) ?_
  refine te [(0, (.b 0 0))] rfl ?_
  refine T_st (σ' := [.box [(sl (tI .u8) c0.b), (intA c0.i), (intA c0.h)]]) rfl ?_
  refine sr ?_
  refine pv tb 2 rfl ?_
  refine TO_nil ?_
  refine sr ?_
  obtain ⟨r_1, h_2, H⟩ := bind_inv H
  refine pv tb 1 rfl ?_
  refine TO_cons rfl (TOp_callS [0] (call_static ent47 rfl) (by decide) rfl rfl rfl rfl rfl rfl (m_spec_l1Below_x _ _ _ h_2) rfl rfl ?_)
  refine toe [(0, (.b 0 0)), (9, (.b 0 0)), (10, (intA r_1.1))] rfl ?_
  refine TO_st (σ' := [.box [(sl (tI .u8) r_1.2.b), (intA r_1.2.i), (intA r_1.2.h)]]) rfl ?_
  refine pv tb 1 rfl ?_
  refine TO_nil ?_
  refine sr ?_
  refine TO_cons rfl (TOp_lit (nn := 0) (k := 2) sl24 zero45 rfl rfl rfl rfl (by decide) ?_)
  refine TO_st (σ' := [.box [(sl (tI .u8) r_1.2.b), (intA r_1.2.i), (intA r_1.2.h)], .row (flat tConflictEdge.enc ([] : (List ConflictEdge)))]) rfl ?_
  refine pv tb 1 rfl ?_
  refine TO_nil ?_
  refine sr ?_
  obtain ⟨r_3, h_4, H⟩ := bind_inv H
  refine pv tb 1 rfl ?_
  refine TO_cons rfl (TOp_callS [0] (call_static ent47 rfl) (by decide) rfl rfl rfl rfl rfl rfl (m_spec_l1Below_x _ _ _ h_4) rfl rfl ?_)
  refine toe [(0, (.b 0 0)), (4, (intA r_1.1)), (5, (.m [1] 0 ([] : (List ConflictEdge)).length tConflictEdge.k)), (12, (.b 0 0)), (13, (intA r_3.1))] rfl ?_
  refine TO_st (σ' := [.box [(sl (tI .u8) r_3.2.b), (intA r_3.2.i), (intA r_3.2.h)], .row (flat tConflictEdge.enc ([] : (List ConflictEdge)))]) rfl ?_
  refine pv tb 2 rfl ?_
  refine TO_nil ?_
  refine T_seq ?_
  refine sr ?_
  refine pv tb 1 rfl ?_
  refine TO_nil ?_
  obtain ⟨_, h_7, H⟩ := bind_inv H
  replace h_7 := gN_inv h_7
  obtain ⟨O6_, L6_, N6_⟩ := bind_inv H
  clear H
  obtain ⟨B6_, hb6, L6_⟩ := gen_forM L6_
  refine T_block ?_
  refine T_loopX (fun k => fun (⟨i_5, l5, box0⟩ : Int × (List ConflictEdge) × l1Cur) => k = (r_1.1 - i_5).toNat ∧ 0 ≤ i_5 ∧ forM B6_ (r_1.1 - i_5).toNat i_5 (l5, box0) = some O6_) (fun (⟨i_5, l5, box0⟩ : Int × (List ConflictEdge) × l1Cur) => [(0, (.b 0 0)), (4, (intA r_1.1)), (5, (.m [1] 0 l5.length tConflictEdge.k)), (6, (intA (w64 (2 + r_3.1)))), (7, (intA (i_5 : Int)))]) (fun (⟨i_5, l5, box0⟩ : Int × (List ConflictEdge) × l1Cur) => [.box [(sl (tI .u8) box0.b), (intA box0.i), (intA box0.h)], .row (flat tConflictEdge.enc l5)]) _ (0, (([] : (List ConflictEdge)), r_3.2)) (w0 2) ⟨rfl, Int.le_refl _, L6_⟩ ?_
  rintro _ ⟨i_5, l5, box0⟩ ⟨rfl, hi6, L6_⟩
  refine T_seq ?_
  refine sr ?_
  refine pv tb 3 rfl ?_
  refine TO_nil ?_
  refine T_cond (t := decide ((i_5 : Int) < r_1.1)) rfl (fun d6 => ?_) (fun d6 => ?_)
  ·replace d6 := of_decide_eq_true d6
   obtain ⟨C6_, H, K6_⟩ := forM_step L6_ d6
   rw [hb6] at H
   refine T_skip ?_
   refine T_seq ?_
   refine T_block ?_
   refine sr ?_
   refine pv tb 1 rfl ?_
   refine Tp rfl rfl (pur_add rfl rfl rfl (fits64 (by omega) (by omega))) rfl ?_
   refine pv tb 1 rfl ?_
   refine TO_nil ?_
   obtain ⟨_, h_10, H⟩ := bind_inv H
   replace h_10 := gN_inv h_10
   obtain ⟨O9_, L9_, N9_⟩ := bind_inv H
   clear H
   obtain ⟨B9_, hb9, L9_⟩ := gen_forM L9_
   refine T_block ?_
   refine T_loopX (fun k => fun (⟨k_8, l5, box0⟩ : Int × (List ConflictEdge) × l1Cur) => k = (r_1.1 - k_8).toNat ∧ ((i_5 : Int) + 1) ≤ k_8 ∧ forM B9_ (r_1.1 - k_8).toNat k_8 (l5, box0) = some O9_) (fun (⟨k_8, l5, box0⟩ : Int × (List ConflictEdge) × l1Cur) => [(0, (.b 0 0)), (4, (intA r_1.1)), (5, (.m [1] 0 l5.length tConflictEdge.k)), (6, (intA (w64 (2 + r_3.1)))), (7, (intA (i_5 : Int))), (8, (intA (k_8 : Int)))]) (fun (⟨k_8, l5, box0⟩ : Int × (List ConflictEdge) × l1Cur) => [.box [(sl (tI .u8) box0.b), (intA box0.i), (intA box0.h)], .row (flat tConflictEdge.enc l5)]) _ (((i_5 : Int) + 1), (l5, box0)) (w0 2) ⟨rfl, Int.le_refl _, L9_⟩ ?_
   rintro _ ⟨k_8, l5, box0⟩ ⟨rfl, hi9, L9_⟩
   refine T_seq ?_
   refine sr ?_
   refine pv tb 3 rfl ?_
   refine TO_nil ?_
   refine T_cond (t := decide ((k_8 : Int) < r_1.1)) rfl (fun d9 => ?_) (fun d9 => ?_)
   ·replace d9 := of_decide_eq_true d9
    obtain ⟨C9_, H, K9_⟩ := forM_step L9_ d9
    rw [hb9] at H
    refine T_skip ?_
    refine T_seq ?_
    refine T_block ?_
    refine sr ?_
    obtain ⟨r_11, h_12, H⟩ := bind_inv H
    refine pv tb 2 rfl ?_
    refine TO_cons rfl (TOp_callS [0] (call_static ent48 rfl) (by decide) rfl rfl rfl rfl rfl rfl (m_spec_l1Once_x _ _ _ h_12) rfl rfl ?_)
    refine toe [(0, (.b 0 0)), (4, (intA r_1.1)), (5, (.m [1] 0 l5.length tConflictEdge.k)), (6, (intA (w64 (2 + r_3.1)))), (7, (intA (i_5 : Int))), (8, (intA (k_8 : Int))), (27, (.b 0 0)), (28, (intA (w64 (2 + r_3.1)))), (29, (boolA r_11.1))] rfl ?_
    refine TO_st (σ' := [.box [(sl (tI .u8) r_11.2.b), (intA r_11.2.i), (intA r_11.2.h)], .row (flat tConflictEdge.enc l5)]) rfl ?_
    refine TO_nil ?_
    refine T_cond (t := r_11.1) rfl (fun c_13 => ?_) (fun c_13 => ?_)
    ·replace H := cond_t c_13 H
     refine T_region ?_
     refine pv tb 3 rfl ?_
     refine Tp rfl rfl (pur_build bld45 rfl rfl) rfl ?_
     refine TO_cons rfl (TOp_lit (nn := 1) (k := 2) sl24 zero45 rfl rfl rfl rfl (by decide) ?_)
     refine TO_st (σ' := [.box [(sl (tI .u8) r_11.2.b), (intA r_11.2.i), (intA r_11.2.h)], .row (flat tConflictEdge.enc l5), .row (flat tConflictEdge.enc ([({ a := (i_5 : Int), b := (k_8 : Int) } : ConflictEdge)] : (List ConflictEdge)))]) rfl ?_
     obtain ⟨us_14, h_15, H⟩ := bind_inv H
     refine TO_cons rfl (TOp_appZ (T := tConflictEdge) (f := tConflictEdge.enc) (xs := l5) (ys := ([({ a := (i_5 : Int), b := (k_8 : Int) } : ConflictEdge)] : (List ConflictEdge))) tConflictEdge.len sl24 zero45 rfl bytes45 (by decide) rfl rfl rfl rfl (src_mT (f := tConflictEdge.enc) tConflictEdge.len rfl rfl (flat_cell tConflictEdge _)) (flat_cell tConflictEdge _) h_15 (lb rfl) ?_)
     refine toe [(0, (.b 0 0)), (4, (intA r_1.1)), (6, (intA (w64 (2 + r_3.1)))), (7, (intA (i_5 : Int))), (8, (intA (k_8 : Int))), (29, (boolA r_11.1)), (31, (intA (i_5 : Int))), (32, (intA (k_8 : Int))), (33, (.g [(intA (i_5 : Int)), (intA (k_8 : Int))])), (34, (.m [2] 0 ([({ a := (i_5 : Int), b := (k_8 : Int) } : ConflictEdge)] : (List ConflictEdge)).length tConflictEdge.k)), (35, (.m [1] 0 us_14.length tConflictEdge.k))] rfl ?_
     refine TO_st (σ' := [.box [(sl (tI .u8) r_11.2.b), (intA r_11.2.i), (intA r_11.2.h)], .row (flat tConflictEdge.enc us_14), .row (flat tConflictEdge.enc ([({ a := (i_5 : Int), b := (k_8 : Int) } : ConflictEdge)] : (List ConflictEdge))), .dead]) rfl ?_
     refine pv tb 1 rfl ?_
     refine TO_nil ?_
     refine T_region ?_
     refine pv tb 1 rfl ?_
     refine Tp rfl rfl (pur_add rfl rfl rfl (fits64 (by omega) (by omega))) rfl ?_
     refine pv tb 1 rfl ?_
     refine TO_nil ?_
     obtain rfl := some_inj H
     exact again (r_1.1 - (k_8 + 1)).toNat (k_8 + 1, (us_14, r_11.2)) (by omega) (w0 2) ⟨rfl, by omega, K9_⟩
    ·replace H := cond_f c_13 H
     refine T_skip ?_
     refine T_region ?_
     refine pv tb 1 rfl ?_
     refine Tp rfl rfl (pur_add rfl rfl rfl (fits64 (by omega) (by omega))) rfl ?_
     refine pv tb 1 rfl ?_
     refine TO_nil ?_
     obtain rfl := some_inj H
     exact again (r_1.1 - (k_8 + 1)).toNat (k_8 + 1, (l5, r_11.2)) (by omega) (w0 2) ⟨rfl, by omega, K9_⟩
   ·replace d9 := of_decide_eq_false d9
    obtain rfl := forM_end L9_ (by omega)
    refine T_exit ?_
    refine then_exit ?_
    refine then_exit ?_
    refine block_exit ?_
    replace H := N9_
    refine T_region ?_
    refine pv tb 1 rfl ?_
    refine Tp rfl rfl (pur_add rfl rfl rfl (fits64 (by omega) (by omega))) rfl ?_
    refine pv tb 1 rfl ?_
    refine TO_nil ?_
    obtain rfl := some_inj H
    exact again (r_1.1 - (i_5 + 1)).toNat (i_5 + 1, (l5, box0)) (by omega) (w0 2) ⟨rfl, by omega, K6_⟩
  ·replace d6 := of_decide_eq_false d6
   obtain rfl := forM_end L6_ (by omega)
   refine T_exit ?_
   refine then_exit ?_
   refine then_exit ?_
   refine block_exit ?_
   replace H := N6_
   refine T_seq ?_
   obtain ⟨⟨t42_16, box0_16⟩, J_16, H_17⟩ := bind_inv H
   refine T_cutX (fun x => (t42_16, box0_16) = x) (fun (⟨t42_16, box0_16⟩ : Bool × l1Cur) => [(0, (.b 0 0)), (4, (intA r_1.1)), (5, (.m [1] 0 l5.length tConflictEdge.k)), (42, (boolA t42_16))]) (fun (⟨t42_16, box0_16⟩ : Bool × l1Cur) => [.box [(sl (tI .u8) box0_16.b), (intA box0_16.i), (intA box0_16.h)], .row (flat tConflictEdge.enc l5)]) ?_ ?_
   ·replace H := J_16
    refine T_region ?_
    refine pv tb 1 rfl ?_
    refine Tp rfl rfl (pur_len_m sl24 rfl rfl) rfl ?_
    refine pv tb 2 rfl ?_
    refine TO_split (t := decide (0 < (l5.length : Int))) 39 rfl (fun g_18 => ?_) (fun g_18 => ?_)
    ·replace H := cond_t g_18 H
     obtain ⟨r_19, h_20, H⟩ := bind_inv H
     refine pv tb 1 rfl ?_
     refine TO_on rfl rfl (by decide) rfl rfl (TOp_callS [0] (call_static ent48 rfl) (by decide) rfl rfl rfl rfl rfl rfl (m_spec_l1Once_x _ _ _ h_20) rfl rfl ?_)
     refine toe [(0, (.b 0 0)), (4, (intA r_1.1)), (5, (.m [1] 0 l5.length tConflictEdge.k)), (36, (.m [1] 0 l5.length tConflictEdge.k)), (37, (intA (l5.length : Int))), (38, (boolA (decide (0 < (l5.length : Int))))), (39, (boolA true)), (40, (.b 0 0)), (41, (boolA r_19.1))] rfl ?_
     refine TO_st (σ' := [.box [(sl (tI .u8) r_19.2.b), (intA r_19.2.i), (intA r_19.2.h)], .row (flat tConflictEdge.enc l5)]) rfl ?_
     refine pv tb 1 rfl ?_
     refine TO_nil ?_
     exact joined (r_19.1, r_19.2) (w0 2) (some_inj H).symm
    ·replace H := cond_f g_18 H
     refine pv tb 3 rfl ?_
     refine TO_nil ?_
     exact joined (false, box0) (w0 2) (some_inj H).symm
   ·rintro _ rfl
    replace H := H_17
    refine T_cond (t := t42_16) rfl (fun c_21 => ?_) (fun c_21 => ?_)
    ·replace H := cond_t c_21 H
     refine T_region ?_
     refine pv tb 3 rfl ?_
     refine Tp rfl rfl (pur_len_m sl24 rfl rfl) rfl ?_
     obtain ⟨r_22, h_23, H⟩ := bind_inv H
     refine TO_cons rfl (TOp_callS [0] (call_static ent47 rfl) (by decide) rfl rfl rfl rfl rfl rfl (m_spec_l1Below_x _ _ _ h_23) rfl rfl ?_)
     refine toe [(0, (.b 0 0)), (4, (intA r_1.1)), (5, (.m [1] 0 l5.length tConflictEdge.k)), (42, (boolA t42_16)), (43, (.m [1] 0 l5.length tConflictEdge.k)), (44, (.b 0 0)), (45, (.m [1] 0 l5.length tConflictEdge.k)), (46, (intA (l5.length : Int))), (47, (intA r_22.1))] rfl ?_
     refine TO_st (σ' := [.box [(sl (tI .u8) r_22.2.b), (intA r_22.2.i), (intA r_22.2.h)], .row (flat tConflictEdge.enc l5)]) rfl ?_
     obtain ⟨r_24, h_25, H⟩ := bind_inv H
     refine pv tb 3 rfl ?_
     refine TO_cons rfl (TOp_callS [0] (call_static ent47 rfl) (by decide) rfl rfl rfl rfl rfl rfl (m_spec_l1Below_x _ _ _ h_25) rfl rfl ?_)
     refine toe [(4, (intA r_1.1)), (5, (.m [1] 0 l5.length tConflictEdge.k)), (43, (.m [1] 0 l5.length tConflictEdge.k)), (47, (intA r_22.1)), (48, (.b 0 0)), (50, (intA (w64 (r_1.1 + 2)))), (51, (intA r_24.1))] rfl ?_
     refine TO_st (σ' := [.box [(sl (tI .u8) r_24.2.b), (intA r_24.2.i), (intA r_24.2.h)], .row (flat tConflictEdge.enc l5)]) rfl ?_
     obtain ⟨v_26, h_27, H⟩ := bind_inv H
     obtain ⟨n_28, hz_29, hv_30⟩ := getI_inv h_27
     refine pv tb 1 rfl ?_
     refine Tp rfl rfl (pur_ixM (T := tConflictEdge) sl24 rfl rfl hz_29 hv_30 rfl) rfl ?_
     refine pv tb 1 rfl ?_
     refine TO_cons rfl (TOp_setP (f := tConflictEdge.enc) (k := tConflictEdge.k) (off := 1) (z := r_22.1) tConflictEdge.len ({ a := v_26.a, b := (w64 (r_24.1 - 1)) } : ConflictEdge) hz_29 sz3 (by decide) rfl rfl rfl rfl rfl hv_30 rfl rfl (by decide) rfl rfl ?_)
     refine TO_env (E' := [(4, (intA r_1.1)), (5, (.m [1] 0 (l5.set (r_22.1).toNat ({ a := v_26.a, b := (w64 (r_24.1 - 1)) } : ConflictEdge)).length tConflictEdge.k)), (43, (.m [1] 0 (l5.set (r_22.1).toNat ({ a := v_26.a, b := (w64 (r_24.1 - 1)) } : ConflictEdge)).length tConflictEdge.k)), (47, (intA r_22.1)), (48, (.b 0 0)), (50, (intA (w64 (r_1.1 + 2)))), (51, (intA r_24.1)), (52, (intA (w64 (r_24.1 - 1))))]) ⟨rfl, (congrArg (fun q => A.m [1] 0 q tConflictEdge.k) (List.length_set ..).symm), (congrArg (fun q => A.m [1] 0 q tConflictEdge.k) (List.length_set ..).symm), rfl, rfl, rfl, rfl, rfl, trivial⟩ ?_
     refine TO_st (σ' := [.box [(sl (tI .u8) r_24.2.b), (intA r_24.2.i), (intA r_24.2.h)], .row (flat tConflictEdge.enc (l5.set (r_22.1).toNat ({ a := v_26.a, b := (w64 (r_24.1 - 1)) } : ConflictEdge)))]) rfl ?_
     refine TO_nil ?_
     refine sr ?_
     refine pv tb 4 rfl ?_
     refine TO_nil ?_
     refine T_ret ?_
     obtain rfl := some_inj H
     exact end_pickX (.tmp (.tmp .nil)) rfl [0, 1] (by decide) (lb rfl) rfl (lb rfl) rfl rfl rfl rfl rfl rfl
    ·replace H := cond_f c_21 H
     refine T_skip ?_
     refine sr ?_
     refine pv tb 4 rfl ?_
     refine TO_nil ?_
     refine T_ret ?_
     obtain rfl := some_inj H
     exact end_pickX (.tmp (.tmp .nil)) rfl [0, 1] (by decide) (lb rfl) rfl (lb rfl) rfl rfl rfl rfl rfl rfl
end Go.Proofs.YtglgcncmjnjfgaaGreat

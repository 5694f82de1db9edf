import Derived.Test.YtglgcncmjnjfgaaM1
import Derived.Test.YtglgcncmjnjfgaaM2
import Derived.Test.YtglgcncmjnjfgaaM3
set_option linter.unusedVariables false
set_option linter.unusedSimpArgs false
set_option maxRecDepth 4000
namespace Go.Proofs.Ytglgcncmjnjfgaa
open Go Go.Proofs Go.Sep
set_option maxHeartbeats 1000000 in
theorem m_slices_Equal_Sint_int_ok (s10 : (List Int)) (s21 : (List Int)) (r : Bool) (H : m_slices_Equal_Sint_int s10 s21 = some r) : FnV prg 96 [(sl tInt s10), (sl tInt s21)] (boolA r) := by
  unfold m_slices_Equal_Sint_int at H
  refine fnV_of_T Try.func96 rfl rfl (Nat.le_of_ble_eq_true rfl) ?_
  refine te [(0, (sl tInt s10)), (1, (sl tInt s21))] rfl ?_
  refine sr ?_
  refine pv tb 1 rfl ?_
  refine TO_nil ?_
  refine T_seq ?_
  refine sr ?_
  refine pv tb 1 rfl ?_
  refine Tp rfl rfl (pur_lenT (T := tInt) sl31 rfl rfl) rfl ?_
  refine pv tb 1 rfl ?_
  refine Tp rfl rfl (pur_lenT (T := tInt) sl31 rfl rfl) rfl ?_
  refine pv tb 1 rfl ?_
  refine TO_nil ?_
  refine T_cond (t := decide ((s10.length : Int) ≠ (s21.length : Int))) rfl (fun c_1 => ?_) (fun c_1 => ?_)
  ·replace H := cond_t c_1 H
   refine sr ?_
   refine pv tb 1 rfl ?_
   refine TO_nil ?_
   refine T_ret ?_
   refine then_ret ?_
   obtain rfl := some_inj H
   refine end_ret (.tmp .nil) rfl rfl ⟨?_, rfl⟩
   rfl
  ·replace H := cond_f c_1 H
   refine T_skip ?_
   refine T_seq ?_
   refine sr ?_
   refine pv tb 1 rfl ?_
   refine Tp rfl rfl (pur_lenT (T := tInt) sl31 rfl rfl) rfl ?_
   refine pv tb 1 rfl ?_
   refine TO_nil ?_
   obtain ⟨O3_, L3_, N3_⟩ := bind_inv H
   clear H
   obtain ⟨B3_, hb3, L3_⟩ := gen_forL L3_
   refine T_block ?_
   refine T_loopX (fun k => fun (t_2 : Nat) => k = s10.length - t_2 ∧ forL B3_ (s10.drop t_2) (t_2 : Int) () = some O3_) (fun (t_2 : Nat) => [(0, (sl tInt s10)), (1, (sl tInt s21)), (12, (intA (s10.length : Int))), (13, (intA (t_2 : Int)))]) (fun (t_2 : Nat) => []) _ (0 : Nat) (w0 0) ⟨rfl, L3_⟩ ?_
   rintro _ t_2 ⟨rfl, L3_⟩
   refine T_fact (len_sl (T := tInt) (.tmp 0) rfl) (fun hl3 => ?_)
   refine sr ?_
   refine pv tb 1 rfl ?_
   refine TO_nil ?_
   refine T_seq ?_
   refine T_cond (t := decide ((t_2 : Int) < (s10.length : Int))) rfl (fun d3 => ?_) (fun d3 => ?_)
   ·replace d3 := of_decide_eq_true d3
    obtain ⟨x_t_2, hx_t_2⟩ : ∃ v, (s10)[t_2]? = some v := ⟨_, List.getElem?_eq_getElem (by omega)⟩
    obtain ⟨C3_, H, K3_⟩ := forL_step L3_ hx_t_2
    rw [hb3] at H
    refine T_skip ?_
    refine T_seq ?_
    refine T_block ?_
    refine sr ?_
    refine pv tb 2 rfl ?_
    refine TO_nil ?_
    refine T_seq ?_
    refine T_regionD mixed (by kernel_rfl) ?_
    refine pq tb 2 rfl ?_
    refine TQ_pure rfl (pur_ixT (T := tInt) sl31 rfl rfl rfl hx_t_2 rfl) rfl ?_
    refine TQ_pure rfl (pur_ldT (T := tInt) (i := t_2) (off := 0) rfl one3 rfl rfl hx_t_2 rfl) rfl ?_
    obtain ⟨v_4, h_5, H⟩ := bind_inv H
    obtain ⟨n_6, hz_7, hv_8⟩ := getI_inv h_5
    refine pq tb 2 rfl ?_
    refine TQ_pure rfl (pur_ixT (T := tInt) sl31 rfl rfl hz_7 hv_8 rfl) rfl ?_
    refine TQ_pure rfl (pur_ldT (T := tInt) (i := n_6) (off := 0) rfl one3 rfl rfl hv_8 rfl) rfl ?_
    refine pq tb 1 rfl ?_
    refine TQ_nil ?_
    refine T_cond (t := decide (x_t_2 ≠ v_4)) rfl (fun c_9 => ?_) (fun c_9 => ?_)
    ·replace H := cond_t c_9 H
     refine sr ?_
     refine pv tb 1 rfl ?_
     refine TO_nil ?_
     refine te [(4, (boolA false))] rfl ?_
     refine T_ret ?_
     refine block_ret ?_
     refine then_ret ?_
     refine then_ret ?_
     refine block_ret ?_
     refine then_ret ?_
     obtain rfl := some_inj H
     obtain rfl := some_inj K3_
     replace H := onS_r N3_
     obtain rfl := some_inj H
     refine end_ret (.tmp .nil) rfl rfl ⟨?_, rfl⟩
     rfl
    ·replace H := cond_f c_9 H
     refine T_skip ?_
     refine T_region ?_
     refine Tp rfl rfl (pur_add rfl rfl rfl (fits64 (by omega) (by omega))) rfl ?_
     refine pv tb 1 rfl ?_
     refine TO_nil ?_
     obtain rfl := some_inj H
     exact again (s10.length - (t_2 + 1)) (t_2 + 1) (by omega) (w0 0) ⟨rfl, K3_⟩
   ·replace d3 := of_decide_eq_false d3
    obtain rfl := forL_end L3_ (by omega)
    refine T_exit ?_
    refine then_exit ?_
    refine then_exit ?_
    refine block_exit ?_
    replace H := onS_l N3_
    refine sr ?_
    refine pv tb 1 rfl ?_
    refine TO_nil ?_
    refine T_ret ?_
    obtain rfl := some_inj H
    refine end_ret (.tmp .nil) rfl rfl ⟨?_, rfl⟩
    rfl

set_option maxHeartbeats 1000000 in
theorem m_impl_greedy_own (u : Nat) (n0 : Int) (edges1 : (List ConflictEdge)) (preferences2 : (List ConflictEdge)) (any3 : Bool) (r : (List (List Int))) (H : m_impl_greedy u n0 edges1 preferences2 any3 = some r) : FnO prg 72 [(intA n0), (sl tConflictEdge edges1), (sl tConflictEdge preferences2), (boolA any3)] (.m [0] 0 r.length (tSl tInt).k) [.row (flat (tSl tInt).own r)] := by
  unfold m_impl_greedy at H
  refine fnO_of_T Try.func72 rfl rfl (Nat.le_of_ble_eq_true rfl) ?_
  refine te [(0, (intA n0)), (1, (sl tConflictEdge edges1)), (2, (sl tConflictEdge preferences2)), (3, (boolA any3))] rfl ?_
  refine sr ?_
  refine TO_cons rfl (TOp_box rfl (boxAll rfl) rfl rfl ?_)
  refine TO_cons rfl (TOp_box rfl (boxAll rfl) rfl rfl ?_)
  refine TO_cons rfl (TOp_box rfl (boxAll rfl) rfl rfl ?_)
  refine pv tb 1 rfl ?_
  refine TO_nil ?_
  refine sr ?_
  refine TO_cons rfl (TOp_lit (nn := 0) (k := 1) sl39 zero31 rfl rfl rfl rfl (by decide) ?_)
  refine TO_st (σ' := [.box [(sl tConflictEdge edges1)], .box [(sl tConflictEdge preferences2)], .box [(boolA any3)], .row (flat (tSl tInt).own ([] : (List (List Int))))]) rfl ?_
  refine TO_cons rfl (TOp_alloc zero39 rfl rfl ?_)
  refine TO_cons rfl (TOp_storeB sz39 rfl rfl rfl rfl rfl rfl rfl (by decide) (lb rfl) rfl ?_)
  refine TO_st (σ' := [.box [(sl tConflictEdge edges1)], .box [(sl tConflictEdge preferences2)], .box [(boolA any3)], .row (flat (tSl tInt).own ([] : (List (List Int)))), .box [(.m [3] 0 ([] : (List (List Int))).length (tSl tInt).k)]]) rfl ?_
  refine TO_nil ?_
  refine sr ?_
  refine TO_cons rfl (TOp_alloc zero94 rfl rfl ?_)
  refine TO_nil ?_
  refine sr ?_
  refine pv tb 1 rfl ?_
  refine TO_cons rfl (TOp_storeB sz94 rfl rfl rfl rfl rfl rfl rfl (by decide) (lb rfl) rfl ?_)
  refine TO_st (σ' := [.box [(sl tConflictEdge edges1)], .box [(sl tConflictEdge preferences2)], .box [(boolA any3)], .row (flat (tSl tInt).own ([] : (List (List Int)))), .box [(.m [3] 0 ([] : (List (List Int))).length (tSl tInt).k)], .box [(.f 90 [(.b 4 0), (.b 1 0), (.b 5 0), (.b 0 0), (.b 2 0)])]]) rfl ?_
  refine TO_nil ?_
  refine sr ?_
  refine TO_cons rfl (TOp_lit (nn := 0) (k := 1) sl31 zero3 rfl rfl rfl rfl (by decide) ?_)
  refine TO_st (σ' := [.box [(sl tConflictEdge edges1)], .box [(sl tConflictEdge preferences2)], .box [(boolA any3)], .row (flat (tSl tInt).own ([] : (List (List Int)))), .box [(.m [3] 0 ([] : (List (List Int))).length (tSl tInt).k)], .box [(.f 90 [(.b 4 0), (.b 1 0), (.b 5 0), (.b 0 0), (.b 2 0)])], .row (flat tInt.enc ([] : (List Int)))]) rfl ?_
  refine pv tb 1 rfl ?_
  refine TO_nil ?_
  refine T_seq ?_
  refine sr ?_
  refine pv tb 2 rfl ?_
  refine TO_nil ?_
  obtain ⟨_, h_3, H⟩ := bind_inv H
  replace h_3 := gN_inv h_3
  obtain ⟨O2_, L2_, N2_⟩ := bind_inv H
  clear H
  obtain ⟨B2_, hb2, L2_⟩ := gen_forM L2_
  refine T_block ?_
  refine T_loopX (fun k => fun (⟨t_1, left11⟩ : Int × (List Int)) => k = (n0 - t_1).toNat ∧ 0 ≤ t_1 ∧ forM B2_ (n0 - t_1).toNat t_1 left11 = some O2_) (fun (⟨t_1, left11⟩ : Int × (List Int)) => [(9, (.b 4 0)), (10, (.b 5 0)), (11, (.m [6] 0 left11.length tInt.k)), (16, (intA n0)), (17, (intA (t_1 : Int)))]) (fun (⟨t_1, left11⟩ : Int × (List Int)) => [.box [(sl tConflictEdge edges1)], .box [(sl tConflictEdge preferences2)], .box [(boolA any3)], .row (flat (tSl tInt).own ([] : (List (List Int)))), .box [(.m [3] 0 ([] : (List (List Int))).length (tSl tInt).k)], .box [(.f 90 [(.b 4 0), (.b 1 0), (.b 5 0), (.b 0 0), (.b 2 0)])], .row (flat tInt.enc left11)]) _ (0, ([] : (List Int))) (w0 7) ⟨rfl, Int.le_refl _, L2_⟩ ?_
  rintro _ ⟨t_1, left11⟩ ⟨rfl, hi2, L2_⟩
  refine sr ?_
  refine pv tb 1 rfl ?_
  refine TO_nil ?_
  refine T_seq ?_
  refine T_cond (t := decide ((t_1 : Int) < n0)) rfl (fun d2 => ?_) (fun d2 => ?_)
  ·replace d2 := of_decide_eq_true d2
   obtain ⟨C2_, H, K2_⟩ := forM_step L2_ d2
   rw [hb2] at H
   refine T_skip ?_
   refine T_seq ?_
   refine T_block ?_
   refine sr ?_
   refine pv tb 2 rfl ?_
   refine TO_nil ?_
   refine T_region ?_
   refine pv tb 2 rfl ?_
   refine TO_cons rfl (TOp_lit (nn := 1) (k := 1) sl31 zero3 rfl rfl rfl rfl (by decide) ?_)
   refine TO_st (σ' := [.box [(sl tConflictEdge edges1)], .box [(sl tConflictEdge preferences2)], .box [(boolA any3)], .row (flat (tSl tInt).own ([] : (List (List Int)))), .box [(.m [3] 0 ([] : (List (List Int))).length (tSl tInt).k)], .box [(.f 90 [(.b 4 0), (.b 1 0), (.b 5 0), (.b 0 0), (.b 2 0)])], .row (flat tInt.enc left11), .row (flat tInt.enc ([(t_1 : Int)] : (List Int)))]) rfl ?_
   obtain ⟨us_4, h_5, H⟩ := bind_inv H
   refine TO_cons rfl (TOp_appZ (T := tInt) (f := tInt.enc) (xs := left11) (ys := ([(t_1 : Int)] : (List Int))) tInt.len sl31 zero3 rfl bytes3 (by decide) rfl rfl rfl rfl (src_mT (f := tInt.enc) tInt.len rfl rfl (flat_cell tInt _)) (flat_cell tInt _) h_5 (lb rfl) ?_)
   refine toe [(9, (.b 4 0)), (10, (.b 5 0)), (12, (intA (t_1 : Int))), (16, (intA n0)), (17, (intA (t_1 : Int))), (21, (intA (t_1 : Int))), (22, (.m [7] 0 ([(t_1 : Int)] : (List Int)).length tInt.k)), (23, (.m [6] 0 us_4.length tInt.k))] rfl ?_
   refine TO_st (σ' := [.box [(sl tConflictEdge edges1)], .box [(sl tConflictEdge preferences2)], .box [(boolA any3)], .row (flat (tSl tInt).own ([] : (List (List Int)))), .box [(.m [3] 0 ([] : (List (List Int))).length (tSl tInt).k)], .box [(.f 90 [(.b 4 0), (.b 1 0), (.b 5 0), (.b 0 0), (.b 2 0)])], .row (flat tInt.enc us_4), .row (flat tInt.enc ([(t_1 : Int)] : (List Int))), .dead]) rfl ?_
   refine pv tb 1 rfl ?_
   refine TO_nil ?_
   refine T_region ?_
   refine Tp rfl rfl (pur_add rfl rfl rfl (fits64 (by omega) (by omega))) rfl ?_
   refine pv tb 1 rfl ?_
   refine TO_nil ?_
   obtain rfl := some_inj H
   exact again (n0 - (t_1 + 1)).toNat (t_1 + 1, us_4) (by omega) (w0 7) ⟨rfl, by omega, K2_⟩
  ·replace d2 := of_decide_eq_false d2
   obtain rfl := forM_end L2_ (by omega)
   refine T_exit ?_
   refine then_exit ?_
   refine then_exit ?_
   refine block_exit ?_
   replace H := N2_
   refine sr ?_
   refine pv tb 2 rfl ?_
   refine TO_frz1 6 (E' := [(9, (.b 4 0)), (10, (.b 5 0)), (11, (sl tInt left11)), (25, (.f 90 [(.b 4 0), (.b 1 0), (.b 5 0), (.b 0 0), (.b 2 0)])), (26, (sl tInt left11))]) rfl rfl (lb rfl) ⟨(.keep rfl), (.keep rfl), fz1E, (.keep rfl), fz1E, trivial⟩ ?_
   refine TO_st (σ' := [.box [(sl tConflictEdge edges1)], .box [(sl tConflictEdge preferences2)], .box [(boolA any3)], .row (flat (tSl tInt).own ([] : (List (List Int)))), .box [(.m [3] 0 ([] : (List (List Int))).length (tSl tInt).k)], .box [(.f 90 [(.b 4 0), (.b 1 0), (.b 5 0), (.b 0 0), (.b 2 0)])], .dead]) rfl ?_
   obtain ⟨r_6, h_7, H⟩ := bind_inv H
   refine TO_cons rfl (TOp_callS [4, 1, 5, 0, 2, 3] (CallOp.le (call_closure (caps := [(.b 4 0), (.b 1 0), (.b 5 0), (.b 0 0), (.b 2 0)]) ent90 rfl rfl) (leCons (leR rfl) (leCons leN (leCons (leR rfl) (leCons (leR rfl) (leCons (leR rfl) (leCons (leR rfl) (leCons (leR rfl) leNil)))))))) (by decide) rfl rfl rfl rfl rfl rfl (m_impl_greedy_1_c u _ _ _ _ _ _ _ h_7) rfl rfl ?_)
   refine toe [(9, (.b 4 0)), (10, (.b 5 0)), (11, (sl tInt left11)), (25, (.f 90 [(.b 4 0), (.b 1 0), (.b 5 0), (.b 0 0), (.b 2 0)])), (26, (sl tInt left11))] rfl ?_
   refine TO_st (σ' := [.box [(sl tConflictEdge edges1)], .box [(sl tConflictEdge preferences2)], .box [(boolA any3)], .dead, .box [(.m [7] 0 r_6.length (tSl tInt).k)], .box [(.f 90 [(.b 4 0), (.b 1 0), (.b 5 0), (.b 0 0), (.b 2 0)])], .dead, .row (flat (tSl tInt).own r_6)]) rfl ?_
   refine TO_move 3 7 (by decide) (lb rfl) rfl rfl (lb rfl) ?_
   refine toe [(9, (.b 4 0)), (10, (.b 5 0)), (11, (sl tInt left11)), (25, (.f 90 [(.b 4 0), (.b 1 0), (.b 5 0), (.b 0 0), (.b 2 0)])), (26, (sl tInt left11))] rfl ?_
   refine TO_st (σ' := [.box [(sl tConflictEdge edges1)], .box [(sl tConflictEdge preferences2)], .box [(boolA any3)], .row (flat (tSl tInt).own r_6), .box [(.m [3] 0 r_6.length (tSl tInt).k)], .box [(.f 90 [(.b 4 0), (.b 1 0), (.b 5 0), (.b 0 0), (.b 2 0)])], .dead, .dead]) rfl ?_
   refine TO_nil ?_
   refine sr ?_
   obtain ⟨_, h_9, H⟩ := bind_inv H
   refine pv tb 1 rfl ?_
   refine TO_cons rfl (TOp_same (call_static ent93 rfl) rfl (same_unit (one1_inv h_9) m_slices_SortFunc_SSint_Sint_1) rfl ?_)
   refine TO_nil ?_
   refine sr ?_
   obtain ⟨_, h_11, H⟩ := bind_inv H
   refine pv tb 1 rfl ?_
   refine TO_cons rfl (TOp_same (call_static ent95 rfl) rfl (same_slice (one1_inv h_11) m_slices_CompactFunc_SSint_Sint_1) rfl ?_)
   refine pv tb 1 rfl ?_
   refine TO_nil ?_
   refine T_ret ?_
   obtain rfl := some_inj H
   exact end_pick (.tmp .nil) rfl [3] (by decide) rfl rfl rfl rfl rfl rfl
theorem m_impl_greedy_ok (u : Nat) (n0 : Int) (edges1 : (List ConflictEdge)) (preferences2 : (List ConflictEdge)) (any3 : Bool) (r : (List (List Int))) (H : m_impl_greedy u n0 edges1 preferences2 any3 = some r) : FnV prg 72 [(intA n0), (sl tConflictEdge edges1), (sl tConflictEdge preferences2), (boolA any3)] (sl (tSl tInt) r) := (m_impl_greedy_own u n0 edges1 preferences2 any3 r H).frz (frzT (T := (tSl tInt)) rfl)

set_option maxHeartbeats 1000000 in
theorem m_impl_GreedyRepair_own (u : Nat) (n0 : Int) (edges1 : (List ConflictEdge)) (preferences2 : (List ConflictEdge)) (r : (List Int)) (H : m_impl_GreedyRepair u n0 edges1 preferences2 = some r) : FnO prg 39 [(intA n0), (sl tConflictEdge edges1), (sl tConflictEdge preferences2)] (.m [0] 0 r.length tInt.k) [.row (flat tInt.own r)] := by
  unfold m_impl_GreedyRepair at H
  refine fnO_of_T Try.func39 rfl rfl (Nat.le_of_ble_eq_true rfl) ?_
  refine te [(0, (intA n0)), (1, (sl tConflictEdge edges1)), (2, (sl tConflictEdge preferences2))] rfl ?_
  refine sr ?_
  refine pv tb 1 rfl ?_
  refine TO_nil ?_
  refine T_seq ?_
  refine sr ?_
  obtain ⟨r_1, h_2, H⟩ := bind_inv H
  refine pv tb 3 rfl ?_
  refine TO_cons rfl (TOp_callV (call_static ent17 rfl) (m_impl_IsValidPreference_ok u _ _ _ _ h_2) rfl rfl rfl ?_)
  refine pv tb 1 rfl ?_
  refine TO_nil ?_
  refine T_cond (t := (!r_1)) rfl (fun c_3 => ?_) (fun c_3 => ?_)
  ·replace H := cond_t c_3 H
   refine sr ?_
   refine pv tb 1 rfl ?_
   refine TO_nil ?_
   refine T_row0 ?_
   refine T_envL (E' := [(6, (.m [0] 0 ([] : (List Int)).length tInt.k))]) ⟨leM, trivial⟩ ?_
   refine T_st (σ' := [.row (flat tInt.own ([] : (List Int)))]) rfl ?_
   refine T_ret ?_
   refine then_ret ?_
   obtain rfl := some_inj H
   exact end_pick (.tmp .nil) rfl [0] (by decide) rfl rfl rfl rfl rfl rfl
  ·replace H := cond_f c_3 H
   refine T_skip ?_
   refine sr ?_
   obtain ⟨r_4, h_5, H⟩ := bind_inv H
   refine pv tb 3 rfl ?_
   refine TO_cons rfl (TOp_callO (call_static ent72 rfl) rfl (m_impl_greedy_own u _ _ _ _ _ h_5) rfl rfl rfl ?_)
   refine toe [(0, (intA n0)), (1, (sl tConflictEdge edges1)), (2, (sl tConflictEdge preferences2)), (12, (intA n0)), (13, (sl tConflictEdge edges1)), (14, (sl tConflictEdge preferences2)), (15, (.m [0] 0 r_4.length (tSl tInt).k))] rfl ?_
   refine TO_st (σ' := [.row (flat (tSl tInt).own r_4)]) rfl ?_
   obtain ⟨v_6, h_7, H⟩ := bind_inv H
   obtain ⟨n_8, hz_9, hv_10⟩ := getI_inv h_7
   refine Tp rfl rfl (pur_ixM (T := (tSl tInt)) sl39 rfl rfl hz_9 hv_10 rfl) rfl ?_
   refine Tp rfl rfl (pur_ldE (f := (tSl tInt).own) (k := (tSl tInt).k) (i := n_8) (off := 0) (tSl tInt).lenO rfl one31 rfl rfl rfl hv_10 rfl cellVal_sl) rfl ?_
   refine pv tb 1 rfl ?_
   refine TO_boxify 0 rfl (lb rfl) ?_
   refine TO_detach (k := tInt.k) (xs := flat (tSl tInt).own r_4) (ys := flat tInt.own v_6) (E' := [(0, (intA n0)), (1, (sl tConflictEdge edges1)), (2, (sl tConflictEdge preferences2)), (6, (.m [1] 0 v_6.length tInt.k)), (12, (intA n0)), (13, (sl tConflictEdge edges1)), (14, (sl tConflictEdge preferences2)), (15, (.m [0] 0 r_4.length (tSl tInt).k))]) 0 (n_8 * (tSl tInt).k + 0) 6 rfl (flat_at' (tSl tInt).lenO hv_10 rfl) rfl (lb rfl) (nms_box namesL_own nms_nil) ⟨.inr ⟨rfl, rfl⟩, .inr ⟨rfl, rfl⟩, .inr ⟨rfl, rfl⟩, .inl ⟨rfl, rfl⟩, .inr ⟨rfl, rfl⟩, .inr ⟨rfl, rfl⟩, .inr ⟨rfl, rfl⟩, .inr ⟨rfl, rfl⟩, trivial⟩ ?_
   refine TO_st (σ' := [.box (spl (flat (tSl tInt).own r_4) (n_8 * (tSl tInt).k) [.j]), .row (flat tInt.own v_6)]) (by rw [open_T (T := (tSl tInt)) hv_10 (by decide)]; rfl) ?_
   refine toe [(0, (intA n0)), (1, (sl tConflictEdge edges1)), (2, (sl tConflictEdge preferences2)), (6, (.m [1] 0 v_6.length tInt.k)), (12, (intA n0)), (13, (sl tConflictEdge edges1)), (14, (sl tConflictEdge preferences2))] rfl ?_
   refine TO_kill 0 (lb rfl) ?_
   refine TO_st (σ' := [.dead, .row (flat tInt.own v_6)]) rfl ?_
   refine TO_nil ?_
   refine T_ret ?_
   obtain rfl := some_inj H
   exact end_pick (.tmp .nil) rfl [1] (by decide) rfl rfl rfl rfl rfl rfl
theorem m_impl_GreedyRepair_ok (u : Nat) (n0 : Int) (edges1 : (List ConflictEdge)) (preferences2 : (List ConflictEdge)) (r : (List Int)) (H : m_impl_GreedyRepair u n0 edges1 preferences2 = some r) : FnV prg 39 [(intA n0), (sl tConflictEdge edges1), (sl tConflictEdge preferences2)] (sl tInt r) := (m_impl_GreedyRepair_own u n0 edges1 preferences2 r H).frz (frzT (T := tInt) rfl)

set_option maxHeartbeats 1000000 in
theorem m_laws_FnExactGreedyRepair_ok (u : Nat) (aN0 : Int) (aEdges1 : (List ConflictEdge)) (aPreferences2 : (List ConflictEdge)) (r : Bool) (H : m_laws_FnExactGreedyRepair u aN0 aEdges1 aPreferences2 = some r) : FnV prg 9 [(intA aN0), (sl tConflictEdge aEdges1), (sl tConflictEdge aPreferences2)] (boolA r) := by
  unfold m_laws_FnExactGreedyRepair at H
  refine fnV_of_T Try.func9 rfl rfl (Nat.le_of_ble_eq_true rfl) ?_
  refine te [(0, (intA aN0)), (1, (sl tConflictEdge aEdges1)), (2, (sl tConflictEdge aPreferences2))] rfl ?_
  refine sr ?_
  refine pv tb 1 rfl ?_
  refine TO_nil ?_
  refine sr ?_
  refine pv tb 1 rfl ?_
  refine TO_nil ?_
  refine sr ?_
  obtain ⟨r_1, h_2, H⟩ := bind_inv H
  refine pv tb 2 rfl ?_
  refine TO_cons rfl (TOp_callV (call_static ent11 rfl) (m_laws_szConflictEdgeS_ok _ _ _ h_2) rfl rfl rfl ?_)
  refine pv tb 1 rfl ?_
  refine TO_nil ?_
  refine T_seq ?_
  refine sr ?_
  refine pv tb 2 rfl ?_
  refine TO_nil ?_
  refine T_cond (t := decide (r_1 < 0)) rfl (fun c_3 => ?_) (fun c_3 => ?_)
  ·replace H := cond_t c_3 H
   refine sr ?_
   refine pv tb 1 rfl ?_
   refine TO_nil ?_
   refine T_ret ?_
   refine then_ret ?_
   obtain rfl := some_inj H
   refine end_ret (.tmp .nil) rfl rfl ⟨?_, rfl⟩
   rfl
  ·replace H := cond_f c_3 H
   refine T_skip ?_
   refine sr ?_
   obtain ⟨r_4, h_5, H⟩ := bind_inv H
   refine pv tb 2 rfl ?_
   refine TO_cons rfl (TOp_callV (call_static ent11 rfl) (m_laws_szConflictEdgeS_ok _ _ _ h_5) rfl rfl rfl ?_)
   refine pv tb 1 rfl ?_
   refine TO_nil ?_
   refine T_seq ?_
   refine sr ?_
   refine pv tb 2 rfl ?_
   refine TO_nil ?_
   refine T_cond (t := decide (r_4 < 0)) rfl (fun c_6 => ?_) (fun c_6 => ?_)
   ·replace H := cond_t c_6 H
    refine sr ?_
    refine pv tb 1 rfl ?_
    refine TO_nil ?_
    refine te [(6, (boolA true))] rfl ?_
    refine T_ret ?_
    refine then_ret ?_
    obtain rfl := some_inj H
    refine end_ret (.tmp .nil) rfl rfl ⟨?_, rfl⟩
    rfl
   ·replace H := cond_f c_6 H
    refine T_skip ?_
    refine sr ?_
    obtain ⟨r_7, h_8, H⟩ := bind_inv H
    refine pv tb 2 rfl ?_
    refine TO_cons rfl (TOp_callV (call_static ent13 rfl) (m_laws_toConflictEdgeS_ok _ _ h_8) rfl rfl rfl ?_)
    obtain ⟨r_9, h_10, H⟩ := bind_inv H
    refine pv tb 1 rfl ?_
    refine TO_cons rfl (TOp_callV (call_static ent13 rfl) (m_laws_toConflictEdgeS_ok _ _ h_10) rfl rfl rfl ?_)
    obtain ⟨r_11, h_12, H⟩ := bind_inv H
    refine TO_cons rfl (TOp_callV (call_static ent38 rfl) (m_spec_GreedyRepair_ok u _ _ _ _ h_12) rfl rfl rfl ?_)
    refine pv tb 1 rfl ?_
    refine TO_nil ?_
    refine te [(0, (intA aN0)), (1, (sl tConflictEdge aEdges1)), (2, (sl tConflictEdge aPreferences2)), (8, (sl tInt r_11))] rfl ?_
    refine sr ?_
    obtain ⟨r_13, h_14, H⟩ := bind_inv H
    refine pv tb 1 rfl ?_
    refine TO_cons rfl (TOp_callO (call_static ent13 rfl) rfl (m_laws_toConflictEdgeS_own _ _ h_14) rfl rfl rfl ?_)
    refine toe [(0, (intA aN0)), (1, (sl tConflictEdge aEdges1)), (2, (sl tConflictEdge aPreferences2)), (8, (sl tInt r_11)), (32, (sl tConflictEdge aEdges1)), (33, (.m [0] 0 r_13.length tConflictEdge.k))] rfl ?_
    refine TO_st (σ' := [.row (flat tConflictEdge.own r_13)]) rfl ?_
    refine pv tb 1 rfl ?_
    refine TO_nil ?_
    refine sr ?_
    obtain ⟨r_15, h_16, H⟩ := bind_inv H
    refine pv tb 1 rfl ?_
    refine TO_cons rfl (TOp_callO (call_static ent13 rfl) rfl (m_laws_toConflictEdgeS_own _ _ h_16) rfl rfl rfl ?_)
    refine toe [(0, (intA aN0)), (1, (sl tConflictEdge aEdges1)), (2, (sl tConflictEdge aPreferences2)), (8, (sl tInt r_11)), (9, (.m [0] 0 r_13.length tConflictEdge.k)), (34, (sl tConflictEdge aPreferences2)), (35, (.m [1] 0 r_15.length tConflictEdge.k))] rfl ?_
    refine TO_st (σ' := [.row (flat tConflictEdge.own r_13), .row (flat tConflictEdge.own r_15)]) rfl ?_
    refine pv tb 1 rfl ?_
    refine TO_nil ?_
    refine sr ?_
    obtain ⟨r_17, h_18, H⟩ := bind_inv H
    refine pv tb 3 rfl ?_
    refine TO_cons rfl (TOp_callOG (call_static ent39 rfl) (frz_cons (frz_loose rfl) (frz_cons (frzT (T := tConflictEdge) rfl) (frz_cons (frzT (T := tConflictEdge) rfl) frz_nil))).1 (frz_cons (frz_loose rfl) (frz_cons (frzT (T := tConflictEdge) rfl) (frz_cons (frzT (T := tConflictEdge) rfl) frz_nil))).2 (m_impl_GreedyRepair_own u _ _ _ _ h_18) rfl (ownC_of (ownSB_cons (flat_ownR tInt _) ownSB_nil)) rfl rfl rfl ?_)
    refine toe [(0, (intA aN0)), (1, (sl tConflictEdge aEdges1)), (2, (sl tConflictEdge aPreferences2)), (8, (sl tInt r_11)), (9, (.m [0] 0 r_13.length tConflictEdge.k)), (10, (.m [1] 0 r_15.length tConflictEdge.k)), (36, (intA aN0)), (37, (.m [0] 0 r_13.length tConflictEdge.k)), (38, (.m [1] 0 r_15.length tConflictEdge.k)), (39, (.m [2] 0 r_17.length tInt.k))] rfl ?_
    refine TO_st (σ' := [.row (flat tConflictEdge.own r_13), .row (flat tConflictEdge.own r_15), .row (flat tInt.own r_17)]) rfl ?_
    refine pv tb 1 rfl ?_
    refine TO_nil ?_
    refine T_seq ?_
    refine sr ?_
    obtain ⟨r_19, h_20, H⟩ := bind_inv H
    refine pv tb 2 rfl ?_
    refine TO_cons rfl (TOp_callB (call_static ent21 rfl) (frz_cons (frzT (T := tInt) rfl) (frz_cons (frz_loose rfl) frz_nil)).1 (frz_cons (frzT (T := tInt) rfl) (frz_cons (frz_loose rfl) frz_nil)).2 (m_laws_eqIntS_ok _ _ _ h_20) rfl ?_)
    refine pv tb 1 rfl ?_
    refine TO_nil ?_
    refine T_cond (t := (!r_19)) rfl (fun c_21 => ?_) (fun c_21 => ?_)
    ·replace H := cond_t c_21 H
     refine sr ?_
     refine pv tb 1 rfl ?_
     refine TO_nil ?_
     refine te [(6, (boolA false))] rfl ?_
     refine T_ret ?_
     refine then_ret ?_
     obtain rfl := some_inj H
     refine end_ret (.tmp .nil) rfl rfl ⟨?_, rfl⟩
     rfl
    ·replace H := cond_f c_21 H
     refine T_skip ?_
     refine T_seq ?_
     refine sr ?_
     obtain ⟨r_22, h_23, H⟩ := bind_inv H
     refine pv tb 2 rfl ?_
     refine TO_cons rfl (TOp_callV (call_static ent13 rfl) (m_laws_toConflictEdgeS_ok _ _ h_23) rfl rfl rfl ?_)
     obtain ⟨r_24, h_25, H⟩ := bind_inv H
     refine TO_cons rfl (TOp_callB (call_static ent15 rfl) (frz_cons (frzT (T := tConflictEdge) rfl) (frz_cons (frz_loose rfl) frz_nil)).1 (frz_cons (frzT (T := tConflictEdge) rfl) (frz_cons (frz_loose rfl) frz_nil)).2 (m_laws_eqConflictEdgeS_ok _ _ _ h_25) rfl ?_)
     refine pv tb 1 rfl ?_
     refine TO_nil ?_
     refine T_cond (t := (!r_24)) rfl (fun c_26 => ?_) (fun c_26 => ?_)
     ·replace H := cond_t c_26 H
      refine sr ?_
      refine pv tb 1 rfl ?_
      refine TO_nil ?_
      refine te [(6, (boolA false))] rfl ?_
      refine T_ret ?_
      refine then_ret ?_
      obtain rfl := some_inj H
      refine end_ret (.tmp .nil) rfl rfl ⟨?_, rfl⟩
      rfl
     ·replace H := cond_f c_26 H
      refine T_skip ?_
      refine T_seq ?_
      refine sr ?_
      obtain ⟨r_27, h_28, H⟩ := bind_inv H
      refine pv tb 2 rfl ?_
      refine TO_cons rfl (TOp_callV (call_static ent13 rfl) (m_laws_toConflictEdgeS_ok _ _ h_28) rfl rfl rfl ?_)
      obtain ⟨r_29, h_30, H⟩ := bind_inv H
      refine TO_cons rfl (TOp_callB (call_static ent15 rfl) (frz_cons (frzT (T := tConflictEdge) rfl) (frz_cons (frz_loose rfl) frz_nil)).1 (frz_cons (frzT (T := tConflictEdge) rfl) (frz_cons (frz_loose rfl) frz_nil)).2 (m_laws_eqConflictEdgeS_ok _ _ _ h_30) rfl ?_)
      refine pv tb 1 rfl ?_
      refine TO_nil ?_
      refine te [(0, (intA aN0)), (1, (sl tConflictEdge aEdges1)), (2, (sl tConflictEdge aPreferences2)), (8, (sl tInt r_11)), (9, (.m [0] 0 r_13.length tConflictEdge.k)), (10, (.m [1] 0 r_15.length tConflictEdge.k)), (11, (.m [2] 0 r_17.length tInt.k)), (53, (boolA (!r_29)))] rfl ?_
      refine T_cond (t := (!r_29)) rfl (fun c_31 => ?_) (fun c_31 => ?_)
      ·replace H := cond_t c_31 H
       refine sr ?_
       refine pv tb 1 rfl ?_
       refine TO_nil ?_
       refine T_ret ?_
       refine then_ret ?_
       obtain rfl := some_inj H
       refine end_ret (.tmp .nil) rfl rfl ⟨?_, rfl⟩
       rfl
      ·replace H := cond_f c_31 H
       refine T_skip ?_
       refine sr ?_
       refine pv tb 1 rfl ?_
       refine TO_nil ?_
       refine sr ?_
       obtain ⟨r_32, h_33, H⟩ := bind_inv H
       refine pv tb 2 rfl ?_
       refine TO_cons rfl (TOp_callG (aa := [(.m [0] 0 r_13.length tConflictEdge.k), (intA 1)]) [[0]] (call_static ent22 rfl) rfl (.cons rfl rfl (by decide) .nil) rfl rfl (m_laws_markConflictEdgeS_mut _ _ _ h_33) rfl (fun hl_34 => ?_))
       obtain ⟨hq_35, hl_34⟩ := sameLens_T (T := tConflictEdge) hl_34
       refine TO_env (E' := [(0, (intA aN0)), (1, (sl tConflictEdge aEdges1)), (2, (sl tConflictEdge aPreferences2)), (8, (sl tInt r_11)), (9, (.m [0] 0 r_32.2.length tConflictEdge.k)), (10, (.m [1] 0 r_15.length tConflictEdge.k)), (11, (.m [2] 0 r_17.length tInt.k)), (12, (intA 1)), (54, (.m [0] 0 r_32.2.length tConflictEdge.k)), (55, (intA 1)), (56, (intA r_32.1))]) ⟨rfl, rfl, rfl, rfl, (congrArg (fun q => A.m [0] 0 q tConflictEdge.k) hq_35.symm), rfl, rfl, rfl, (congrArg (fun q => A.m [0] 0 q tConflictEdge.k) hq_35.symm), rfl, rfl, trivial⟩ ?_
       refine TO_st (σ' := [.row (flat tConflictEdge.own r_32.2), .row (flat tConflictEdge.own r_15), .row (flat tInt.own r_17)]) rfl ?_
       refine pv tb 1 rfl ?_
       refine TO_nil ?_
       refine sr ?_
       obtain ⟨r_36, h_37, H⟩ := bind_inv H
       refine pv tb 2 rfl ?_
       refine TO_cons rfl (TOp_callG (aa := [(.m [1] 0 r_15.length tConflictEdge.k), (intA r_32.1)]) [[1]] (call_static ent22 rfl) rfl (.cons rfl rfl (by decide) .nil) rfl rfl (m_laws_markConflictEdgeS_mut _ _ _ h_37) rfl (fun hl_38 => ?_))
       obtain ⟨hq_39, hl_38⟩ := sameLens_T (T := tConflictEdge) hl_38
       refine TO_env (E' := [(0, (intA aN0)), (1, (sl tConflictEdge aEdges1)), (2, (sl tConflictEdge aPreferences2)), (8, (sl tInt r_11)), (10, (.m [1] 0 r_36.2.length tConflictEdge.k)), (11, (.m [2] 0 r_17.length tInt.k)), (12, (intA r_32.1)), (57, (.m [1] 0 r_36.2.length tConflictEdge.k)), (58, (intA r_32.1)), (59, (intA r_36.1))]) ⟨rfl, rfl, rfl, rfl, (congrArg (fun q => A.m [1] 0 q tConflictEdge.k) hq_39.symm), rfl, rfl, (congrArg (fun q => A.m [1] 0 q tConflictEdge.k) hq_39.symm), rfl, rfl, trivial⟩ ?_
       refine TO_st (σ' := [.row (flat tConflictEdge.own r_32.2), .row (flat tConflictEdge.own r_36.2), .row (flat tInt.own r_17)]) rfl ?_
       refine pv tb 1 rfl ?_
       refine TO_nil ?_
       refine T_seq ?_
       obtain ⟨t67_40, J_40, H_41⟩ := bind_inv H
       refine T_cutX (fun x => t67_40 = x) (fun (t67_40 : Bool) => [(0, (intA aN0)), (1, (sl tConflictEdge aEdges1)), (2, (sl tConflictEdge aPreferences2)), (8, (sl tInt r_11)), (11, (.m [2] 0 r_17.length tInt.k)), (67, (boolA t67_40))]) (fun (t67_40 : Bool) => [.row (flat tConflictEdge.own r_32.2), .row (flat tConflictEdge.own r_36.2), .row (flat tInt.own r_17)]) ?_ ?_
       ·replace H := J_40
        refine T_region ?_
        refine pv tb 3 rfl ?_
        refine TO_split (t := decide (r_36.1 < 0)) 62 rfl (fun g_42 => ?_) (fun g_42 => ?_)
        ·replace H := cond_t g_42 H
         refine pv tb 5 rfl ?_
         refine TO_nil ?_
         exact joined true (w0 3) (some_inj H).symm
        ·replace H := cond_f g_42 H
         obtain ⟨r_43, h_44, H⟩ := bind_inv H
         refine pv tb 2 rfl ?_
         refine TO_on rfl rfl (by decide) rfl rfl (TOp_callB (call_static ent21 rfl) (frz_cons (frzT (T := tInt) rfl) (frz_cons (frz_loose rfl) frz_nil)).1 (frz_cons (frzT (T := tInt) rfl) (frz_cons (frz_loose rfl) frz_nil)).2 (m_laws_eqIntS_ok _ _ _ h_44) rfl ?_)
         refine pv tb 2 rfl ?_
         refine TO_nil ?_
         exact joined (!r_43) (w0 3) (some_inj H).symm
       ·rintro _ rfl
        replace H := H_41
        refine T_cond (t := t67_40) rfl (fun c_45 => ?_) (fun c_45 => ?_)
        ·replace H := cond_t c_45 H
         refine sr ?_
         refine pv tb 1 rfl ?_
         refine TO_nil ?_
         refine T_ret ?_
         refine then_ret ?_
         obtain rfl := some_inj H
         refine end_ret (.tmp .nil) rfl rfl ⟨?_, rfl⟩
         rfl
        ·replace H := cond_f c_45 H
         refine T_skip ?_
         refine sr ?_
         refine pv tb 1 rfl ?_
         refine TO_nil ?_
         refine sr ?_
         obtain ⟨r_46, h_47, H⟩ := bind_inv H
         refine pv tb 2 rfl ?_
         refine TO_cons rfl (TOp_callG (aa := [(.m [2] 0 r_17.length tInt.k), (intA 1)]) [[2]] (call_static ent23 rfl) rfl (.cons rfl rfl (by decide) .nil) rfl rfl (m_laws_markIntS_mut _ _ _ h_47) rfl (fun hl_48 => ?_))
         obtain ⟨hq_49, hl_48⟩ := sameLens_T (T := tInt) hl_48
         refine TO_env (E' := [(0, (intA aN0)), (1, (sl tConflictEdge aEdges1)), (2, (sl tConflictEdge aPreferences2)), (8, (sl tInt r_11)), (11, (.m [2] 0 r_46.2.length tInt.k)), (13, (intA 1)), (68, (.m [2] 0 r_46.2.length tInt.k)), (69, (intA 1)), (70, (intA r_46.1))]) ⟨rfl, rfl, rfl, rfl, (congrArg (fun q => A.m [2] 0 q tInt.k) hq_49.symm), rfl, (congrArg (fun q => A.m [2] 0 q tInt.k) hq_49.symm), rfl, rfl, trivial⟩ ?_
         refine TO_st (σ' := [.row (flat tConflictEdge.own r_32.2), .row (flat tConflictEdge.own r_36.2), .row (flat tInt.own r_46.2)]) rfl ?_
         refine pv tb 1 rfl ?_
         refine TO_nil ?_
         refine sr ?_
         refine pv tb 1 rfl ?_
         refine TO_nil ?_
         refine sr ?_
         obtain ⟨r_50, h_51, H⟩ := bind_inv H
         refine pv tb 2 rfl ?_
         refine TO_cons rfl (TOp_callB (call_static ent24 rfl) (frz_cons (frzT (T := tInt) rfl) (frz_cons (frz_loose rfl) frz_nil)).1 (frz_cons (frzT (T := tInt) rfl) (frz_cons (frz_loose rfl) frz_nil)).2 (m_laws_heldIntS_ok _ _ _ h_51) rfl ?_)
         refine pv tb 1 rfl ?_
         refine TO_nil ?_
         refine T_seq ?_
         refine sr ?_
         refine pv tb 2 rfl ?_
         refine TO_nil ?_
         refine T_cond (t := decide (r_50 < 0)) rfl (fun c_52 => ?_) (fun c_52 => ?_)
         ·replace H := cond_t c_52 H
          refine sr ?_
          refine pv tb 1 rfl ?_
          refine TO_nil ?_
          refine te [(6, (boolA false))] rfl ?_
          refine T_ret ?_
          refine then_ret ?_
          obtain rfl := some_inj H
          refine end_ret (.tmp .nil) rfl rfl ⟨?_, rfl⟩
          rfl
         ·replace H := cond_f c_52 H
          refine T_skip ?_
          refine T_seq ?_
          refine sr ?_
          refine pv tb 3 rfl ?_
          refine TO_nil ?_
          refine T_cond (t := decide (r_50 ≠ r_46.1)) rfl (fun c_53 => ?_) (fun c_53 => ?_)
          ·replace H := cond_t c_53 H
           refine sr ?_
           refine pv tb 1 rfl ?_
           refine TO_nil ?_
           refine te [(6, (boolA false))] rfl ?_
           refine T_ret ?_
           refine then_ret ?_
           obtain rfl := some_inj H
           refine end_ret (.tmp .nil) rfl rfl ⟨?_, rfl⟩
           rfl
          ·replace H := cond_f c_53 H
           refine T_skip ?_
           refine sr ?_
           obtain ⟨r_54, h_55, H⟩ := bind_inv H
           refine pv tb 2 rfl ?_
           refine TO_cons rfl (TOp_callV (call_static ent13 rfl) (m_laws_toConflictEdgeS_ok _ _ h_55) rfl rfl rfl ?_)
           obtain ⟨r_56, h_57, H⟩ := bind_inv H
           refine pv tb 1 rfl ?_
           refine TO_cons rfl (TOp_callV (call_static ent13 rfl) (m_laws_toConflictEdgeS_ok _ _ h_57) rfl rfl rfl ?_)
           obtain ⟨r_58, h_59, H⟩ := bind_inv H
           refine TO_cons rfl (TOp_callV (call_static ent39 rfl) (m_impl_GreedyRepair_ok u _ _ _ _ h_59) rfl rfl rfl ?_)
           refine pv tb 1 rfl ?_
           refine TO_nil ?_
           refine te [(8, (sl tInt r_11)), (11, (.m [2] 0 r_46.2.length tInt.k)), (13, (intA r_46.1)), (15, (sl tInt r_58))] rfl ?_
           refine T_seq ?_
           refine sr ?_
           obtain ⟨r_60, h_61, H⟩ := bind_inv H
           refine pv tb 2 rfl ?_
           refine TO_cons rfl (TOp_callV (call_static ent21 rfl) (m_laws_eqIntS_ok _ _ _ h_61) rfl rfl rfl ?_)
           refine pv tb 1 rfl ?_
           refine TO_nil ?_
           refine T_cond (t := (!r_60)) rfl (fun c_62 => ?_) (fun c_62 => ?_)
           ·replace H := cond_t c_62 H
            refine sr ?_
            refine pv tb 1 rfl ?_
            refine TO_nil ?_
            refine T_ret ?_
            refine then_ret ?_
            obtain rfl := some_inj H
            refine end_ret (.tmp .nil) rfl rfl ⟨?_, rfl⟩
            rfl
           ·replace H := cond_f c_62 H
            refine T_skip ?_
            refine sr ?_
            refine pv tb 1 rfl ?_
            refine TO_nil ?_
            refine sr ?_
            obtain ⟨r_63, h_64, H⟩ := bind_inv H
            refine pv tb 2 rfl ?_
            refine TO_cons rfl (TOp_callB (call_static ent24 rfl) (frz_cons (frzT (T := tInt) rfl) (frz_cons (frz_loose rfl) frz_nil)).1 (frz_cons (frzT (T := tInt) rfl) (frz_cons (frz_loose rfl) frz_nil)).2 (m_laws_heldIntS_ok _ _ _ h_64) rfl ?_)
            refine pv tb 1 rfl ?_
            refine TO_nil ?_
            refine T_seq ?_
            refine sr ?_
            refine pv tb 2 rfl ?_
            refine TO_nil ?_
            refine T_cond (t := decide (r_63 < 0)) rfl (fun c_65 => ?_) (fun c_65 => ?_)
            ·replace H := cond_t c_65 H
             refine sr ?_
             refine pv tb 1 rfl ?_
             refine TO_nil ?_
             refine T_ret ?_
             refine then_ret ?_
             obtain rfl := some_inj H
             refine end_ret (.tmp .nil) rfl rfl ⟨?_, rfl⟩
             rfl
            ·replace H := cond_f c_65 H
             refine T_skip ?_
             refine T_seq ?_
             refine sr ?_
             refine pv tb 3 rfl ?_
             refine TO_nil ?_
             refine te [(96, (boolA (decide (r_63 ≠ r_46.1))))] rfl ?_
             refine T_cond (t := decide (r_63 ≠ r_46.1)) rfl (fun c_66 => ?_) (fun c_66 => ?_)
             ·replace H := cond_t c_66 H
              refine sr ?_
              refine pv tb 1 rfl ?_
              refine TO_nil ?_
              refine T_ret ?_
              refine then_ret ?_
              obtain rfl := some_inj H
              refine end_ret (.tmp .nil) rfl rfl ⟨?_, rfl⟩
              rfl
             ·replace H := cond_f c_66 H
              refine T_skip ?_
              refine sr ?_
              refine pv tb 1 rfl ?_
              refine TO_nil ?_
              refine T_ret ?_
              obtain rfl := some_inj H
              refine end_ret (.tmp .nil) rfl rfl ⟨?_, rfl⟩
              rfl
end Go.Proofs.Ytglgcncmjnjfgaa

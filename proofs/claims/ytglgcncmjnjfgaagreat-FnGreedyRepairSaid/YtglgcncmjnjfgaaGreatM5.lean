import Derived.Test.YtglgcncmjnjfgaaGreatM1
import Derived.Test.YtglgcncmjnjfgaaGreatM2
import Derived.Test.YtglgcncmjnjfgaaGreatM3
import Derived.Test.YtglgcncmjnjfgaaGreatM4
set_option linter.unusedVariables false
set_option linter.unusedSimpArgs false
set_option maxRecDepth 4000
namespace Go.Proofs.YtglgcncmjnjfgaaGreat
open Go Go.Proofs Go.Sep
set_option maxHeartbeats 1000000 in
theorem m_impl_greedy_own (u : Nat) (n0 : Int) (edges1 : (List ConflictEdge)) (preferences2 : (List ConflictEdge)) (any3 : Bool) (r : (List (List Int))) (H : m_impl_greedy u n0 edges1 preferences2 any3 = some r) : FnO prg 22 [(intA n0), (sl tConflictEdge edges1), (sl tConflictEdge preferences2), (boolA any3)] (.m [0] 0 r.length (tSl tInt).k) [.row (flat (tSl tInt).own r)] := by
  unfold m_impl_greedy at H
  refine fnO_of_T Tryz.func22 rfl rfl (Nat.le_of_ble_eq_true rfl) ?_
  refine te [(0, (intA n0)), (1, (sl tConflictEdge edges1)), (2, (sl tConflictEdge preferences2)), (3, (boolA any3))] rfl ?_
  refine sr ?_
  refine TO_cons rfl (TOp_box rfl (boxAll rfl) rfl rfl ?_)
  refine TO_cons rfl (TOp_box rfl (boxAll rfl) rfl rfl ?_)
  refine TO_cons rfl (TOp_box rfl (boxAll rfl) rfl rfl ?_)
  refine pv tb 1 rfl ?_
  refine TO_nil ?_
  refine sr ?_
  refine TO_cons rfl (TOp_lit (nn := 0) (k := 1) sl27 zero31 rfl rfl rfl rfl (by decide) ?_)
  refine TO_st (σ' := [.box [(sl tConflictEdge edges1)], .box [(sl tConflictEdge preferences2)], .box [(boolA any3)], .row (flat (tSl tInt).own ([] : (List (List Int))))]) rfl ?_
  refine TO_cons rfl (TOp_alloc zero27 rfl rfl ?_)
  refine TO_cons rfl (TOp_storeB sz27 rfl rfl rfl rfl rfl rfl rfl (by decide) (lb rfl) rfl ?_)
  refine TO_st (σ' := [.box [(sl tConflictEdge edges1)], .box [(sl tConflictEdge preferences2)], .box [(boolA any3)], .row (flat (tSl tInt).own ([] : (List (List Int)))), .box [(.m [3] 0 ([] : (List (List Int))).length (tSl tInt).k)]]) rfl ?_
  refine TO_nil ?_
  refine sr ?_
  refine TO_cons rfl (TOp_alloc zero63 rfl rfl ?_)
  refine TO_nil ?_
  refine sr ?_
  refine pv tb 1 rfl ?_
  refine TO_cons rfl (TOp_storeB sz63 rfl rfl rfl rfl rfl rfl rfl (by decide) (lb rfl) rfl ?_)
  refine TO_st (σ' := [.box [(sl tConflictEdge edges1)], .box [(sl tConflictEdge preferences2)], .box [(boolA any3)], .row (flat (tSl tInt).own ([] : (List (List Int)))), .box [(.m [3] 0 ([] : (List (List Int))).length (tSl tInt).k)], .box [(.f 49 [(.b 4 0), (.b 1 0), (.b 5 0), (.b 0 0), (.b 2 0)])]]) rfl ?_
  refine TO_nil ?_
  refine sr ?_
  refine TO_cons rfl (TOp_lit (nn := 0) (k := 1) sl31 zero3 rfl rfl rfl rfl (by decide) ?_)
  refine TO_st (σ' := [.box [(sl tConflictEdge edges1)], .box [(sl tConflictEdge preferences2)], .box [(boolA any3)], .row (flat (tSl tInt).own ([] : (List (List Int)))), .box [(.m [3] 0 ([] : (List (List Int))).length (tSl tInt).k)], .box [(.f 49 [(.b 4 0), (.b 1 0), (.b 5 0), (.b 0 0), (.b 2 0)])], .row (flat tInt.enc ([] : (List Int)))]) rfl ?_
  refine pv tb 1 rfl ?_
  refine TO_nil ?_
  refine T_seq ?_
  refine sr ?_
  refine pv tb 2 rfl ?_
  refine TO_nil ?_
  obtain ⟨_, h_3, H⟩ := bind_inv H
  replace h_3 := gN_inv h_3
  obtain ⟨O2_, L2_, N2_⟩ := bind_inv H
  clear H
  obtain ⟨B2_, hb2, L2_⟩ := gen_forM L2_
  refine T_block ?_
  refine T_loopX (fun k => fun (⟨t_1, left11⟩ : Int × (List Int)) => k = (n0 - t_1).toNat ∧ 0 ≤ t_1 ∧ forM B2_ (n0 - t_1).toNat t_1 left11 = some O2_) (fun (⟨t_1, left11⟩ : Int × (List Int)) => [(9, (.b 4 0)), (10, (.b 5 0)), (11, (.m [6] 0 left11.length tInt.k)), (16, (intA n0)), (17, (intA (t_1 : Int)))]) (fun (⟨t_1, left11⟩ : Int × (List Int)) => [.box [(sl tConflictEdge edges1)], .box [(sl tConflictEdge preferences2)], .box [(boolA any3)], .row (flat (tSl tInt).own ([] : (List (List Int)))), .box [(.m [3] 0 ([] : (List (List Int))).length (tSl tInt).k)], .box [(.f 49 [(.b 4 0), (.b 1 0), (.b 5 0), (.b 0 0), (.b 2 0)])], .row (flat tInt.enc left11)]) _ (0, ([] : (List Int))) (w0 7) ⟨rfl, Int.le_refl _, L2_⟩ ?_
  rintro _ ⟨t_1, left11⟩ ⟨rfl, hi2, L2_⟩
  refine sr ?_
  refine pv tb 1 rfl ?_
  refine TO_nil ?_
  refine T_seq ?_
  refine T_cond (t := decide ((t_1 : Int) < n0)) rfl (fun d2 => ?_) (fun d2 => ?_)
  ·replace d2 := of_decide_eq_true d2
   obtain ⟨C2_, H, K2_⟩ := forM_step L2_ d2
   rw [hb2] at H
   refine T_skip ?_
   refine T_seq ?_
   refine T_block ?_
   refine sr ?_
   refine pv tb 2 rfl ?_
   refine TO_nil ?_
   refine T_region ?_
   refine pv tb 2 rfl ?_
   refine TO_cons rfl (TOp_lit (nn := 1) (k := 1) sl31 zero3 rfl rfl rfl rfl (by decide) ?_)
   refine TO_st (σ' := [.box [(sl tConflictEdge edges1)], .box [(sl tConflictEdge preferences2)], .box [(boolA any3)], .row (flat (tSl tInt).own ([] : (List (List Int)))), .box [(.m [3] 0 ([] : (List (List Int))).length (tSl tInt).k)], .box [(.f 49 [(.b 4 0), (.b 1 0), (.b 5 0), (.b 0 0), (.b 2 0)])], .row (flat tInt.enc left11), .row (flat tInt.enc ([(t_1 : Int)] : (List Int)))]) rfl ?_
   obtain ⟨us_4, h_5, H⟩ := bind_inv H
   refine TO_cons rfl (TOp_appZ (T := tInt) (f := tInt.enc) (xs := left11) (ys := ([(t_1 : Int)] : (List Int))) tInt.len sl31 zero3 rfl bytes3 (by decide) rfl rfl rfl rfl (src_mT (f := tInt.enc) tInt.len rfl rfl (flat_cell tInt _)) (flat_cell tInt _) h_5 (lb rfl) ?_)
   refine toe [(9, (.b 4 0)), (10, (.b 5 0)), (12, (intA (t_1 : Int))), (16, (intA n0)), (17, (intA (t_1 : Int))), (21, (intA (t_1 : Int))), (22, (.m [7] 0 ([(t_1 : Int)] : (List Int)).length tInt.k)), (23, (.m [6] 0 us_4.length tInt.k))] rfl ?_
   refine TO_st (σ' := [.box [(sl tConflictEdge edges1)], .box [(sl tConflictEdge preferences2)], .box [(boolA any3)], .row (flat (tSl tInt).own ([] : (List (List Int)))), .box [(.m [3] 0 ([] : (List (List Int))).length (tSl tInt).k)], .box [(.f 49 [(.b 4 0), (.b 1 0), (.b 5 0), (.b 0 0), (.b 2 0)])], .row (flat tInt.enc us_4), .row (flat tInt.enc ([(t_1 : Int)] : (List Int))), .dead]) rfl ?_
   refine pv tb 1 rfl ?_
   refine TO_nil ?_
   refine T_region ?_
   refine Tp rfl rfl (pur_add rfl rfl rfl (fits64 (by omega) (by omega))) rfl ?_
   refine pv tb 1 rfl ?_
   refine TO_nil ?_
   obtain rfl := some_inj H
   exact again (n0 - (t_1 + 1)).toNat (t_1 + 1, us_4) (by omega) (w0 7) ⟨rfl, by omega, K2_⟩
  ·replace d2 := of_decide_eq_false d2
   obtain rfl := forM_end L2_ (by omega)
   refine T_exit ?_
   refine then_exit ?_
   refine then_exit ?_
   refine block_exit ?_
   replace H := N2_
   refine sr ?_
   refine pv tb 2 rfl ?_
   refine TO_frz1 6 (E' := [(9, (.b 4 0)), (10, (.b 5 0)), (11, (sl tInt left11)), (25, (.f 49 [(.b 4 0), (.b 1 0), (.b 5 0), (.b 0 0), (.b 2 0)])), (26, (sl tInt left11))]) rfl rfl (lb rfl) ⟨(.keep rfl), (.keep rfl), fz1E, (.keep rfl), fz1E, trivial⟩ ?_
   refine TO_st (σ' := [.box [(sl tConflictEdge edges1)], .box [(sl tConflictEdge preferences2)], .box [(boolA any3)], .row (flat (tSl tInt).own ([] : (List (List Int)))), .box [(.m [3] 0 ([] : (List (List Int))).length (tSl tInt).k)], .box [(.f 49 [(.b 4 0), (.b 1 0), (.b 5 0), (.b 0 0), (.b 2 0)])], .dead]) rfl ?_
   obtain ⟨r_6, h_7, H⟩ := bind_inv H
   refine TO_cons rfl (TOp_callS [4, 1, 5, 0, 2, 3] (CallOp.le (call_closure (caps := [(.b 4 0), (.b 1 0), (.b 5 0), (.b 0 0), (.b 2 0)]) ent49 rfl rfl) (leCons (leR rfl) (leCons leN (leCons (leR rfl) (leCons (leR rfl) (leCons (leR rfl) (leCons (leR rfl) (leCons (leR rfl) leNil)))))))) (by decide) rfl rfl rfl rfl rfl rfl (m_impl_greedy_1_c u _ _ _ _ _ _ _ h_7) rfl rfl ?_)
   refine toe [(9, (.b 4 0)), (10, (.b 5 0)), (11, (sl tInt left11)), (25, (.f 49 [(.b 4 0), (.b 1 0), (.b 5 0), (.b 0 0), (.b 2 0)])), (26, (sl tInt left11))] rfl ?_
   refine TO_st (σ' := [.box [(sl tConflictEdge edges1)], .box [(sl tConflictEdge preferences2)], .box [(boolA any3)], .dead, .box [(.m [7] 0 r_6.length (tSl tInt).k)], .box [(.f 49 [(.b 4 0), (.b 1 0), (.b 5 0), (.b 0 0), (.b 2 0)])], .dead, .row (flat (tSl tInt).own r_6)]) rfl ?_
   refine TO_move 3 7 (by decide) (lb rfl) rfl rfl (lb rfl) ?_
   refine toe [(9, (.b 4 0)), (10, (.b 5 0)), (11, (sl tInt left11)), (25, (.f 49 [(.b 4 0), (.b 1 0), (.b 5 0), (.b 0 0), (.b 2 0)])), (26, (sl tInt left11))] rfl ?_
   refine TO_st (σ' := [.box [(sl tConflictEdge edges1)], .box [(sl tConflictEdge preferences2)], .box [(boolA any3)], .row (flat (tSl tInt).own r_6), .box [(.m [3] 0 r_6.length (tSl tInt).k)], .box [(.f 49 [(.b 4 0), (.b 1 0), (.b 5 0), (.b 0 0), (.b 2 0)])], .dead, .dead]) rfl ?_
   refine TO_nil ?_
   refine sr ?_
   obtain ⟨_, h_9, H⟩ := bind_inv H
   refine pv tb 1 rfl ?_
   refine TO_cons rfl (TOp_same (call_static ent54 rfl) rfl (same_unit (one1_inv h_9) m_slices_SortFunc_SSint_Sint_1) rfl ?_)
   refine TO_nil ?_
   refine sr ?_
   obtain ⟨_, h_11, H⟩ := bind_inv H
   refine pv tb 1 rfl ?_
   refine TO_cons rfl (TOp_same (call_static ent56 rfl) rfl (same_slice (one1_inv h_11) m_slices_CompactFunc_SSint_Sint_1) rfl ?_)
   refine pv tb 1 rfl ?_
   refine TO_nil ?_
   refine T_ret ?_
   obtain rfl := some_inj H
   exact end_pick (.tmp .nil) rfl [3] (by decide) rfl rfl rfl rfl rfl rfl
theorem m_impl_greedy_ok (u : Nat) (n0 : Int) (edges1 : (List ConflictEdge)) (preferences2 : (List ConflictEdge)) (any3 : Bool) (r : (List (List Int))) (H : m_impl_greedy u n0 edges1 preferences2 any3 = some r) : FnV prg 22 [(intA n0), (sl tConflictEdge edges1), (sl tConflictEdge preferences2), (boolA any3)] (sl (tSl tInt) r) := (m_impl_greedy_own u n0 edges1 preferences2 any3 r H).frz (frzT (T := (tSl tInt)) rfl)

set_option maxHeartbeats 1000000 in
theorem m_impl_GreedyRepair_own (u : Nat) (n0 : Int) (edges1 : (List ConflictEdge)) (preferences2 : (List ConflictEdge)) (r : (List Int)) (H : m_impl_GreedyRepair u n0 edges1 preferences2 = some r) : FnO prg 17 [(intA n0), (sl tConflictEdge edges1), (sl tConflictEdge preferences2)] (.m [0] 0 r.length tInt.k) [.row (flat tInt.own r)] := by
  unfold m_impl_GreedyRepair at H
  refine fnO_of_T Tryz.func17 rfl rfl (Nat.le_of_ble_eq_true rfl) ?_
  refine te [(0, (intA n0)), (1, (sl tConflictEdge edges1)), (2, (sl tConflictEdge preferences2))] rfl ?_
  refine sr ?_
  refine pv tb 1 rfl ?_
  refine TO_nil ?_
  refine T_seq ?_
  refine sr ?_
  obtain ⟨r_1, h_2, H⟩ := bind_inv H
  refine pv tb 3 rfl ?_
  refine TO_cons rfl (TOp_callV (call_static ent18 rfl) (m_impl_IsValidPreference_ok u _ _ _ _ h_2) rfl rfl rfl ?_)
  refine pv tb 1 rfl ?_
  refine TO_nil ?_
  refine T_cond (t := (!r_1)) rfl (fun c_3 => ?_) (fun c_3 => ?_)
  ·replace H := cond_t c_3 H
   refine sr ?_
   refine pv tb 1 rfl ?_
   refine TO_nil ?_
   refine T_row0 ?_
   refine T_envL (E' := [(6, (.m [0] 0 ([] : (List Int)).length tInt.k))]) ⟨leM, trivial⟩ ?_
   refine T_st (σ' := [.row (flat tInt.own ([] : (List Int)))]) rfl ?_
   refine T_ret ?_
   refine then_ret ?_
   obtain rfl := some_inj H
   exact end_pick (.tmp .nil) rfl [0] (by decide) rfl rfl rfl rfl rfl rfl
  ·replace H := cond_f c_3 H
   refine T_skip ?_
   refine sr ?_
   obtain ⟨r_4, h_5, H⟩ := bind_inv H
   refine pv tb 3 rfl ?_
   refine TO_cons rfl (TOp_callO (call_static ent22 rfl) rfl (m_impl_greedy_own u _ _ _ _ _ h_5) rfl rfl rfl ?_)
   refine toe [(0, (intA n0)), (1, (sl tConflictEdge edges1)), (2, (sl tConflictEdge preferences2)), (12, (intA n0)), (13, (sl tConflictEdge edges1)), (14, (sl tConflictEdge preferences2)), (15, (.m [0] 0 r_4.length (tSl tInt).k))] rfl ?_
   refine TO_st (σ' := [.row (flat (tSl tInt).own r_4)]) rfl ?_
   obtain ⟨v_6, h_7, H⟩ := bind_inv H
   obtain ⟨n_8, hz_9, hv_10⟩ := getI_inv h_7
   refine Tp rfl rfl (pur_ixM (T := (tSl tInt)) sl27 rfl rfl hz_9 hv_10 rfl) rfl ?_
   refine Tp rfl rfl (pur_ldE (f := (tSl tInt).own) (k := (tSl tInt).k) (i := n_8) (off := 0) (tSl tInt).lenO rfl one31 rfl rfl rfl hv_10 rfl cellVal_sl) rfl ?_
   refine pv tb 1 rfl ?_
   refine TO_boxify 0 rfl (lb rfl) ?_
   refine TO_detach (k := tInt.k) (xs := flat (tSl tInt).own r_4) (ys := flat tInt.own v_6) (E' := [(0, (intA n0)), (1, (sl tConflictEdge edges1)), (2, (sl tConflictEdge preferences2)), (6, (.m [1] 0 v_6.length tInt.k)), (12, (intA n0)), (13, (sl tConflictEdge edges1)), (14, (sl tConflictEdge preferences2)), (15, (.m [0] 0 r_4.length (tSl tInt).k))]) 0 (n_8 * (tSl tInt).k + 0) 6 rfl (flat_at' (tSl tInt).lenO hv_10 rfl) rfl (lb rfl) (nms_box namesL_own nms_nil) ⟨.inr ⟨rfl, rfl⟩, .inr ⟨rfl, rfl⟩, .inr ⟨rfl, rfl⟩, .inl ⟨rfl, rfl⟩, .inr ⟨rfl, rfl⟩, .inr ⟨rfl, rfl⟩, .inr ⟨rfl, rfl⟩, .inr ⟨rfl, rfl⟩, trivial⟩ ?_
   refine TO_st (σ' := [.box (spl (flat (tSl tInt).own r_4) (n_8 * (tSl tInt).k) [.j]), .row (flat tInt.own v_6)]) (by rw [open_T (T := (tSl tInt)) hv_10 (by decide)]; rfl) ?_
   refine toe [(0, (intA n0)), (1, (sl tConflictEdge edges1)), (2, (sl tConflictEdge preferences2)), (6, (.m [1] 0 v_6.length tInt.k)), (12, (intA n0)), (13, (sl tConflictEdge edges1)), (14, (sl tConflictEdge preferences2))] rfl ?_
   refine TO_kill 0 (lb rfl) ?_
   refine TO_st (σ' := [.dead, .row (flat tInt.own v_6)]) rfl ?_
   refine TO_nil ?_
   refine T_ret ?_
   obtain rfl := some_inj H
   exact end_pick (.tmp .nil) rfl [1] (by decide) rfl rfl rfl rfl rfl rfl
theorem m_impl_GreedyRepair_ok (u : Nat) (n0 : Int) (edges1 : (List ConflictEdge)) (preferences2 : (List ConflictEdge)) (r : (List Int)) (H : m_impl_GreedyRepair u n0 edges1 preferences2 = some r) : FnV prg 17 [(intA n0), (sl tConflictEdge edges1), (sl tConflictEdge preferences2)] (sl tInt r) := (m_impl_GreedyRepair_own u n0 edges1 preferences2 r H).frz (frzT (T := tInt) rfl)

set_option maxHeartbeats 1000000 in
theorem m_spec_l7Has_ok (l0 : (List Int)) (x1 : Int) (r : Bool) (H : m_spec_l7Has l0 x1 = some r) : FnV prg 44 [(sl tInt l0), (intA x1)] (boolA r) := by
  unfold m_spec_l7Has at H
  refine fnV_of_T Tryz.func44 rfl rfl (Nat.le_of_ble_eq_true rfl) ?_
  refine te [(0, (sl tInt l0)), (1, (intA x1))] rfl ?_
  refine sr ?_
  refine pv tb 1 rfl ?_
  refine TO_nil ?_
  refine T_seq ?_
  refine sr ?_
  refine pv tb 1 rfl ?_
  refine TO_nil ?_
  obtain ⟨O2_, L2_, N2_⟩ := bind_inv H
  clear H
  obtain ⟨B2_, hb2, L2_⟩ := gen_forL L2_
  refine T_block ?_
  refine T_loopX (fun k => fun (i_1 : Nat) => k = l0.length - i_1 ∧ forL B2_ (l0.drop i_1) (i_1 : Int) () = some O2_) (fun (i_1 : Nat) => [(0, (sl tInt l0)), (1, (intA x1)), (5, (intA (i_1 : Int)))]) (fun (i_1 : Nat) => []) _ (0 : Nat) (w0 0) ⟨rfl, L2_⟩ ?_
  rintro _ i_1 ⟨rfl, L2_⟩
  refine T_fact (len_sl (T := tInt) (.tmp 0) rfl) (fun hl2 => ?_)
  refine T_seq ?_
  refine sr ?_
  refine pv tb 2 rfl ?_
  refine Tp rfl rfl (pur_lenT (T := tInt) sl31 rfl rfl) rfl ?_
  refine pv tb 1 rfl ?_
  refine TO_nil ?_
  refine T_cond (t := decide ((i_1 : Int) < (l0.length : Int))) rfl (fun d2 => ?_) (fun d2 => ?_)
  ·replace d2 := of_decide_eq_true d2
   obtain ⟨x_i_1, hx_i_1⟩ : ∃ v, (l0)[i_1]? = some v := ⟨_, List.getElem?_eq_getElem (by omega)⟩
   obtain ⟨C2_, H, K2_⟩ := forL_step L2_ hx_i_1
   rw [hb2] at H
   refine T_skip ?_
   refine T_seq ?_
   refine T_block ?_
   refine sr ?_
   refine pv tb 2 rfl ?_
   refine Tp rfl rfl (pur_ixT (T := tInt) sl31 rfl rfl rfl hx_i_1 rfl) rfl ?_
   refine Tp rfl rfl (pur_ldT (T := tInt) (i := i_1) (off := 0) rfl one3 rfl rfl hx_i_1 rfl) rfl ?_
   refine pv tb 2 rfl ?_
   refine TO_nil ?_
   refine T_cond (t := decide (x_i_1 = x1)) rfl (fun c_3 => ?_) (fun c_3 => ?_)
   ·replace H := cond_t c_3 H
    refine sr ?_
    refine pv tb 1 rfl ?_
    refine TO_nil ?_
    refine T_ret ?_
    refine block_ret ?_
    refine then_ret ?_
    refine then_ret ?_
    refine block_ret ?_
    refine then_ret ?_
    obtain rfl := some_inj H
    obtain rfl := some_inj K2_
    replace H := onS_r N2_
    obtain rfl := some_inj H
    refine end_ret (.tmp .nil) rfl rfl ⟨?_, rfl⟩
    rfl
   ·replace H := cond_f c_3 H
    refine T_skip ?_
    refine T_region ?_
    refine pv tb 1 rfl ?_
    refine Tp rfl rfl (pur_add rfl rfl rfl (fits64 (by omega) (by omega))) rfl ?_
    refine pv tb 1 rfl ?_
    refine TO_nil ?_
    obtain rfl := some_inj H
    exact again (l0.length - (i_1 + 1)) (i_1 + 1) (by omega) (w0 0) ⟨rfl, K2_⟩
  ·replace d2 := of_decide_eq_false d2
   obtain rfl := forL_end L2_ (by omega)
   refine T_exit ?_
   refine then_exit ?_
   refine then_exit ?_
   refine block_exit ?_
   replace H := onS_l N2_
   refine sr ?_
   refine pv tb 1 rfl ?_
   refine TO_nil ?_
   refine T_ret ?_
   obtain rfl := some_inj H
   refine end_ret (.tmp .nil) rfl rfl ⟨?_, rfl⟩
   rfl

set_option maxHeartbeats 1000000 in
theorem m_spec_IsIndependent_ok (l0 : (List ConflictEdge)) (s1 : (List Int)) (r : Bool) (H : m_spec_IsIndependent l0 s1 = some r) : FnV prg 69 [(sl tConflictEdge l0), (sl tInt s1)] (boolA r) := by
  unfold m_spec_IsIndependent at H
  refine fnV_of_T Tryz.func69 rfl rfl (Nat.le_of_ble_eq_true rfl) ?_
  refine te [(0, (sl tConflictEdge l0)), (1, (sl tInt s1))] rfl ?_
  refine sr ?_
  refine pv tb 1 rfl ?_
  refine TO_nil ?_
  refine T_seq ?_
  refine sr ?_
  refine pv tb 1 rfl ?_
  refine TO_nil ?_
  obtain ⟨O2_, L2_, N2_⟩ := bind_inv H
  clear H
  obtain ⟨B2_, hb2, L2_⟩ := gen_forL L2_
  refine T_block ?_
  refine T_loopX (fun k => fun (i_1 : Nat) => k = l0.length - i_1 ∧ forL B2_ (l0.drop i_1) (i_1 : Int) () = some O2_) (fun (i_1 : Nat) => [(0, (sl tConflictEdge l0)), (1, (sl tInt s1)), (5, (intA (i_1 : Int)))]) (fun (i_1 : Nat) => []) _ (0 : Nat) (w0 0) ⟨rfl, L2_⟩ ?_
  rintro _ i_1 ⟨rfl, L2_⟩
  refine T_fact (len_sl (T := tConflictEdge) (.tmp 0) rfl) (fun hl2 => ?_)
  refine T_seq ?_
  refine sr ?_
  refine pv tb 2 rfl ?_
  refine Tp rfl rfl (pur_lenT (T := tConflictEdge) sl24 rfl rfl) rfl ?_
  refine pv tb 1 rfl ?_
  refine TO_nil ?_
  refine T_cond (t := decide ((i_1 : Int) < (l0.length : Int))) rfl (fun d2 => ?_) (fun d2 => ?_)
  ·replace d2 := of_decide_eq_true d2
   obtain ⟨x_i_1, hx_i_1⟩ : ∃ v, (l0)[i_1]? = some v := ⟨_, List.getElem?_eq_getElem (by omega)⟩
   obtain ⟨C2_, H, K2_⟩ := forL_step L2_ hx_i_1
   rw [hb2] at H
   refine T_skip ?_
   refine T_seq ?_
   refine T_block ?_
   obtain ⟨t27_3, J_3, H_4⟩ := bind_inv H
   refine T_cutX (fun x => t27_3 = x) (fun (t27_3 : Bool) => [(0, (sl tConflictEdge l0)), (1, (sl tInt s1)), (5, (intA (i_1 : Int))), (27, (boolA t27_3))]) (fun (t27_3 : Bool) => []) ?_ ?_
   ·replace H := J_3
    refine T_region ?_
    refine pv tb 3 rfl ?_
    refine Tp rfl rfl (pur_ixT (T := tConflictEdge) sl24 rfl rfl rfl hx_i_1 rfl) rfl ?_
    refine pv tb 1 rfl ?_
    refine Tp rfl rfl (pur_ldT (T := tConflictEdge) (i := i_1) (off := 0) rfl one3 rfl rfl hx_i_1 rfl) rfl ?_
    obtain ⟨r_5, h_6, H⟩ := bind_inv H
    refine TO_cons rfl (TOp_callV (call_static ent44 rfl) (m_spec_l7Has_ok _ _ _ h_6) rfl rfl rfl ?_)
    refine pv tb 1 rfl ?_
    refine TO_split (t := r_5) 19 rfl (fun g_7 => ?_) (fun g_7 => ?_)
    ·replace H := cond_t g_7 H
     refine pv tb 3 rfl ?_
     refine TO_on rfl rfl (by decide) rfl rfl (TOp_pure (pur_ixT (T := tConflictEdge) sl24 rfl rfl rfl hx_i_1 rfl) rfl ?_)
     refine pv tb 1 rfl ?_
     refine TO_on rfl rfl (by decide) rfl rfl (TOp_pure (pur_ldT (T := tConflictEdge) (i := i_1) (off := 1) rfl one3 rfl rfl hx_i_1 rfl) rfl ?_)
     obtain ⟨r_8, h_9, H⟩ := bind_inv H
     refine TO_on rfl rfl (by decide) rfl rfl (TOp_callV (call_static ent44 rfl) (m_spec_l7Has_ok _ _ _ h_9) rfl rfl rfl ?_)
     refine pv tb 1 rfl ?_
     refine TO_nil ?_
     exact joined r_8 (w0 0) (some_inj H).symm
    ·replace H := cond_f g_7 H
     refine pv tb 8 rfl ?_
     refine TO_nil ?_
     exact joined false (w0 0) (some_inj H).symm
   ·rintro _ rfl
    replace H := H_4
    refine T_cond (t := t27_3) rfl (fun c_10 => ?_) (fun c_10 => ?_)
    ·replace H := cond_t c_10 H
     refine sr ?_
     refine pv tb 1 rfl ?_
     refine TO_nil ?_
     refine T_ret ?_
     refine block_ret ?_
     refine then_ret ?_
     refine then_ret ?_
     refine block_ret ?_
     refine then_ret ?_
     obtain rfl := some_inj H
     obtain rfl := some_inj K2_
     replace H := onS_r N2_
     obtain rfl := some_inj H
     refine end_ret (.tmp .nil) rfl rfl ⟨?_, rfl⟩
     rfl
    ·replace H := cond_f c_10 H
     refine T_skip ?_
     refine T_region ?_
     refine pv tb 1 rfl ?_
     refine Tp rfl rfl (pur_add rfl rfl rfl (fits64 (by omega) (by omega))) rfl ?_
     refine pv tb 1 rfl ?_
     refine TO_nil ?_
     obtain rfl := some_inj H
     exact again (l0.length - (i_1 + 1)) (i_1 + 1) (by omega) (w0 0) ⟨rfl, K2_⟩
  ·replace d2 := of_decide_eq_false d2
   obtain rfl := forL_end L2_ (by omega)
   refine T_exit ?_
   refine then_exit ?_
   refine then_exit ?_
   refine block_exit ?_
   replace H := onS_l N2_
   refine sr ?_
   refine pv tb 1 rfl ?_
   refine TO_nil ?_
   refine T_ret ?_
   obtain rfl := some_inj H
   refine end_ret (.tmp .nil) rfl rfl ⟨?_, rfl⟩
   rfl

set_option maxHeartbeats 1000000 in
theorem m_spec_l8Fits_ok (l0 : (List ConflictEdge)) (s1 : (List Int)) (x2 : Int) (r : Bool) (H : m_spec_l8Fits l0 s1 x2 = some r) : FnV prg 64 [(sl tConflictEdge l0), (sl tInt s1), (intA x2)] (boolA r) := by
  unfold m_spec_l8Fits at H
  refine fnV_of_T Tryz.func64 rfl rfl (Nat.le_of_ble_eq_true rfl) ?_
  refine te [(0, (sl tConflictEdge l0)), (1, (sl tInt s1)), (2, (intA x2))] rfl ?_
  refine sr ?_
  refine pv tb 1 rfl ?_
  refine TO_nil ?_
  obtain ⟨t6_1, J_1, H_2⟩ := bind_inv H
  refine T_cutX (fun x => t6_1 = x) (fun (t6_1 : Bool) => [(6, (boolA t6_1))]) (fun (t6_1 : Bool) => []) ?_ ?_
  ·replace H := J_1
   refine T_region ?_
   obtain ⟨r_3, h_4, H⟩ := bind_inv H
   refine pv tb 2 rfl ?_
   refine TO_cons rfl (TOp_callV (call_static ent44 rfl) (m_spec_l7Has_ok _ _ _ h_4) rfl rfl rfl ?_)
   refine pv tb 2 rfl ?_
   refine TO_split (t := (!r_3)) 11 rfl (fun g_5 => ?_) (fun g_5 => ?_)
   ·replace H := cond_t g_5 H
    refine pv tb 1 rfl ?_
    refine TO_on rfl rfl (by decide) rfl rfl (TOp_lit (nn := 0) (k := 1) sl31 zero3 rfl rfl rfl rfl (by decide) ?_)
    refine TO_st (σ' := [.row (flat tInt.enc ([] : (List Int)))]) rfl ?_
    obtain ⟨us_6, h_7, H⟩ := bind_inv H
    refine pv tb 1 rfl ?_
    refine TO_on rfl rfl (by decide) rfl rfl (TOp_appZ (T := tInt) (f := tInt.enc) (xs := ([] : (List Int))) (ys := s1) tInt.len sl31 zero3 rfl bytes3 (by decide) rfl rfl rfl rfl (src_T (T := tInt) rfl) (flat_cell tInt _) h_7 (lb rfl) ?_)
    refine toe [(0, (sl tConflictEdge l0)), (1, (sl tInt s1)), (2, (intA x2)), (7, (sl tInt s1)), (8, (intA x2)), (9, (boolA r_3)), (10, (boolA (!r_3))), (11, (boolA true)), (12, (sl tConflictEdge l0)), (14, (sl tInt s1)), (15, (.m [0] 0 us_6.length tInt.k))] rfl ?_
    refine TO_st (σ' := [.row (flat tInt.enc us_6), .dead]) rfl ?_
    refine pv tb 1 rfl ?_
    refine TO_on rfl rfl (by decide) rfl rfl (TOp_lit (nn := 1) (k := 1) sl31 zero3 rfl rfl rfl rfl (by decide) ?_)
    refine TO_st (σ' := [.row (flat tInt.enc us_6), .dead, .row (flat tInt.enc ([x2] : (List Int)))]) rfl ?_
    obtain ⟨us_8, h_9, H⟩ := bind_inv H
    refine TO_on rfl rfl (by decide) rfl rfl (TOp_appZ (T := tInt) (f := tInt.enc) (xs := us_6) (ys := ([x2] : (List Int))) tInt.len sl31 zero3 rfl bytes3 (by decide) rfl rfl rfl rfl (src_mT (f := tInt.enc) tInt.len rfl rfl (flat_cell tInt _)) (flat_cell tInt _) h_9 (lb rfl) ?_)
    refine toe [(0, (sl tConflictEdge l0)), (1, (sl tInt s1)), (2, (intA x2)), (7, (sl tInt s1)), (8, (intA x2)), (9, (boolA r_3)), (10, (boolA (!r_3))), (11, (boolA true)), (12, (sl tConflictEdge l0)), (14, (sl tInt s1)), (16, (intA x2)), (17, (.m [2] 0 ([x2] : (List Int)).length tInt.k)), (18, (.m [0] 0 us_8.length tInt.k))] rfl ?_
    refine TO_st (σ' := [.row (flat tInt.enc us_8), .dead, .row (flat tInt.enc ([x2] : (List Int))), .dead]) rfl ?_
    obtain ⟨r_10, h_11, H⟩ := bind_inv H
    refine TO_on rfl rfl (by decide) rfl rfl (TOp_callB (call_static ent69 rfl) (frz_cons (frz_loose rfl) (frz_cons (frzTE (T := tInt) rfl) frz_nil)).1 (frz_cons (frz_loose rfl) (frz_cons (frzTE (T := tInt) rfl) frz_nil)).2 (m_spec_IsIndependent_ok _ _ _ h_11) rfl ?_)
    refine pv tb 2 rfl ?_
    refine TO_nil ?_
    exact joined r_10 (w0 0) (some_inj H).symm
   ·replace H := cond_f g_5 H
    refine pv tb 10 rfl ?_
    refine TO_nil ?_
    exact joined false (w0 0) (some_inj H).symm
  ·rintro _ rfl
   replace H := H_2
   refine T_ret ?_
   obtain rfl := some_inj H
   refine end_ret (.tmp .nil) rfl rfl ⟨?_, rfl⟩
   rfl

set_option maxHeartbeats 1000000 in
theorem m_spec_IsMaximalIndependent_ok (n0 : Int) (l1 : (List ConflictEdge)) (s2 : (List Int)) (r : Bool) (H : m_spec_IsMaximalIndependent n0 l1 s2 = some r) : FnV prg 43 [(intA n0), (sl tConflictEdge l1), (sl tInt s2)] (boolA r) := by
  unfold m_spec_IsMaximalIndependent at H
  refine fnV_of_T Tryz.func43 rfl rfl (Nat.le_of_ble_eq_true rfl) ?_
  refine te [(0, (intA n0)), (1, (sl tConflictEdge l1)), (2, (sl tInt s2))] rfl ?_
  refine sr ?_
  refine pv tb 1 rfl ?_
  refine TO_nil ?_
  refine T_seq ?_
  obtain ⟨t23_1, J_1, H_2⟩ := bind_inv H
  refine T_cutX (fun x => t23_1 = x) (fun (t23_1 : Bool) => [(0, (intA n0)), (1, (sl tConflictEdge l1)), (2, (sl tInt s2)), (23, (boolA t23_1))]) (fun (t23_1 : Bool) => []) ?_ ?_
  ·replace H := J_1
   refine T_region ?_
   obtain ⟨r_3, h_4, H⟩ := bind_inv H
   refine pv tb 2 rfl ?_
   refine TO_cons rfl (TOp_callV (call_static ent26 rfl) (m_spec_AreValidEdges_ok _ _ _ h_4) rfl rfl rfl ?_)
   refine pv tb 2 rfl ?_
   refine TO_split (t := (!r_3)) 12 rfl (fun g_5 => ?_) (fun g_5 => ?_)
   ·replace H := cond_t g_5 H
    refine pv tb 11 rfl ?_
    refine TO_nil ?_
    exact joined true (w0 0) (some_inj H).symm
   ·replace H := cond_f g_5 H
    obtain ⟨r_6, h_7, H⟩ := bind_inv H
    refine pv tb 2 rfl ?_
    refine TO_on rfl rfl (by decide) rfl rfl (TOp_callV (call_static ent59 rfl) (m_spec_l8Set_ok _ _ _ h_7) rfl rfl rfl ?_)
    refine pv tb 3 rfl ?_
    refine TO_split (t := (!r_6)) 18 rfl (fun g_8 => ?_) (fun g_8 => ?_)
    ·replace H := cond_t g_8 H
     refine pv tb 5 rfl ?_
     refine TO_nil ?_
     exact joined true (w0 0) (some_inj H).symm
    ·replace H := cond_f g_8 H
     obtain ⟨r_9, h_10, H⟩ := bind_inv H
     refine pv tb 2 rfl ?_
     refine TO_on rfl rfl (by decide) rfl rfl (TOp_callV (call_static ent69 rfl) (m_spec_IsIndependent_ok _ _ _ h_10) rfl rfl rfl ?_)
     refine pv tb 2 rfl ?_
     refine TO_nil ?_
     exact joined (!r_9) (w0 0) (some_inj H).symm
  ·rintro _ rfl
   replace H := H_2
   refine T_cond (t := t23_1) rfl (fun c_11 => ?_) (fun c_11 => ?_)
   ·replace H := cond_t c_11 H
    refine sr ?_
    refine pv tb 1 rfl ?_
    refine TO_nil ?_
    refine T_ret ?_
    refine then_ret ?_
    obtain rfl := some_inj H
    refine end_ret (.tmp .nil) rfl rfl ⟨?_, rfl⟩
    rfl
   ·replace H := cond_f c_11 H
    refine T_skip ?_
    refine T_seq ?_
    refine sr ?_
    refine pv tb 1 rfl ?_
    refine TO_nil ?_
    obtain ⟨_, h_14, H⟩ := bind_inv H
    replace h_14 := gN_inv h_14
    obtain ⟨O13_, L13_, N13_⟩ := bind_inv H
    clear H
    obtain ⟨B13_, hb13, L13_⟩ := gen_forN L13_
    refine T_block ?_
    refine T_loopX (fun k => fun (x_12 : Int) => k = (n0 - x_12).toNat ∧ 0 ≤ x_12 ∧ forN B13_ (n0 - x_12).toNat x_12 () = some O13_) (fun (x_12 : Int) => [(0, (intA n0)), (1, (sl tConflictEdge l1)), (2, (sl tInt s2)), (7, (intA (x_12 : Int)))]) (fun (x_12 : Int) => []) _ (0 : Int) (w0 0) ⟨rfl, Int.le_refl _, L13_⟩ ?_
    rintro _ x_12 ⟨rfl, hi13, L13_⟩
    refine T_seq ?_
    refine sr ?_
    refine pv tb 3 rfl ?_
    refine TO_nil ?_
    refine T_cond (t := decide ((x_12 : Int) < n0)) rfl (fun d13 => ?_) (fun d13 => ?_)
    ·replace d13 := of_decide_eq_true d13
     obtain ⟨C13_, H, K13_⟩ := forN_step L13_ d13
     rw [hb13] at H
     refine T_skip ?_
     refine T_seq ?_
     refine T_block ?_
     refine sr ?_
     obtain ⟨r_15, h_16, H⟩ := bind_inv H
     refine pv tb 3 rfl ?_
     refine TO_cons rfl (TOp_callV (call_static ent64 rfl) (m_spec_l8Fits_ok _ _ _ _ h_16) rfl rfl rfl ?_)
     refine TO_nil ?_
     refine T_cond (t := r_15) rfl (fun c_17 => ?_) (fun c_17 => ?_)
     ·replace H := cond_t c_17 H
      refine sr ?_
      refine pv tb 1 rfl ?_
      refine TO_nil ?_
      refine T_ret ?_
      refine block_ret ?_
      refine then_ret ?_
      refine then_ret ?_
      refine block_ret ?_
      refine then_ret ?_
      obtain rfl := some_inj H
      obtain rfl := some_inj K13_
      replace H := onS_r N13_
      obtain rfl := some_inj H
      refine end_ret (.tmp .nil) rfl rfl ⟨?_, rfl⟩
      rfl
     ·replace H := cond_f c_17 H
      refine T_skip ?_
      refine T_region ?_
      refine pv tb 1 rfl ?_
      refine Tp rfl rfl (pur_add rfl rfl rfl (fits64 (by omega) (by omega))) rfl ?_
      refine pv tb 1 rfl ?_
      refine TO_nil ?_
      obtain rfl := some_inj H
      exact again (n0 - (x_12 + 1)).toNat (x_12 + 1) (by omega) (w0 0) ⟨rfl, by omega, K13_⟩
    ·replace d13 := of_decide_eq_false d13
     obtain rfl := forN_end L13_ (by omega)
     refine T_exit ?_
     refine then_exit ?_
     refine then_exit ?_
     refine block_exit ?_
     replace H := onS_l N13_
     refine sr ?_
     refine pv tb 1 rfl ?_
     refine TO_nil ?_
     refine T_ret ?_
     obtain rfl := some_inj H
     refine end_ret (.tmp .nil) rfl rfl ⟨?_, rfl⟩
     rfl

set_option maxHeartbeats 1000000 in
theorem m_spec_IsParetoOptimal_ok (n0 : Int) (l1 : (List ConflictEdge)) (p2 : (List ConflictEdge)) (s3 : (List Int)) (r : Bool) (H : m_spec_IsParetoOptimal n0 l1 p2 s3 = some r) : FnV prg 19 [(intA n0), (sl tConflictEdge l1), (sl tConflictEdge p2), (sl tInt s3)] (boolA r) := by
  unfold m_spec_IsParetoOptimal at H
  refine fnV_of_T Tryz.func19 rfl rfl (Nat.le_of_ble_eq_true rfl) ?_
  refine te [(0, (intA n0)), (1, (sl tConflictEdge l1)), (2, (sl tConflictEdge p2)), (3, (sl tInt s3))] rfl ?_
  refine sr ?_
  refine pv tb 1 rfl ?_
  refine TO_nil ?_
  refine T_seq ?_
  obtain ⟨t23_1, J_1, H_2⟩ := bind_inv H
  refine T_cutX (fun x => t23_1 = x) (fun (t23_1 : Bool) => [(0, (intA n0)), (1, (sl tConflictEdge l1)), (2, (sl tConflictEdge p2)), (3, (sl tInt s3)), (23, (boolA t23_1))]) (fun (t23_1 : Bool) => []) ?_ ?_
  ·replace H := J_1
   refine T_region ?_
   obtain ⟨r_3, h_4, H⟩ := bind_inv H
   refine pv tb 3 rfl ?_
   refine TO_cons rfl (TOp_callV (call_static ent10 rfl) (m_spec_IsValidPreference_ok _ _ _ _ h_4) rfl rfl rfl ?_)
   refine pv tb 2 rfl ?_
   refine TO_split (t := (!r_3)) 17 rfl (fun g_5 => ?_) (fun g_5 => ?_)
   ·replace H := cond_t g_5 H
    refine pv tb 6 rfl ?_
    refine TO_nil ?_
    exact joined true (w0 0) (some_inj H).symm
   ·replace H := cond_f g_5 H
    obtain ⟨r_6, h_7, H⟩ := bind_inv H
    refine pv tb 3 rfl ?_
    refine TO_on rfl rfl (by decide) rfl rfl (TOp_callV (call_static ent43 rfl) (m_spec_IsMaximalIndependent_ok _ _ _ _ h_7) rfl rfl rfl ?_)
    refine pv tb 2 rfl ?_
    refine TO_nil ?_
    exact joined (!r_6) (w0 0) (some_inj H).symm
  ·rintro _ rfl
   replace H := H_2
   refine T_cond (t := t23_1) rfl (fun c_8 => ?_) (fun c_8 => ?_)
   ·replace H := cond_t c_8 H
    refine sr ?_
    refine pv tb 1 rfl ?_
    refine TO_nil ?_
    refine T_ret ?_
    refine then_ret ?_
    obtain rfl := some_inj H
    refine end_ret (.tmp .nil) rfl rfl ⟨?_, rfl⟩
    rfl
   ·replace H := cond_f c_8 H
    refine T_skip ?_
    refine T_seq ?_
    refine sr ?_
    refine pv tb 1 rfl ?_
    refine TO_nil ?_
    obtain ⟨_, h_11, H⟩ := bind_inv H
    replace h_11 := gN_inv h_11
    obtain ⟨O10_, L10_, N10_⟩ := bind_inv H
    clear H
    obtain ⟨B10_, hb10, L10_⟩ := gen_forN L10_
    refine T_block ?_
    refine T_loopX (fun k => fun (x_9 : Int) => k = (n0 - x_9).toNat ∧ 0 ≤ x_9 ∧ forN B10_ (n0 - x_9).toNat x_9 () = some O10_) (fun (x_9 : Int) => [(0, (intA n0)), (1, (sl tConflictEdge l1)), (2, (sl tConflictEdge p2)), (3, (sl tInt s3)), (9, (intA (x_9 : Int)))]) (fun (x_9 : Int) => []) _ (0 : Int) (w0 0) ⟨rfl, Int.le_refl _, L10_⟩ ?_
    rintro _ x_9 ⟨rfl, hi10, L10_⟩
    refine T_seq ?_
    refine sr ?_
    refine pv tb 3 rfl ?_
    refine TO_nil ?_
    refine T_cond (t := decide ((x_9 : Int) < n0)) rfl (fun d10 => ?_) (fun d10 => ?_)
    ·replace d10 := of_decide_eq_true d10
     obtain ⟨C10_, H, K10_⟩ := forN_step L10_ d10
     rw [hb10] at H
     refine T_skip ?_
     refine T_seq ?_
     refine T_block ?_
     refine T_seq ?_
     refine sr ?_
     obtain ⟨r_12, h_13, H⟩ := bind_inv H
     refine pv tb 2 rfl ?_
     refine TO_cons rfl (TOp_callV (call_static ent44 rfl) (m_spec_l7Has_ok _ _ _ h_13) rfl rfl rfl ?_)
     refine TO_nil ?_
     refine T_cond (t := r_12) rfl (fun c_14 => ?_) (fun c_14 => ?_)
     ·replace H := cond_t c_14 H
      refine T_exit ?_
      refine then_exit ?_
      refine block_exit ?_
      refine T_region ?_
      refine pv tb 1 rfl ?_
      refine Tp rfl rfl (pur_add rfl rfl rfl (fits64 (by omega) (by omega))) rfl ?_
      refine pv tb 1 rfl ?_
      refine TO_nil ?_
      obtain rfl := some_inj H
      exact again (n0 - (x_9 + 1)).toNat (x_9 + 1) (by omega) (w0 0) ⟨rfl, by omega, K10_⟩
     ·replace H := cond_f c_14 H
      refine T_skip ?_
      refine sr ?_
      refine pv tb 1 rfl ?_
      refine TO_nil ?_
      refine T_seq ?_
      refine sr ?_
      refine pv tb 1 rfl ?_
      refine TO_nil ?_
      obtain ⟨O16_, L16_, N16_⟩ := bind_inv H
      clear H
      obtain ⟨B16_, hb16, L16_⟩ := gen_forS L16_
      refine T_block ?_
      refine T_loopX (fun k => fun (⟨i_15, all10⟩ : Nat × Bool) => k = s3.length - i_15 ∧ forS B16_ (s3.drop i_15) (i_15 : Int) all10 = some O16_) (fun (⟨i_15, all10⟩ : Nat × Bool) => [(0, (intA n0)), (1, (sl tConflictEdge l1)), (2, (sl tConflictEdge p2)), (3, (sl tInt s3)), (9, (intA (x_9 : Int))), (10, (boolA all10)), (11, (intA (i_15 : Int)))]) (fun (⟨i_15, all10⟩ : Nat × Bool) => []) _ (0, true) (w0 0) ⟨rfl, L16_⟩ ?_
      rintro _ ⟨i_15, all10⟩ ⟨rfl, L16_⟩
      refine T_fact (len_sl (T := tInt) (.tmp 3) rfl) (fun hl16 => ?_)
      refine T_seq ?_
      refine sr ?_
      refine pv tb 2 rfl ?_
      refine Tp rfl rfl (pur_lenT (T := tInt) sl31 rfl rfl) rfl ?_
      refine pv tb 1 rfl ?_
      refine TO_nil ?_
      refine T_cond (t := decide ((i_15 : Int) < (s3.length : Int))) rfl (fun d16 => ?_) (fun d16 => ?_)
      ·replace d16 := of_decide_eq_true d16
       obtain ⟨x_i_15, hx_i_15⟩ : ∃ v, (s3)[i_15]? = some v := ⟨_, List.getElem?_eq_getElem (by omega)⟩
       obtain ⟨C16_, H, K16_⟩ := forS_step L16_ hx_i_15
       rw [hb16] at H
       refine T_skip ?_
       refine T_seq ?_
       refine T_block ?_
       refine T_region ?_
       refine pv tb 2 rfl ?_
       refine TO_split (t := all10) 39 rfl (fun g_17 => ?_) (fun g_17 => ?_)
       ·replace H := cond_t g_17 H
        refine pv tb 4 rfl ?_
        refine TO_on rfl rfl (by decide) rfl rfl (TOp_pure (pur_ixT (T := tInt) sl31 rfl rfl rfl hx_i_15 rfl) rfl ?_)
        refine TO_on rfl rfl (by decide) rfl rfl (TOp_pure (pur_ldT (T := tInt) (i := i_15) (off := 0) rfl one3 rfl rfl hx_i_15 rfl) rfl ?_)
        obtain ⟨r_18, h_19, H⟩ := bind_inv H
        refine TO_on rfl rfl (by decide) rfl rfl (TOp_callV (call_static ent27 rfl) (m_spec_l28Edge_ok _ _ _ _ h_19) rfl rfl rfl ?_)
        refine pv tb 2 rfl ?_
        refine TO_split (t := (!r_18)) 48 rfl (fun g_20 => ?_) (fun g_20 => ?_)
        ·replace H := cond_t g_20 H
         refine pv tb 10 rfl ?_
         refine TO_nil ?_
         refine te [(0, (intA n0)), (1, (sl tConflictEdge l1)), (2, (sl tConflictEdge p2)), (3, (sl tInt s3)), (9, (intA (x_9 : Int))), (10, (boolA true)), (11, (intA (i_15 : Int)))] rfl ?_
         refine T_region ?_
         refine pv tb 1 rfl ?_
         refine Tp rfl rfl (pur_add rfl rfl rfl (fits64 (by omega) (by omega))) rfl ?_
         refine pv tb 1 rfl ?_
         refine TO_nil ?_
         obtain rfl := some_inj H
         exact again (s3.length - (i_15 + 1)) (i_15 + 1, true) (by omega) (w0 0) ⟨rfl, K16_⟩
        ·replace H := cond_f g_20 H
         refine pv tb 4 rfl ?_
         refine TO_on rfl rfl (by decide) rfl rfl (TOp_pure (pur_ixT (T := tInt) sl31 rfl rfl rfl hx_i_15 rfl) rfl ?_)
         refine TO_on rfl rfl (by decide) rfl rfl (TOp_pure (pur_ldT (T := tInt) (i := i_15) (off := 0) rfl one3 rfl rfl hx_i_15 rfl) rfl ?_)
         obtain ⟨r_21, h_22, H⟩ := bind_inv H
         refine TO_on rfl rfl (by decide) rfl rfl (TOp_callV (call_static ent45 rfl) (m_spec_IsPreferred_ok _ _ _ _ h_22) rfl rfl rfl ?_)
         refine pv tb 3 rfl ?_
         refine TO_nil ?_
         refine te [(0, (intA n0)), (1, (sl tConflictEdge l1)), (2, (sl tConflictEdge p2)), (3, (sl tInt s3)), (9, (intA (x_9 : Int))), (10, (boolA r_21)), (11, (intA (i_15 : Int)))] rfl ?_
         refine T_region ?_
         refine pv tb 1 rfl ?_
         refine Tp rfl rfl (pur_add rfl rfl rfl (fits64 (by omega) (by omega))) rfl ?_
         refine pv tb 1 rfl ?_
         refine TO_nil ?_
         obtain rfl := some_inj H
         exact again (s3.length - (i_15 + 1)) (i_15 + 1, r_21) (by omega) (w0 0) ⟨rfl, K16_⟩
       ·replace H := cond_f g_17 H
        refine pv tb 16 rfl ?_
        refine toe [(0, (intA n0)), (1, (sl tConflictEdge l1)), (2, (sl tConflictEdge p2)), (3, (sl tInt s3)), (9, (intA (x_9 : Int))), (10, (boolA all10)), (11, (intA (i_15 : Int))), (39, (boolA false)), (48, (.v undef)), (55, (.v undef))] rfl ?_
        refine pv tb 3 rfl ?_
        refine TO_nil ?_
        refine T_region ?_
        refine pv tb 1 rfl ?_
        refine Tp rfl rfl (pur_add rfl rfl rfl (fits64 (by omega) (by omega))) rfl ?_
        refine pv tb 1 rfl ?_
        refine TO_nil ?_
        obtain rfl := some_inj H
        exact again (s3.length - (i_15 + 1)) (i_15 + 1, false) (by omega) (w0 0) ⟨rfl, K16_⟩
      ·replace d16 := of_decide_eq_false d16
       obtain rfl := forS_end L16_ (by omega)
       refine T_exit ?_
       refine then_exit ?_
       refine then_exit ?_
       refine block_exit ?_
       replace H := N16_
       refine sr ?_
       refine pv tb 1 rfl ?_
       refine TO_nil ?_
       refine T_cond (t := all10) rfl (fun c_23 => ?_) (fun c_23 => ?_)
       ·replace H := cond_t c_23 H
        refine sr ?_
        refine pv tb 1 rfl ?_
        refine TO_nil ?_
        refine T_ret ?_
        refine block_ret ?_
        refine then_ret ?_
        refine then_ret ?_
        refine block_ret ?_
        refine then_ret ?_
        obtain rfl := some_inj H
        obtain rfl := some_inj K10_
        replace H := onS_r N10_
        obtain rfl := some_inj H
        refine end_ret (.tmp .nil) rfl rfl ⟨?_, rfl⟩
        rfl
       ·replace H := cond_f c_23 H
        refine T_skip ?_
        refine T_region ?_
        refine pv tb 1 rfl ?_
        refine Tp rfl rfl (pur_add rfl rfl rfl (fits64 (by omega) (by omega))) rfl ?_
        refine pv tb 1 rfl ?_
        refine TO_nil ?_
        obtain rfl := some_inj H
        exact again (n0 - (x_9 + 1)).toNat (x_9 + 1) (by omega) (w0 0) ⟨rfl, by omega, K10_⟩
    ·replace d10 := of_decide_eq_false d10
     obtain rfl := forN_end L10_ (by omega)
     refine T_exit ?_
     refine then_exit ?_
     refine then_exit ?_
     refine block_exit ?_
     replace H := onS_l N10_
     refine sr ?_
     refine pv tb 1 rfl ?_
     refine TO_nil ?_
     refine T_ret ?_
     obtain rfl := some_inj H
     refine end_ret (.tmp .nil) rfl rfl ⟨?_, rfl⟩
     rfl

set_option maxHeartbeats 1000000 in
theorem m_laws_FnGreedyRepair_ok (u : Nat) (code0 : (List Int)) (r : Bool) (H : m_laws_FnGreedyRepair u code0 = some r) : FnV prg 4 [(sl (tI .u8) code0)] (boolA r) := by
  unfold m_laws_FnGreedyRepair at H
  refine fnV_of_T Tryz.func4 rfl rfl (Nat.le_of_ble_eq_true rfl) ?_
  refine te [(0, (sl (tI .u8) code0))] rfl ?_
  refine sr ?_
  refine pv tb 1 rfl ?_
  refine TO_nil ?_
  refine T_seq ?_
  refine sr ?_
  obtain ⟨r_1, h_2, H⟩ := bind_inv H
  refine pv tb 1 rfl ?_
  refine TO_cons rfl (TOp_callV (call_static ent5 rfl) (m_laws_big_ok _ _ h_2) rfl rfl rfl ?_)
  refine TO_nil ?_
  refine T_cond (t := r_1) rfl (fun c_3 => ?_) (fun c_3 => ?_)
  ·replace H := cond_t c_3 H
   refine sr ?_
   refine pv tb 1 rfl ?_
   refine TO_nil ?_
   refine T_ret ?_
   refine then_ret ?_
   obtain rfl := some_inj H
   refine end_ret (.tmp .nil) rfl rfl ⟨?_, rfl⟩
   rfl
  ·replace H := cond_f c_3 H
   refine T_skip ?_
   refine sr ?_
   obtain ⟨r_4, h_5, H⟩ := bind_inv H
   refine pv tb 1 rfl ?_
   refine TO_cons rfl (TOp_callV (call_static ent16 rfl) (m_spec_DrawGreedyRepair_ok u _ _ h_5) rfl rfl rfl ?_)
   refine pv tb 7 rfl ?_
   refine TO_nil ?_
   refine sr ?_
   obtain ⟨r_6, h_7, H⟩ := bind_inv H
   refine pv tb 3 rfl ?_
   refine TO_cons rfl (TOp_callV (call_static ent17 rfl) (m_impl_GreedyRepair_ok u _ _ _ _ h_7) rfl rfl rfl ?_)
   refine pv tb 1 rfl ?_
   refine TO_nil ?_
   refine sr ?_
   obtain ⟨r_8, h_9, H⟩ := bind_inv H
   refine pv tb 3 rfl ?_
   refine TO_cons rfl (TOp_callV (call_static ent18 rfl) (m_impl_IsValidPreference_ok u _ _ _ _ h_9) rfl rfl rfl ?_)
   refine pv tb 1 rfl ?_
   refine TO_nil ?_
   refine te [(3, (intA r_4.1)), (4, (sl tConflictEdge r_4.2.1)), (5, (sl tConflictEdge r_4.2.2)), (6, (sl tInt r_6)), (7, (boolA r_8))] rfl ?_
   refine T_seq ?_
   obtain ⟨t41_10, J_10, H_11⟩ := bind_inv H
   refine T_cutX (fun x => t41_10 = x) (fun (t41_10 : Bool) => [(3, (intA r_4.1)), (4, (sl tConflictEdge r_4.2.1)), (5, (sl tConflictEdge r_4.2.2)), (6, (sl tInt r_6)), (7, (boolA r_8)), (41, (boolA t41_10))]) (fun (t41_10 : Bool) => []) ?_ ?_
   ·replace H := J_10
    refine T_region ?_
    obtain ⟨r_12, h_13, H⟩ := bind_inv H
    refine pv tb 4 rfl ?_
    refine TO_cons rfl (TOp_callV (call_static ent10 rfl) (m_spec_IsValidPreference_ok _ _ _ _ h_13) rfl rfl rfl ?_)
    refine Tp rfl rfl (pur_neqB (by kernel_rfl) rfl rfl rfl) rfl ?_
    refine pv tb 1 rfl ?_
    refine TO_split (t := (r_8 != r_12)) 33 rfl (fun g_14 => ?_) (fun g_14 => ?_)
    ·replace H := cond_t g_14 H
     refine pv tb 8 rfl ?_
     refine TO_nil ?_
     exact joined true (w0 0) (some_inj H).symm
    ·replace H := cond_f g_14 H
     obtain ⟨r_15, h_16, H⟩ := bind_inv H
     refine pv tb 4 rfl ?_
     refine TO_on rfl rfl (by decide) rfl rfl (TOp_callV (call_static ent11 rfl) (m_spec_GreedyRepair_ok u _ _ _ _ h_16) rfl rfl rfl ?_)
     obtain ⟨r_17, h_18, H⟩ := bind_inv H
     refine TO_on rfl rfl (by decide) rfl rfl (TOp_callV (call_static ent13 rfl) (m_laws_sameInts_ok _ _ _ h_18) rfl rfl rfl ?_)
     refine pv tb 2 rfl ?_
     refine TO_nil ?_
     exact joined (!r_17) (w0 0) (some_inj H).symm
   ·rintro _ rfl
    replace H := H_11
    refine T_cond (t := t41_10) rfl (fun c_19 => ?_) (fun c_19 => ?_)
    ·replace H := cond_t c_19 H
     refine sr ?_
     refine pv tb 1 rfl ?_
     refine TO_nil ?_
     refine T_ret ?_
     refine then_ret ?_
     obtain rfl := some_inj H
     refine end_ret (.tmp .nil) rfl rfl ⟨?_, rfl⟩
     rfl
    ·replace H := cond_f c_19 H
     refine T_skip ?_
     refine sr ?_
     obtain ⟨r_20, h_21, H⟩ := bind_inv H
     refine pv tb 3 rfl ?_
     refine TO_cons rfl (TOp_callV (call_static ent15 rfl) (m_impl_ParetoOptimalRepairs_ok u _ _ _ _ h_21) rfl rfl rfl ?_)
     refine pv tb 1 rfl ?_
     refine TO_nil ?_
     refine T_seq ?_
     refine sr ?_
     refine pv tb 2 rfl ?_
     refine TO_nil ?_
     refine T_cond (t := (!r_8)) rfl (fun c_22 => ?_) (fun c_22 => ?_)
     ·replace H := cond_t c_22 H
      refine T_cutX (fun x => ((decide ((r_6.length : Int) = 0)) && (decide ((r_20.length : Int) = 0))) = x) (fun (t2_23 : Bool) => [(2, (boolA t2_23))]) (fun (t2_23 : Bool) => []) ?_ ?_
      ·skip
       refine T_region ?_
       refine pv tb 1 rfl ?_
       refine Tp rfl rfl (pur_lenT (T := tInt) sl31 rfl rfl) rfl ?_
       refine pv tb 2 rfl ?_
       refine TO_split (t := decide ((r_6.length : Int) = 0)) 51 rfl (fun g_25 => ?_) (fun g_25 => ?_)
       ·skip
        refine pv tb 1 rfl ?_
        refine TO_on rfl rfl (by decide) rfl rfl (TOp_pure (pur_lenT (T := (tSl tInt)) sl27 rfl rfl) rfl ?_)
        refine pv tb 3 rfl ?_
        refine TO_nil ?_
        exact joined (decide ((r_20.length : Int) = 0)) (w0 0) (by first | exact Eq.symm ((and_T g_25 rfl)))
       ·skip
        refine pv tb 5 rfl ?_
        refine TO_nil ?_
        exact joined false (w0 0) (by first | exact Eq.symm ((and_F g_25 rfl)))
      ·rintro _ rfl
       refine T_ret ?_
       refine then_ret ?_
       obtain rfl := some_inj H
       refine end_ret (.tmp .nil) rfl rfl ⟨?_, rfl⟩
       rfl
     ·replace H := cond_f c_22 H
      refine T_skip ?_
      refine sr ?_
      refine pv tb 1 rfl ?_
      refine TO_nil ?_
      refine T_seq ?_
      refine sr ?_
      refine pv tb 1 rfl ?_
      refine TO_nil ?_
      obtain ⟨O27_, L27_, N27_⟩ := bind_inv H
      clear H
      obtain ⟨B27_, hb27, L27_⟩ := gen_forL L27_
      refine T_block ?_
      refine T_loopX (fun k => fun (⟨i_26, met9⟩ : Nat × Bool) => k = r_20.length - i_26 ∧ forL B27_ (r_20.drop i_26) (i_26 : Int) met9 = some O27_) (fun (⟨i_26, met9⟩ : Nat × Bool) => [(3, (intA r_4.1)), (4, (sl tConflictEdge r_4.2.1)), (5, (sl tConflictEdge r_4.2.2)), (6, (sl tInt r_6)), (8, (sl (tSl tInt) r_20)), (9, (boolA met9)), (10, (intA (i_26 : Int)))]) (fun (⟨i_26, met9⟩ : Nat × Bool) => []) _ (0, false) (w0 0) ⟨rfl, L27_⟩ ?_
      rintro _ ⟨i_26, met9⟩ ⟨rfl, L27_⟩
      refine T_fact (len_sl (T := (tSl tInt)) (.tmp 8) rfl) (fun hl27 => ?_)
      refine T_seq ?_
      refine sr ?_
      refine pv tb 2 rfl ?_
      refine Tp rfl rfl (pur_lenT (T := (tSl tInt)) sl27 rfl rfl) rfl ?_
      refine pv tb 1 rfl ?_
      refine TO_nil ?_
      refine T_cond (t := decide ((i_26 : Int) < (r_20.length : Int))) rfl (fun d27 => ?_) (fun d27 => ?_)
      ·replace d27 := of_decide_eq_true d27
       obtain ⟨x_i_26, hx_i_26⟩ : ∃ v, (r_20)[i_26]? = some v := ⟨_, List.getElem?_eq_getElem (by omega)⟩
       obtain ⟨C27_, H, K27_⟩ := forL_step L27_ hx_i_26
       rw [hb27] at H
       refine T_skip ?_
       refine T_seq ?_
       refine T_block ?_
       obtain ⟨met9_28, J_28, H_29⟩ := bind_inv H
       refine T_cutX (fun x => met9_28 = x) (fun (met9_28 : Bool) => [(3, (intA r_4.1)), (4, (sl tConflictEdge r_4.2.1)), (5, (sl tConflictEdge r_4.2.2)), (6, (sl tInt r_6)), (8, (sl (tSl tInt) r_20)), (9, (boolA met9_28)), (10, (intA (i_26 : Int)))]) (fun (met9_28 : Bool) => []) ?_ ?_
       ·replace H := J_28
        refine T_region ?_
        refine pv tb 2 rfl ?_
        refine TO_split (t := met9) 63 rfl (fun g_30 => ?_) (fun g_30 => ?_)
        ·replace H := cond_t g_30 H
         refine pv tb 8 rfl ?_
         refine TO_nil ?_
         exact joined true (w0 0) (some_inj H).symm
        ·replace H := cond_f g_30 H
         refine pv tb 2 rfl ?_
         refine TO_on rfl rfl (by decide) rfl rfl (TOp_pure (pur_ixT (T := (tSl tInt)) sl27 rfl rfl rfl hx_i_26 rfl) rfl ?_)
         refine TO_on rfl rfl (by decide) rfl rfl (TOp_pure (pur_ldT (T := (tSl tInt)) (i := i_26) (off := 0) rfl one31 rfl rfl hx_i_26 rfl) rfl ?_)
         obtain ⟨r_31, h_32, H⟩ := bind_inv H
         refine pv tb 1 rfl ?_
         refine TO_on rfl rfl (by decide) rfl rfl (TOp_callV (call_static ent13 rfl) (m_laws_sameInts_ok _ _ _ h_32) rfl rfl rfl ?_)
         refine pv tb 2 rfl ?_
         refine TO_nil ?_
         exact joined r_31 (w0 0) (some_inj H).symm
       ·rintro _ rfl
        replace H := H_29
        refine sr ?_
        refine pv tb 5 rfl ?_
        refine Tp rfl rfl (pur_ixT (T := (tSl tInt)) sl27 rfl rfl rfl hx_i_26 rfl) rfl ?_
        refine Tp rfl rfl (pur_ldT (T := (tSl tInt)) (i := i_26) (off := 0) rfl one31 rfl rfl hx_i_26 rfl) rfl ?_
        obtain ⟨r_33, h_34, H⟩ := bind_inv H
        refine TO_cons rfl (TOp_callV (call_static ent19 rfl) (m_spec_IsParetoOptimal_ok _ _ _ _ _ h_34) rfl rfl rfl ?_)
        refine pv tb 1 rfl ?_
        refine TO_nil ?_
        refine T_cond (t := (!r_33)) rfl (fun c_35 => ?_) (fun c_35 => ?_)
        ·replace H := cond_t c_35 H
         refine sr ?_
         refine pv tb 1 rfl ?_
         refine TO_nil ?_
         refine te [(2, (boolA false))] rfl ?_
         refine T_ret ?_
         refine block_ret ?_
         refine then_ret ?_
         refine then_ret ?_
         refine block_ret ?_
         refine then_ret ?_
         obtain rfl := some_inj H
         obtain rfl := some_inj K27_
         replace H := onS_r N27_
         obtain rfl := some_inj H
         refine end_ret (.tmp .nil) rfl rfl ⟨?_, rfl⟩
         rfl
        ·replace H := cond_f c_35 H
         refine T_skip ?_
         refine T_region ?_
         refine pv tb 1 rfl ?_
         refine Tp rfl rfl (pur_add rfl rfl rfl (fits64 (by omega) (by omega))) rfl ?_
         refine pv tb 1 rfl ?_
         refine TO_nil ?_
         obtain rfl := some_inj H
         exact again (r_20.length - (i_26 + 1)) (i_26 + 1, met9_28) (by omega) (w0 0) ⟨rfl, K27_⟩
      ·replace d27 := of_decide_eq_false d27
       obtain rfl := forL_end L27_ (by omega)
       refine T_exit ?_
       refine then_exit ?_
       refine then_exit ?_
       refine block_exit ?_
       replace H := onS_l N27_
       obtain ⟨t2_36, J_36, H_37⟩ := bind_inv H
       refine T_cutX (fun x => t2_36 = x) (fun (t2_36 : Bool) => [(2, (boolA t2_36))]) (fun (t2_36 : Bool) => []) ?_ ?_
       ·replace H := J_36
        refine T_region ?_
        obtain ⟨r_38, h_39, H⟩ := bind_inv H
        refine pv tb 4 rfl ?_
        refine TO_cons rfl (TOp_callV (call_static ent12 rfl) (m_impl_IsParetoOptimal_ok u _ _ _ _ _ h_39) rfl rfl rfl ?_)
        refine pv tb 1 rfl ?_
        refine TO_split (t := r_38) 85 rfl (fun g_40 => ?_) (fun g_40 => ?_)
        ·replace H := cond_t g_40 H
         obtain ⟨r_41, h_42, H⟩ := bind_inv H
         refine pv tb 4 rfl ?_
         refine TO_on rfl rfl (by decide) rfl rfl (TOp_callV (call_static ent19 rfl) (m_spec_IsParetoOptimal_ok _ _ _ _ _ h_42) rfl rfl rfl ?_)
         refine pv tb 2 rfl ?_
         refine TO_split (t := r_41) 92 rfl (fun g_43 => ?_) (fun g_43 => ?_)
         ·replace H := cond_t g_43 H
          refine pv tb 3 rfl ?_
          refine TO_nil ?_
          exact joined met9 (w0 0) (some_inj H).symm
         ·replace H := cond_f g_43 H
          refine pv tb 3 rfl ?_
          refine TO_nil ?_
          exact joined false (w0 0) (some_inj H).symm
        ·replace H := cond_f g_40 H
         refine pv tb 10 rfl ?_
         refine TO_nil ?_
         exact joined false (w0 0) (some_inj H).symm
       ·rintro _ rfl
        replace H := H_37
        refine T_ret ?_
        obtain rfl := some_inj H
        refine end_ret (.tmp .nil) rfl rfl ⟨?_, rfl⟩
        rfl
end Go.Proofs.YtglgcncmjnjfgaaGreat

import Derived.Test.YtglgcncmjnjfgaaM1
import Derived.Test.YtglgcncmjnjfgaaM2
import Derived.Test.YtglgcncmjnjfgaaM3
set_option linter.unusedVariables false
set_option linter.unusedSimpArgs false
set_option maxRecDepth 4000
namespace Go.Proofs.Ytglgcncmjnjfgaa
open Go Go.Proofs Go.Sep
set_option maxHeartbeats 1000000 in
theorem m_laws_eqIntSS_ok (a0 : (List (List Int))) (b1 : (List (List Int))) (r : Bool) (H : m_laws_eqIntSS a0 b1 = some r) : FnV prg 29 [(sl (tSl tInt) a0), (sl (tSl tInt) b1)] (boolA r) := by
  unfold m_laws_eqIntSS at H
  refine fnV_of_T Try.func29 rfl rfl (Nat.le_of_ble_eq_true rfl) ?_
  refine te [(0, (sl (tSl tInt) a0)), (1, (sl (tSl tInt) b1))] rfl ?_
  refine sr ?_
  refine pv tb 1 rfl ?_
  refine TO_nil ?_
  refine T_seq ?_
  refine sr ?_
  refine pv tb 1 rfl ?_
  refine Tp rfl rfl (pur_lenT (T := (tSl tInt)) sl39 rfl rfl) rfl ?_
  refine pv tb 1 rfl ?_
  refine Tp rfl rfl (pur_lenT (T := (tSl tInt)) sl39 rfl rfl) rfl ?_
  refine pv tb 1 rfl ?_
  refine TO_nil ?_
  refine T_cond (t := decide ((a0.length : Int) ≠ (b1.length : Int))) rfl (fun c_1 => ?_) (fun c_1 => ?_)
  ·replace H := cond_t c_1 H
   refine sr ?_
   refine pv tb 1 rfl ?_
   refine TO_nil ?_
   refine T_ret ?_
   refine then_ret ?_
   obtain rfl := some_inj H
   refine end_ret (.tmp .nil) rfl rfl ⟨?_, rfl⟩
   rfl
  ·replace H := cond_f c_1 H
   refine T_skip ?_
   refine T_seq ?_
   refine sr ?_
   refine pv tb 1 rfl ?_
   refine TO_nil ?_
   obtain ⟨O3_, L3_, N3_⟩ := bind_inv H
   clear H
   obtain ⟨B3_, hb3, L3_⟩ := gen_forL L3_
   refine T_block ?_
   refine T_loopX (fun k => fun (i_2 : Nat) => k = a0.length - i_2 ∧ forL B3_ (a0.drop i_2) (i_2 : Int) () = some O3_) (fun (i_2 : Nat) => [(0, (sl (tSl tInt) a0)), (1, (sl (tSl tInt) b1)), (5, (intA (i_2 : Int)))]) (fun (i_2 : Nat) => []) _ (0 : Nat) (w0 0) ⟨rfl, L3_⟩ ?_
   rintro _ i_2 ⟨rfl, L3_⟩
   refine T_fact (len_sl (T := (tSl tInt)) (.tmp 0) rfl) (fun hl3 => ?_)
   refine T_seq ?_
   refine sr ?_
   refine pv tb 2 rfl ?_
   refine Tp rfl rfl (pur_lenT (T := (tSl tInt)) sl39 rfl rfl) rfl ?_
   refine pv tb 1 rfl ?_
   refine TO_nil ?_
   refine T_cond (t := decide ((i_2 : Int) < (a0.length : Int))) rfl (fun d3 => ?_) (fun d3 => ?_)
   ·replace d3 := of_decide_eq_true d3
    obtain ⟨x_i_2, hx_i_2⟩ : ∃ v, (a0)[i_2]? = some v := ⟨_, List.getElem?_eq_getElem (by omega)⟩
    obtain ⟨C3_, H, K3_⟩ := forL_step L3_ hx_i_2
    rw [hb3] at H
    refine T_skip ?_
    refine T_seq ?_
    refine T_block ?_
    refine T_seq ?_
    refine T_regionD mixed (by kernel_rfl) ?_
    refine pq tb 2 rfl ?_
    refine TQ_pure rfl (pur_ixT (T := (tSl tInt)) sl39 rfl rfl rfl hx_i_2 rfl) rfl ?_
    refine TQ_pure rfl (pur_ldT (T := (tSl tInt)) (i := i_2) (off := 0) rfl one31 rfl rfl hx_i_2 rfl) rfl ?_
    obtain ⟨v_4, h_5, H⟩ := bind_inv H
    obtain ⟨n_6, hz_7, hv_8⟩ := getI_inv h_5
    refine pq tb 2 rfl ?_
    refine TQ_pure rfl (pur_ixT (T := (tSl tInt)) sl39 rfl rfl hz_7 hv_8 rfl) rfl ?_
    refine TQ_pure rfl (pur_ldT (T := (tSl tInt)) (i := n_6) (off := 0) rfl one31 rfl rfl hv_8 rfl) rfl ?_
    obtain ⟨r_9, h_10, H⟩ := bind_inv H
    refine TQ_callV rfl (call_static ent21 rfl) (m_laws_eqIntS_ok _ _ _ h_10) rfl rfl ?_
    refine pq tb 1 rfl ?_
    refine TQ_nil ?_
    refine T_cond (t := (!r_9)) rfl (fun c_11 => ?_) (fun c_11 => ?_)
    ·replace H := cond_t c_11 H
     refine sr ?_
     refine pv tb 1 rfl ?_
     refine TO_nil ?_
     refine te [(4, (boolA false))] rfl ?_
     refine T_ret ?_
     refine block_ret ?_
     refine then_ret ?_
     refine then_ret ?_
     refine block_ret ?_
     refine then_ret ?_
     obtain rfl := some_inj H
     obtain rfl := some_inj K3_
     replace H := onS_r N3_
     obtain rfl := some_inj H
     refine end_ret (.tmp .nil) rfl rfl ⟨?_, rfl⟩
     rfl
    ·replace H := cond_f c_11 H
     refine T_skip ?_
     refine T_region ?_
     refine pv tb 1 rfl ?_
     refine Tp rfl rfl (pur_add rfl rfl rfl (fits64 (by omega) (by omega))) rfl ?_
     refine pv tb 1 rfl ?_
     refine TO_nil ?_
     obtain rfl := some_inj H
     exact again (a0.length - (i_2 + 1)) (i_2 + 1) (by omega) (w0 0) ⟨rfl, K3_⟩
   ·replace d3 := of_decide_eq_false d3
    obtain rfl := forL_end L3_ (by omega)
    refine T_exit ?_
    refine then_exit ?_
    refine then_exit ?_
    refine block_exit ?_
    replace H := onS_l N3_
    refine sr ?_
    refine pv tb 1 rfl ?_
    refine TO_nil ?_
    refine T_ret ?_
    obtain rfl := some_inj H
    refine end_ret (.tmp .nil) rfl rfl ⟨?_, rfl⟩
    rfl

set_option maxHeartbeats 1000000 in
theorem m_laws_markIntS_mut (a0 : (List Int)) (k1 : Int) (r : (Int × (List Int))) (H : m_laws_markIntS a0 k1 = some r) : FnM prg 23 [(.m [0] 0 a0.length tInt.k), (intA k1)] [flat tInt.own a0] (.int .i64 r.1) [flat tInt.own r.2] := by
  unfold m_laws_markIntS at H
  refine fnM_of_T Try.func23 rfl rfl (Nat.le_of_ble_eq_true rfl) ?_
  refine te [(0, (.m [0] 0 a0.length tInt.k)), (1, (intA k1))] rfl ?_
  refine T_st (σ' := [.row (flat tInt.own a0)]) rfl ?_
  refine sr ?_
  refine pv tb 1 rfl ?_
  refine TO_nil ?_
  refine T_seq ?_
  refine sr ?_
  refine pv tb 1 rfl ?_
  refine TO_nil ?_
  obtain ⟨O2_, L2_, N2_⟩ := bind_inv H
  clear H
  obtain ⟨B2_, hb2, L2_⟩ := gen_forM L2_
  refine T_block ?_
  refine T_loopX (fun k => fun (⟨i_1, a0m, k1⟩ : Int × (List Int) × Int) => k = ((a0.length : Int) - i_1).toNat ∧ 0 ≤ i_1 ∧ forM B2_ ((a0.length : Int) - i_1).toNat i_1 (a0m, k1) = some O2_ ∧ a0m.length = a0.length) (fun (⟨i_1, a0m, k1⟩ : Int × (List Int) × Int) => [(0, (.m [0] 0 a0m.length tInt.k)), (1, (intA k1)), (5, (intA (i_1 : Int)))]) (fun (⟨i_1, a0m, k1⟩ : Int × (List Int) × Int) => [.row (flat tInt.own a0m)]) _ (0, (a0, k1)) (w0 1) ⟨rfl, Int.le_refl _, L2_, rfl⟩ ?_
  rintro _ ⟨i_1, a0m, k1⟩ ⟨rfl, hi2, L2_, hq_a0m⟩
  replace hq_a0m : a0m.length = a0.length := hq_a0m
  refine T_fact (len_m (.tmp 0) rfl) (fun hl2 => ?_)
  refine T_seq ?_
  refine sr ?_
  refine pv tb 2 rfl ?_
  refine Tp rfl rfl (pur_len_m sl31 rfl rfl) rfl ?_
  refine pv tb 1 rfl ?_
  refine TO_nil ?_
  refine T_cond (t := decide ((i_1 : Int) < (a0m.length : Int))) rfl (fun d2 => ?_) (fun d2 => ?_)
  ·replace d2 := of_decide_eq_true d2
   replace d2 : (i_1 : Int) < (a0.length : Int) := by omega
   obtain ⟨C2_, H, K2_⟩ := forM_step L2_ d2
   rw [hb2] at H
   refine T_skip ?_
   refine T_seq ?_
   refine T_block ?_
   refine sr ?_
   obtain ⟨v_3, h_4, H⟩ := bind_inv H
   obtain ⟨n_5, hz_6, hv_7⟩ := getI_inv h_4
   refine pv tb 3 rfl ?_
   refine Tp rfl rfl (pur_ixM (T := tInt) sl31 rfl rfl hz_6 hv_7 rfl) rfl ?_
   refine TO_cons rfl (TOp_setT (f := tInt.own) (z := (i_1 : Int)) (y := k1) tInt.lenO tInt.pos hz_6 sz3 rfl rfl rfl rfl rfl hv_7 rfl rfl ?_)
   refine TO_env (E' := [(0, (.m [0] 0 (a0m.set ((i_1 : Int)).toNat k1).length tInt.k)), (1, (intA k1)), (5, (intA (i_1 : Int))), (12, (.m [0] 0 (a0m.set ((i_1 : Int)).toNat k1).length tInt.k)), (13, (intA (i_1 : Int))), (14, (intA k1))]) ⟨(congrArg (fun q => A.m [0] 0 q tInt.k) (List.length_set ..).symm), rfl, rfl, (congrArg (fun q => A.m [0] 0 q tInt.k) (List.length_set ..).symm), rfl, rfl, trivial⟩ ?_
   refine TO_st (σ' := [.row (flat tInt.own (a0m.set ((i_1 : Int)).toNat k1))]) rfl ?_
   refine TO_nil ?_
   refine T_region ?_
   refine pv tb 3 rfl ?_
   refine TO_nil ?_
   refine T_region ?_
   refine pv tb 1 rfl ?_
   refine Tp rfl rfl (pur_add rfl rfl rfl (fits64 (by omega) (by omega))) rfl ?_
   refine pv tb 1 rfl ?_
   refine TO_nil ?_
   obtain rfl := some_inj H
   exact again ((a0.length : Int) - (i_1 + 1)).toNat (i_1 + 1, ((a0m.set ((i_1 : Int)).toNat k1), (w64 (k1 + 1)))) (by omega) (w0 1) ⟨rfl, by omega, K2_, ((List.length_set ..).trans hq_a0m)⟩
  ·replace d2 := of_decide_eq_false d2
   obtain rfl := forM_end L2_ (by omega)
   refine T_exit ?_
   refine then_exit ?_
   refine then_exit ?_
   refine block_exit ?_
   replace H := N2_
   refine sr ?_
   refine pv tb 2 rfl ?_
   refine TO_nil ?_
   refine T_ret ?_
   obtain rfl := some_inj H
   exact end_M (.tmp .nil) rfl rfl (Nat.le_refl _) (sameLens_c (T := tInt) hq_a0m trivial) rfl rfl

set_option maxHeartbeats 1000000 in
theorem m_laws_markIntSS_mut (a0 : (List (List Int))) (k1 : Int) (r : (Int × (List (List Int)))) (H : m_laws_markIntSS a0 k1 = some r) : FnM prg 30 [(.m [0] 0 a0.length (tSl tInt).k), (intA k1)] [flat (tSl tInt).own a0] (.int .i64 r.1) [flat (tSl tInt).own r.2] := by
  unfold m_laws_markIntSS at H
  refine fnM_of_T Try.func30 rfl rfl (Nat.le_of_ble_eq_true rfl) ?_
  refine te [(0, (.m [0] 0 a0.length (tSl tInt).k)), (1, (intA k1))] rfl ?_
  refine T_st (σ' := [.row (flat (tSl tInt).own a0)]) rfl ?_
  refine sr ?_
  refine pv tb 1 rfl ?_
  refine TO_nil ?_
  refine T_seq ?_
  refine sr ?_
  refine pv tb 1 rfl ?_
  refine TO_nil ?_
  obtain ⟨O2_, L2_, N2_⟩ := bind_inv H
  clear H
  obtain ⟨B2_, hb2, L2_⟩ := gen_forM L2_
  refine T_block ?_
  refine T_loopX (fun k => fun (⟨i_1, a0m, k1⟩ : Int × (List (List Int)) × Int) => k = ((a0.length : Int) - i_1).toNat ∧ 0 ≤ i_1 ∧ forM B2_ ((a0.length : Int) - i_1).toNat i_1 (a0m, k1) = some O2_ ∧ a0m.length = a0.length) (fun (⟨i_1, a0m, k1⟩ : Int × (List (List Int)) × Int) => [(0, (.m [0] 0 a0m.length (tSl tInt).k)), (1, (intA k1)), (5, (intA (i_1 : Int)))]) (fun (⟨i_1, a0m, k1⟩ : Int × (List (List Int)) × Int) => [.row (flat (tSl tInt).own a0m)]) _ (0, (a0, k1)) (w0 1) ⟨rfl, Int.le_refl _, L2_, rfl⟩ ?_
  rintro _ ⟨i_1, a0m, k1⟩ ⟨rfl, hi2, L2_, hq_a0m⟩
  replace hq_a0m : a0m.length = a0.length := hq_a0m
  refine T_fact (len_m (.tmp 0) rfl) (fun hl2 => ?_)
  refine T_seq ?_
  refine sr ?_
  refine pv tb 2 rfl ?_
  refine Tp rfl rfl (pur_len_m sl39 rfl rfl) rfl ?_
  refine pv tb 1 rfl ?_
  refine TO_nil ?_
  refine T_cond (t := decide ((i_1 : Int) < (a0m.length : Int))) rfl (fun d2 => ?_) (fun d2 => ?_)
  ·replace d2 := of_decide_eq_true d2
   replace d2 : (i_1 : Int) < (a0.length : Int) := by omega
   obtain ⟨C2_, H, K2_⟩ := forM_step L2_ d2
   rw [hb2] at H
   refine T_skip ?_
   refine T_seq ?_
   refine T_block ?_
   refine T_region ?_
   obtain ⟨v_3, h_4, H⟩ := bind_inv H
   obtain ⟨n_5, hz_6, hv_7⟩ := getI_inv h_4
   refine pv tb 2 rfl ?_
   refine Tp rfl rfl (pur_ixM (T := (tSl tInt)) sl39 rfl rfl hz_6 hv_7 rfl) rfl ?_
   refine Tp rfl rfl (pur_ldE (f := (tSl tInt).own) (k := (tSl tInt).k) (i := n_5) (off := 0) (tSl tInt).lenO rfl one31 rfl rfl rfl hv_7 rfl cellVal_sl) rfl ?_
   obtain ⟨r_8, h_9, H⟩ := bind_inv H
   refine pv tb 1 rfl ?_
   refine TO_cons rfl (TOp_callG (aa := [(.m [0, n_5 * (tSl tInt).k] 0 v_3.length tInt.k), (intA k1)]) [[0, n_5 * (tSl tInt).k]] (call_static ent23 rfl) rfl (.cons (rowAt_el (f := (tSl tInt).own) (i := n_5) (off := 0) (tSl tInt).lenO rfl hv_7 rfl) rfl (by simp) .nil) (by simp [namesL, A.names, locP]) (by simp [renPL, A.renP, locF, locP]) (m_laws_markIntS_mut _ _ _ h_9) rfl (fun hl_10 => ?_))
   refine TO_env (E' := [(0, (.m [0] 0 (a0m.set ((i_1 : Int)).toNat r_8.2).length (tSl tInt).k)), (1, (intA k1)), (5, (intA (i_1 : Int))), (12, (.m [0] 0 (a0m.set ((i_1 : Int)).toNat r_8.2).length (tSl tInt).k)), (13, (intA (i_1 : Int))), (16, (intA k1)), (17, (intA r_8.1))]) ⟨(congrArg (fun q => A.m [0] 0 q (tSl tInt).k) (List.length_set ..).symm), rfl, rfl, (congrArg (fun q => A.m [0] 0 q (tSl tInt).k) (List.length_set ..).symm), rfl, rfl, rfl, trivial⟩ ?_
   refine TO_st (σ' := [.row (flat (tSl tInt).own (a0m.set ((i_1 : Int)).toNat r_8.2))]) (setRows_T (f := (tSl tInt).own) (i := n_5) (v' := r_8.2) (tSl tInt).lenO hz_6 [0] rfl hv_7 (allO_cons ⟨_, _, rfl⟩ allO_nil) rfl) ?_
   refine pv tb 1 rfl ?_
   refine TO_nil ?_
   refine T_region ?_
   refine pv tb 1 rfl ?_
   refine Tp rfl rfl (pur_add rfl rfl rfl (fits64 (by omega) (by omega))) rfl ?_
   refine pv tb 1 rfl ?_
   refine TO_nil ?_
   obtain rfl := some_inj H
   exact again ((a0.length : Int) - (i_1 + 1)).toNat (i_1 + 1, ((a0m.set ((i_1 : Int)).toNat r_8.2), r_8.1)) (by omega) (w0 1) ⟨rfl, by omega, K2_, ((List.length_set ..).trans hq_a0m)⟩
  ·replace d2 := of_decide_eq_false d2
   obtain rfl := forM_end L2_ (by omega)
   refine T_exit ?_
   refine then_exit ?_
   refine then_exit ?_
   refine block_exit ?_
   replace H := N2_
   refine sr ?_
   refine pv tb 2 rfl ?_
   refine TO_nil ?_
   refine T_ret ?_
   obtain rfl := some_inj H
   exact end_M (.tmp .nil) rfl rfl (Nat.le_refl _) (sameLens_c (T := (tSl tInt)) hq_a0m trivial) rfl rfl

set_option maxHeartbeats 1000000 in
theorem m_laws_heldIntS_ok (a0 : (List Int)) (k1 : Int) (r : Int) (H : m_laws_heldIntS a0 k1 = some r) : FnV prg 24 [(sl tInt a0), (intA k1)] (intA r) := by
  unfold m_laws_heldIntS at H
  refine fnV_of_T Try.func24 rfl rfl (Nat.le_of_ble_eq_true rfl) ?_
  refine te [(0, (sl tInt a0)), (1, (intA k1))] rfl ?_
  refine sr ?_
  refine pv tb 1 rfl ?_
  refine TO_nil ?_
  refine T_seq ?_
  refine sr ?_
  refine pv tb 1 rfl ?_
  refine TO_nil ?_
  obtain ⟨O2_, L2_, N2_⟩ := bind_inv H
  clear H
  obtain ⟨B2_, hb2, L2_⟩ := gen_forL L2_
  refine T_block ?_
  refine T_loopX (fun k => fun (⟨i_1, k1⟩ : Nat × Int) => k = a0.length - i_1 ∧ forL B2_ (a0.drop i_1) (i_1 : Int) k1 = some O2_) (fun (⟨i_1, k1⟩ : Nat × Int) => [(0, (sl tInt a0)), (1, (intA k1)), (5, (intA (i_1 : Int)))]) (fun (⟨i_1, k1⟩ : Nat × Int) => []) _ (0, k1) (w0 0) ⟨rfl, L2_⟩ ?_
  rintro _ ⟨i_1, k1⟩ ⟨rfl, L2_⟩
  refine T_fact (len_sl (T := tInt) (.tmp 0) rfl) (fun hl2 => ?_)
  refine T_seq ?_
  refine sr ?_
  refine pv tb 2 rfl ?_
  refine Tp rfl rfl (pur_lenT (T := tInt) sl31 rfl rfl) rfl ?_
  refine pv tb 1 rfl ?_
  refine TO_nil ?_
  refine T_cond (t := decide ((i_1 : Int) < (a0.length : Int))) rfl (fun d2 => ?_) (fun d2 => ?_)
  ·replace d2 := of_decide_eq_true d2
   obtain ⟨x_i_1, hx_i_1⟩ : ∃ v, (a0)[i_1]? = some v := ⟨_, List.getElem?_eq_getElem (by omega)⟩
   obtain ⟨C2_, H, K2_⟩ := forL_step L2_ hx_i_1
   rw [hb2] at H
   refine T_skip ?_
   refine T_seq ?_
   refine T_block ?_
   refine T_seq ?_
   refine sr ?_
   refine pv tb 2 rfl ?_
   refine Tp rfl rfl (pur_ixT (T := tInt) sl31 rfl rfl rfl hx_i_1 rfl) rfl ?_
   refine Tp rfl rfl (pur_ldT (T := tInt) (i := i_1) (off := 0) rfl one3 rfl rfl hx_i_1 rfl) rfl ?_
   refine pv tb 2 rfl ?_
   refine TO_nil ?_
   refine T_cond (t := decide (x_i_1 ≠ k1)) rfl (fun c_3 => ?_) (fun c_3 => ?_)
   ·replace H := cond_t c_3 H
    refine sr ?_
    refine pv tb 1 rfl ?_
    refine TO_nil ?_
    refine T_ret ?_
    refine then_ret ?_
    refine block_ret ?_
    refine then_ret ?_
    refine then_ret ?_
    refine block_ret ?_
    refine then_ret ?_
    obtain rfl := some_inj H
    obtain rfl := some_inj K2_
    replace H := onS_r N2_
    obtain rfl := some_inj H
    refine end_ret (.tmp .nil) rfl rfl ⟨?_, rfl⟩
    rfl
   ·replace H := cond_f c_3 H
    refine T_skip ?_
    refine T_region ?_
    refine pv tb 3 rfl ?_
    refine TO_nil ?_
    refine T_region ?_
    refine pv tb 1 rfl ?_
    refine Tp rfl rfl (pur_add rfl rfl rfl (fits64 (by omega) (by omega))) rfl ?_
    refine pv tb 1 rfl ?_
    refine TO_nil ?_
    obtain rfl := some_inj H
    exact again (a0.length - (i_1 + 1)) (i_1 + 1, (w64 (k1 + 1))) (by omega) (w0 0) ⟨rfl, K2_⟩
  ·replace d2 := of_decide_eq_false d2
   obtain rfl := forL_end L2_ (by omega)
   refine T_exit ?_
   refine then_exit ?_
   refine then_exit ?_
   refine block_exit ?_
   replace H := onS_l N2_
   refine sr ?_
   refine pv tb 2 rfl ?_
   refine TO_nil ?_
   refine T_ret ?_
   obtain rfl := some_inj H
   refine end_ret (.tmp .nil) rfl rfl ⟨?_, rfl⟩
   rfl

set_option maxHeartbeats 1000000 in
theorem m_laws_heldIntSS_ok (a0 : (List (List Int))) (k1 : Int) (r : Int) (H : m_laws_heldIntSS a0 k1 = some r) : FnV prg 31 [(sl (tSl tInt) a0), (intA k1)] (intA r) := by
  unfold m_laws_heldIntSS at H
  refine fnV_of_T Try.func31 rfl rfl (Nat.le_of_ble_eq_true rfl) ?_
  refine te [(0, (sl (tSl tInt) a0)), (1, (intA k1))] rfl ?_
  refine sr ?_
  refine pv tb 1 rfl ?_
  refine TO_nil ?_
  refine T_seq ?_
  refine sr ?_
  refine pv tb 1 rfl ?_
  refine TO_nil ?_
  obtain ⟨O2_, L2_, N2_⟩ := bind_inv H
  clear H
  obtain ⟨B2_, hb2, L2_⟩ := gen_forL L2_
  refine T_block ?_
  refine T_loopX (fun k => fun (⟨i_1, k1⟩ : Nat × Int) => k = a0.length - i_1 ∧ forL B2_ (a0.drop i_1) (i_1 : Int) k1 = some O2_) (fun (⟨i_1, k1⟩ : Nat × Int) => [(0, (sl (tSl tInt) a0)), (1, (intA k1)), (5, (intA (i_1 : Int)))]) (fun (⟨i_1, k1⟩ : Nat × Int) => []) _ (0, k1) (w0 0) ⟨rfl, L2_⟩ ?_
  rintro _ ⟨i_1, k1⟩ ⟨rfl, L2_⟩
  refine T_fact (len_sl (T := (tSl tInt)) (.tmp 0) rfl) (fun hl2 => ?_)
  refine T_seq ?_
  refine sr ?_
  refine pv tb 2 rfl ?_
  refine Tp rfl rfl (pur_lenT (T := (tSl tInt)) sl39 rfl rfl) rfl ?_
  refine pv tb 1 rfl ?_
  refine TO_nil ?_
  refine T_cond (t := decide ((i_1 : Int) < (a0.length : Int))) rfl (fun d2 => ?_) (fun d2 => ?_)
  ·replace d2 := of_decide_eq_true d2
   obtain ⟨x_i_1, hx_i_1⟩ : ∃ v, (a0)[i_1]? = some v := ⟨_, List.getElem?_eq_getElem (by omega)⟩
   obtain ⟨C2_, H, K2_⟩ := forL_step L2_ hx_i_1
   rw [hb2] at H
   refine T_skip ?_
   refine T_seq ?_
   refine T_block ?_
   refine sr ?_
   refine pv tb 2 rfl ?_
   refine Tp rfl rfl (pur_ixT (T := (tSl tInt)) sl39 rfl rfl rfl hx_i_1 rfl) rfl ?_
   refine Tp rfl rfl (pur_ldT (T := (tSl tInt)) (i := i_1) (off := 0) rfl one31 rfl rfl hx_i_1 rfl) rfl ?_
   obtain ⟨r_3, h_4, H⟩ := bind_inv H
   refine pv tb 1 rfl ?_
   refine TO_cons rfl (TOp_callV (call_static ent24 rfl) (m_laws_heldIntS_ok _ _ _ h_4) rfl rfl rfl ?_)
   refine pv tb 1 rfl ?_
   refine TO_nil ?_
   refine sr ?_
   refine pv tb 2 rfl ?_
   refine TO_nil ?_
   refine T_cond (t := decide (r_3 < 0)) rfl (fun c_5 => ?_) (fun c_5 => ?_)
   ·replace H := cond_t c_5 H
    refine sr ?_
    refine pv tb 1 rfl ?_
    refine TO_nil ?_
    refine te [(4, (intA (-1)))] rfl ?_
    refine T_ret ?_
    refine block_ret ?_
    refine then_ret ?_
    refine then_ret ?_
    refine block_ret ?_
    refine then_ret ?_
    obtain rfl := some_inj H
    obtain rfl := some_inj K2_
    replace H := onS_r N2_
    obtain rfl := some_inj H
    refine end_ret (.tmp .nil) rfl rfl ⟨?_, rfl⟩
    rfl
   ·replace H := cond_f c_5 H
    refine T_skip ?_
    refine T_region ?_
    refine pv tb 1 rfl ?_
    refine Tp rfl rfl (pur_add rfl rfl rfl (fits64 (by omega) (by omega))) rfl ?_
    refine pv tb 1 rfl ?_
    refine TO_nil ?_
    obtain rfl := some_inj H
    exact again (a0.length - (i_1 + 1)) (i_1 + 1, r_3) (by omega) (w0 0) ⟨rfl, K2_⟩
  ·replace d2 := of_decide_eq_false d2
   obtain rfl := forL_end L2_ (by omega)
   refine T_exit ?_
   refine then_exit ?_
   refine then_exit ?_
   refine block_exit ?_
   replace H := onS_l N2_
   refine sr ?_
   refine pv tb 2 rfl ?_
   refine TO_nil ?_
   refine T_ret ?_
   obtain rfl := some_inj H
   refine end_ret (.tmp .nil) rfl rfl ⟨?_, rfl⟩
   rfl

set_option maxHeartbeats 1000000 in
theorem m_laws_FnExactParetoOptimalRepairs_ok (u : Nat) (aN0 : Int) (aEdges1 : (List ConflictEdge)) (aPreferences2 : (List ConflictEdge)) (r : Bool) (H : m_laws_FnExactParetoOptimalRepairs u aN0 aEdges1 aPreferences2 = some r) : FnV prg 7 [(intA aN0), (sl tConflictEdge aEdges1), (sl tConflictEdge aPreferences2)] (boolA r) := by
  unfold m_laws_FnExactParetoOptimalRepairs at H
  refine fnV_of_T Try.func7 rfl rfl (Nat.le_of_ble_eq_true rfl) ?_
  refine te [(0, (intA aN0)), (1, (sl tConflictEdge aEdges1)), (2, (sl tConflictEdge aPreferences2))] rfl ?_
  refine sr ?_
  refine pv tb 1 rfl ?_
  refine TO_nil ?_
  refine sr ?_
  refine pv tb 1 rfl ?_
  refine TO_nil ?_
  refine sr ?_
  obtain ⟨r_1, h_2, H⟩ := bind_inv H
  refine pv tb 2 rfl ?_
  refine TO_cons rfl (TOp_callV (call_static ent11 rfl) (m_laws_szConflictEdgeS_ok _ _ _ h_2) rfl rfl rfl ?_)
  refine pv tb 1 rfl ?_
  refine TO_nil ?_
  refine T_seq ?_
  refine sr ?_
  refine pv tb 2 rfl ?_
  refine TO_nil ?_
  refine T_cond (t := decide (r_1 < 0)) rfl (fun c_3 => ?_) (fun c_3 => ?_)
  ·replace H := cond_t c_3 H
   refine sr ?_
   refine pv tb 1 rfl ?_
   refine TO_nil ?_
   refine T_ret ?_
   refine then_ret ?_
   obtain rfl := some_inj H
   refine end_ret (.tmp .nil) rfl rfl ⟨?_, rfl⟩
   rfl
  ·replace H := cond_f c_3 H
   refine T_skip ?_
   refine sr ?_
   obtain ⟨r_4, h_5, H⟩ := bind_inv H
   refine pv tb 2 rfl ?_
   refine TO_cons rfl (TOp_callV (call_static ent11 rfl) (m_laws_szConflictEdgeS_ok _ _ _ h_5) rfl rfl rfl ?_)
   refine pv tb 1 rfl ?_
   refine TO_nil ?_
   refine T_seq ?_
   refine sr ?_
   refine pv tb 2 rfl ?_
   refine TO_nil ?_
   refine T_cond (t := decide (r_4 < 0)) rfl (fun c_6 => ?_) (fun c_6 => ?_)
   ·replace H := cond_t c_6 H
    refine sr ?_
    refine pv tb 1 rfl ?_
    refine TO_nil ?_
    refine te [(6, (boolA true))] rfl ?_
    refine T_ret ?_
    refine then_ret ?_
    obtain rfl := some_inj H
    refine end_ret (.tmp .nil) rfl rfl ⟨?_, rfl⟩
    rfl
   ·replace H := cond_f c_6 H
    refine T_skip ?_
    refine sr ?_
    obtain ⟨r_7, h_8, H⟩ := bind_inv H
    refine pv tb 2 rfl ?_
    refine TO_cons rfl (TOp_callV (call_static ent13 rfl) (m_laws_toConflictEdgeS_ok _ _ h_8) rfl rfl rfl ?_)
    obtain ⟨r_9, h_10, H⟩ := bind_inv H
    refine pv tb 1 rfl ?_
    refine TO_cons rfl (TOp_callV (call_static ent13 rfl) (m_laws_toConflictEdgeS_ok _ _ h_10) rfl rfl rfl ?_)
    obtain ⟨r_11, h_12, H⟩ := bind_inv H
    refine TO_cons rfl (TOp_callV (call_static ent27 rfl) (m_spec_ParetoOptimalRepairs_ok u _ _ _ _ h_12) rfl rfl rfl ?_)
    refine pv tb 1 rfl ?_
    refine TO_nil ?_
    refine te [(0, (intA aN0)), (1, (sl tConflictEdge aEdges1)), (2, (sl tConflictEdge aPreferences2)), (8, (sl (tSl tInt) r_11))] rfl ?_
    refine sr ?_
    obtain ⟨r_13, h_14, H⟩ := bind_inv H
    refine pv tb 1 rfl ?_
    refine TO_cons rfl (TOp_callO (call_static ent13 rfl) rfl (m_laws_toConflictEdgeS_own _ _ h_14) rfl rfl rfl ?_)
    refine toe [(0, (intA aN0)), (1, (sl tConflictEdge aEdges1)), (2, (sl tConflictEdge aPreferences2)), (8, (sl (tSl tInt) r_11)), (32, (sl tConflictEdge aEdges1)), (33, (.m [0] 0 r_13.length tConflictEdge.k))] rfl ?_
    refine TO_st (σ' := [.row (flat tConflictEdge.own r_13)]) rfl ?_
    refine pv tb 1 rfl ?_
    refine TO_nil ?_
    refine sr ?_
    obtain ⟨r_15, h_16, H⟩ := bind_inv H
    refine pv tb 1 rfl ?_
    refine TO_cons rfl (TOp_callO (call_static ent13 rfl) rfl (m_laws_toConflictEdgeS_own _ _ h_16) rfl rfl rfl ?_)
    refine toe [(0, (intA aN0)), (1, (sl tConflictEdge aEdges1)), (2, (sl tConflictEdge aPreferences2)), (8, (sl (tSl tInt) r_11)), (9, (.m [0] 0 r_13.length tConflictEdge.k)), (34, (sl tConflictEdge aPreferences2)), (35, (.m [1] 0 r_15.length tConflictEdge.k))] rfl ?_
    refine TO_st (σ' := [.row (flat tConflictEdge.own r_13), .row (flat tConflictEdge.own r_15)]) rfl ?_
    refine pv tb 1 rfl ?_
    refine TO_nil ?_
    refine sr ?_
    obtain ⟨r_17, h_18, H⟩ := bind_inv H
    refine pv tb 3 rfl ?_
    refine TO_cons rfl (TOp_callOG (call_static ent28 rfl) (frz_cons (frz_loose rfl) (frz_cons (frzT (T := tConflictEdge) rfl) (frz_cons (frzT (T := tConflictEdge) rfl) frz_nil))).1 (frz_cons (frz_loose rfl) (frz_cons (frzT (T := tConflictEdge) rfl) (frz_cons (frzT (T := tConflictEdge) rfl) frz_nil))).2 (m_impl_ParetoOptimalRepairs_own u _ _ _ _ h_18) rfl (ownC_of (ownSB_cons (flat_ownR (tSl tInt) _) ownSB_nil)) rfl rfl rfl ?_)
    refine toe [(0, (intA aN0)), (1, (sl tConflictEdge aEdges1)), (2, (sl tConflictEdge aPreferences2)), (8, (sl (tSl tInt) r_11)), (9, (.m [0] 0 r_13.length tConflictEdge.k)), (10, (.m [1] 0 r_15.length tConflictEdge.k)), (36, (intA aN0)), (37, (.m [0] 0 r_13.length tConflictEdge.k)), (38, (.m [1] 0 r_15.length tConflictEdge.k)), (39, (.m [2] 0 r_17.length (tSl tInt).k))] rfl ?_
    refine TO_st (σ' := [.row (flat tConflictEdge.own r_13), .row (flat tConflictEdge.own r_15), .row (flat (tSl tInt).own r_17)]) rfl ?_
    refine pv tb 1 rfl ?_
    refine TO_nil ?_
    refine T_seq ?_
    refine sr ?_
    obtain ⟨r_19, h_20, H⟩ := bind_inv H
    refine pv tb 2 rfl ?_
    refine TO_cons rfl (TOp_callB (call_static ent29 rfl) (frz_cons (frzT (T := (tSl tInt)) rfl) (frz_cons (frz_loose rfl) frz_nil)).1 (frz_cons (frzT (T := (tSl tInt)) rfl) (frz_cons (frz_loose rfl) frz_nil)).2 (m_laws_eqIntSS_ok _ _ _ h_20) rfl ?_)
    refine pv tb 1 rfl ?_
    refine TO_nil ?_
    refine T_cond (t := (!r_19)) rfl (fun c_21 => ?_) (fun c_21 => ?_)
    ·replace H := cond_t c_21 H
     refine sr ?_
     refine pv tb 1 rfl ?_
     refine TO_nil ?_
     refine te [(6, (boolA false))] rfl ?_
     refine T_ret ?_
     refine then_ret ?_
     obtain rfl := some_inj H
     refine end_ret (.tmp .nil) rfl rfl ⟨?_, rfl⟩
     rfl
    ·replace H := cond_f c_21 H
     refine T_skip ?_
     refine T_seq ?_
     refine sr ?_
     obtain ⟨r_22, h_23, H⟩ := bind_inv H
     refine pv tb 2 rfl ?_
     refine TO_cons rfl (TOp_callV (call_static ent13 rfl) (m_laws_toConflictEdgeS_ok _ _ h_23) rfl rfl rfl ?_)
     obtain ⟨r_24, h_25, H⟩ := bind_inv H
     refine TO_cons rfl (TOp_callB (call_static ent15 rfl) (frz_cons (frzT (T := tConflictEdge) rfl) (frz_cons (frz_loose rfl) frz_nil)).1 (frz_cons (frzT (T := tConflictEdge) rfl) (frz_cons (frz_loose rfl) frz_nil)).2 (m_laws_eqConflictEdgeS_ok _ _ _ h_25) rfl ?_)
     refine pv tb 1 rfl ?_
     refine TO_nil ?_
     refine T_cond (t := (!r_24)) rfl (fun c_26 => ?_) (fun c_26 => ?_)
     ·replace H := cond_t c_26 H
      refine sr ?_
      refine pv tb 1 rfl ?_
      refine TO_nil ?_
      refine te [(6, (boolA false))] rfl ?_
      refine T_ret ?_
      refine then_ret ?_
      obtain rfl := some_inj H
      refine end_ret (.tmp .nil) rfl rfl ⟨?_, rfl⟩
      rfl
     ·replace H := cond_f c_26 H
      refine T_skip ?_
      refine T_seq ?_
      refine sr ?_
      obtain ⟨r_27, h_28, H⟩ := bind_inv H
      refine pv tb 2 rfl ?_
      refine TO_cons rfl (TOp_callV (call_static ent13 rfl) (m_laws_toConflictEdgeS_ok _ _ h_28) rfl rfl rfl ?_)
      obtain ⟨r_29, h_30, H⟩ := bind_inv H
      refine TO_cons rfl (TOp_callB (call_static ent15 rfl) (frz_cons (frzT (T := tConflictEdge) rfl) (frz_cons (frz_loose rfl) frz_nil)).1 (frz_cons (frzT (T := tConflictEdge) rfl) (frz_cons (frz_loose rfl) frz_nil)).2 (m_laws_eqConflictEdgeS_ok _ _ _ h_30) rfl ?_)
      refine pv tb 1 rfl ?_
      refine TO_nil ?_
      refine te [(0, (intA aN0)), (1, (sl tConflictEdge aEdges1)), (2, (sl tConflictEdge aPreferences2)), (8, (sl (tSl tInt) r_11)), (9, (.m [0] 0 r_13.length tConflictEdge.k)), (10, (.m [1] 0 r_15.length tConflictEdge.k)), (11, (.m [2] 0 r_17.length (tSl tInt).k)), (53, (boolA (!r_29)))] rfl ?_
      refine T_cond (t := (!r_29)) rfl (fun c_31 => ?_) (fun c_31 => ?_)
      ·replace H := cond_t c_31 H
       refine sr ?_
       refine pv tb 1 rfl ?_
       refine TO_nil ?_
       refine T_ret ?_
       refine then_ret ?_
       obtain rfl := some_inj H
       refine end_ret (.tmp .nil) rfl rfl ⟨?_, rfl⟩
       rfl
      ·replace H := cond_f c_31 H
       refine T_skip ?_
       refine sr ?_
       refine pv tb 1 rfl ?_
       refine TO_nil ?_
       refine sr ?_
       obtain ⟨r_32, h_33, H⟩ := bind_inv H
       refine pv tb 2 rfl ?_
       refine TO_cons rfl (TOp_callG (aa := [(.m [0] 0 r_13.length tConflictEdge.k), (intA 1)]) [[0]] (call_static ent22 rfl) rfl (.cons rfl rfl (by decide) .nil) rfl rfl (m_laws_markConflictEdgeS_mut _ _ _ h_33) rfl (fun hl_34 => ?_))
       obtain ⟨hq_35, hl_34⟩ := sameLens_T (T := tConflictEdge) hl_34
       refine TO_env (E' := [(0, (intA aN0)), (1, (sl tConflictEdge aEdges1)), (2, (sl tConflictEdge aPreferences2)), (8, (sl (tSl tInt) r_11)), (9, (.m [0] 0 r_32.2.length tConflictEdge.k)), (10, (.m [1] 0 r_15.length tConflictEdge.k)), (11, (.m [2] 0 r_17.length (tSl tInt).k)), (12, (intA 1)), (54, (.m [0] 0 r_32.2.length tConflictEdge.k)), (55, (intA 1)), (56, (intA r_32.1))]) ⟨rfl, rfl, rfl, rfl, (congrArg (fun q => A.m [0] 0 q tConflictEdge.k) hq_35.symm), rfl, rfl, rfl, (congrArg (fun q => A.m [0] 0 q tConflictEdge.k) hq_35.symm), rfl, rfl, trivial⟩ ?_
       refine TO_st (σ' := [.row (flat tConflictEdge.own r_32.2), .row (flat tConflictEdge.own r_15), .row (flat (tSl tInt).own r_17)]) rfl ?_
       refine pv tb 1 rfl ?_
       refine TO_nil ?_
       refine sr ?_
       obtain ⟨r_36, h_37, H⟩ := bind_inv H
       refine pv tb 2 rfl ?_
       refine TO_cons rfl (TOp_callG (aa := [(.m [1] 0 r_15.length tConflictEdge.k), (intA r_32.1)]) [[1]] (call_static ent22 rfl) rfl (.cons rfl rfl (by decide) .nil) rfl rfl (m_laws_markConflictEdgeS_mut _ _ _ h_37) rfl (fun hl_38 => ?_))
       obtain ⟨hq_39, hl_38⟩ := sameLens_T (T := tConflictEdge) hl_38
       refine TO_env (E' := [(0, (intA aN0)), (1, (sl tConflictEdge aEdges1)), (2, (sl tConflictEdge aPreferences2)), (8, (sl (tSl tInt) r_11)), (10, (.m [1] 0 r_36.2.length tConflictEdge.k)), (11, (.m [2] 0 r_17.length (tSl tInt).k)), (12, (intA r_32.1)), (57, (.m [1] 0 r_36.2.length tConflictEdge.k)), (58, (intA r_32.1)), (59, (intA r_36.1))]) ⟨rfl, rfl, rfl, rfl, (congrArg (fun q => A.m [1] 0 q tConflictEdge.k) hq_39.symm), rfl, rfl, (congrArg (fun q => A.m [1] 0 q tConflictEdge.k) hq_39.symm), rfl, rfl, trivial⟩ ?_
       refine TO_st (σ' := [.row (flat tConflictEdge.own r_32.2), .row (flat tConflictEdge.own r_36.2), .row (flat (tSl tInt).own r_17)]) rfl ?_
       refine pv tb 1 rfl ?_
       refine TO_nil ?_
       refine T_seq ?_
       obtain ⟨t67_40, J_40, H_41⟩ := bind_inv H
       refine T_cutX (fun x => t67_40 = x) (fun (t67_40 : Bool) => [(0, (intA aN0)), (1, (sl tConflictEdge aEdges1)), (2, (sl tConflictEdge aPreferences2)), (8, (sl (tSl tInt) r_11)), (11, (.m [2] 0 r_17.length (tSl tInt).k)), (67, (boolA t67_40))]) (fun (t67_40 : Bool) => [.row (flat tConflictEdge.own r_32.2), .row (flat tConflictEdge.own r_36.2), .row (flat (tSl tInt).own r_17)]) ?_ ?_
       ·replace H := J_40
        refine T_region ?_
        refine pv tb 3 rfl ?_
        refine TO_split (t := decide (r_36.1 < 0)) 62 rfl (fun g_42 => ?_) (fun g_42 => ?_)
        ·replace H := cond_t g_42 H
         refine pv tb 5 rfl ?_
         refine TO_nil ?_
         exact joined true (w0 3) (some_inj H).symm
        ·replace H := cond_f g_42 H
         obtain ⟨r_43, h_44, H⟩ := bind_inv H
         refine pv tb 2 rfl ?_
         refine TO_on rfl rfl (by decide) rfl rfl (TOp_callB (call_static ent29 rfl) (frz_cons (frzT (T := (tSl tInt)) rfl) (frz_cons (frz_loose rfl) frz_nil)).1 (frz_cons (frzT (T := (tSl tInt)) rfl) (frz_cons (frz_loose rfl) frz_nil)).2 (m_laws_eqIntSS_ok _ _ _ h_44) rfl ?_)
         refine pv tb 2 rfl ?_
         refine TO_nil ?_
         exact joined (!r_43) (w0 3) (some_inj H).symm
       ·rintro _ rfl
        replace H := H_41
        refine T_cond (t := t67_40) rfl (fun c_45 => ?_) (fun c_45 => ?_)
        ·replace H := cond_t c_45 H
         refine sr ?_
         refine pv tb 1 rfl ?_
         refine TO_nil ?_
         refine T_ret ?_
         refine then_ret ?_
         obtain rfl := some_inj H
         refine end_ret (.tmp .nil) rfl rfl ⟨?_, rfl⟩
         rfl
        ·replace H := cond_f c_45 H
         refine T_skip ?_
         refine sr ?_
         refine pv tb 1 rfl ?_
         refine TO_nil ?_
         refine sr ?_
         obtain ⟨r_46, h_47, H⟩ := bind_inv H
         refine pv tb 2 rfl ?_
         refine TO_cons rfl (TOp_callG (aa := [(.m [2] 0 r_17.length (tSl tInt).k), (intA 1)]) [[2]] (call_static ent30 rfl) rfl (.cons rfl rfl (by decide) .nil) rfl rfl (m_laws_markIntSS_mut _ _ _ h_47) rfl (fun hl_48 => ?_))
         obtain ⟨hq_49, hl_48⟩ := sameLens_T (T := (tSl tInt)) hl_48
         refine TO_env (E' := [(0, (intA aN0)), (1, (sl tConflictEdge aEdges1)), (2, (sl tConflictEdge aPreferences2)), (8, (sl (tSl tInt) r_11)), (11, (.m [2] 0 r_46.2.length (tSl tInt).k)), (13, (intA 1)), (68, (.m [2] 0 r_46.2.length (tSl tInt).k)), (69, (intA 1)), (70, (intA r_46.1))]) ⟨rfl, rfl, rfl, rfl, (congrArg (fun q => A.m [2] 0 q (tSl tInt).k) hq_49.symm), rfl, (congrArg (fun q => A.m [2] 0 q (tSl tInt).k) hq_49.symm), rfl, rfl, trivial⟩ ?_
         refine TO_st (σ' := [.row (flat tConflictEdge.own r_32.2), .row (flat tConflictEdge.own r_36.2), .row (flat (tSl tInt).own r_46.2)]) rfl ?_
         refine pv tb 1 rfl ?_
         refine TO_nil ?_
         refine sr ?_
         refine pv tb 1 rfl ?_
         refine TO_nil ?_
         refine sr ?_
         obtain ⟨r_50, h_51, H⟩ := bind_inv H
         refine pv tb 2 rfl ?_
         refine TO_cons rfl (TOp_callB (call_static ent31 rfl) (frz_cons (frzT (T := (tSl tInt)) rfl) (frz_cons (frz_loose rfl) frz_nil)).1 (frz_cons (frzT (T := (tSl tInt)) rfl) (frz_cons (frz_loose rfl) frz_nil)).2 (m_laws_heldIntSS_ok _ _ _ h_51) rfl ?_)
         refine pv tb 1 rfl ?_
         refine TO_nil ?_
         refine T_seq ?_
         refine sr ?_
         refine pv tb 2 rfl ?_
         refine TO_nil ?_
         refine T_cond (t := decide (r_50 < 0)) rfl (fun c_52 => ?_) (fun c_52 => ?_)
         ·replace H := cond_t c_52 H
          refine sr ?_
          refine pv tb 1 rfl ?_
          refine TO_nil ?_
          refine te [(6, (boolA false))] rfl ?_
          refine T_ret ?_
          refine then_ret ?_
          obtain rfl := some_inj H
          refine end_ret (.tmp .nil) rfl rfl ⟨?_, rfl⟩
          rfl
         ·replace H := cond_f c_52 H
          refine T_skip ?_
          refine T_seq ?_
          refine sr ?_
          refine pv tb 3 rfl ?_
          refine TO_nil ?_
          refine T_cond (t := decide (r_50 ≠ r_46.1)) rfl (fun c_53 => ?_) (fun c_53 => ?_)
          ·replace H := cond_t c_53 H
           refine sr ?_
           refine pv tb 1 rfl ?_
           refine TO_nil ?_
           refine te [(6, (boolA false))] rfl ?_
           refine T_ret ?_
           refine then_ret ?_
           obtain rfl := some_inj H
           refine end_ret (.tmp .nil) rfl rfl ⟨?_, rfl⟩
           rfl
          ·replace H := cond_f c_53 H
           refine T_skip ?_
           refine sr ?_
           obtain ⟨r_54, h_55, H⟩ := bind_inv H
           refine pv tb 2 rfl ?_
           refine TO_cons rfl (TOp_callV (call_static ent13 rfl) (m_laws_toConflictEdgeS_ok _ _ h_55) rfl rfl rfl ?_)
           obtain ⟨r_56, h_57, H⟩ := bind_inv H
           refine pv tb 1 rfl ?_
           refine TO_cons rfl (TOp_callV (call_static ent13 rfl) (m_laws_toConflictEdgeS_ok _ _ h_57) rfl rfl rfl ?_)
           obtain ⟨r_58, h_59, H⟩ := bind_inv H
           refine TO_cons rfl (TOp_callV (call_static ent28 rfl) (m_impl_ParetoOptimalRepairs_ok u _ _ _ _ h_59) rfl rfl rfl ?_)
           refine pv tb 1 rfl ?_
           refine TO_nil ?_
           refine te [(8, (sl (tSl tInt) r_11)), (11, (.m [2] 0 r_46.2.length (tSl tInt).k)), (13, (intA r_46.1)), (15, (sl (tSl tInt) r_58))] rfl ?_
           refine T_seq ?_
           refine sr ?_
           obtain ⟨r_60, h_61, H⟩ := bind_inv H
           refine pv tb 2 rfl ?_
           refine TO_cons rfl (TOp_callV (call_static ent29 rfl) (m_laws_eqIntSS_ok _ _ _ h_61) rfl rfl rfl ?_)
           refine pv tb 1 rfl ?_
           refine TO_nil ?_
           refine T_cond (t := (!r_60)) rfl (fun c_62 => ?_) (fun c_62 => ?_)
           ·replace H := cond_t c_62 H
            refine sr ?_
            refine pv tb 1 rfl ?_
            refine TO_nil ?_
            refine T_ret ?_
            refine then_ret ?_
            obtain rfl := some_inj H
            refine end_ret (.tmp .nil) rfl rfl ⟨?_, rfl⟩
            rfl
           ·replace H := cond_f c_62 H
            refine T_skip ?_
            refine sr ?_
            refine pv tb 1 rfl ?_
            refine TO_nil ?_
            refine sr ?_
            obtain ⟨r_63, h_64, H⟩ := bind_inv H
            refine pv tb 2 rfl ?_
            refine TO_cons rfl (TOp_callB (call_static ent31 rfl) (frz_cons (frzT (T := (tSl tInt)) rfl) (frz_cons (frz_loose rfl) frz_nil)).1 (frz_cons (frzT (T := (tSl tInt)) rfl) (frz_cons (frz_loose rfl) frz_nil)).2 (m_laws_heldIntSS_ok _ _ _ h_64) rfl ?_)
            refine pv tb 1 rfl ?_
            refine TO_nil ?_
            refine T_seq ?_
            refine sr ?_
            refine pv tb 2 rfl ?_
            refine TO_nil ?_
            refine T_cond (t := decide (r_63 < 0)) rfl (fun c_65 => ?_) (fun c_65 => ?_)
            ·replace H := cond_t c_65 H
             refine sr ?_
             refine pv tb 1 rfl ?_
             refine TO_nil ?_
             refine T_ret ?_
             refine then_ret ?_
             obtain rfl := some_inj H
             refine end_ret (.tmp .nil) rfl rfl ⟨?_, rfl⟩
             rfl
            ·replace H := cond_f c_65 H
             refine T_skip ?_
             refine T_seq ?_
             refine sr ?_
             refine pv tb 3 rfl ?_
             refine TO_nil ?_
             refine te [(96, (boolA (decide (r_63 ≠ r_46.1))))] rfl ?_
             refine T_cond (t := decide (r_63 ≠ r_46.1)) rfl (fun c_66 => ?_) (fun c_66 => ?_)
             ·replace H := cond_t c_66 H
              refine sr ?_
              refine pv tb 1 rfl ?_
              refine TO_nil ?_
              refine T_ret ?_
              refine then_ret ?_
              obtain rfl := some_inj H
              refine end_ret (.tmp .nil) rfl rfl ⟨?_, rfl⟩
              rfl
             ·replace H := cond_f c_66 H
              refine T_skip ?_
              refine sr ?_
              refine pv tb 1 rfl ?_
              refine TO_nil ?_
              refine T_ret ?_
              obtain rfl := some_inj H
              refine end_ret (.tmp .nil) rfl rfl ⟨?_, rfl⟩
              rfl
end Go.Proofs.Ytglgcncmjnjfgaa

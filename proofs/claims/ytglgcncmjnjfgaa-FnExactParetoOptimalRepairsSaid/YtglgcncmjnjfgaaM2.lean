import Derived.Test.YtglgcncmjnjfgaaM1
set_option linter.unusedVariables false
set_option linter.unusedSimpArgs false
set_option maxRecDepth 4000
namespace Go.Proofs.Ytglgcncmjnjfgaa
open Go Go.Proofs Go.Sep
set_option maxHeartbeats 1000000 in
theorem m_laws_szConflictEdgeS_ok (a0 : (List ConflictEdge)) (left1 : Int) (r : Int) (H : m_laws_szConflictEdgeS a0 left1 = some r) : FnV prg 11 [(sl tConflictEdge a0), (intA left1)] (intA r) := by
  unfold m_laws_szConflictEdgeS at H
  refine fnV_of_T Try.func11 rfl rfl (Nat.le_of_ble_eq_true rfl) ?_
  refine te [(0, (sl tConflictEdge a0)), (1, (intA left1))] rfl ?_
  refine sr ?_
  refine pv tb 1 rfl ?_
  refine TO_nil ?_
  refine sr ?_
  refine pv tb 2 rfl ?_
  refine Tp rfl rfl (pur_lenT (T := tConflictEdge) sl22 rfl rfl) rfl ?_
  refine pv tb 2 rfl ?_
  refine TO_nil ?_
  refine T_seq ?_
  refine sr ?_
  refine pv tb 2 rfl ?_
  refine TO_nil ?_
  refine T_cond (t := decide ((w64 (left1 - (a0.length : Int))) < 0)) rfl (fun c_1 => ?_) (fun c_1 => ?_)
  ·replace H := cond_t c_1 H
   refine sr ?_
   refine pv tb 1 rfl ?_
   refine TO_nil ?_
   refine T_ret ?_
   refine then_ret ?_
   obtain rfl := some_inj H
   refine end_ret (.tmp .nil) rfl rfl ⟨?_, rfl⟩
   rfl
  ·replace H := cond_f c_1 H
   refine T_skip ?_
   refine sr ?_
   refine pv tb 2 rfl ?_
   refine TO_nil ?_
   refine T_ret ?_
   obtain rfl := some_inj H
   refine end_ret (.tmp .nil) rfl rfl ⟨?_, rfl⟩
   rfl

set_option maxHeartbeats 1000000 in
theorem m_laws_toConflictEdge_ok (a0 : ConflictEdge) (r : ConflictEdge) (H : m_laws_toConflictEdge a0 = some r) : FnV prg 42 [(.g (tConflictEdge.enc a0))] (.g (tConflictEdge.enc r)) := by
  unfold m_laws_toConflictEdge at H
  refine fnV_of_T Try.func42 rfl rfl (Nat.le_of_ble_eq_true rfl) ?_
  refine te [(0, (.g (tConflictEdge.enc a0)))] rfl ?_
  refine sr ?_
  refine TO_cons rfl (TOp_box rfl (boxAll rfl) rfl rfl ?_)
  refine TO_cons rfl (TOp_alloc zero52 rfl rfl ?_)
  refine TO_nil ?_
  refine sr ?_
  refine TO_cons rfl (TOp_alloc zero52 rfl rfl ?_)
  refine TO_nil ?_
  refine sr ?_
  refine pv tb 3 rfl ?_
  refine TO_cons rfl (TOp_storeB sz3 rfl rfl rfl rfl rfl rfl rfl (by decide) (lb rfl) rfl ?_)
  refine TO_st (σ' := [.box [(intA a0.a), (intA a0.b)], .box [(intA 0), (intA 0)], .box [(intA a0.a), (intA 0)]]) rfl ?_
  refine TO_nil ?_
  refine sr ?_
  refine pv tb 3 rfl ?_
  refine TO_cons rfl (TOp_storeB sz3 rfl rfl rfl rfl rfl rfl rfl (by decide) (lb rfl) rfl ?_)
  refine TO_st (σ' := [.box [(intA a0.a), (intA a0.b)], .box [(intA 0), (intA 0)], .box [(intA a0.a), (intA a0.b)]]) rfl ?_
  refine TO_nil ?_
  refine sr ?_
  refine pv tb 1 rfl ?_
  refine TO_cons rfl (TOp_storeB sz52 rfl rfl rfl rfl rfl rfl rfl (by decide) (lb rfl) rfl ?_)
  refine TO_st (σ' := [.box [(intA a0.a), (intA a0.b)], .box [(intA a0.a), (intA a0.b)], .box [(intA a0.a), (intA a0.b)]]) rfl ?_
  refine TO_nil ?_
  refine T_ret ?_
  obtain rfl := some_inj H
  refine end_ret (.cellK rfl agg52 rfl (lb rfl) .nil) rfl rfl ⟨?_, rfl⟩
  rfl

set_option maxHeartbeats 1000000 in
theorem m_laws_toConflictEdgeS_own (a0 : (List ConflictEdge)) (r : (List ConflictEdge)) (H : m_laws_toConflictEdgeS a0 = some r) : FnO prg 13 [(sl tConflictEdge a0)] (.m [0] 0 r.length tConflictEdge.k) [.row (flat tConflictEdge.own r)] := by
  unfold m_laws_toConflictEdgeS at H
  refine fnO_of_T Try.func13 rfl rfl (Nat.le_of_ble_eq_true rfl) ?_
  refine te [(0, (sl tConflictEdge a0))] rfl ?_
  refine sr ?_
  refine pv tb 1 rfl ?_
  refine TO_nil ?_
  refine sr ?_
  refine pv tb 1 rfl ?_
  refine Tp rfl rfl (pur_lenT (T := tConflictEdge) sl22 rfl rfl) rfl ?_
  obtain ⟨us_1, h_2, H⟩ := bind_inv H
  refine TO_cons rfl (TOp_makeT (T := tConflictEdge) (z := (default : ConflictEdge)) rfl sl25 zero52 rfl bytes52 rfl rfl rfl rfl h_2 ?_)
  refine pv tb 1 rfl ?_
  refine TO_nil ?_
  refine T_seq ?_
  refine sr ?_
  refine pv tb 1 rfl ?_
  refine TO_nil ?_
  obtain ⟨O4_, L4_, N4_⟩ := bind_inv H
  clear H
  obtain ⟨B4_, hb4, L4_⟩ := gen_forS L4_
  refine T_block ?_
  refine T_loopX (fun k => fun (⟨i_3, out3⟩ : Nat × (List ConflictEdge)) => k = a0.length - i_3 ∧ forS B4_ (a0.drop i_3) (i_3 : Int) out3 = some O4_) (fun (⟨i_3, out3⟩ : Nat × (List ConflictEdge)) => [(0, (sl tConflictEdge a0)), (3, (.m [0] 0 out3.length tConflictEdge.k)), (4, (intA (i_3 : Int)))]) (fun (⟨i_3, out3⟩ : Nat × (List ConflictEdge)) => [.row (flat tConflictEdge.enc out3)]) _ (0, us_1) (w0 1) ⟨rfl, L4_⟩ ?_
  rintro _ ⟨i_3, out3⟩ ⟨rfl, L4_⟩
  refine T_fact (len_sl (T := tConflictEdge) (.tmp 0) rfl) (fun hl4 => ?_)
  refine T_seq ?_
  refine sr ?_
  refine pv tb 2 rfl ?_
  refine Tp rfl rfl (pur_lenT (T := tConflictEdge) sl22 rfl rfl) rfl ?_
  refine pv tb 1 rfl ?_
  refine TO_nil ?_
  refine T_cond (t := decide ((i_3 : Int) < (a0.length : Int))) rfl (fun d4 => ?_) (fun d4 => ?_)
  ·replace d4 := of_decide_eq_true d4
   obtain ⟨x_i_3, hx_i_3⟩ : ∃ v, (a0)[i_3]? = some v := ⟨_, List.getElem?_eq_getElem (by omega)⟩
   obtain ⟨C4_, H, K4_⟩ := forS_step L4_ hx_i_3
   rw [hb4] at H
   refine T_skip ?_
   refine T_seq ?_
   refine T_block ?_
   refine T_region ?_
   refine pv tb 4 rfl ?_
   refine Tp rfl rfl (pur_ixT (T := tConflictEdge) sl22 rfl rfl rfl hx_i_3 rfl) rfl ?_
   refine Tp rfl rfl (pur_ldTK (T := tConflictEdge) (i := i_3) (off := 0) rfl agg54 rfl rfl hx_i_3 (by decide) rfl) rfl ?_
   obtain ⟨r_5, h_6, H⟩ := bind_inv H
   refine TO_cons rfl (TOp_callV (call_static ent42 rfl) (m_laws_toConflictEdge_ok _ _ h_6) rfl rfl rfl ?_)
   obtain ⟨v_7, h_8, H⟩ := bind_inv H
   obtain ⟨n_9, hz_10, hv_11⟩ := getI_inv h_8
   refine Tp rfl rfl (pur_ixM (T := tConflictEdge) sl25 rfl rfl hz_10 hv_11 rfl) rfl ?_
   refine TO_cons rfl (TOp_setT (f := tConflictEdge.enc) (z := (i_3 : Int)) (y := r_5) tConflictEdge.len tConflictEdge.pos hz_10 sz52 rfl rfl rfl rfl rfl hv_11 rfl rfl ?_)
   refine TO_env (E' := [(0, (sl tConflictEdge a0)), (3, (.m [0] 0 (out3.set ((i_3 : Int)).toNat r_5).length tConflictEdge.k)), (4, (intA (i_3 : Int))), (14, (.m [0] 0 (out3.set ((i_3 : Int)).toNat r_5).length tConflictEdge.k)), (15, (intA (i_3 : Int))), (16, (sl tConflictEdge a0)), (17, (intA (i_3 : Int))), (18, (.q (flat tConflictEdge.enc a0) (i_3 * tConflictEdge.k))), (19, (.g (tConflictEdge.enc x_i_3))), (20, (.g (tConflictEdge.enc r_5)))]) ⟨rfl, (congrArg (fun q => A.m [0] 0 q tConflictEdge.k) (List.length_set ..).symm), rfl, (congrArg (fun q => A.m [0] 0 q tConflictEdge.k) (List.length_set ..).symm), rfl, rfl, rfl, rfl, rfl, rfl, trivial⟩ ?_
   refine TO_st (σ' := [.row (flat tConflictEdge.enc (out3.set ((i_3 : Int)).toNat r_5))]) rfl ?_
   refine TO_nil ?_
   refine T_region ?_
   refine pv tb 1 rfl ?_
   refine Tp rfl rfl (pur_add rfl rfl rfl (fits64 (by omega) (by omega))) rfl ?_
   refine pv tb 1 rfl ?_
   refine TO_nil ?_
   obtain rfl := some_inj H
   exact again (a0.length - (i_3 + 1)) (i_3 + 1, (out3.set ((i_3 : Int)).toNat r_5)) (by omega) (w0 1) ⟨rfl, K4_⟩
  ·replace d4 := of_decide_eq_false d4
   obtain rfl := forS_end L4_ (by omega)
   refine T_exit ?_
   refine then_exit ?_
   refine then_exit ?_
   refine block_exit ?_
   replace H := N4_
   refine sr ?_
   refine pv tb 2 rfl ?_
   refine TO_nil ?_
   refine T_ret ?_
   obtain rfl := some_inj H
   exact end_pick (.tmp .nil) rfl [0] (by decide) rfl rfl rfl rfl rfl rfl
theorem m_laws_toConflictEdgeS_ok (a0 : (List ConflictEdge)) (r : (List ConflictEdge)) (H : m_laws_toConflictEdgeS a0 = some r) : FnV prg 13 [(sl tConflictEdge a0)] (sl tConflictEdge r) := (m_laws_toConflictEdgeS_own a0 r H).frz (frzT (T := tConflictEdge) rfl)

set_option maxHeartbeats 1000000 in
theorem m_laws_eqConflictEdge_ok (a0 : ConflictEdge) (b1 : ConflictEdge) (r : Bool) (H : m_laws_eqConflictEdge a0 b1 = some r) : FnV prg 44 [(.g (tConflictEdge.enc a0)), (.g (tConflictEdge.enc b1))] (boolA r) := by
  unfold m_laws_eqConflictEdge at H
  refine fnV_of_T Try.func44 rfl rfl (Nat.le_of_ble_eq_true rfl) ?_
  refine te [(0, (.g (tConflictEdge.enc a0))), (1, (.g (tConflictEdge.enc b1)))] rfl ?_
  refine sr ?_
  refine TO_cons rfl (TOp_box rfl (boxAll rfl) rfl rfl ?_)
  refine TO_cons rfl (TOp_box rfl (boxAll rfl) rfl rfl ?_)
  refine pv tb 1 rfl ?_
  refine TO_nil ?_
  refine T_seq ?_
  refine sr ?_
  refine pv tb 5 rfl ?_
  refine TO_nil ?_
  refine T_cond (t := decide (a0.a ≠ b1.a)) rfl (fun c_1 => ?_) (fun c_1 => ?_)
  ·replace H := cond_t c_1 H
   refine sr ?_
   refine pv tb 1 rfl ?_
   refine TO_nil ?_
   refine T_ret ?_
   refine then_ret ?_
   obtain rfl := some_inj H
   refine end_ret (.tmp .nil) rfl rfl ⟨?_, rfl⟩
   rfl
  ·replace H := cond_f c_1 H
   refine T_skip ?_
   refine T_seq ?_
   refine sr ?_
   refine pv tb 5 rfl ?_
   refine TO_nil ?_
   refine T_cond (t := decide (a0.b ≠ b1.b)) rfl (fun c_2 => ?_) (fun c_2 => ?_)
   ·replace H := cond_t c_2 H
    refine sr ?_
    refine pv tb 1 rfl ?_
    refine TO_nil ?_
    refine te [(4, (boolA false))] rfl ?_
    refine T_ret ?_
    refine then_ret ?_
    obtain rfl := some_inj H
    refine end_ret (.tmp .nil) rfl rfl ⟨?_, rfl⟩
    rfl
   ·replace H := cond_f c_2 H
    refine T_skip ?_
    refine te [] rfl ?_
    refine sr ?_
    refine pv tb 1 rfl ?_
    refine TO_nil ?_
    refine T_ret ?_
    obtain rfl := some_inj H
    refine end_ret (.tmp .nil) rfl rfl ⟨?_, rfl⟩
    rfl

set_option maxHeartbeats 1000000 in
theorem m_laws_eqConflictEdgeS_ok (a0 : (List ConflictEdge)) (b1 : (List ConflictEdge)) (r : Bool) (H : m_laws_eqConflictEdgeS a0 b1 = some r) : FnV prg 15 [(sl tConflictEdge a0), (sl tConflictEdge b1)] (boolA r) := by
  unfold m_laws_eqConflictEdgeS at H
  refine fnV_of_T Try.func15 rfl rfl (Nat.le_of_ble_eq_true rfl) ?_
  refine te [(0, (sl tConflictEdge a0)), (1, (sl tConflictEdge b1))] rfl ?_
  refine sr ?_
  refine pv tb 1 rfl ?_
  refine TO_nil ?_
  refine T_seq ?_
  refine sr ?_
  refine pv tb 1 rfl ?_
  refine Tp rfl rfl (pur_lenT (T := tConflictEdge) sl25 rfl rfl) rfl ?_
  refine pv tb 1 rfl ?_
  refine Tp rfl rfl (pur_lenT (T := tConflictEdge) sl25 rfl rfl) rfl ?_
  refine pv tb 1 rfl ?_
  refine TO_nil ?_
  refine T_cond (t := decide ((a0.length : Int) ≠ (b1.length : Int))) rfl (fun c_1 => ?_) (fun c_1 => ?_)
  ·replace H := cond_t c_1 H
   refine sr ?_
   refine pv tb 1 rfl ?_
   refine TO_nil ?_
   refine T_ret ?_
   refine then_ret ?_
   obtain rfl := some_inj H
   refine end_ret (.tmp .nil) rfl rfl ⟨?_, rfl⟩
   rfl
  ·replace H := cond_f c_1 H
   refine T_skip ?_
   refine T_seq ?_
   refine sr ?_
   refine pv tb 1 rfl ?_
   refine TO_nil ?_
   obtain ⟨O3_, L3_, N3_⟩ := bind_inv H
   clear H
   obtain ⟨B3_, hb3, L3_⟩ := gen_forL L3_
   refine T_block ?_
   refine T_loopX (fun k => fun (i_2 : Nat) => k = a0.length - i_2 ∧ forL B3_ (a0.drop i_2) (i_2 : Int) () = some O3_) (fun (i_2 : Nat) => [(0, (sl tConflictEdge a0)), (1, (sl tConflictEdge b1)), (5, (intA (i_2 : Int)))]) (fun (i_2 : Nat) => []) _ (0 : Nat) (w0 0) ⟨rfl, L3_⟩ ?_
   rintro _ i_2 ⟨rfl, L3_⟩
   refine T_fact (len_sl (T := tConflictEdge) (.tmp 0) rfl) (fun hl3 => ?_)
   refine T_seq ?_
   refine sr ?_
   refine pv tb 2 rfl ?_
   refine Tp rfl rfl (pur_lenT (T := tConflictEdge) sl25 rfl rfl) rfl ?_
   refine pv tb 1 rfl ?_
   refine TO_nil ?_
   refine T_cond (t := decide ((i_2 : Int) < (a0.length : Int))) rfl (fun d3 => ?_) (fun d3 => ?_)
   ·replace d3 := of_decide_eq_true d3
    obtain ⟨x_i_2, hx_i_2⟩ : ∃ v, (a0)[i_2]? = some v := ⟨_, List.getElem?_eq_getElem (by omega)⟩
    obtain ⟨C3_, H, K3_⟩ := forL_step L3_ hx_i_2
    rw [hb3] at H
    refine T_skip ?_
    refine T_seq ?_
    refine T_block ?_
    refine T_seq ?_
    refine T_regionD mixed (by kernel_rfl) ?_
    refine pq tb 2 rfl ?_
    refine TQ_pure rfl (pur_ixT (T := tConflictEdge) sl25 rfl rfl rfl hx_i_2 rfl) rfl ?_
    refine TQ_pure rfl (pur_ldTK (T := tConflictEdge) (i := i_2) (off := 0) rfl agg52 rfl rfl hx_i_2 (by decide) rfl) rfl ?_
    obtain ⟨v_4, h_5, H⟩ := bind_inv H
    obtain ⟨n_6, hz_7, hv_8⟩ := getI_inv h_5
    refine pq tb 2 rfl ?_
    refine TQ_pure rfl (pur_ixT (T := tConflictEdge) sl25 rfl rfl hz_7 hv_8 rfl) rfl ?_
    refine TQ_pure rfl (pur_ldTK (T := tConflictEdge) (i := n_6) (off := 0) rfl agg52 rfl rfl hv_8 (by decide) rfl) rfl ?_
    obtain ⟨r_9, h_10, H⟩ := bind_inv H
    refine TQ_callV rfl (call_static ent44 rfl) (m_laws_eqConflictEdge_ok _ _ _ h_10) rfl rfl ?_
    refine pq tb 1 rfl ?_
    refine TQ_nil ?_
    refine T_cond (t := (!r_9)) rfl (fun c_11 => ?_) (fun c_11 => ?_)
    ·replace H := cond_t c_11 H
     refine sr ?_
     refine pv tb 1 rfl ?_
     refine TO_nil ?_
     refine te [(4, (boolA false))] rfl ?_
     refine T_ret ?_
     refine block_ret ?_
     refine then_ret ?_
     refine then_ret ?_
     refine block_ret ?_
     refine then_ret ?_
     obtain rfl := some_inj H
     obtain rfl := some_inj K3_
     replace H := onS_r N3_
     obtain rfl := some_inj H
     refine end_ret (.tmp .nil) rfl rfl ⟨?_, rfl⟩
     rfl
    ·replace H := cond_f c_11 H
     refine T_skip ?_
     refine T_region ?_
     refine pv tb 1 rfl ?_
     refine Tp rfl rfl (pur_add rfl rfl rfl (fits64 (by omega) (by omega))) rfl ?_
     refine pv tb 1 rfl ?_
     refine TO_nil ?_
     obtain rfl := some_inj H
     exact again (a0.length - (i_2 + 1)) (i_2 + 1) (by omega) (w0 0) ⟨rfl, K3_⟩
   ·replace d3 := of_decide_eq_false d3
    obtain rfl := forL_end L3_ (by omega)
    refine T_exit ?_
    refine then_exit ?_
    refine then_exit ?_
    refine block_exit ?_
    replace H := onS_l N3_
    refine sr ?_
    refine pv tb 1 rfl ?_
    refine TO_nil ?_
    refine T_ret ?_
    obtain rfl := some_inj H
    refine end_ret (.tmp .nil) rfl rfl ⟨?_, rfl⟩
    rfl

set_option maxHeartbeats 1000000 in
theorem m_laws_markConflictEdgeS_mut (a0 : (List ConflictEdge)) (k1 : Int) (r : (Int × (List ConflictEdge))) (H : m_laws_markConflictEdgeS a0 k1 = some r) : FnM prg 22 [(.m [0] 0 a0.length tConflictEdge.k), (intA k1)] [flat tConflictEdge.own a0] (.int .i64 r.1) [flat tConflictEdge.own r.2] := by
  unfold m_laws_markConflictEdgeS at H
  refine fnM_of_T Try.func22 rfl rfl (Nat.le_of_ble_eq_true rfl) ?_
  refine te [(0, (.m [0] 0 a0.length tConflictEdge.k)), (1, (intA k1))] rfl ?_
  refine T_st (σ' := [.row (flat tConflictEdge.own a0)]) rfl ?_
  refine sr ?_
  refine pv tb 1 rfl ?_
  refine TO_nil ?_
  refine T_seq ?_
  refine sr ?_
  refine pv tb 1 rfl ?_
  refine TO_nil ?_
  obtain ⟨O2_, L2_, N2_⟩ := bind_inv H
  clear H
  obtain ⟨B2_, hb2, L2_⟩ := gen_forM L2_
  refine T_block ?_
  refine T_loopX (fun k => fun (⟨i_1, a0m, k1⟩ : Int × (List ConflictEdge) × Int) => k = ((a0.length : Int) - i_1).toNat ∧ 0 ≤ i_1 ∧ forM B2_ ((a0.length : Int) - i_1).toNat i_1 (a0m, k1) = some O2_ ∧ a0m.length = a0.length) (fun (⟨i_1, a0m, k1⟩ : Int × (List ConflictEdge) × Int) => [(0, (.m [0] 0 a0m.length tConflictEdge.k)), (1, (intA k1)), (5, (intA (i_1 : Int)))]) (fun (⟨i_1, a0m, k1⟩ : Int × (List ConflictEdge) × Int) => [.row (flat tConflictEdge.own a0m)]) _ (0, (a0, k1)) (w0 1) ⟨rfl, Int.le_refl _, L2_, rfl⟩ ?_
  rintro _ ⟨i_1, a0m, k1⟩ ⟨rfl, hi2, L2_, hq_a0m⟩
  replace hq_a0m : a0m.length = a0.length := hq_a0m
  refine T_fact (len_m (.tmp 0) rfl) (fun hl2 => ?_)
  refine T_seq ?_
  refine sr ?_
  refine pv tb 2 rfl ?_
  refine Tp rfl rfl (pur_len_m sl25 rfl rfl) rfl ?_
  refine pv tb 1 rfl ?_
  refine TO_nil ?_
  refine T_cond (t := decide ((i_1 : Int) < (a0m.length : Int))) rfl (fun d2 => ?_) (fun d2 => ?_)
  ·replace d2 := of_decide_eq_true d2
   replace d2 : (i_1 : Int) < (a0.length : Int) := by omega
   obtain ⟨C2_, H, K2_⟩ := forM_step L2_ d2
   rw [hb2] at H
   refine T_skip ?_
   refine T_seq ?_
   refine T_block ?_
   refine sr ?_
   obtain ⟨v_3, h_4, H⟩ := bind_inv H
   obtain ⟨n_5, hz_6, hv_7⟩ := getI_inv h_4
   refine pv tb 3 rfl ?_
   refine Tp rfl rfl (pur_ixM (T := tConflictEdge) sl25 rfl rfl hz_6 hv_7 rfl) rfl ?_
   refine pv tb 1 rfl ?_
   refine TO_cons rfl (TOp_setP (f := tConflictEdge.own) (k := tConflictEdge.k) (off := 0) (z := (i_1 : Int)) tConflictEdge.lenO ({ a := k1, b := v_3.b } : ConflictEdge) hz_6 sz3 (by decide) rfl rfl rfl rfl rfl hv_7 rfl rfl (by decide) rfl rfl ?_)
   refine TO_env (E' := [(0, (.m [0] 0 (a0m.set ((i_1 : Int)).toNat ({ a := k1, b := v_3.b } : ConflictEdge)).length tConflictEdge.k)), (1, (intA k1)), (5, (intA (i_1 : Int))), (12, (.m [0] 0 (a0m.set ((i_1 : Int)).toNat ({ a := k1, b := v_3.b } : ConflictEdge)).length tConflictEdge.k)), (13, (intA (i_1 : Int))), (14, (intA k1))]) ⟨(congrArg (fun q => A.m [0] 0 q tConflictEdge.k) (List.length_set ..).symm), rfl, rfl, (congrArg (fun q => A.m [0] 0 q tConflictEdge.k) (List.length_set ..).symm), rfl, rfl, trivial⟩ ?_
   refine TO_st (σ' := [.row (flat tConflictEdge.own (a0m.set ((i_1 : Int)).toNat ({ a := k1, b := v_3.b } : ConflictEdge)))]) rfl ?_
   refine TO_nil ?_
   refine sr ?_
   refine pv tb 3 rfl ?_
   refine TO_nil ?_
   refine sr ?_
   obtain ⟨v_8, h_9, H⟩ := bind_inv H
   obtain ⟨n_10, hz_11, hv_12⟩ := getI_inv h_9
   refine pv tb 3 rfl ?_
   refine Tp rfl rfl (pur_ixM (T := tConflictEdge) sl25 rfl rfl hz_11 hv_12 rfl) rfl ?_
   refine pv tb 1 rfl ?_
   refine TO_cons rfl (TOp_setP (f := tConflictEdge.own) (k := tConflictEdge.k) (off := 1) (z := (i_1 : Int)) tConflictEdge.lenO ({ a := v_8.a, b := (w64 (k1 + 1)) } : ConflictEdge) hz_11 sz3 (by decide) rfl rfl rfl rfl rfl hv_12 rfl rfl (by decide) rfl rfl ?_)
   refine TO_env (E' := [(0, (.m [0] 0 ((a0m.set ((i_1 : Int)).toNat ({ a := k1, b := v_3.b } : ConflictEdge)).set ((i_1 : Int)).toNat ({ a := v_8.a, b := (w64 (k1 + 1)) } : ConflictEdge)).length tConflictEdge.k)), (1, (intA (w64 (k1 + 1)))), (5, (intA (i_1 : Int))), (19, (.m [0] 0 ((a0m.set ((i_1 : Int)).toNat ({ a := k1, b := v_3.b } : ConflictEdge)).set ((i_1 : Int)).toNat ({ a := v_8.a, b := (w64 (k1 + 1)) } : ConflictEdge)).length tConflictEdge.k)), (20, (intA (i_1 : Int))), (21, (intA (w64 (k1 + 1))))]) ⟨(congrArg (fun q => A.m [0] 0 q tConflictEdge.k) (List.length_set ..).symm), rfl, rfl, (congrArg (fun q => A.m [0] 0 q tConflictEdge.k) (List.length_set ..).symm), rfl, rfl, trivial⟩ ?_
   refine TO_st (σ' := [.row (flat tConflictEdge.own ((a0m.set ((i_1 : Int)).toNat ({ a := k1, b := v_3.b } : ConflictEdge)).set ((i_1 : Int)).toNat ({ a := v_8.a, b := (w64 (k1 + 1)) } : ConflictEdge)))]) rfl ?_
   refine TO_nil ?_
   refine T_region ?_
   refine pv tb 3 rfl ?_
   refine TO_nil ?_
   refine T_region ?_
   refine pv tb 1 rfl ?_
   refine Tp rfl rfl (pur_add rfl rfl rfl (fits64 (by omega) (by omega))) rfl ?_
   refine pv tb 1 rfl ?_
   refine TO_nil ?_
   obtain rfl := some_inj H
   exact again ((a0.length : Int) - (i_1 + 1)).toNat (i_1 + 1, (((a0m.set ((i_1 : Int)).toNat ({ a := k1, b := v_3.b } : ConflictEdge)).set ((i_1 : Int)).toNat ({ a := v_8.a, b := (w64 (k1 + 1)) } : ConflictEdge)), (w64 ((w64 (k1 + 1)) + 1)))) (by omega) (w0 1) ⟨rfl, by omega, K2_, ((List.length_set ..).trans ((List.length_set ..).trans hq_a0m))⟩
  ·replace d2 := of_decide_eq_false d2
   obtain rfl := forM_end L2_ (by omega)
   refine T_exit ?_
   refine then_exit ?_
   refine then_exit ?_
   refine block_exit ?_
   replace H := N2_
   refine sr ?_
   refine pv tb 2 rfl ?_
   refine TO_nil ?_
   refine T_ret ?_
   obtain rfl := some_inj H
   exact end_M (.tmp .nil) rfl rfl (Nat.le_refl _) (sameLens_c (T := tConflictEdge) hq_a0m trivial) rfl rfl

set_option maxHeartbeats 1000000 in
theorem m_spec_IsPreferred_ok (p0 : (List ConflictEdge)) (a1 : Int) (b2 : Int) (r : Bool) (H : m_spec_IsPreferred p0 a1 b2 = some r) : FnV prg 12 [(sl tConflictEdge p0), (intA a1), (intA b2)] (boolA r) := by
  unfold m_spec_IsPreferred at H
  refine fnV_of_T Try.func12 rfl rfl (Nat.le_of_ble_eq_true rfl) ?_
  refine te [(0, (sl tConflictEdge p0)), (1, (intA a1)), (2, (intA b2))] rfl ?_
  refine sr ?_
  refine pv tb 1 rfl ?_
  refine TO_nil ?_
  refine T_seq ?_
  refine sr ?_
  refine pv tb 1 rfl ?_
  refine TO_nil ?_
  obtain ⟨O2_, L2_, N2_⟩ := bind_inv H
  clear H
  obtain ⟨B2_, hb2, L2_⟩ := gen_forL L2_
  refine T_block ?_
  refine T_loopX (fun k => fun (i_1 : Nat) => k = p0.length - i_1 ∧ forL B2_ (p0.drop i_1) (i_1 : Int) () = some O2_) (fun (i_1 : Nat) => [(0, (sl tConflictEdge p0)), (1, (intA a1)), (2, (intA b2)), (7, (intA (i_1 : Int)))]) (fun (i_1 : Nat) => []) _ (0 : Nat) (w0 0) ⟨rfl, L2_⟩ ?_
  rintro _ i_1 ⟨rfl, L2_⟩
  refine T_fact (len_sl (T := tConflictEdge) (.tmp 0) rfl) (fun hl2 => ?_)
  refine T_seq ?_
  refine sr ?_
  refine pv tb 2 rfl ?_
  refine Tp rfl rfl (pur_lenT (T := tConflictEdge) sl25 rfl rfl) rfl ?_
  refine pv tb 1 rfl ?_
  refine TO_nil ?_
  refine T_cond (t := decide ((i_1 : Int) < (p0.length : Int))) rfl (fun d2 => ?_) (fun d2 => ?_)
  ·replace d2 := of_decide_eq_true d2
   obtain ⟨x_i_1, hx_i_1⟩ : ∃ v, (p0)[i_1]? = some v := ⟨_, List.getElem?_eq_getElem (by omega)⟩
   obtain ⟨C2_, H, K2_⟩ := forL_step L2_ hx_i_1
   rw [hb2] at H
   refine T_skip ?_
   refine T_seq ?_
   refine T_block ?_
   refine T_cutX (fun x => ((decide (x_i_1.a = a1)) && (decide (x_i_1.b = b2))) = x) (fun (t29_3 : Bool) => [(0, (sl tConflictEdge p0)), (1, (intA a1)), (2, (intA b2)), (7, (intA (i_1 : Int))), (29, (boolA t29_3))]) (fun (t29_3 : Bool) => []) ?_ ?_
   ·skip
    refine T_region ?_
    refine pv tb 2 rfl ?_
    refine Tp rfl rfl (pur_ixT (T := tConflictEdge) sl25 rfl rfl rfl hx_i_1 rfl) rfl ?_
    refine pv tb 1 rfl ?_
    refine Tp rfl rfl (pur_ldT (T := tConflictEdge) (i := i_1) (off := 0) rfl one3 rfl rfl hx_i_1 rfl) rfl ?_
    refine pv tb 3 rfl ?_
    refine TO_split (t := decide (x_i_1.a = a1)) 21 rfl (fun g_5 => ?_) (fun g_5 => ?_)
    ·skip
     refine pv tb 2 rfl ?_
     refine TO_on rfl rfl (by decide) rfl rfl (TOp_pure (pur_ixT (T := tConflictEdge) sl25 rfl rfl rfl hx_i_1 rfl) rfl ?_)
     refine pv tb 1 rfl ?_
     refine TO_on rfl rfl (by decide) rfl rfl (TOp_pure (pur_ldT (T := tConflictEdge) (i := i_1) (off := 1) rfl one3 rfl rfl hx_i_1 rfl) rfl ?_)
     refine pv tb 3 rfl ?_
     refine TO_nil ?_
     exact joined (decide (x_i_1.b = b2)) (w0 0) (by first | exact Eq.symm ((and_T g_5 rfl)))
    ·skip
     refine pv tb 8 rfl ?_
     refine TO_nil ?_
     exact joined false (w0 0) (by first | exact Eq.symm ((and_F g_5 rfl)))
   ·rintro _ rfl
    refine T_cond (t := ((decide (x_i_1.a = a1)) && (decide (x_i_1.b = b2)))) rfl (fun c_6 => ?_) (fun c_6 => ?_)
    ·replace H := cond_t c_6 H
     refine sr ?_
     refine pv tb 1 rfl ?_
     refine TO_nil ?_
     refine T_ret ?_
     refine block_ret ?_
     refine then_ret ?_
     refine then_ret ?_
     refine block_ret ?_
     refine then_ret ?_
     obtain rfl := some_inj H
     obtain rfl := some_inj K2_
     replace H := onS_r N2_
     obtain rfl := some_inj H
     refine end_ret (.tmp .nil) rfl rfl ⟨?_, rfl⟩
     rfl
    ·replace H := cond_f c_6 H
     refine T_skip ?_
     refine T_region ?_
     refine pv tb 1 rfl ?_
     refine Tp rfl rfl (pur_add rfl rfl rfl (fits64 (by omega) (by omega))) rfl ?_
     refine pv tb 1 rfl ?_
     refine TO_nil ?_
     obtain rfl := some_inj H
     exact again (p0.length - (i_1 + 1)) (i_1 + 1) (by omega) (w0 0) ⟨rfl, K2_⟩
  ·replace d2 := of_decide_eq_false d2
   obtain rfl := forL_end L2_ (by omega)
   refine T_exit ?_
   refine then_exit ?_
   refine then_exit ?_
   refine block_exit ?_
   replace H := onS_l N2_
   refine sr ?_
   refine pv tb 1 rfl ?_
   refine TO_nil ?_
   refine T_ret ?_
   obtain rfl := some_inj H
   refine end_ret (.tmp .nil) rfl rfl ⟨?_, rfl⟩
   rfl

set_option maxHeartbeats 1000000 in
theorem m_spec_l1In_ok (x0 : Int) (low1 : Int) (high2 : Int) (r : Bool) (H : m_spec_l1In x0 low1 high2 = some r) : FnV prg 76 [(intA x0), (intA low1), (intA high2)] (boolA r) := by
  unfold m_spec_l1In at H
  refine fnV_of_T Try.func76 rfl rfl (Nat.le_of_ble_eq_true rfl) ?_
  refine te [(0, (intA x0)), (1, (intA low1)), (2, (intA high2))] rfl ?_
  refine sr ?_
  refine pv tb 1 rfl ?_
  refine TO_nil ?_
  refine T_cutX (fun x => ((decide (low1 ≤ x0)) && (decide (x0 ≤ high2))) = x) (fun (t6_1 : Bool) => [(6, (boolA t6_1))]) (fun (t6_1 : Bool) => []) ?_ ?_
  ·skip
   refine T_region ?_
   refine pv tb 4 rfl ?_
   refine TO_split (t := decide (low1 ≤ x0)) 10 rfl (fun g_3 => ?_) (fun g_3 => ?_)
   ·skip
    refine pv tb 5 rfl ?_
    refine TO_nil ?_
    exact joined (decide (x0 ≤ high2)) (w0 0) (by first | exact Eq.symm ((and_T g_3 rfl)))
   ·skip
    refine pv tb 5 rfl ?_
    refine TO_nil ?_
    exact joined false (w0 0) (by first | exact Eq.symm ((and_F g_3 rfl)))
  ·rintro _ rfl
   refine T_ret ?_
   obtain rfl := some_inj H
   refine end_ret (.tmp .nil) rfl rfl ⟨?_, rfl⟩
   rfl

set_option maxHeartbeats 1000000 in
theorem m_spec_AreValidEdges_ok (n0 : Int) (l1 : (List ConflictEdge)) (r : Bool) (H : m_spec_AreValidEdges n0 l1 = some r) : FnV prg 45 [(intA n0), (sl tConflictEdge l1)] (boolA r) := by
  unfold m_spec_AreValidEdges at H
  refine fnV_of_T Try.func45 rfl rfl (Nat.le_of_ble_eq_true rfl) ?_
  refine te [(0, (intA n0)), (1, (sl tConflictEdge l1))] rfl ?_
  refine sr ?_
  refine pv tb 1 rfl ?_
  refine TO_nil ?_
  refine T_seq ?_
  refine sr ?_
  refine pv tb 1 rfl ?_
  refine TO_nil ?_
  obtain ⟨O2_, L2_, N2_⟩ := bind_inv H
  clear H
  obtain ⟨B2_, hb2, L2_⟩ := gen_forL L2_
  refine T_block ?_
  refine T_loopX (fun k => fun (i_1 : Nat) => k = l1.length - i_1 ∧ forL B2_ (l1.drop i_1) (i_1 : Int) () = some O2_) (fun (i_1 : Nat) => [(0, (intA n0)), (1, (sl tConflictEdge l1)), (5, (intA (i_1 : Int)))]) (fun (i_1 : Nat) => []) _ (0 : Nat) (w0 0) ⟨rfl, L2_⟩ ?_
  rintro _ i_1 ⟨rfl, L2_⟩
  refine T_fact (len_sl (T := tConflictEdge) (.tmp 1) rfl) (fun hl2 => ?_)
  refine T_seq ?_
  refine sr ?_
  refine pv tb 2 rfl ?_
  refine Tp rfl rfl (pur_lenT (T := tConflictEdge) sl25 rfl rfl) rfl ?_
  refine pv tb 1 rfl ?_
  refine TO_nil ?_
  refine T_cond (t := decide ((i_1 : Int) < (l1.length : Int))) rfl (fun d2 => ?_) (fun d2 => ?_)
  ·replace d2 := of_decide_eq_true d2
   obtain ⟨x_i_1, hx_i_1⟩ : ∃ v, (l1)[i_1]? = some v := ⟨_, List.getElem?_eq_getElem (by omega)⟩
   obtain ⟨C2_, H, K2_⟩ := forL_step L2_ hx_i_1
   rw [hb2] at H
   refine T_skip ?_
   refine T_seq ?_
   refine T_block ?_
   obtain ⟨t81_3, J_3, H_4⟩ := bind_inv H
   refine T_cutX (fun x => t81_3 = x) (fun (t81_3 : Bool) => [(0, (intA n0)), (1, (sl tConflictEdge l1)), (5, (intA (i_1 : Int))), (81, (boolA t81_3))]) (fun (t81_3 : Bool) => []) ?_ ?_
   ·replace H := J_3
    refine T_regionD mixed (by kernel_rfl) ?_
    refine pq tb 2 rfl ?_
    refine TQ_pure rfl (pur_ixT (T := tConflictEdge) sl25 rfl rfl rfl hx_i_1 rfl) rfl ?_
    refine pq tb 1 rfl ?_
    refine TQ_pure rfl (pur_ldT (T := tConflictEdge) (i := i_1) (off := 0) rfl one3 rfl rfl hx_i_1 rfl) rfl ?_
    refine pq tb 2 rfl ?_
    refine TQ_pure rfl (pur_ixT (T := tConflictEdge) sl25 rfl rfl rfl hx_i_1 rfl) rfl ?_
    refine pq tb 1 rfl ?_
    refine TQ_pure rfl (pur_ldT (T := tConflictEdge) (i := i_1) (off := 1) rfl one3 rfl rfl hx_i_1 rfl) rfl ?_
    obtain ⟨r_5, h_6, H⟩ := bind_inv H
    refine pq tb 1 rfl ?_
    refine TQ_callV rfl (call_static ent76 rfl) (m_spec_l1In_ok _ _ _ _ h_6) rfl rfl ?_
    refine pq tb 2 rfl ?_
    refine TQ_split (t := (!r_5)) 25 rfl (fun g_7 => ?_) (fun g_7 => ?_)
    ·replace H := cond_t g_7 H
     refine pq tb 8 rfl ?_
     refine tqe [(0, (intA n0)), (1, (sl tConflictEdge l1)), (5, (intA (i_1 : Int))), (25, (boolA true)), (33, (.v undef))] rfl ?_
     refine pq tb 24 rfl ?_
     refine tqe [(0, (intA n0)), (1, (sl tConflictEdge l1)), (5, (intA (i_1 : Int))), (36, (boolA true)), (39, (.v undef)), (52, (.v undef)), (57, (.v undef))] rfl ?_
     refine pq tb 24 rfl ?_
     refine TQ_nil ?_
     exact joined true (w0 0) (some_inj H).symm
    ·replace H := cond_f g_7 H
     refine pq tb 2 rfl ?_
     refine TQ_on rfl rfl (by decide) rfl (pur_ixT (T := tConflictEdge) sl25 rfl rfl rfl hx_i_1 rfl) rfl ?_
     refine pq tb 1 rfl ?_
     refine TQ_on rfl rfl (by decide) rfl (pur_ldT (T := tConflictEdge) (i := i_1) (off := 1) rfl one3 rfl rfl hx_i_1 rfl) rfl ?_
     obtain ⟨r_8, h_9, H⟩ := bind_inv H
     refine pq tb 2 rfl ?_
     refine TQ_onV rfl rfl (by decide) rfl (call_static ent76 rfl) (m_spec_l1In_ok _ _ _ _ h_9) rfl rfl ?_
     refine tqe [(0, (intA n0)), (1, (sl tConflictEdge l1)), (5, (intA (i_1 : Int))), (25, (boolA false)), (33, (boolA r_8))] rfl ?_
     refine pq tb 3 rfl ?_
     refine TQ_split (t := (!r_8)) 36 rfl (fun g_10 => ?_) (fun g_10 => ?_)
     ·replace H := cond_t g_10 H
      refine pq tb 16 rfl ?_
      refine tqe [(0, (intA n0)), (1, (sl tConflictEdge l1)), (5, (intA (i_1 : Int))), (36, (boolA true)), (39, (.v undef)), (52, (.v undef))] rfl ?_
      refine pq tb 24 rfl ?_
      refine tqe [(0, (intA n0)), (1, (sl tConflictEdge l1)), (5, (intA (i_1 : Int))), (36, (boolA true)), (39, (.v undef)), (52, (.v undef)), (65, (.v undef)), (70, (.v undef)), (76, (.v undef))] rfl ?_
      refine pq tb 5 rfl ?_
      refine TQ_nil ?_
      exact joined true (w0 0) (some_inj H).symm
     ·replace H := cond_f g_10 H
      refine pq tb 3 rfl ?_
      refine TQ_split (t := decide (0 < (i_1 : Int))) 39 rfl (fun g_11 => ?_) (fun g_11 => ?_)
      ·replace H := cond_t g_11 H
       refine pq tb 2 rfl ?_
       refine TQ_on rfl rfl (by decide) rfl (pur_ixT (T := tConflictEdge) sl25 rfl rfl rfl hx_i_1 rfl) rfl ?_
       refine pq tb 1 rfl ?_
       refine TQ_on rfl rfl (by decide) rfl (pur_ldT (T := tConflictEdge) (i := i_1) (off := 0) rfl one3 rfl rfl hx_i_1 rfl) rfl ?_
       refine pq tb 2 rfl ?_
       refine TQ_on rfl rfl (by decide) rfl (pur_sub rfl rfl rfl (fits64 (by omega) (by omega))) rfl ?_
       obtain ⟨v_12, h_13, H⟩ := bind_inv H
       obtain ⟨n_14, hz_15, hv_16⟩ := getI_inv h_13
       refine TQ_on rfl rfl (by decide) rfl (pur_ixT (T := tConflictEdge) sl25 rfl rfl hz_15 hv_16 rfl) rfl ?_
       refine pq tb 1 rfl ?_
       refine TQ_on rfl rfl (by decide) rfl (pur_ldT (T := tConflictEdge) (i := n_14) (off := 0) rfl one3 rfl rfl hv_16 rfl) rfl ?_
       refine pq tb 2 rfl ?_
       refine TQ_split (t := decide (x_i_1.a < v_12.a)) 52 rfl (fun g_17 => ?_) (fun g_17 => ?_)
       ·replace H := cond_t g_17 H
        refine pq tb 8 rfl ?_
        refine tqe [(0, (intA n0)), (1, (sl tConflictEdge l1)), (5, (intA (i_1 : Int))), (36, (boolA false)), (39, (boolA true)), (52, (boolA true)), (57, (.v undef)), (58, (.v undef)), (60, (.v undef))] rfl ?_
        refine pq tb 16 rfl ?_
        refine tqe [(0, (intA n0)), (1, (sl tConflictEdge l1)), (5, (intA (i_1 : Int))), (36, (boolA false)), (39, (boolA true)), (52, (boolA true)), (65, (.v undef)), (70, (.v undef)), (76, (.v undef))] rfl ?_
        refine pq tb 5 rfl ?_
        refine TQ_nil ?_
        exact joined true (w0 0) (some_inj H).symm
       ·replace H := cond_f g_17 H
        refine pq tb 2 rfl ?_
        refine TQ_on rfl rfl (by decide) rfl (pur_ixT (T := tConflictEdge) sl25 rfl rfl rfl hx_i_1 rfl) rfl ?_
        refine pq tb 1 rfl ?_
        refine TQ_on rfl rfl (by decide) rfl (pur_ldT (T := tConflictEdge) (i := i_1) (off := 0) rfl one3 rfl rfl hx_i_1 rfl) rfl ?_
        refine pq tb 2 rfl ?_
        refine TQ_on rfl rfl (by decide) rfl (pur_sub rfl rfl rfl (fits64 (by omega) (by omega))) rfl ?_
        refine tqe [(0, (intA n0)), (1, (sl tConflictEdge l1)), (5, (intA (i_1 : Int))), (36, (boolA false)), (39, (boolA true)), (52, (boolA false)), (57, (intA x_i_1.a)), (58, (sl tConflictEdge l1)), (60, (intA ((i_1 : Int) - 1)))] rfl ?_
        refine TQ_on rfl rfl (by decide) rfl (pur_ixT (T := tConflictEdge) sl25 rfl rfl hz_15 hv_16 rfl) rfl ?_
        refine pq tb 1 rfl ?_
        refine TQ_on rfl rfl (by decide) rfl (pur_ldT (T := tConflictEdge) (i := n_14) (off := 0) rfl one3 rfl rfl hv_16 rfl) rfl ?_
        refine pq tb 2 rfl ?_
        refine TQ_split (t := decide (x_i_1.a = v_12.a)) 65 rfl (fun g_18 => ?_) (fun g_18 => ?_)
        ·replace H := cond_t g_18 H
         refine pq tb 2 rfl ?_
         refine TQ_on rfl rfl (by decide) rfl (pur_ixT (T := tConflictEdge) sl25 rfl rfl rfl hx_i_1 rfl) rfl ?_
         refine pq tb 1 rfl ?_
         refine TQ_on rfl rfl (by decide) rfl (pur_ldT (T := tConflictEdge) (i := i_1) (off := 1) rfl one3 rfl rfl hx_i_1 rfl) rfl ?_
         refine pq tb 2 rfl ?_
         refine TQ_on rfl rfl (by decide) rfl (pur_sub rfl rfl rfl (fits64 (by omega) (by omega))) rfl ?_
         refine TQ_on rfl rfl (by decide) rfl (pur_ixT (T := tConflictEdge) sl25 rfl rfl hz_15 hv_16 rfl) rfl ?_
         refine pq tb 1 rfl ?_
         refine TQ_on rfl rfl (by decide) rfl (pur_ldT (T := tConflictEdge) (i := n_14) (off := 1) rfl one3 rfl rfl hv_16 rfl) rfl ?_
         refine pq tb 5 rfl ?_
         refine TQ_nil ?_
         exact joined (decide (x_i_1.b ≤ v_12.b)) (w0 0) (some_inj H).symm
        ·replace H := cond_f g_18 H
         refine pq tb 16 rfl ?_
         refine TQ_nil ?_
         exact joined false (w0 0) (some_inj H).symm
      ·replace H := cond_f g_11 H
       refine pq tb 16 rfl ?_
       refine tqe [(0, (intA n0)), (1, (sl tConflictEdge l1)), (5, (intA (i_1 : Int))), (36, (boolA false)), (39, (boolA false)), (52, (.v undef)), (55, (.v undef))] rfl ?_
       refine pq tb 26 rfl ?_
       refine TQ_nil ?_
       exact joined false (w0 0) (some_inj H).symm
   ·rintro _ rfl
    replace H := H_4
    refine T_cond (t := t81_3) rfl (fun c_19 => ?_) (fun c_19 => ?_)
    ·replace H := cond_t c_19 H
     refine sr ?_
     refine pv tb 1 rfl ?_
     refine TO_nil ?_
     refine T_ret ?_
     refine block_ret ?_
     refine then_ret ?_
     refine then_ret ?_
     refine block_ret ?_
     refine then_ret ?_
     obtain rfl := some_inj H
     obtain rfl := some_inj K2_
     replace H := onS_r N2_
     obtain rfl := some_inj H
     refine end_ret (.tmp .nil) rfl rfl ⟨?_, rfl⟩
     rfl
    ·replace H := cond_f c_19 H
     refine T_skip ?_
     refine T_region ?_
     refine pv tb 1 rfl ?_
     refine Tp rfl rfl (pur_add rfl rfl rfl (fits64 (by omega) (by omega))) rfl ?_
     refine pv tb 1 rfl ?_
     refine TO_nil ?_
     obtain rfl := some_inj H
     exact again (l1.length - (i_1 + 1)) (i_1 + 1) (by omega) (w0 0) ⟨rfl, K2_⟩
  ·replace d2 := of_decide_eq_false d2
   obtain rfl := forL_end L2_ (by omega)
   refine T_exit ?_
   refine then_exit ?_
   refine then_exit ?_
   refine block_exit ?_
   replace H := onS_l N2_
   refine sr ?_
   obtain ⟨r_20, h_21, H⟩ := bind_inv H
   refine pv tb 1 rfl ?_
   refine TO_cons rfl (TOp_callV (call_static ent76 rfl) (m_spec_l1In_ok _ _ _ _ h_21) rfl rfl rfl ?_)
   refine pv tb 1 rfl ?_
   refine TO_nil ?_
   refine T_ret ?_
   obtain rfl := some_inj H
   refine end_ret (.tmp .nil) rfl rfl ⟨?_, rfl⟩
   rfl

set_option maxHeartbeats 1000000 in
theorem m_spec_l28Edge_ok (l0 : (List ConflictEdge)) (a1 : Int) (b2 : Int) (r : Bool) (H : m_spec_l28Edge l0 a1 b2 = some r) : FnV prg 46 [(sl tConflictEdge l0), (intA a1), (intA b2)] (boolA r) := by
  unfold m_spec_l28Edge at H
  refine fnV_of_T Try.func46 rfl rfl (Nat.le_of_ble_eq_true rfl) ?_
  refine te [(0, (sl tConflictEdge l0)), (1, (intA a1)), (2, (intA b2))] rfl ?_
  refine sr ?_
  refine pv tb 1 rfl ?_
  refine TO_nil ?_
  refine T_seq ?_
  refine sr ?_
  refine pv tb 1 rfl ?_
  refine TO_nil ?_
  obtain ⟨O2_, L2_, N2_⟩ := bind_inv H
  clear H
  obtain ⟨B2_, hb2, L2_⟩ := gen_forL L2_
  refine T_block ?_
  refine T_loopX (fun k => fun (i_1 : Nat) => k = l0.length - i_1 ∧ forL B2_ (l0.drop i_1) (i_1 : Int) () = some O2_) (fun (i_1 : Nat) => [(0, (sl tConflictEdge l0)), (1, (intA a1)), (2, (intA b2)), (7, (intA (i_1 : Int)))]) (fun (i_1 : Nat) => []) _ (0 : Nat) (w0 0) ⟨rfl, L2_⟩ ?_
  rintro _ i_1 ⟨rfl, L2_⟩
  refine T_fact (len_sl (T := tConflictEdge) (.tmp 0) rfl) (fun hl2 => ?_)
  refine T_seq ?_
  refine sr ?_
  refine pv tb 2 rfl ?_
  refine Tp rfl rfl (pur_lenT (T := tConflictEdge) sl25 rfl rfl) rfl ?_
  refine pv tb 1 rfl ?_
  refine TO_nil ?_
  refine T_cond (t := decide ((i_1 : Int) < (l0.length : Int))) rfl (fun d2 => ?_) (fun d2 => ?_)
  ·replace d2 := of_decide_eq_true d2
   obtain ⟨x_i_1, hx_i_1⟩ : ∃ v, (l0)[i_1]? = some v := ⟨_, List.getElem?_eq_getElem (by omega)⟩
   obtain ⟨C2_, H, K2_⟩ := forL_step L2_ hx_i_1
   rw [hb2] at H
   refine T_skip ?_
   refine T_seq ?_
   refine T_block ?_
   refine T_cutX (fun x => ((decide (x_i_1.a = (if b2 < a1 then b2 else a1))) && (decide (x_i_1.b = (if a1 < b2 then b2 else a1)))) = x) (fun (t33_3 : Bool) => [(0, (sl tConflictEdge l0)), (1, (intA a1)), (2, (intA b2)), (7, (intA (i_1 : Int))), (33, (boolA t33_3))]) (fun (t33_3 : Bool) => []) ?_ ?_
   ·skip
    refine T_region ?_
    refine pv tb 2 rfl ?_
    refine Tp rfl rfl (pur_ixT (T := tConflictEdge) sl25 rfl rfl rfl hx_i_1 rfl) rfl ?_
    refine pv tb 1 rfl ?_
    refine Tp rfl rfl (pur_ldT (T := tConflictEdge) (i := i_1) (off := 0) rfl one3 rfl rfl hx_i_1 rfl) rfl ?_
    refine pv tb 2 rfl ?_
    refine Tp rfl rfl (pur_min rfl rfl rfl) rfl ?_
    refine pv tb 2 rfl ?_
    refine TO_split (t := decide (x_i_1.a = (if b2 < a1 then b2 else a1))) 23 rfl (fun g_5 => ?_) (fun g_5 => ?_)
    ·skip
     refine pv tb 2 rfl ?_
     refine TO_on rfl rfl (by decide) rfl rfl (TOp_pure (pur_ixT (T := tConflictEdge) sl25 rfl rfl rfl hx_i_1 rfl) rfl ?_)
     refine pv tb 1 rfl ?_
     refine TO_on rfl rfl (by decide) rfl rfl (TOp_pure (pur_ldT (T := tConflictEdge) (i := i_1) (off := 1) rfl one3 rfl rfl hx_i_1 rfl) rfl ?_)
     refine pv tb 2 rfl ?_
     refine TO_on rfl rfl (by decide) rfl rfl (TOp_pure (pur_max rfl rfl rfl) rfl ?_)
     refine pv tb 2 rfl ?_
     refine TO_nil ?_
     exact joined (decide (x_i_1.b = (if a1 < b2 then b2 else a1))) (w0 0) (by first | exact Eq.symm ((and_T g_5 rfl)))
    ·skip
     refine pv tb 10 rfl ?_
     refine TO_nil ?_
     exact joined false (w0 0) (by first | exact Eq.symm ((and_F g_5 rfl)))
   ·rintro _ rfl
    refine T_cond (t := ((decide (x_i_1.a = (if b2 < a1 then b2 else a1))) && (decide (x_i_1.b = (if a1 < b2 then b2 else a1))))) rfl (fun c_6 => ?_) (fun c_6 => ?_)
    ·replace H := cond_t c_6 H
     refine sr ?_
     refine pv tb 1 rfl ?_
     refine TO_nil ?_
     refine T_ret ?_
     refine block_ret ?_
     refine then_ret ?_
     refine then_ret ?_
     refine block_ret ?_
     refine then_ret ?_
     obtain rfl := some_inj H
     obtain rfl := some_inj K2_
     replace H := onS_r N2_
     obtain rfl := some_inj H
     refine end_ret (.tmp .nil) rfl rfl ⟨?_, rfl⟩
     rfl
    ·replace H := cond_f c_6 H
     refine T_skip ?_
     refine T_region ?_
     refine pv tb 1 rfl ?_
     refine Tp rfl rfl (pur_add rfl rfl rfl (fits64 (by omega) (by omega))) rfl ?_
     refine pv tb 1 rfl ?_
     refine TO_nil ?_
     obtain rfl := some_inj H
     exact again (l0.length - (i_1 + 1)) (i_1 + 1) (by omega) (w0 0) ⟨rfl, K2_⟩
  ·replace d2 := of_decide_eq_false d2
   obtain rfl := forL_end L2_ (by omega)
   refine T_exit ?_
   refine then_exit ?_
   refine then_exit ?_
   refine block_exit ?_
   replace H := onS_l N2_
   refine sr ?_
   refine pv tb 1 rfl ?_
   refine TO_nil ?_
   refine T_ret ?_
   obtain rfl := some_inj H
   refine end_ret (.tmp .nil) rfl rfl ⟨?_, rfl⟩
   rfl

set_option maxHeartbeats 1000000 in
theorem m_spec_IsValidPreference_ok (n0 : Int) (l1 : (List ConflictEdge)) (p2 : (List ConflictEdge)) (r : Bool) (H : m_spec_IsValidPreference n0 l1 p2 = some r) : FnV prg 16 [(intA n0), (sl tConflictEdge l1), (sl tConflictEdge p2)] (boolA r) := by
  unfold m_spec_IsValidPreference at H
  refine fnV_of_T Try.func16 rfl rfl (Nat.le_of_ble_eq_true rfl) ?_
  refine te [(0, (intA n0)), (1, (sl tConflictEdge l1)), (2, (sl tConflictEdge p2))] rfl ?_
  refine sr ?_
  refine pv tb 1 rfl ?_
  refine TO_nil ?_
  refine T_seq ?_
  refine sr ?_
  obtain ⟨r_1, h_2, H⟩ := bind_inv H
  refine pv tb 2 rfl ?_
  refine TO_cons rfl (TOp_callV (call_static ent45 rfl) (m_spec_AreValidEdges_ok _ _ _ h_2) rfl rfl rfl ?_)
  refine pv tb 1 rfl ?_
  refine TO_nil ?_
  refine T_cond (t := (!r_1)) rfl (fun c_3 => ?_) (fun c_3 => ?_)
  ·replace H := cond_t c_3 H
   refine sr ?_
   refine pv tb 1 rfl ?_
   refine TO_nil ?_
   refine T_ret ?_
   refine then_ret ?_
   obtain rfl := some_inj H
   refine end_ret (.tmp .nil) rfl rfl ⟨?_, rfl⟩
   rfl
  ·replace H := cond_f c_3 H
   refine T_skip ?_
   refine T_seq ?_
   refine sr ?_
   refine pv tb 1 rfl ?_
   refine TO_nil ?_
   obtain ⟨O5_, L5_, N5_⟩ := bind_inv H
   clear H
   obtain ⟨B5_, hb5, L5_⟩ := gen_forL L5_
   refine T_block ?_
   refine T_loopX (fun k => fun (i_4 : Nat) => k = p2.length - i_4 ∧ forL B5_ (p2.drop i_4) (i_4 : Int) () = some O5_) (fun (i_4 : Nat) => [(0, (intA n0)), (1, (sl tConflictEdge l1)), (2, (sl tConflictEdge p2)), (7, (intA (i_4 : Int)))]) (fun (i_4 : Nat) => []) _ (0 : Nat) (w0 0) ⟨rfl, L5_⟩ ?_
   rintro _ i_4 ⟨rfl, L5_⟩
   refine T_fact (len_sl (T := tConflictEdge) (.tmp 2) rfl) (fun hl5 => ?_)
   refine T_seq ?_
   refine sr ?_
   refine pv tb 2 rfl ?_
   refine Tp rfl rfl (pur_lenT (T := tConflictEdge) sl25 rfl rfl) rfl ?_
   refine pv tb 1 rfl ?_
   refine TO_nil ?_
   refine T_cond (t := decide ((i_4 : Int) < (p2.length : Int))) rfl (fun d5 => ?_) (fun d5 => ?_)
   ·replace d5 := of_decide_eq_true d5
    obtain ⟨x_i_4, hx_i_4⟩ : ∃ v, (p2)[i_4]? = some v := ⟨_, List.getElem?_eq_getElem (by omega)⟩
    obtain ⟨C5_, H, K5_⟩ := forL_step L5_ hx_i_4
    rw [hb5] at H
    refine T_skip ?_
    refine T_seq ?_
    refine T_block ?_
    obtain ⟨t49_6, J_6, H_7⟩ := bind_inv H
    refine T_cutX (fun x => t49_6 = x) (fun (t49_6 : Bool) => [(0, (intA n0)), (1, (sl tConflictEdge l1)), (2, (sl tConflictEdge p2)), (7, (intA (i_4 : Int))), (49, (boolA t49_6))]) (fun (t49_6 : Bool) => []) ?_ ?_
    ·replace H := J_6
     refine T_regionD mixed (by kernel_rfl) ?_
     refine pq tb 2 rfl ?_
     refine TQ_pure rfl (pur_ixT (T := tConflictEdge) sl25 rfl rfl rfl hx_i_4 rfl) rfl ?_
     refine pq tb 1 rfl ?_
     refine TQ_pure rfl (pur_ldT (T := tConflictEdge) (i := i_4) (off := 0) rfl one3 rfl rfl hx_i_4 rfl) rfl ?_
     refine pq tb 2 rfl ?_
     refine TQ_pure rfl (pur_ixT (T := tConflictEdge) sl25 rfl rfl rfl hx_i_4 rfl) rfl ?_
     refine pq tb 1 rfl ?_
     refine TQ_pure rfl (pur_ldT (T := tConflictEdge) (i := i_4) (off := 1) rfl one3 rfl rfl hx_i_4 rfl) rfl ?_
     refine pq tb 2 rfl ?_
     refine TQ_split (t := decide (x_i_4.a = x_i_4.b)) 35 rfl (fun g_8 => ?_) (fun g_8 => ?_)
     ·replace H := cond_t g_8 H
      refine pq tb 8 rfl ?_
      refine tqe [(0, (intA n0)), (1, (sl tConflictEdge l1)), (2, (sl tConflictEdge p2)), (7, (intA (i_4 : Int))), (35, (boolA true)), (36, (.v undef)), (41, (.v undef)), (42, (.v undef)), (43, (.v undef))] rfl ?_
      refine pq tb 6 rfl ?_
      refine TQ_nil ?_
      exact joined true (w0 0) (some_inj H).symm
     ·replace H := cond_f g_8 H
      refine pq tb 3 rfl ?_
      refine TQ_on rfl rfl (by decide) rfl (pur_ixT (T := tConflictEdge) sl25 rfl rfl rfl hx_i_4 rfl) rfl ?_
      refine pq tb 1 rfl ?_
      refine TQ_on rfl rfl (by decide) rfl (pur_ldT (T := tConflictEdge) (i := i_4) (off := 0) rfl one3 rfl rfl hx_i_4 rfl) rfl ?_
      refine pq tb 2 rfl ?_
      refine tqe [(0, (intA n0)), (1, (sl tConflictEdge l1)), (2, (sl tConflictEdge p2)), (7, (intA (i_4 : Int))), (35, (boolA false)), (36, (sl tConflictEdge l1)), (41, (intA x_i_4.a)), (42, (sl tConflictEdge p2)), (43, (intA (i_4 : Int)))] rfl ?_
      refine TQ_on rfl rfl (by decide) rfl (pur_ixT (T := tConflictEdge) sl25 rfl rfl rfl hx_i_4 rfl) rfl ?_
      refine pq tb 1 rfl ?_
      refine TQ_on rfl rfl (by decide) rfl (pur_ldT (T := tConflictEdge) (i := i_4) (off := 1) rfl one3 rfl rfl hx_i_4 rfl) rfl ?_
      obtain ⟨r_9, h_10, H⟩ := bind_inv H
      refine TQ_onV rfl rfl (by decide) rfl (call_static ent46 rfl) (m_spec_l28Edge_ok _ _ _ _ h_10) rfl rfl ?_
      refine pq tb 2 rfl ?_
      refine TQ_nil ?_
      exact joined (!r_9) (w0 0) (some_inj H).symm
    ·rintro _ rfl
     replace H := H_7
     refine T_cond (t := t49_6) rfl (fun c_11 => ?_) (fun c_11 => ?_)
     ·replace H := cond_t c_11 H
      refine sr ?_
      refine pv tb 1 rfl ?_
      refine TO_nil ?_
      refine T_ret ?_
      refine block_ret ?_
      refine then_ret ?_
      refine then_ret ?_
      refine block_ret ?_
      refine then_ret ?_
      obtain rfl := some_inj H
      obtain rfl := some_inj K5_
      replace H := onS_r N5_
      obtain rfl := some_inj H
      refine end_ret (.tmp .nil) rfl rfl ⟨?_, rfl⟩
      rfl
     ·replace H := cond_f c_11 H
      refine T_skip ?_
      refine T_region ?_
      refine pv tb 1 rfl ?_
      refine Tp rfl rfl (pur_add rfl rfl rfl (fits64 (by omega) (by omega))) rfl ?_
      refine pv tb 1 rfl ?_
      refine TO_nil ?_
      obtain rfl := some_inj H
      exact again (p2.length - (i_4 + 1)) (i_4 + 1) (by omega) (w0 0) ⟨rfl, K5_⟩
   ·replace d5 := of_decide_eq_false d5
    obtain rfl := forL_end L5_ (by omega)
    refine T_exit ?_
    refine then_exit ?_
    refine then_exit ?_
    refine block_exit ?_
    replace H := onS_l N5_
    refine sr ?_
    obtain ⟨us_12, h_13, H⟩ := bind_inv H
    refine pv tb 1 rfl ?_
    refine TO_cons rfl (TOp_makeT (T := tBool) (z := false) rfl sl58 zero4 rfl bytes4 rfl rfl rfl rfl h_13 ?_)
    refine pv tb 1 rfl ?_
    refine TO_nil ?_
    refine T_seq ?_
    refine sr ?_
    refine pv tb 1 rfl ?_
    refine TO_nil ?_
    obtain ⟨_, h_16, H⟩ := bind_inv H
    replace h_16 := gN_inv h_16
    obtain ⟨O15_, L15_, N15_⟩ := bind_inv H
    clear H
    obtain ⟨B15_, hb15, L15_⟩ := gen_forM L15_
    refine T_block ?_
    refine T_loopX (fun k => fun (⟨k_14, gone8⟩ : Int × (List Bool)) => k = (n0 - k_14).toNat ∧ 0 ≤ k_14 ∧ forM B15_ (n0 - k_14).toNat k_14 gone8 = some O15_) (fun (⟨k_14, gone8⟩ : Int × (List Bool)) => [(0, (intA n0)), (2, (sl tConflictEdge p2)), (8, (.m [0] 0 gone8.length tBool.k)), (9, (intA (k_14 : Int)))]) (fun (⟨k_14, gone8⟩ : Int × (List Bool)) => [.row (flat tBool.enc gone8)]) _ (0, us_12) (w0 1) ⟨rfl, Int.le_refl _, L15_⟩ ?_
    rintro _ ⟨k_14, gone8⟩ ⟨rfl, hi15, L15_⟩
    refine T_seq ?_
    refine sr ?_
    refine pv tb 3 rfl ?_
    refine TO_nil ?_
    refine T_cond (t := decide ((k_14 : Int) < n0)) rfl (fun d15 => ?_) (fun d15 => ?_)
    ·replace d15 := of_decide_eq_true d15
     obtain ⟨C15_, H, K15_⟩ := forM_step L15_ d15
     rw [hb15] at H
     refine T_skip ?_
     refine T_seq ?_
     refine T_block ?_
     refine sr ?_
     refine pv tb 1 rfl ?_
     refine TO_nil ?_
     obtain ⟨_, h_19, H⟩ := bind_inv H
     replace h_19 := gN_inv h_19
     obtain ⟨O18_, L18_, N18_⟩ := bind_inv H
     clear H
     obtain ⟨B18_, hb18, L18_⟩ := gen_forM L18_
     refine T_block ?_
     refine T_loopX (fun k => fun (⟨x_17, gone8⟩ : Int × (List Bool)) => k = (n0 - x_17).toNat ∧ 0 ≤ x_17 ∧ forM B18_ (n0 - x_17).toNat x_17 gone8 = some O18_) (fun (⟨x_17, gone8⟩ : Int × (List Bool)) => [(0, (intA n0)), (2, (sl tConflictEdge p2)), (8, (.m [0] 0 gone8.length tBool.k)), (9, (intA (k_14 : Int))), (10, (intA (x_17 : Int)))]) (fun (⟨x_17, gone8⟩ : Int × (List Bool)) => [.row (flat tBool.enc gone8)]) _ (0, gone8) (w0 1) ⟨rfl, Int.le_refl _, L18_⟩ ?_
     rintro _ ⟨x_17, gone8⟩ ⟨rfl, hi18, L18_⟩
     refine T_seq ?_
     refine sr ?_
     refine pv tb 3 rfl ?_
     refine TO_nil ?_
     refine T_cond (t := decide ((x_17 : Int) < n0)) rfl (fun d18 => ?_) (fun d18 => ?_)
     ·replace d18 := of_decide_eq_true d18
      obtain ⟨C18_, H, K18_⟩ := forM_step L18_ d18
      rw [hb18] at H
      refine T_skip ?_
      refine T_seq ?_
      refine T_block ?_
      refine sr ?_
      refine pv tb 1 rfl ?_
      refine TO_nil ?_
      refine T_seq ?_
      refine sr ?_
      refine pv tb 1 rfl ?_
      refine TO_nil ?_
      obtain ⟨O21_, L21_, N21_⟩ := bind_inv H
      clear H
      obtain ⟨B21_, hb21, L21_⟩ := gen_forS L21_
      refine T_block ?_
      refine T_loopX (fun k => fun (⟨i_20, free11⟩ : Nat × Bool) => k = p2.length - i_20 ∧ forS B21_ (p2.drop i_20) (i_20 : Int) free11 = some O21_) (fun (⟨i_20, free11⟩ : Nat × Bool) => [(0, (intA n0)), (2, (sl tConflictEdge p2)), (8, (.m [0] 0 gone8.length tBool.k)), (9, (intA (k_14 : Int))), (10, (intA (x_17 : Int))), (11, (boolA free11)), (12, (intA (i_20 : Int)))]) (fun (⟨i_20, free11⟩ : Nat × Bool) => [.row (flat tBool.enc gone8)]) _ (0, true) (w0 1) ⟨rfl, L21_⟩ ?_
      rintro _ ⟨i_20, free11⟩ ⟨rfl, L21_⟩
      refine T_fact (len_sl (T := tConflictEdge) (.tmp 2) rfl) (fun hl21 => ?_)
      refine T_seq ?_
      refine sr ?_
      refine pv tb 2 rfl ?_
      refine Tp rfl rfl (pur_lenT (T := tConflictEdge) sl25 rfl rfl) rfl ?_
      refine pv tb 1 rfl ?_
      refine TO_nil ?_
      refine T_cond (t := decide ((i_20 : Int) < (p2.length : Int))) rfl (fun d21 => ?_) (fun d21 => ?_)
      ·replace d21 := of_decide_eq_true d21
       obtain ⟨x_i_20, hx_i_20⟩ : ∃ v, (p2)[i_20]? = some v := ⟨_, List.getElem?_eq_getElem (by omega)⟩
       obtain ⟨C21_, H, K21_⟩ := forS_step L21_ hx_i_20
       rw [hb21] at H
       refine T_skip ?_
       refine T_seq ?_
       refine T_block ?_
       refine T_region ?_
       refine pv tb 2 rfl ?_
       refine TO_split (t := free11) 69 rfl (fun g_22 => ?_) (fun g_22 => ?_)
       ·replace H := cond_t g_22 H
        refine pv tb 2 rfl ?_
        refine TO_on rfl rfl (by decide) rfl rfl (TOp_pure (pur_ixT (T := tConflictEdge) sl25 rfl rfl rfl hx_i_20 rfl) rfl ?_)
        refine pv tb 1 rfl ?_
        refine TO_on rfl rfl (by decide) rfl rfl (TOp_pure (pur_ldT (T := tConflictEdge) (i := i_20) (off := 1) rfl one3 rfl rfl hx_i_20 rfl) rfl ?_)
        refine pv tb 3 rfl ?_
        refine TO_split (t := decide (x_i_20.b ≠ (x_17 : Int))) 77 rfl (fun g_23 => ?_) (fun g_23 => ?_)
        ·replace H := cond_t g_23 H
         refine pv tb 8 rfl ?_
         refine toe [(0, (intA n0)), (2, (sl tConflictEdge p2)), (8, (.m [0] 0 gone8.length tBool.k)), (9, (intA (k_14 : Int))), (10, (intA (x_17 : Int))), (11, (boolA free11)), (12, (intA (i_20 : Int))), (69, (boolA true)), (77, (boolA true)), (85, (.v undef))] rfl ?_
         refine pv tb 3 rfl ?_
         refine TO_nil ?_
         refine T_region ?_
         refine pv tb 1 rfl ?_
         refine Tp rfl rfl (pur_add rfl rfl rfl (fits64 (by omega) (by omega))) rfl ?_
         refine pv tb 1 rfl ?_
         refine TO_nil ?_
         obtain rfl := some_inj H
         exact again (p2.length - (i_20 + 1)) (i_20 + 1, true) (by omega) (w0 1) ⟨rfl, K21_⟩
        ·replace H := cond_f g_23 H
         refine pv tb 3 rfl ?_
         refine TO_on rfl rfl (by decide) rfl rfl (TOp_pure (pur_ixT (T := tConflictEdge) sl25 rfl rfl rfl hx_i_20 rfl) rfl ?_)
         refine pv tb 1 rfl ?_
         refine TO_on rfl rfl (by decide) rfl rfl (TOp_pure (pur_ldT (T := tConflictEdge) (i := i_20) (off := 0) rfl one3 rfl rfl hx_i_20 rfl) rfl ?_)
         obtain ⟨v_24, h_25, H⟩ := bind_inv H
         obtain ⟨n_26, hz_27, hv_28⟩ := getI_inv h_25
         refine TO_on rfl rfl (by decide) rfl rfl (TOp_pure (pur_ixM (T := tBool) sl58 rfl rfl hz_27 hv_28 rfl) rfl ?_)
         refine TO_on rfl rfl (by decide) rfl rfl (TOp_pure (pur_ldE (f := tBool.enc) (k := tBool.k) (i := n_26) (off := 0) tBool.len rfl one4 rfl rfl rfl hv_28 rfl rfl) rfl ?_)
         refine toe [(0, (intA n0)), (2, (sl tConflictEdge p2)), (8, (.m [0] 0 gone8.length tBool.k)), (9, (intA (k_14 : Int))), (10, (intA (x_17 : Int))), (11, (boolA free11)), (12, (intA (i_20 : Int))), (69, (boolA true)), (77, (boolA false)), (85, (boolA v_24))] rfl ?_
         refine pv tb 3 rfl ?_
         refine TO_nil ?_
         refine T_region ?_
         refine pv tb 1 rfl ?_
         refine Tp rfl rfl (pur_add rfl rfl rfl (fits64 (by omega) (by omega))) rfl ?_
         refine pv tb 1 rfl ?_
         refine TO_nil ?_
         obtain rfl := some_inj H
         exact again (p2.length - (i_20 + 1)) (i_20 + 1, v_24) (by omega) (w0 1) ⟨rfl, K21_⟩
       ·replace H := cond_f g_22 H
        refine pv tb 16 rfl ?_
        refine toe [(0, (intA n0)), (2, (sl tConflictEdge p2)), (8, (.m [0] 0 gone8.length tBool.k)), (9, (intA (k_14 : Int))), (10, (intA (x_17 : Int))), (11, (boolA free11)), (12, (intA (i_20 : Int))), (69, (boolA false)), (77, (.v undef)), (85, (.v undef))] rfl ?_
        refine pv tb 3 rfl ?_
        refine TO_nil ?_
        refine T_region ?_
        refine pv tb 1 rfl ?_
        refine Tp rfl rfl (pur_add rfl rfl rfl (fits64 (by omega) (by omega))) rfl ?_
        refine pv tb 1 rfl ?_
        refine TO_nil ?_
        obtain rfl := some_inj H
        exact again (p2.length - (i_20 + 1)) (i_20 + 1, false) (by omega) (w0 1) ⟨rfl, K21_⟩
      ·replace d21 := of_decide_eq_false d21
       obtain rfl := forS_end L21_ (by omega)
       refine T_exit ?_
       refine then_exit ?_
       refine then_exit ?_
       refine block_exit ?_
       replace H := N21_
       refine sr ?_
       refine pv tb 1 rfl ?_
       refine TO_nil ?_
       refine T_cond (t := free11) rfl (fun c_29 => ?_) (fun c_29 => ?_)
       ·replace H := cond_t c_29 H
        refine T_region ?_
        obtain ⟨v_30, h_31, H⟩ := bind_inv H
        obtain ⟨n_32, hz_33, hv_34⟩ := getI_inv h_31
        refine pv tb 2 rfl ?_
        refine Tp rfl rfl (pur_ixM (T := tBool) sl58 rfl rfl hz_33 hv_34 rfl) rfl ?_
        refine TO_cons rfl (TOp_setT (f := tBool.enc) (z := (x_17 : Int)) (y := true) tBool.len tBool.pos hz_33 sz4 rfl rfl rfl rfl rfl hv_34 rfl rfl ?_)
        refine TO_env (E' := [(0, (intA n0)), (2, (sl tConflictEdge p2)), (8, (.m [0] 0 (gone8.set ((x_17 : Int)).toNat true).length tBool.k)), (9, (intA (k_14 : Int))), (10, (intA (x_17 : Int))), (88, (boolA free11)), (89, (.m [0] 0 (gone8.set ((x_17 : Int)).toNat true).length tBool.k)), (90, (intA (x_17 : Int)))]) ⟨rfl, rfl, (congrArg (fun q => A.m [0] 0 q tBool.k) (List.length_set ..).symm), rfl, rfl, rfl, (congrArg (fun q => A.m [0] 0 q tBool.k) (List.length_set ..).symm), rfl, trivial⟩ ?_
        refine TO_st (σ' := [.row (flat tBool.enc (gone8.set ((x_17 : Int)).toNat true))]) rfl ?_
        refine TO_nil ?_
        refine T_region ?_
        refine pv tb 1 rfl ?_
        refine Tp rfl rfl (pur_add rfl rfl rfl (fits64 (by omega) (by omega))) rfl ?_
        refine pv tb 1 rfl ?_
        refine TO_nil ?_
        obtain rfl := some_inj H
        exact again (n0 - (x_17 + 1)).toNat (x_17 + 1, (gone8.set ((x_17 : Int)).toNat true)) (by omega) (w0 1) ⟨rfl, by omega, K18_⟩
       ·replace H := cond_f c_29 H
        refine T_skip ?_
        refine T_region ?_
        refine pv tb 1 rfl ?_
        refine Tp rfl rfl (pur_add rfl rfl rfl (fits64 (by omega) (by omega))) rfl ?_
        refine pv tb 1 rfl ?_
        refine TO_nil ?_
        obtain rfl := some_inj H
        exact again (n0 - (x_17 + 1)).toNat (x_17 + 1, gone8) (by omega) (w0 1) ⟨rfl, by omega, K18_⟩
     ·replace d18 := of_decide_eq_false d18
      obtain rfl := forM_end L18_ (by omega)
      refine T_exit ?_
      refine then_exit ?_
      refine then_exit ?_
      refine block_exit ?_
      replace H := N18_
      refine T_region ?_
      refine pv tb 1 rfl ?_
      refine Tp rfl rfl (pur_add rfl rfl rfl (fits64 (by omega) (by omega))) rfl ?_
      refine pv tb 1 rfl ?_
      refine TO_nil ?_
      obtain rfl := some_inj H
      exact again (n0 - (k_14 + 1)).toNat (k_14 + 1, gone8) (by omega) (w0 1) ⟨rfl, by omega, K15_⟩
    ·replace d15 := of_decide_eq_false d15
     obtain rfl := forM_end L15_ (by omega)
     refine T_exit ?_
     refine then_exit ?_
     refine then_exit ?_
     refine block_exit ?_
     replace H := N15_
     refine T_seq ?_
     refine sr ?_
     refine pv tb 1 rfl ?_
     refine TO_nil ?_
     obtain ⟨_, h_37, H⟩ := bind_inv H
     replace h_37 := gN_inv h_37
     obtain ⟨O36_, L36_, N36_⟩ := bind_inv H
     clear H
     obtain ⟨B36_, hb36, L36_⟩ := gen_forN L36_
     refine T_block ?_
     refine T_loopX (fun k => fun (x_35 : Int) => k = (n0 - x_35).toNat ∧ 0 ≤ x_35 ∧ forN B36_ (n0 - x_35).toNat x_35 () = some O36_) (fun (x_35 : Int) => [(0, (intA n0)), (8, (.m [0] 0 gone8.length tBool.k)), (13, (intA (x_35 : Int)))]) (fun (x_35 : Int) => [.row (flat tBool.enc gone8)]) _ (0 : Int) (w0 1) ⟨rfl, Int.le_refl _, L36_⟩ ?_
     rintro _ x_35 ⟨rfl, hi36, L36_⟩
     refine T_seq ?_
     refine sr ?_
     refine pv tb 3 rfl ?_
     refine TO_nil ?_
     refine T_cond (t := decide ((x_35 : Int) < n0)) rfl (fun d36 => ?_) (fun d36 => ?_)
     ·replace d36 := of_decide_eq_true d36
      obtain ⟨C36_, H, K36_⟩ := forN_step L36_ d36
      rw [hb36] at H
      refine T_skip ?_
      refine T_seq ?_
      refine T_block ?_
      refine sr ?_
      obtain ⟨v_38, h_39, H⟩ := bind_inv H
      obtain ⟨n_40, hz_41, hv_42⟩ := getI_inv h_39
      refine pv tb 2 rfl ?_
      refine Tp rfl rfl (pur_ixM (T := tBool) sl58 rfl rfl hz_41 hv_42 rfl) rfl ?_
      refine Tp rfl rfl (pur_ldE (f := tBool.enc) (k := tBool.k) (i := n_40) (off := 0) tBool.len rfl one4 rfl rfl rfl hv_42 rfl rfl) rfl ?_
      refine pv tb 1 rfl ?_
      refine TO_nil ?_
      refine T_cond (t := (!v_38)) rfl (fun c_43 => ?_) (fun c_43 => ?_)
      ·replace H := cond_t c_43 H
       refine sr ?_
       refine pv tb 1 rfl ?_
       refine TO_nil ?_
       refine T_ret ?_
       refine block_ret ?_
       refine then_ret ?_
       refine then_ret ?_
       refine block_ret ?_
       refine then_ret ?_
       obtain rfl := some_inj H
       obtain rfl := some_inj K36_
       replace H := onS_r N36_
       obtain rfl := some_inj H
       refine end_ret (.tmp .nil) rfl rfl ⟨?_, rfl⟩
       rfl
      ·replace H := cond_f c_43 H
       refine T_skip ?_
       refine T_region ?_
       refine pv tb 1 rfl ?_
       refine Tp rfl rfl (pur_add rfl rfl rfl (fits64 (by omega) (by omega))) rfl ?_
       refine pv tb 1 rfl ?_
       refine TO_nil ?_
       obtain rfl := some_inj H
       exact again (n0 - (x_35 + 1)).toNat (x_35 + 1) (by omega) (w0 1) ⟨rfl, by omega, K36_⟩
     ·replace d36 := of_decide_eq_false d36
      obtain rfl := forN_end L36_ (by omega)
      refine T_exit ?_
      refine then_exit ?_
      refine then_exit ?_
      refine block_exit ?_
      replace H := onS_l N36_
      refine sr ?_
      refine pv tb 1 rfl ?_
      refine TO_nil ?_
      refine T_ret ?_
      obtain rfl := some_inj H
      refine end_ret (.tmp .nil) rfl rfl ⟨?_, rfl⟩
      rfl

set_option maxHeartbeats 1000000 in
theorem m_spec_l8Set_ok (n0 : Int) (s1 : (List Int)) (r : Bool) (H : m_spec_l8Set n0 s1 = some r) : FnV prg 49 [(intA n0), (sl tInt s1)] (boolA r) := by
  unfold m_spec_l8Set at H
  refine fnV_of_T Try.func49 rfl rfl (Nat.le_of_ble_eq_true rfl) ?_
  refine te [(0, (intA n0)), (1, (sl tInt s1))] rfl ?_
  refine sr ?_
  refine pv tb 1 rfl ?_
  refine TO_nil ?_
  refine T_seq ?_
  refine sr ?_
  refine pv tb 1 rfl ?_
  refine TO_nil ?_
  obtain ⟨O2_, L2_, N2_⟩ := bind_inv H
  clear H
  obtain ⟨B2_, hb2, L2_⟩ := gen_forL L2_
  refine T_block ?_
  refine T_loopX (fun k => fun (i_1 : Nat) => k = s1.length - i_1 ∧ forL B2_ (s1.drop i_1) (i_1 : Int) () = some O2_) (fun (i_1 : Nat) => [(0, (intA n0)), (1, (sl tInt s1)), (5, (intA (i_1 : Int)))]) (fun (i_1 : Nat) => []) _ (0 : Nat) (w0 0) ⟨rfl, L2_⟩ ?_
  rintro _ i_1 ⟨rfl, L2_⟩
  refine T_fact (len_sl (T := tInt) (.tmp 1) rfl) (fun hl2 => ?_)
  refine T_seq ?_
  refine sr ?_
  refine pv tb 2 rfl ?_
  refine Tp rfl rfl (pur_lenT (T := tInt) sl31 rfl rfl) rfl ?_
  refine pv tb 1 rfl ?_
  refine TO_nil ?_
  refine T_cond (t := decide ((i_1 : Int) < (s1.length : Int))) rfl (fun d2 => ?_) (fun d2 => ?_)
  ·replace d2 := of_decide_eq_true d2
   obtain ⟨x_i_1, hx_i_1⟩ : ∃ v, (s1)[i_1]? = some v := ⟨_, List.getElem?_eq_getElem (by omega)⟩
   obtain ⟨C2_, H, K2_⟩ := forL_step L2_ hx_i_1
   rw [hb2] at H
   refine T_skip ?_
   refine T_seq ?_
   refine T_block ?_
   obtain ⟨t35_3, J_3, H_4⟩ := bind_inv H
   refine T_cutX (fun x => t35_3 = x) (fun (t35_3 : Bool) => [(0, (intA n0)), (1, (sl tInt s1)), (5, (intA (i_1 : Int))), (35, (boolA t35_3))]) (fun (t35_3 : Bool) => []) ?_ ?_
   ·replace H := J_3
    refine T_regionD mixed (by kernel_rfl) ?_
    refine pq tb 2 rfl ?_
    refine TQ_pure rfl (pur_ixT (T := tInt) sl31 rfl rfl rfl hx_i_1 rfl) rfl ?_
    refine TQ_pure rfl (pur_ldT (T := tInt) (i := i_1) (off := 0) rfl one3 rfl rfl hx_i_1 rfl) rfl ?_
    obtain ⟨r_5, h_6, H⟩ := bind_inv H
    refine pq tb 2 rfl ?_
    refine TQ_callV rfl (call_static ent76 rfl) (m_spec_l1In_ok _ _ _ _ h_6) rfl rfl ?_
    refine pq tb 2 rfl ?_
    refine TQ_split (t := (!r_5)) 20 rfl (fun g_7 => ?_) (fun g_7 => ?_)
    ·replace H := cond_t g_7 H
     refine pq tb 8 rfl ?_
     refine tqe [(0, (intA n0)), (1, (sl tInt s1)), (5, (intA (i_1 : Int))), (20, (boolA true)), (23, (.v undef)), (27, (.v undef)), (28, (.v undef))] rfl ?_
     refine pq tb 7 rfl ?_
     refine TQ_nil ?_
     exact joined true (w0 0) (some_inj H).symm
    ·replace H := cond_f g_7 H
     refine pq tb 3 rfl ?_
     refine TQ_split (t := decide (0 < (i_1 : Int))) 23 rfl (fun g_8 => ?_) (fun g_8 => ?_)
     ·replace H := cond_t g_8 H
      refine pq tb 2 rfl ?_
      refine TQ_on rfl rfl (by decide) rfl (pur_ixT (T := tInt) sl31 rfl rfl rfl hx_i_1 rfl) rfl ?_
      refine TQ_on rfl rfl (by decide) rfl (pur_ldT (T := tInt) (i := i_1) (off := 0) rfl one3 rfl rfl hx_i_1 rfl) rfl ?_
      refine pq tb 2 rfl ?_
      refine TQ_on rfl rfl (by decide) rfl (pur_sub rfl rfl rfl (fits64 (by omega) (by omega))) rfl ?_
      obtain ⟨v_9, h_10, H⟩ := bind_inv H
      obtain ⟨n_11, hz_12, hv_13⟩ := getI_inv h_10
      refine TQ_on rfl rfl (by decide) rfl (pur_ixT (T := tInt) sl31 rfl rfl hz_12 hv_13 rfl) rfl ?_
      refine tqe [(0, (intA n0)), (1, (sl tInt s1)), (5, (intA (i_1 : Int))), (20, (boolA false)), (23, (boolA true)), (27, (intA x_i_1)), (31, (.q (flat tInt.enc s1) (n_11 * tInt.k)))] rfl ?_
      refine TQ_on rfl rfl (by decide) rfl (pur_ldT (T := tInt) (i := n_11) (off := 0) rfl one3 rfl rfl hv_13 rfl) rfl ?_
      refine pq tb 3 rfl ?_
      refine TQ_nil ?_
      exact joined (decide (x_i_1 ≤ v_9)) (w0 0) (some_inj H).symm
     ·replace H := cond_f g_8 H
      refine pq tb 8 rfl ?_
      refine tqe [(0, (intA n0)), (1, (sl tInt s1)), (5, (intA (i_1 : Int))), (20, (boolA false)), (23, (boolA false)), (27, (.v undef)), (31, (.v undef))] rfl ?_
      refine pq tb 4 rfl ?_
      refine TQ_nil ?_
      exact joined false (w0 0) (some_inj H).symm
   ·rintro _ rfl
    replace H := H_4
    refine T_cond (t := t35_3) rfl (fun c_14 => ?_) (fun c_14 => ?_)
    ·replace H := cond_t c_14 H
     refine sr ?_
     refine pv tb 1 rfl ?_
     refine TO_nil ?_
     refine T_ret ?_
     refine block_ret ?_
     refine then_ret ?_
     refine then_ret ?_
     refine block_ret ?_
     refine then_ret ?_
     obtain rfl := some_inj H
     obtain rfl := some_inj K2_
     replace H := onS_r N2_
     obtain rfl := some_inj H
     refine end_ret (.tmp .nil) rfl rfl ⟨?_, rfl⟩
     rfl
    ·replace H := cond_f c_14 H
     refine T_skip ?_
     refine T_region ?_
     refine pv tb 1 rfl ?_
     refine Tp rfl rfl (pur_add rfl rfl rfl (fits64 (by omega) (by omega))) rfl ?_
     refine pv tb 1 rfl ?_
     refine TO_nil ?_
     obtain rfl := some_inj H
     exact again (s1.length - (i_1 + 1)) (i_1 + 1) (by omega) (w0 0) ⟨rfl, K2_⟩
  ·replace d2 := of_decide_eq_false d2
   obtain rfl := forL_end L2_ (by omega)
   refine T_exit ?_
   refine then_exit ?_
   refine then_exit ?_
   refine block_exit ?_
   replace H := onS_l N2_
   refine sr ?_
   refine pv tb 1 rfl ?_
   refine TO_nil ?_
   refine T_ret ?_
   obtain rfl := some_inj H
   refine end_ret (.tmp .nil) rfl rfl ⟨?_, rfl⟩
   rfl

set_option maxHeartbeats 1000000 in
theorem m_spec_l7Has_ok (l0 : (List Int)) (x1 : Int) (r : Bool) (H : m_spec_l7Has l0 x1 = some r) : FnV prg 53 [(sl tInt l0), (intA x1)] (boolA r) := by
  unfold m_spec_l7Has at H
  refine fnV_of_T Try.func53 rfl rfl (Nat.le_of_ble_eq_true rfl) ?_
  refine te [(0, (sl tInt l0)), (1, (intA x1))] rfl ?_
  refine sr ?_
  refine pv tb 1 rfl ?_
  refine TO_nil ?_
  refine T_seq ?_
  refine sr ?_
  refine pv tb 1 rfl ?_
  refine TO_nil ?_
  obtain ⟨O2_, L2_, N2_⟩ := bind_inv H
  clear H
  obtain ⟨B2_, hb2, L2_⟩ := gen_forL L2_
  refine T_block ?_
  refine T_loopX (fun k => fun (i_1 : Nat) => k = l0.length - i_1 ∧ forL B2_ (l0.drop i_1) (i_1 : Int) () = some O2_) (fun (i_1 : Nat) => [(0, (sl tInt l0)), (1, (intA x1)), (5, (intA (i_1 : Int)))]) (fun (i_1 : Nat) => []) _ (0 : Nat) (w0 0) ⟨rfl, L2_⟩ ?_
  rintro _ i_1 ⟨rfl, L2_⟩
  refine T_fact (len_sl (T := tInt) (.tmp 0) rfl) (fun hl2 => ?_)
  refine T_seq ?_
  refine sr ?_
  refine pv tb 2 rfl ?_
  refine Tp rfl rfl (pur_lenT (T := tInt) sl31 rfl rfl) rfl ?_
  refine pv tb 1 rfl ?_
  refine TO_nil ?_
  refine T_cond (t := decide ((i_1 : Int) < (l0.length : Int))) rfl (fun d2 => ?_) (fun d2 => ?_)
  ·replace d2 := of_decide_eq_true d2
   obtain ⟨x_i_1, hx_i_1⟩ : ∃ v, (l0)[i_1]? = some v := ⟨_, List.getElem?_eq_getElem (by omega)⟩
   obtain ⟨C2_, H, K2_⟩ := forL_step L2_ hx_i_1
   rw [hb2] at H
   refine T_skip ?_
   refine T_seq ?_
   refine T_block ?_
   refine sr ?_
   refine pv tb 2 rfl ?_
   refine Tp rfl rfl (pur_ixT (T := tInt) sl31 rfl rfl rfl hx_i_1 rfl) rfl ?_
   refine Tp rfl rfl (pur_ldT (T := tInt) (i := i_1) (off := 0) rfl one3 rfl rfl hx_i_1 rfl) rfl ?_
   refine pv tb 2 rfl ?_
   refine TO_nil ?_
   refine T_cond (t := decide (x_i_1 = x1)) rfl (fun c_3 => ?_) (fun c_3 => ?_)
   ·replace H := cond_t c_3 H
    refine sr ?_
    refine pv tb 1 rfl ?_
    refine TO_nil ?_
    refine T_ret ?_
    refine block_ret ?_
    refine then_ret ?_
    refine then_ret ?_
    refine block_ret ?_
    refine then_ret ?_
    obtain rfl := some_inj H
    obtain rfl := some_inj K2_
    replace H := onS_r N2_
    obtain rfl := some_inj H
    refine end_ret (.tmp .nil) rfl rfl ⟨?_, rfl⟩
    rfl
   ·replace H := cond_f c_3 H
    refine T_skip ?_
    refine T_region ?_
    refine pv tb 1 rfl ?_
    refine Tp rfl rfl (pur_add rfl rfl rfl (fits64 (by omega) (by omega))) rfl ?_
    refine pv tb 1 rfl ?_
    refine TO_nil ?_
    obtain rfl := some_inj H
    exact again (l0.length - (i_1 + 1)) (i_1 + 1) (by omega) (w0 0) ⟨rfl, K2_⟩
  ·replace d2 := of_decide_eq_false d2
   obtain rfl := forL_end L2_ (by omega)
   refine T_exit ?_
   refine then_exit ?_
   refine then_exit ?_
   refine block_exit ?_
   replace H := onS_l N2_
   refine sr ?_
   refine pv tb 1 rfl ?_
   refine TO_nil ?_
   refine T_ret ?_
   obtain rfl := some_inj H
   refine end_ret (.tmp .nil) rfl rfl ⟨?_, rfl⟩
   rfl

set_option maxHeartbeats 1000000 in
theorem m_spec_IsIndependent_ok (l0 : (List ConflictEdge)) (s1 : (List Int)) (r : Bool) (H : m_spec_IsIndependent l0 s1 = some r) : FnV prg 80 [(sl tConflictEdge l0), (sl tInt s1)] (boolA r) := by
  unfold m_spec_IsIndependent at H
  refine fnV_of_T Try.func80 rfl rfl (Nat.le_of_ble_eq_true rfl) ?_
  refine te [(0, (sl tConflictEdge l0)), (1, (sl tInt s1))] rfl ?_
  refine sr ?_
  refine pv tb 1 rfl ?_
  refine TO_nil ?_
  refine T_seq ?_
  refine sr ?_
  refine pv tb 1 rfl ?_
  refine TO_nil ?_
  obtain ⟨O2_, L2_, N2_⟩ := bind_inv H
  clear H
  obtain ⟨B2_, hb2, L2_⟩ := gen_forL L2_
  refine T_block ?_
  refine T_loopX (fun k => fun (i_1 : Nat) => k = l0.length - i_1 ∧ forL B2_ (l0.drop i_1) (i_1 : Int) () = some O2_) (fun (i_1 : Nat) => [(0, (sl tConflictEdge l0)), (1, (sl tInt s1)), (5, (intA (i_1 : Int)))]) (fun (i_1 : Nat) => []) _ (0 : Nat) (w0 0) ⟨rfl, L2_⟩ ?_
  rintro _ i_1 ⟨rfl, L2_⟩
  refine T_fact (len_sl (T := tConflictEdge) (.tmp 0) rfl) (fun hl2 => ?_)
  refine T_seq ?_
  refine sr ?_
  refine pv tb 2 rfl ?_
  refine Tp rfl rfl (pur_lenT (T := tConflictEdge) sl25 rfl rfl) rfl ?_
  refine pv tb 1 rfl ?_
  refine TO_nil ?_
  refine T_cond (t := decide ((i_1 : Int) < (l0.length : Int))) rfl (fun d2 => ?_) (fun d2 => ?_)
  ·replace d2 := of_decide_eq_true d2
   obtain ⟨x_i_1, hx_i_1⟩ : ∃ v, (l0)[i_1]? = some v := ⟨_, List.getElem?_eq_getElem (by omega)⟩
   obtain ⟨C2_, H, K2_⟩ := forL_step L2_ hx_i_1
   rw [hb2] at H
   refine T_skip ?_
   refine T_seq ?_
   refine T_block ?_
   obtain ⟨t27_3, J_3, H_4⟩ := bind_inv H
   refine T_cutX (fun x => t27_3 = x) (fun (t27_3 : Bool) => [(0, (sl tConflictEdge l0)), (1, (sl tInt s1)), (5, (intA (i_1 : Int))), (27, (boolA t27_3))]) (fun (t27_3 : Bool) => []) ?_ ?_
   ·replace H := J_3
    refine T_region ?_
    refine pv tb 3 rfl ?_
    refine Tp rfl rfl (pur_ixT (T := tConflictEdge) sl25 rfl rfl rfl hx_i_1 rfl) rfl ?_
    refine pv tb 1 rfl ?_
    refine Tp rfl rfl (pur_ldT (T := tConflictEdge) (i := i_1) (off := 0) rfl one3 rfl rfl hx_i_1 rfl) rfl ?_
    obtain ⟨r_5, h_6, H⟩ := bind_inv H
    refine TO_cons rfl (TOp_callV (call_static ent53 rfl) (m_spec_l7Has_ok _ _ _ h_6) rfl rfl rfl ?_)
    refine pv tb 1 rfl ?_
    refine TO_split (t := r_5) 19 rfl (fun g_7 => ?_) (fun g_7 => ?_)
    ·replace H := cond_t g_7 H
     refine pv tb 3 rfl ?_
     refine TO_on rfl rfl (by decide) rfl rfl (TOp_pure (pur_ixT (T := tConflictEdge) sl25 rfl rfl rfl hx_i_1 rfl) rfl ?_)
     refine pv tb 1 rfl ?_
     refine TO_on rfl rfl (by decide) rfl rfl (TOp_pure (pur_ldT (T := tConflictEdge) (i := i_1) (off := 1) rfl one3 rfl rfl hx_i_1 rfl) rfl ?_)
     obtain ⟨r_8, h_9, H⟩ := bind_inv H
     refine TO_on rfl rfl (by decide) rfl rfl (TOp_callV (call_static ent53 rfl) (m_spec_l7Has_ok _ _ _ h_9) rfl rfl rfl ?_)
     refine pv tb 1 rfl ?_
     refine TO_nil ?_
     exact joined r_8 (w0 0) (some_inj H).symm
    ·replace H := cond_f g_7 H
     refine pv tb 8 rfl ?_
     refine TO_nil ?_
     exact joined false (w0 0) (some_inj H).symm
   ·rintro _ rfl
    replace H := H_4
    refine T_cond (t := t27_3) rfl (fun c_10 => ?_) (fun c_10 => ?_)
    ·replace H := cond_t c_10 H
     refine sr ?_
     refine pv tb 1 rfl ?_
     refine TO_nil ?_
     refine T_ret ?_
     refine block_ret ?_
     refine then_ret ?_
     refine then_ret ?_
     refine block_ret ?_
     refine then_ret ?_
     obtain rfl := some_inj H
     obtain rfl := some_inj K2_
     replace H := onS_r N2_
     obtain rfl := some_inj H
     refine end_ret (.tmp .nil) rfl rfl ⟨?_, rfl⟩
     rfl
    ·replace H := cond_f c_10 H
     refine T_skip ?_
     refine T_region ?_
     refine pv tb 1 rfl ?_
     refine Tp rfl rfl (pur_add rfl rfl rfl (fits64 (by omega) (by omega))) rfl ?_
     refine pv tb 1 rfl ?_
     refine TO_nil ?_
     obtain rfl := some_inj H
     exact again (l0.length - (i_1 + 1)) (i_1 + 1) (by omega) (w0 0) ⟨rfl, K2_⟩
  ·replace d2 := of_decide_eq_false d2
   obtain rfl := forL_end L2_ (by omega)
   refine T_exit ?_
   refine then_exit ?_
   refine then_exit ?_
   refine block_exit ?_
   replace H := onS_l N2_
   refine sr ?_
   refine pv tb 1 rfl ?_
   refine TO_nil ?_
   refine T_ret ?_
   obtain rfl := some_inj H
   refine end_ret (.tmp .nil) rfl rfl ⟨?_, rfl⟩
   rfl

set_option maxHeartbeats 1000000 in
theorem m_spec_l8Fits_ok (l0 : (List ConflictEdge)) (s1 : (List Int)) (x2 : Int) (r : Bool) (H : m_spec_l8Fits l0 s1 x2 = some r) : FnV prg 81 [(sl tConflictEdge l0), (sl tInt s1), (intA x2)] (boolA r) := by
  unfold m_spec_l8Fits at H
  refine fnV_of_T Try.func81 rfl rfl (Nat.le_of_ble_eq_true rfl) ?_
  refine te [(0, (sl tConflictEdge l0)), (1, (sl tInt s1)), (2, (intA x2))] rfl ?_
  refine sr ?_
  refine pv tb 1 rfl ?_
  refine TO_nil ?_
  obtain ⟨t6_1, J_1, H_2⟩ := bind_inv H
  refine T_cutX (fun x => t6_1 = x) (fun (t6_1 : Bool) => [(6, (boolA t6_1))]) (fun (t6_1 : Bool) => []) ?_ ?_
  ·replace H := J_1
   refine T_region ?_
   obtain ⟨r_3, h_4, H⟩ := bind_inv H
   refine pv tb 2 rfl ?_
   refine TO_cons rfl (TOp_callV (call_static ent53 rfl) (m_spec_l7Has_ok _ _ _ h_4) rfl rfl rfl ?_)
   refine pv tb 2 rfl ?_
   refine TO_split (t := (!r_3)) 11 rfl (fun g_5 => ?_) (fun g_5 => ?_)
   ·replace H := cond_t g_5 H
    refine pv tb 1 rfl ?_
    refine TO_on rfl rfl (by decide) rfl rfl (TOp_lit (nn := 0) (k := 1) sl31 zero3 rfl rfl rfl rfl (by decide) ?_)
    refine TO_st (σ' := [.row (flat tInt.enc ([] : (List Int)))]) rfl ?_
    obtain ⟨us_6, h_7, H⟩ := bind_inv H
    refine pv tb 1 rfl ?_
    refine TO_on rfl rfl (by decide) rfl rfl (TOp_appZ (T := tInt) (f := tInt.enc) (xs := ([] : (List Int))) (ys := s1) tInt.len sl31 zero3 rfl bytes3 (by decide) rfl rfl rfl rfl (src_T (T := tInt) rfl) (flat_cell tInt _) h_7 (lb rfl) ?_)
    refine toe [(0, (sl tConflictEdge l0)), (1, (sl tInt s1)), (2, (intA x2)), (7, (sl tInt s1)), (8, (intA x2)), (9, (boolA r_3)), (10, (boolA (!r_3))), (11, (boolA true)), (12, (sl tConflictEdge l0)), (14, (sl tInt s1)), (15, (.m [0] 0 us_6.length tInt.k))] rfl ?_
    refine TO_st (σ' := [.row (flat tInt.enc us_6), .dead]) rfl ?_
    refine pv tb 1 rfl ?_
    refine TO_on rfl rfl (by decide) rfl rfl (TOp_lit (nn := 1) (k := 1) sl31 zero3 rfl rfl rfl rfl (by decide) ?_)
    refine TO_st (σ' := [.row (flat tInt.enc us_6), .dead, .row (flat tInt.enc ([x2] : (List Int)))]) rfl ?_
    obtain ⟨us_8, h_9, H⟩ := bind_inv H
    refine TO_on rfl rfl (by decide) rfl rfl (TOp_appZ (T := tInt) (f := tInt.enc) (xs := us_6) (ys := ([x2] : (List Int))) tInt.len sl31 zero3 rfl bytes3 (by decide) rfl rfl rfl rfl (src_mT (f := tInt.enc) tInt.len rfl rfl (flat_cell tInt _)) (flat_cell tInt _) h_9 (lb rfl) ?_)
    refine toe [(0, (sl tConflictEdge l0)), (1, (sl tInt s1)), (2, (intA x2)), (7, (sl tInt s1)), (8, (intA x2)), (9, (boolA r_3)), (10, (boolA (!r_3))), (11, (boolA true)), (12, (sl tConflictEdge l0)), (14, (sl tInt s1)), (16, (intA x2)), (17, (.m [2] 0 ([x2] : (List Int)).length tInt.k)), (18, (.m [0] 0 us_8.length tInt.k))] rfl ?_
    refine TO_st (σ' := [.row (flat tInt.enc us_8), .dead, .row (flat tInt.enc ([x2] : (List Int))), .dead]) rfl ?_
    obtain ⟨r_10, h_11, H⟩ := bind_inv H
    refine TO_on rfl rfl (by decide) rfl rfl (TOp_callB (call_static ent80 rfl) (frz_cons (frz_loose rfl) (frz_cons (frzTE (T := tInt) rfl) frz_nil)).1 (frz_cons (frz_loose rfl) (frz_cons (frzTE (T := tInt) rfl) frz_nil)).2 (m_spec_IsIndependent_ok _ _ _ h_11) rfl ?_)
    refine pv tb 2 rfl ?_
    refine TO_nil ?_
    exact joined r_10 (w0 0) (some_inj H).symm
   ·replace H := cond_f g_5 H
    refine pv tb 10 rfl ?_
    refine TO_nil ?_
    exact joined false (w0 0) (some_inj H).symm
  ·rintro _ rfl
   replace H := H_2
   refine T_ret ?_
   obtain rfl := some_inj H
   refine end_ret (.tmp .nil) rfl rfl ⟨?_, rfl⟩
   rfl

set_option maxHeartbeats 1000000 in
theorem m_spec_IsMaximalIndependent_ok (n0 : Int) (l1 : (List ConflictEdge)) (s2 : (List Int)) (r : Bool) (H : m_spec_IsMaximalIndependent n0 l1 s2 = some r) : FnV prg 52 [(intA n0), (sl tConflictEdge l1), (sl tInt s2)] (boolA r) := by
  unfold m_spec_IsMaximalIndependent at H
  refine fnV_of_T Try.func52 rfl rfl (Nat.le_of_ble_eq_true rfl) ?_
  refine te [(0, (intA n0)), (1, (sl tConflictEdge l1)), (2, (sl tInt s2))] rfl ?_
  refine sr ?_
  refine pv tb 1 rfl ?_
  refine TO_nil ?_
  refine T_seq ?_
  obtain ⟨t23_1, J_1, H_2⟩ := bind_inv H
  refine T_cutX (fun x => t23_1 = x) (fun (t23_1 : Bool) => [(0, (intA n0)), (1, (sl tConflictEdge l1)), (2, (sl tInt s2)), (23, (boolA t23_1))]) (fun (t23_1 : Bool) => []) ?_ ?_
  ·replace H := J_1
   refine T_region ?_
   obtain ⟨r_3, h_4, H⟩ := bind_inv H
   refine pv tb 2 rfl ?_
   refine TO_cons rfl (TOp_callV (call_static ent45 rfl) (m_spec_AreValidEdges_ok _ _ _ h_4) rfl rfl rfl ?_)
   refine pv tb 2 rfl ?_
   refine TO_split (t := (!r_3)) 12 rfl (fun g_5 => ?_) (fun g_5 => ?_)
   ·replace H := cond_t g_5 H
    refine pv tb 11 rfl ?_
    refine TO_nil ?_
    exact joined true (w0 0) (some_inj H).symm
   ·replace H := cond_f g_5 H
    obtain ⟨r_6, h_7, H⟩ := bind_inv H
    refine pv tb 2 rfl ?_
    refine TO_on rfl rfl (by decide) rfl rfl (TOp_callV (call_static ent49 rfl) (m_spec_l8Set_ok _ _ _ h_7) rfl rfl rfl ?_)
    refine pv tb 3 rfl ?_
    refine TO_split (t := (!r_6)) 18 rfl (fun g_8 => ?_) (fun g_8 => ?_)
    ·replace H := cond_t g_8 H
     refine pv tb 5 rfl ?_
     refine TO_nil ?_
     exact joined true (w0 0) (some_inj H).symm
    ·replace H := cond_f g_8 H
     obtain ⟨r_9, h_10, H⟩ := bind_inv H
     refine pv tb 2 rfl ?_
     refine TO_on rfl rfl (by decide) rfl rfl (TOp_callV (call_static ent80 rfl) (m_spec_IsIndependent_ok _ _ _ h_10) rfl rfl rfl ?_)
     refine pv tb 2 rfl ?_
     refine TO_nil ?_
     exact joined (!r_9) (w0 0) (some_inj H).symm
  ·rintro _ rfl
   replace H := H_2
   refine T_cond (t := t23_1) rfl (fun c_11 => ?_) (fun c_11 => ?_)
   ·replace H := cond_t c_11 H
    refine sr ?_
    refine pv tb 1 rfl ?_
    refine TO_nil ?_
    refine T_ret ?_
    refine then_ret ?_
    obtain rfl := some_inj H
    refine end_ret (.tmp .nil) rfl rfl ⟨?_, rfl⟩
    rfl
   ·replace H := cond_f c_11 H
    refine T_skip ?_
    refine T_seq ?_
    refine sr ?_
    refine pv tb 1 rfl ?_
    refine TO_nil ?_
    obtain ⟨_, h_14, H⟩ := bind_inv H
    replace h_14 := gN_inv h_14
    obtain ⟨O13_, L13_, N13_⟩ := bind_inv H
    clear H
    obtain ⟨B13_, hb13, L13_⟩ := gen_forN L13_
    refine T_block ?_
    refine T_loopX (fun k => fun (x_12 : Int) => k = (n0 - x_12).toNat ∧ 0 ≤ x_12 ∧ forN B13_ (n0 - x_12).toNat x_12 () = some O13_) (fun (x_12 : Int) => [(0, (intA n0)), (1, (sl tConflictEdge l1)), (2, (sl tInt s2)), (7, (intA (x_12 : Int)))]) (fun (x_12 : Int) => []) _ (0 : Int) (w0 0) ⟨rfl, Int.le_refl _, L13_⟩ ?_
    rintro _ x_12 ⟨rfl, hi13, L13_⟩
    refine T_seq ?_
    refine sr ?_
    refine pv tb 3 rfl ?_
    refine TO_nil ?_
    refine T_cond (t := decide ((x_12 : Int) < n0)) rfl (fun d13 => ?_) (fun d13 => ?_)
    ·replace d13 := of_decide_eq_true d13
     obtain ⟨C13_, H, K13_⟩ := forN_step L13_ d13
     rw [hb13] at H
     refine T_skip ?_
     refine T_seq ?_
     refine T_block ?_
     refine sr ?_
     obtain ⟨r_15, h_16, H⟩ := bind_inv H
     refine pv tb 3 rfl ?_
     refine TO_cons rfl (TOp_callV (call_static ent81 rfl) (m_spec_l8Fits_ok _ _ _ _ h_16) rfl rfl rfl ?_)
     refine TO_nil ?_
     refine T_cond (t := r_15) rfl (fun c_17 => ?_) (fun c_17 => ?_)
     ·replace H := cond_t c_17 H
      refine sr ?_
      refine pv tb 1 rfl ?_
      refine TO_nil ?_
      refine T_ret ?_
      refine block_ret ?_
      refine then_ret ?_
      refine then_ret ?_
      refine block_ret ?_
      refine then_ret ?_
      obtain rfl := some_inj H
      obtain rfl := some_inj K13_
      replace H := onS_r N13_
      obtain rfl := some_inj H
      refine end_ret (.tmp .nil) rfl rfl ⟨?_, rfl⟩
      rfl
     ·replace H := cond_f c_17 H
      refine T_skip ?_
      refine T_region ?_
      refine pv tb 1 rfl ?_
      refine Tp rfl rfl (pur_add rfl rfl rfl (fits64 (by omega) (by omega))) rfl ?_
      refine pv tb 1 rfl ?_
      refine TO_nil ?_
      obtain rfl := some_inj H
      exact again (n0 - (x_12 + 1)).toNat (x_12 + 1) (by omega) (w0 0) ⟨rfl, by omega, K13_⟩
    ·replace d13 := of_decide_eq_false d13
     obtain rfl := forN_end L13_ (by omega)
     refine T_exit ?_
     refine then_exit ?_
     refine then_exit ?_
     refine block_exit ?_
     replace H := onS_l N13_
     refine sr ?_
     refine pv tb 1 rfl ?_
     refine TO_nil ?_
     refine T_ret ?_
     obtain rfl := some_inj H
     refine end_ret (.tmp .nil) rfl rfl ⟨?_, rfl⟩
     rfl

set_option maxHeartbeats 1000000 in
theorem m_spec_IsParetoOptimal_ok (n0 : Int) (l1 : (List ConflictEdge)) (p2 : (List ConflictEdge)) (s3 : (List Int)) (r : Bool) (H : m_spec_IsParetoOptimal n0 l1 p2 s3 = some r) : FnV prg 25 [(intA n0), (sl tConflictEdge l1), (sl tConflictEdge p2), (sl tInt s3)] (boolA r) := by
  unfold m_spec_IsParetoOptimal at H
  refine fnV_of_T Try.func25 rfl rfl (Nat.le_of_ble_eq_true rfl) ?_
  refine te [(0, (intA n0)), (1, (sl tConflictEdge l1)), (2, (sl tConflictEdge p2)), (3, (sl tInt s3))] rfl ?_
  refine sr ?_
  refine pv tb 1 rfl ?_
  refine TO_nil ?_
  refine T_seq ?_
  obtain ⟨t23_1, J_1, H_2⟩ := bind_inv H
  refine T_cutX (fun x => t23_1 = x) (fun (t23_1 : Bool) => [(0, (intA n0)), (1, (sl tConflictEdge l1)), (2, (sl tConflictEdge p2)), (3, (sl tInt s3)), (23, (boolA t23_1))]) (fun (t23_1 : Bool) => []) ?_ ?_
  ·replace H := J_1
   refine T_region ?_
   obtain ⟨r_3, h_4, H⟩ := bind_inv H
   refine pv tb 3 rfl ?_
   refine TO_cons rfl (TOp_callV (call_static ent16 rfl) (m_spec_IsValidPreference_ok _ _ _ _ h_4) rfl rfl rfl ?_)
   refine pv tb 2 rfl ?_
   refine TO_split (t := (!r_3)) 17 rfl (fun g_5 => ?_) (fun g_5 => ?_)
   ·replace H := cond_t g_5 H
    refine pv tb 6 rfl ?_
    refine TO_nil ?_
    exact joined true (w0 0) (some_inj H).symm
   ·replace H := cond_f g_5 H
    obtain ⟨r_6, h_7, H⟩ := bind_inv H
    refine pv tb 3 rfl ?_
    refine TO_on rfl rfl (by decide) rfl rfl (TOp_callV (call_static ent52 rfl) (m_spec_IsMaximalIndependent_ok _ _ _ _ h_7) rfl rfl rfl ?_)
    refine pv tb 2 rfl ?_
    refine TO_nil ?_
    exact joined (!r_6) (w0 0) (some_inj H).symm
  ·rintro _ rfl
   replace H := H_2
   refine T_cond (t := t23_1) rfl (fun c_8 => ?_) (fun c_8 => ?_)
   ·replace H := cond_t c_8 H
    refine sr ?_
    refine pv tb 1 rfl ?_
    refine TO_nil ?_
    refine T_ret ?_
    refine then_ret ?_
    obtain rfl := some_inj H
    refine end_ret (.tmp .nil) rfl rfl ⟨?_, rfl⟩
    rfl
   ·replace H := cond_f c_8 H
    refine T_skip ?_
    refine T_seq ?_
    refine sr ?_
    refine pv tb 1 rfl ?_
    refine TO_nil ?_
    obtain ⟨_, h_11, H⟩ := bind_inv H
    replace h_11 := gN_inv h_11
    obtain ⟨O10_, L10_, N10_⟩ := bind_inv H
    clear H
    obtain ⟨B10_, hb10, L10_⟩ := gen_forN L10_
    refine T_block ?_
    refine T_loopX (fun k => fun (x_9 : Int) => k = (n0 - x_9).toNat ∧ 0 ≤ x_9 ∧ forN B10_ (n0 - x_9).toNat x_9 () = some O10_) (fun (x_9 : Int) => [(0, (intA n0)), (1, (sl tConflictEdge l1)), (2, (sl tConflictEdge p2)), (3, (sl tInt s3)), (9, (intA (x_9 : Int)))]) (fun (x_9 : Int) => []) _ (0 : Int) (w0 0) ⟨rfl, Int.le_refl _, L10_⟩ ?_
    rintro _ x_9 ⟨rfl, hi10, L10_⟩
    refine T_seq ?_
    refine sr ?_
    refine pv tb 3 rfl ?_
    refine TO_nil ?_
    refine T_cond (t := decide ((x_9 : Int) < n0)) rfl (fun d10 => ?_) (fun d10 => ?_)
    ·replace d10 := of_decide_eq_true d10
     obtain ⟨C10_, H, K10_⟩ := forN_step L10_ d10
     rw [hb10] at H
     refine T_skip ?_
     refine T_seq ?_
     refine T_block ?_
     refine T_seq ?_
     refine sr ?_
     obtain ⟨r_12, h_13, H⟩ := bind_inv H
     refine pv tb 2 rfl ?_
     refine TO_cons rfl (TOp_callV (call_static ent53 rfl) (m_spec_l7Has_ok _ _ _ h_13) rfl rfl rfl ?_)
     refine TO_nil ?_
     refine T_cond (t := r_12) rfl (fun c_14 => ?_) (fun c_14 => ?_)
     ·replace H := cond_t c_14 H
      refine T_exit ?_
      refine then_exit ?_
      refine block_exit ?_
      refine T_region ?_
      refine pv tb 1 rfl ?_
      refine Tp rfl rfl (pur_add rfl rfl rfl (fits64 (by omega) (by omega))) rfl ?_
      refine pv tb 1 rfl ?_
      refine TO_nil ?_
      obtain rfl := some_inj H
      exact again (n0 - (x_9 + 1)).toNat (x_9 + 1) (by omega) (w0 0) ⟨rfl, by omega, K10_⟩
     ·replace H := cond_f c_14 H
      refine T_skip ?_
      refine sr ?_
      refine pv tb 1 rfl ?_
      refine TO_nil ?_
      refine T_seq ?_
      refine sr ?_
      refine pv tb 1 rfl ?_
      refine TO_nil ?_
      obtain ⟨O16_, L16_, N16_⟩ := bind_inv H
      clear H
      obtain ⟨B16_, hb16, L16_⟩ := gen_forS L16_
      refine T_block ?_
      refine T_loopX (fun k => fun (⟨i_15, all10⟩ : Nat × Bool) => k = s3.length - i_15 ∧ forS B16_ (s3.drop i_15) (i_15 : Int) all10 = some O16_) (fun (⟨i_15, all10⟩ : Nat × Bool) => [(0, (intA n0)), (1, (sl tConflictEdge l1)), (2, (sl tConflictEdge p2)), (3, (sl tInt s3)), (9, (intA (x_9 : Int))), (10, (boolA all10)), (11, (intA (i_15 : Int)))]) (fun (⟨i_15, all10⟩ : Nat × Bool) => []) _ (0, true) (w0 0) ⟨rfl, L16_⟩ ?_
      rintro _ ⟨i_15, all10⟩ ⟨rfl, L16_⟩
      refine T_fact (len_sl (T := tInt) (.tmp 3) rfl) (fun hl16 => ?_)
      refine T_seq ?_
      refine sr ?_
      refine pv tb 2 rfl ?_
      refine Tp rfl rfl (pur_lenT (T := tInt) sl31 rfl rfl) rfl ?_
      refine pv tb 1 rfl ?_
      refine TO_nil ?_
      refine T_cond (t := decide ((i_15 : Int) < (s3.length : Int))) rfl (fun d16 => ?_) (fun d16 => ?_)
      ·replace d16 := of_decide_eq_true d16
       obtain ⟨x_i_15, hx_i_15⟩ : ∃ v, (s3)[i_15]? = some v := ⟨_, List.getElem?_eq_getElem (by omega)⟩
       obtain ⟨C16_, H, K16_⟩ := forS_step L16_ hx_i_15
       rw [hb16] at H
       refine T_skip ?_
       refine T_seq ?_
       refine T_block ?_
       refine T_region ?_
       refine pv tb 2 rfl ?_
       refine TO_split (t := all10) 39 rfl (fun g_17 => ?_) (fun g_17 => ?_)
       ·replace H := cond_t g_17 H
        refine pv tb 4 rfl ?_
        refine TO_on rfl rfl (by decide) rfl rfl (TOp_pure (pur_ixT (T := tInt) sl31 rfl rfl rfl hx_i_15 rfl) rfl ?_)
        refine TO_on rfl rfl (by decide) rfl rfl (TOp_pure (pur_ldT (T := tInt) (i := i_15) (off := 0) rfl one3 rfl rfl hx_i_15 rfl) rfl ?_)
        obtain ⟨r_18, h_19, H⟩ := bind_inv H
        refine TO_on rfl rfl (by decide) rfl rfl (TOp_callV (call_static ent46 rfl) (m_spec_l28Edge_ok _ _ _ _ h_19) rfl rfl rfl ?_)
        refine pv tb 2 rfl ?_
        refine TO_split (t := (!r_18)) 48 rfl (fun g_20 => ?_) (fun g_20 => ?_)
        ·replace H := cond_t g_20 H
         refine pv tb 10 rfl ?_
         refine TO_nil ?_
         refine te [(0, (intA n0)), (1, (sl tConflictEdge l1)), (2, (sl tConflictEdge p2)), (3, (sl tInt s3)), (9, (intA (x_9 : Int))), (10, (boolA true)), (11, (intA (i_15 : Int)))] rfl ?_
         refine T_region ?_
         refine pv tb 1 rfl ?_
         refine Tp rfl rfl (pur_add rfl rfl rfl (fits64 (by omega) (by omega))) rfl ?_
         refine pv tb 1 rfl ?_
         refine TO_nil ?_
         obtain rfl := some_inj H
         exact again (s3.length - (i_15 + 1)) (i_15 + 1, true) (by omega) (w0 0) ⟨rfl, K16_⟩
        ·replace H := cond_f g_20 H
         refine pv tb 4 rfl ?_
         refine TO_on rfl rfl (by decide) rfl rfl (TOp_pure (pur_ixT (T := tInt) sl31 rfl rfl rfl hx_i_15 rfl) rfl ?_)
         refine TO_on rfl rfl (by decide) rfl rfl (TOp_pure (pur_ldT (T := tInt) (i := i_15) (off := 0) rfl one3 rfl rfl hx_i_15 rfl) rfl ?_)
         obtain ⟨r_21, h_22, H⟩ := bind_inv H
         refine TO_on rfl rfl (by decide) rfl rfl (TOp_callV (call_static ent12 rfl) (m_spec_IsPreferred_ok _ _ _ _ h_22) rfl rfl rfl ?_)
         refine pv tb 3 rfl ?_
         refine TO_nil ?_
         refine te [(0, (intA n0)), (1, (sl tConflictEdge l1)), (2, (sl tConflictEdge p2)), (3, (sl tInt s3)), (9, (intA (x_9 : Int))), (10, (boolA r_21)), (11, (intA (i_15 : Int)))] rfl ?_
         refine T_region ?_
         refine pv tb 1 rfl ?_
         refine Tp rfl rfl (pur_add rfl rfl rfl (fits64 (by omega) (by omega))) rfl ?_
         refine pv tb 1 rfl ?_
         refine TO_nil ?_
         obtain rfl := some_inj H
         exact again (s3.length - (i_15 + 1)) (i_15 + 1, r_21) (by omega) (w0 0) ⟨rfl, K16_⟩
       ·replace H := cond_f g_17 H
        refine pv tb 16 rfl ?_
        refine toe [(0, (intA n0)), (1, (sl tConflictEdge l1)), (2, (sl tConflictEdge p2)), (3, (sl tInt s3)), (9, (intA (x_9 : Int))), (10, (boolA all10)), (11, (intA (i_15 : Int))), (39, (boolA false)), (48, (.v undef)), (55, (.v undef))] rfl ?_
        refine pv tb 3 rfl ?_
        refine TO_nil ?_
        refine T_region ?_
        refine pv tb 1 rfl ?_
        refine Tp rfl rfl (pur_add rfl rfl rfl (fits64 (by omega) (by omega))) rfl ?_
        refine pv tb 1 rfl ?_
        refine TO_nil ?_
        obtain rfl := some_inj H
        exact again (s3.length - (i_15 + 1)) (i_15 + 1, false) (by omega) (w0 0) ⟨rfl, K16_⟩
      ·replace d16 := of_decide_eq_false d16
       obtain rfl := forS_end L16_ (by omega)
       refine T_exit ?_
       refine then_exit ?_
       refine then_exit ?_
       refine block_exit ?_
       replace H := N16_
       refine sr ?_
       refine pv tb 1 rfl ?_
       refine TO_nil ?_
       refine T_cond (t := all10) rfl (fun c_23 => ?_) (fun c_23 => ?_)
       ·replace H := cond_t c_23 H
        refine sr ?_
        refine pv tb 1 rfl ?_
        refine TO_nil ?_
        refine T_ret ?_
        refine block_ret ?_
        refine then_ret ?_
        refine then_ret ?_
        refine block_ret ?_
        refine then_ret ?_
        obtain rfl := some_inj H
        obtain rfl := some_inj K10_
        replace H := onS_r N10_
        obtain rfl := some_inj H
        refine end_ret (.tmp .nil) rfl rfl ⟨?_, rfl⟩
        rfl
       ·replace H := cond_f c_23 H
        refine T_skip ?_
        refine T_region ?_
        refine pv tb 1 rfl ?_
        refine Tp rfl rfl (pur_add rfl rfl rfl (fits64 (by omega) (by omega))) rfl ?_
        refine pv tb 1 rfl ?_
        refine TO_nil ?_
        obtain rfl := some_inj H
        exact again (n0 - (x_9 + 1)).toNat (x_9 + 1) (by omega) (w0 0) ⟨rfl, by omega, K10_⟩
    ·replace d10 := of_decide_eq_false d10
     obtain rfl := forN_end L10_ (by omega)
     refine T_exit ?_
     refine then_exit ?_
     refine then_exit ?_
     refine block_exit ?_
     replace H := onS_l N10_
     refine sr ?_
     refine pv tb 1 rfl ?_
     refine TO_nil ?_
     refine T_ret ?_
     obtain rfl := some_inj H
     refine end_ret (.tmp .nil) rfl rfl ⟨?_, rfl⟩
     rfl

set_option maxHeartbeats 1000000 in
theorem m_spec_l8Walk_own (u : Nat) (n0 : Int) (l1 : (List ConflictEdge)) (s2 : (List Int)) (x3 : Int) (r : (List (List Int))) (H : m_spec_l8Walk u n0 l1 s2 x3 = some r) : FnO prg 84 [(intA n0), (sl tConflictEdge l1), (sl tInt s2), (intA x3)] (.m [0] 0 r.length (tSl tInt).k) [.row (flat (tSl tInt).own r)] := by
  induction u generalizing n0 l1 s2 x3 r with
  | zero => simp [m_spec_l8Walk] at H
  | succ u IH =>
   rw [m_spec_l8Walk] at H
   have IHv : ∀ (n0 : Int) (l1 : (List ConflictEdge)) (s2 : (List Int)) (x3 : Int) (r : (List (List Int))), m_spec_l8Walk u n0 l1 s2 x3 = some r → FnV prg 84 [(intA n0), (sl tConflictEdge l1), (sl tInt s2), (intA x3)] (sl (tSl tInt) r) := fun n0 l1 s2 x3 r h => (IH n0 l1 s2 x3 r h).frz (frzT (T := (tSl tInt)) rfl)
   refine fnO_of_T Try.func84 rfl rfl (Nat.le_of_ble_eq_true rfl) ?_
   refine te [(0, (intA n0)), (1, (sl tConflictEdge l1)), (2, (sl tInt s2)), (3, (intA x3))] rfl ?_
   refine sr ?_
   refine pv tb 1 rfl ?_
   refine TO_nil ?_
   refine T_seq ?_
   refine sr ?_
   refine pv tb 3 rfl ?_
   refine TO_nil ?_
   refine T_cond (t := decide (x3 = n0)) rfl (fun c_1 => ?_) (fun c_1 => ?_)
   ·replace H := cond_t c_1 H
    refine T_seq ?_
    refine sr ?_
    obtain ⟨r_2, h_3, H⟩ := bind_inv H
    refine pv tb 3 rfl ?_
    refine TO_cons rfl (TOp_callV (call_static ent52 rfl) (m_spec_IsMaximalIndependent_ok _ _ _ _ h_3) rfl rfl rfl ?_)
    refine TO_nil ?_
    refine T_cond (t := r_2) rfl (fun c_4 => ?_) (fun c_4 => ?_)
    ·replace H := cond_t c_4 H
     refine sr ?_
     refine TO_cons rfl (TOp_lit (nn := 0) (k := 1) sl31 zero3 rfl rfl rfl rfl (by decide) ?_)
     refine TO_st (σ' := [.row (flat tInt.enc ([] : (List Int)))]) rfl ?_
     obtain ⟨us_5, h_6, H⟩ := bind_inv H
     refine pv tb 1 rfl ?_
     refine TO_cons rfl (TOp_appZ (T := tInt) (f := tInt.enc) (xs := ([] : (List Int))) (ys := s2) tInt.len sl31 zero3 rfl bytes3 (by decide) rfl rfl rfl rfl (src_T (T := tInt) rfl) (flat_cell tInt _) h_6 (lb rfl) ?_)
     refine toe [(2, (sl tInt s2)), (18, (boolA r_2)), (20, (sl tInt s2)), (21, (.m [0] 0 us_5.length tInt.k))] rfl ?_
     refine TO_st (σ' := [.row (flat tInt.enc us_5), .dead]) rfl ?_
     refine TO_cons rfl (TOp_litB (nn := 1) (k := 1) sl39 zero31 rfl rfl rfl rfl (by decide) ?_)
     refine TO_st (σ' := [.row (flat tInt.enc us_5), .dead, .box [(.m [0] 0 us_5.length tInt.k)]]) rfl ?_
     refine toe [(2, (sl tInt s2)), (18, (boolA r_2)), (20, (sl tInt s2)), (22, (.m [2] 0 1 (tSl tInt).k))] rfl ?_
     refine TO_st (σ' := [.row (flat tInt.enc us_5), .dead, .box [(.m [0] 0 us_5.length tInt.k)]]) rfl ?_
     refine TO_absorbA (pr := []) 2 0 0 rfl rfl rfl (by decide) tInt.pos (flat_len tInt.len _) (lb rfl) (lb rfl) rfl (nms_row (nms_dead (nms_box rfl nms_nil))) ?_
     refine TO_st (σ' := [.dead, .dead, .box [.o tInt.k (flat tInt.enc us_5)]]) rfl ?_
     refine TO_rowifyT (T := (tSl tInt)) (xs := []) (us := ([us_5] : List (List Int))) (v := us_5) 2 rfl rfl (app_ok (b := 24) (xs := []) (ys := ([us_5] : List (List Int))) (show (0 + 1) * 24 ≤ 140737488355328 by decide)) (lb rfl) ?_
     refine toe [(2, (sl tInt s2)), (18, (boolA r_2)), (20, (sl tInt s2)), (22, (.m [2] 0 ([us_5] : List (List Int)).length (tSl tInt).k))] rfl ?_
     refine TO_st (σ' := [.dead, .dead, .row (flat (tSl tInt).own ([us_5] : List (List Int)))]) rfl ?_
     refine pv tb 1 rfl ?_
     refine TO_nil ?_
     refine T_ret ?_
     refine then_ret ?_
     refine then_ret ?_
     obtain rfl := some_inj H
     exact end_pick (.tmp .nil) rfl [2] (by decide) rfl rfl rfl rfl rfl rfl
    ·replace H := cond_f c_4 H
     refine T_skip ?_
     refine sr ?_
     refine TO_cons rfl (TOp_lit (nn := 0) (k := 1) sl39 zero31 rfl rfl rfl rfl (by decide) ?_)
     refine TO_st (σ' := [.row (flat (tSl tInt).own ([] : (List (List Int))))]) rfl ?_
     refine pv tb 1 rfl ?_
     refine TO_nil ?_
     refine T_ret ?_
     refine then_ret ?_
     obtain rfl := some_inj H
     exact end_pick (.tmp .nil) rfl [0] (by decide) rfl rfl rfl rfl rfl rfl
   ·replace H := cond_f c_1 H
    refine T_skip ?_
    refine sr ?_
    refine TO_cons rfl (TOp_lit (nn := 0) (k := 1) sl39 zero31 rfl rfl rfl rfl (by decide) ?_)
    refine TO_st (σ' := [.row (flat (tSl tInt).own ([] : (List (List Int))))]) rfl ?_
    refine pv tb 1 rfl ?_
    refine TO_nil ?_
    refine T_seq ?_
    refine sr ?_
    obtain ⟨r_7, h_8, H⟩ := bind_inv H
    refine pv tb 3 rfl ?_
    refine TO_cons rfl (TOp_callV (call_static ent81 rfl) (m_spec_l8Fits_ok _ _ _ _ h_8) rfl rfl rfl ?_)
    refine TO_nil ?_
    refine T_cond (t := r_7) rfl (fun c_9 => ?_) (fun c_9 => ?_)
    ·replace H := cond_t c_9 H
     refine T_region ?_
     refine pv tb 2 rfl ?_
     refine TO_cons rfl (TOp_lit (nn := 0) (k := 1) sl31 zero3 rfl rfl rfl rfl (by decide) ?_)
     refine TO_st (σ' := [.row (flat (tSl tInt).own ([] : (List (List Int)))), .row (flat tInt.enc ([] : (List Int)))]) rfl ?_
     obtain ⟨us_10, h_11, H⟩ := bind_inv H
     refine pv tb 1 rfl ?_
     refine TO_cons rfl (TOp_appZ (T := tInt) (f := tInt.enc) (xs := ([] : (List Int))) (ys := s2) tInt.len sl31 zero3 rfl bytes3 (by decide) rfl rfl rfl rfl (src_T (T := tInt) rfl) (flat_cell tInt _) h_11 (lb rfl) ?_)
     refine toe [(0, (intA n0)), (1, (sl tConflictEdge l1)), (2, (sl tInt s2)), (3, (intA x3)), (9, (.m [0] 0 ([] : (List (List Int))).length (tSl tInt).k)), (28, (boolA r_7)), (29, (intA n0)), (30, (sl tConflictEdge l1)), (32, (sl tInt s2)), (33, (.m [1] 0 us_10.length tInt.k))] rfl ?_
     refine TO_st (σ' := [.row (flat (tSl tInt).own ([] : (List (List Int)))), .row (flat tInt.enc us_10), .dead]) rfl ?_
     refine pv tb 1 rfl ?_
     refine TO_cons rfl (TOp_lit (nn := 1) (k := 1) sl31 zero3 rfl rfl rfl rfl (by decide) ?_)
     refine TO_st (σ' := [.row (flat (tSl tInt).own ([] : (List (List Int)))), .row (flat tInt.enc us_10), .dead, .row (flat tInt.enc ([x3] : (List Int)))]) rfl ?_
     obtain ⟨us_12, h_13, H⟩ := bind_inv H
     refine TO_cons rfl (TOp_appZ (T := tInt) (f := tInt.enc) (xs := us_10) (ys := ([x3] : (List Int))) tInt.len sl31 zero3 rfl bytes3 (by decide) rfl rfl rfl rfl (src_mT (f := tInt.enc) tInt.len rfl rfl (flat_cell tInt _)) (flat_cell tInt _) h_13 (lb rfl) ?_)
     refine toe [(0, (intA n0)), (1, (sl tConflictEdge l1)), (2, (sl tInt s2)), (3, (intA x3)), (9, (.m [0] 0 ([] : (List (List Int))).length (tSl tInt).k)), (28, (boolA r_7)), (29, (intA n0)), (30, (sl tConflictEdge l1)), (32, (sl tInt s2)), (34, (intA x3)), (35, (.m [3] 0 ([x3] : (List Int)).length tInt.k)), (36, (.m [1] 0 us_12.length tInt.k))] rfl ?_
     refine TO_st (σ' := [.row (flat (tSl tInt).own ([] : (List (List Int)))), .row (flat tInt.enc us_12), .dead, .row (flat tInt.enc ([x3] : (List Int))), .dead]) rfl ?_
     obtain ⟨r_14, h_15, H⟩ := bind_inv H
     refine pv tb 2 rfl ?_
     refine TO_cons rfl (TOp_callOG (call_static ent84 rfl) (frz_cons (frz_loose rfl) (frz_cons (frz_loose rfl) (frz_cons (frzTE (T := tInt) rfl) (frz_cons (frz_loose rfl) frz_nil)))).1 (frz_cons (frz_loose rfl) (frz_cons (frz_loose rfl) (frz_cons (frzTE (T := tInt) rfl) (frz_cons (frz_loose rfl) frz_nil)))).2 (IH _ _ _ _ _ h_15) rfl (ownC_of (ownSB_cons (flat_ownR (tSl tInt) _) ownSB_nil)) rfl rfl rfl ?_)
     refine toe [(0, (intA n0)), (1, (sl tConflictEdge l1)), (2, (sl tInt s2)), (3, (intA x3)), (9, (.m [0] 0 ([] : (List (List Int))).length (tSl tInt).k)), (29, (intA n0)), (30, (sl tConflictEdge l1)), (36, (.m [1] 0 us_12.length tInt.k)), (37, (intA x3)), (38, (intA (w64 (x3 + 1)))), (39, (.m [5] 0 r_14.length (tSl tInt).k))] rfl ?_
     refine TO_st (σ' := [.row (flat (tSl tInt).own ([] : (List (List Int)))), .row (flat tInt.enc us_12), .dead, .row (flat tInt.enc ([x3] : (List Int))), .dead, .row (flat (tSl tInt).own r_14)]) rfl ?_
     refine pv tb 1 rfl ?_
     refine TO_nil ?_
     refine sr ?_
     refine pv tb 1 rfl ?_
     refine TO_nil ?_
     refine T_seq ?_
     refine sr ?_
     refine pv tb 1 rfl ?_
     refine TO_nil ?_
     obtain ⟨O17_, L17_, N17_⟩ := bind_inv H
     clear H
     obtain ⟨B17_, hb17, L17_⟩ := gen_forS L17_
     refine T_block ?_
     refine T_loopX (fun k => fun (⟨i_16, met10⟩ : Nat × Bool) => k = l1.length - i_16 ∧ forS B17_ (l1.drop i_16) (i_16 : Int) met10 = some O17_) (fun (⟨i_16, met10⟩ : Nat × Bool) => [(0, (intA n0)), (1, (sl tConflictEdge l1)), (2, (sl tInt s2)), (3, (intA x3)), (9, (.m [5] 0 r_14.length (tSl tInt).k)), (10, (boolA met10)), (11, (intA (i_16 : Int)))]) (fun (⟨i_16, met10⟩ : Nat × Bool) => [.row (flat (tSl tInt).own ([] : (List (List Int)))), .row (flat tInt.enc us_12), .dead, .row (flat tInt.enc ([x3] : (List Int))), .dead, .row (flat (tSl tInt).own r_14)]) _ (0, false) (w0 6) ⟨rfl, L17_⟩ ?_
     rintro _ ⟨i_16, met10⟩ ⟨rfl, L17_⟩
     refine T_fact (len_sl (T := tConflictEdge) (.tmp 1) rfl) (fun hl17 => ?_)
     refine T_seq ?_
     refine sr ?_
     refine pv tb 2 rfl ?_
     refine Tp rfl rfl (pur_lenT (T := tConflictEdge) sl25 rfl rfl) rfl ?_
     refine pv tb 1 rfl ?_
     refine TO_nil ?_
     refine T_cond (t := decide ((i_16 : Int) < (l1.length : Int))) rfl (fun d17 => ?_) (fun d17 => ?_)
     ·replace d17 := of_decide_eq_true d17
      obtain ⟨x_i_16, hx_i_16⟩ : ∃ v, (l1)[i_16]? = some v := ⟨_, List.getElem?_eq_getElem (by omega)⟩
      obtain ⟨C17_, H, K17_⟩ := forS_step L17_ hx_i_16
      rw [hb17] at H
      refine T_skip ?_
      refine T_seq ?_
      refine T_block ?_
      refine T_region ?_
      refine pv tb 2 rfl ?_
      refine TO_split (t := met10) 47 rfl (fun g_18 => ?_) (fun g_18 => ?_)
      ·replace H := cond_t g_18 H
       refine pv tb 18 rfl ?_
       refine TO_nil ?_
       refine te [(0, (intA n0)), (1, (sl tConflictEdge l1)), (2, (sl tInt s2)), (3, (intA x3)), (9, (.m [5] 0 r_14.length (tSl tInt).k)), (10, (boolA true)), (11, (intA (i_16 : Int)))] rfl ?_
       refine T_region ?_
       refine pv tb 1 rfl ?_
       refine Tp rfl rfl (pur_add rfl rfl rfl (fits64 (by omega) (by omega))) rfl ?_
       refine pv tb 1 rfl ?_
       refine TO_nil ?_
       obtain rfl := some_inj H
       exact again (l1.length - (i_16 + 1)) (i_16 + 1, true) (by omega) (w0 6) ⟨rfl, K17_⟩
      ·replace H := cond_f g_18 H
       refine pv tb 2 rfl ?_
       refine TO_on rfl rfl (by decide) rfl rfl (TOp_pure (pur_ixT (T := tConflictEdge) sl25 rfl rfl rfl hx_i_16 rfl) rfl ?_)
       refine pv tb 1 rfl ?_
       refine TO_on rfl rfl (by decide) rfl rfl (TOp_pure (pur_ldT (T := tConflictEdge) (i := i_16) (off := 0) rfl one3 rfl rfl hx_i_16 rfl) rfl ?_)
       refine pv tb 4 rfl ?_
       refine TO_split (t := decide (x_i_16.a = x3)) 56 rfl (fun g_19 => ?_) (fun g_19 => ?_)
       ·replace H := cond_t g_19 H
        refine pv tb 9 rfl ?_
        refine TO_nil ?_
        refine te [(0, (intA n0)), (1, (sl tConflictEdge l1)), (2, (sl tInt s2)), (3, (intA x3)), (9, (.m [5] 0 r_14.length (tSl tInt).k)), (10, (boolA true)), (11, (intA (i_16 : Int)))] rfl ?_
        refine T_region ?_
        refine pv tb 1 rfl ?_
        refine Tp rfl rfl (pur_add rfl rfl rfl (fits64 (by omega) (by omega))) rfl ?_
        refine pv tb 1 rfl ?_
        refine TO_nil ?_
        obtain rfl := some_inj H
        exact again (l1.length - (i_16 + 1)) (i_16 + 1, true) (by omega) (w0 6) ⟨rfl, K17_⟩
       ·replace H := cond_f g_19 H
        refine pv tb 2 rfl ?_
        refine TO_on rfl rfl (by decide) rfl rfl (TOp_pure (pur_ixT (T := tConflictEdge) sl25 rfl rfl rfl hx_i_16 rfl) rfl ?_)
        refine pv tb 1 rfl ?_
        refine TO_on rfl rfl (by decide) rfl rfl (TOp_pure (pur_ldT (T := tConflictEdge) (i := i_16) (off := 1) rfl one3 rfl rfl hx_i_16 rfl) rfl ?_)
        refine pv tb 4 rfl ?_
        refine TO_nil ?_
        refine te [(0, (intA n0)), (1, (sl tConflictEdge l1)), (2, (sl tInt s2)), (3, (intA x3)), (9, (.m [5] 0 r_14.length (tSl tInt).k)), (10, (boolA (decide (x_i_16.b = x3)))), (11, (intA (i_16 : Int)))] rfl ?_
        refine T_region ?_
        refine pv tb 1 rfl ?_
        refine Tp rfl rfl (pur_add rfl rfl rfl (fits64 (by omega) (by omega))) rfl ?_
        refine pv tb 1 rfl ?_
        refine TO_nil ?_
        obtain rfl := some_inj H
        exact again (l1.length - (i_16 + 1)) (i_16 + 1, decide (x_i_16.b = x3)) (by omega) (w0 6) ⟨rfl, K17_⟩
     ·replace d17 := of_decide_eq_false d17
      obtain rfl := forS_end L17_ (by omega)
      refine T_exit ?_
      refine then_exit ?_
      refine then_exit ?_
      refine block_exit ?_
      replace H := N17_
      refine T_seq ?_
      refine sr ?_
      refine pv tb 1 rfl ?_
      refine TO_nil ?_
      refine T_cond (t := met10) rfl (fun c_20 => ?_) (fun c_20 => ?_)
      ·replace H := cond_t c_20 H
       refine T_region ?_
       obtain ⟨r_21, h_22, H⟩ := bind_inv H
       refine pv tb 6 rfl ?_
       refine TO_cons rfl (TOp_callO (call_static ent84 rfl) rfl (IH _ _ _ _ _ h_22) rfl rfl rfl ?_)
       refine toe [(0, (intA n0)), (1, (sl tConflictEdge l1)), (2, (sl tInt s2)), (3, (intA x3)), (9, (.m [5] 0 r_14.length (tSl tInt).k)), (65, (boolA met10)), (66, (.m [5] 0 r_14.length (tSl tInt).k)), (67, (intA n0)), (68, (sl tConflictEdge l1)), (69, (sl tInt s2)), (70, (intA x3)), (71, (intA (w64 (x3 + 1)))), (72, (.m [6] 0 r_21.length (tSl tInt).k))] rfl ?_
       refine TO_st (σ' := [.row (flat (tSl tInt).own ([] : (List (List Int)))), .row (flat tInt.enc us_12), .dead, .row (flat tInt.enc ([x3] : (List Int))), .dead, .row (flat (tSl tInt).own r_14), .row (flat (tSl tInt).own r_21)]) rfl ?_
       obtain ⟨us_23, h_24, H⟩ := bind_inv H
       refine TO_cons rfl (TOp_appOO (Y := (tSl tInt)) (xs := r_14) (ys := r_21) sl39 zero31 rfl bytes31 (by decide) rfl rfl rfl rfl rfl rfl (by decide) h_24 ?_)
       refine toe [(0, (intA n0)), (1, (sl tConflictEdge l1)), (2, (sl tInt s2)), (3, (intA x3)), (65, (boolA met10)), (67, (intA n0)), (68, (sl tConflictEdge l1)), (69, (sl tInt s2)), (70, (intA x3)), (71, (intA (w64 (x3 + 1)))), (73, (.m [7] 0 us_23.length (tSl tInt).k))] rfl ?_
       refine TO_st (σ' := [.row (flat (tSl tInt).own ([] : (List (List Int)))), .row (flat tInt.enc us_12), .dead, .row (flat tInt.enc ([x3] : (List Int))), .dead, .dead, .dead, .row (flat (tSl tInt).own us_23)]) rfl ?_
       refine pv tb 1 rfl ?_
       refine TO_nil ?_
       refine sr ?_
       refine pv tb 2 rfl ?_
       refine TO_nil ?_
       refine T_ret ?_
       obtain rfl := some_inj H
       exact end_pick (.tmp .nil) rfl [7] (by decide) rfl rfl rfl rfl rfl rfl
      ·replace H := cond_f c_20 H
       refine T_skip ?_
       refine sr ?_
       refine pv tb 2 rfl ?_
       refine TO_nil ?_
       refine T_ret ?_
       obtain rfl := some_inj H
       exact end_pick (.tmp .nil) rfl [5] (by decide) rfl rfl rfl rfl rfl rfl
    ·replace H := cond_f c_9 H
     refine T_skip ?_
     refine sr ?_
     refine pv tb 1 rfl ?_
     refine TO_nil ?_
     refine T_seq ?_
     refine sr ?_
     refine pv tb 1 rfl ?_
     refine TO_nil ?_
     obtain ⟨O26_, L26_, N26_⟩ := bind_inv H
     clear H
     obtain ⟨B26_, hb26, L26_⟩ := gen_forS L26_
     refine T_block ?_
     refine T_loopX (fun k => fun (⟨i_25, met10⟩ : Nat × Bool) => k = l1.length - i_25 ∧ forS B26_ (l1.drop i_25) (i_25 : Int) met10 = some O26_) (fun (⟨i_25, met10⟩ : Nat × Bool) => [(0, (intA n0)), (1, (sl tConflictEdge l1)), (2, (sl tInt s2)), (3, (intA x3)), (9, (.m [0] 0 ([] : (List (List Int))).length (tSl tInt).k)), (10, (boolA met10)), (11, (intA (i_25 : Int)))]) (fun (⟨i_25, met10⟩ : Nat × Bool) => [.row (flat (tSl tInt).own ([] : (List (List Int))))]) _ (0, false) (w0 1) ⟨rfl, L26_⟩ ?_
     rintro _ ⟨i_25, met10⟩ ⟨rfl, L26_⟩
     refine T_fact (len_sl (T := tConflictEdge) (.tmp 1) rfl) (fun hl26 => ?_)
     refine T_seq ?_
     refine sr ?_
     refine pv tb 2 rfl ?_
     refine Tp rfl rfl (pur_lenT (T := tConflictEdge) sl25 rfl rfl) rfl ?_
     refine pv tb 1 rfl ?_
     refine TO_nil ?_
     refine T_cond (t := decide ((i_25 : Int) < (l1.length : Int))) rfl (fun d26 => ?_) (fun d26 => ?_)
     ·replace d26 := of_decide_eq_true d26
      obtain ⟨x_i_25, hx_i_25⟩ : ∃ v, (l1)[i_25]? = some v := ⟨_, List.getElem?_eq_getElem (by omega)⟩
      obtain ⟨C26_, H, K26_⟩ := forS_step L26_ hx_i_25
      rw [hb26] at H
      refine T_skip ?_
      refine T_seq ?_
      refine T_block ?_
      refine T_region ?_
      refine pv tb 2 rfl ?_
      refine TO_split (t := met10) 47 rfl (fun g_27 => ?_) (fun g_27 => ?_)
      ·replace H := cond_t g_27 H
       refine pv tb 18 rfl ?_
       refine TO_nil ?_
       refine te [(0, (intA n0)), (1, (sl tConflictEdge l1)), (2, (sl tInt s2)), (3, (intA x3)), (9, (.m [0] 0 ([] : (List (List Int))).length (tSl tInt).k)), (10, (boolA true)), (11, (intA (i_25 : Int)))] rfl ?_
       refine T_region ?_
       refine pv tb 1 rfl ?_
       refine Tp rfl rfl (pur_add rfl rfl rfl (fits64 (by omega) (by omega))) rfl ?_
       refine pv tb 1 rfl ?_
       refine TO_nil ?_
       obtain rfl := some_inj H
       exact again (l1.length - (i_25 + 1)) (i_25 + 1, true) (by omega) (w0 1) ⟨rfl, K26_⟩
      ·replace H := cond_f g_27 H
       refine pv tb 2 rfl ?_
       refine TO_on rfl rfl (by decide) rfl rfl (TOp_pure (pur_ixT (T := tConflictEdge) sl25 rfl rfl rfl hx_i_25 rfl) rfl ?_)
       refine pv tb 1 rfl ?_
       refine TO_on rfl rfl (by decide) rfl rfl (TOp_pure (pur_ldT (T := tConflictEdge) (i := i_25) (off := 0) rfl one3 rfl rfl hx_i_25 rfl) rfl ?_)
       refine pv tb 4 rfl ?_
       refine TO_split (t := decide (x_i_25.a = x3)) 56 rfl (fun g_28 => ?_) (fun g_28 => ?_)
       ·replace H := cond_t g_28 H
        refine pv tb 9 rfl ?_
        refine TO_nil ?_
        refine te [(0, (intA n0)), (1, (sl tConflictEdge l1)), (2, (sl tInt s2)), (3, (intA x3)), (9, (.m [0] 0 ([] : (List (List Int))).length (tSl tInt).k)), (10, (boolA true)), (11, (intA (i_25 : Int)))] rfl ?_
        refine T_region ?_
        refine pv tb 1 rfl ?_
        refine Tp rfl rfl (pur_add rfl rfl rfl (fits64 (by omega) (by omega))) rfl ?_
        refine pv tb 1 rfl ?_
        refine TO_nil ?_
        obtain rfl := some_inj H
        exact again (l1.length - (i_25 + 1)) (i_25 + 1, true) (by omega) (w0 1) ⟨rfl, K26_⟩
       ·replace H := cond_f g_28 H
        refine pv tb 2 rfl ?_
        refine TO_on rfl rfl (by decide) rfl rfl (TOp_pure (pur_ixT (T := tConflictEdge) sl25 rfl rfl rfl hx_i_25 rfl) rfl ?_)
        refine pv tb 1 rfl ?_
        refine TO_on rfl rfl (by decide) rfl rfl (TOp_pure (pur_ldT (T := tConflictEdge) (i := i_25) (off := 1) rfl one3 rfl rfl hx_i_25 rfl) rfl ?_)
        refine pv tb 4 rfl ?_
        refine TO_nil ?_
        refine te [(0, (intA n0)), (1, (sl tConflictEdge l1)), (2, (sl tInt s2)), (3, (intA x3)), (9, (.m [0] 0 ([] : (List (List Int))).length (tSl tInt).k)), (10, (boolA (decide (x_i_25.b = x3)))), (11, (intA (i_25 : Int)))] rfl ?_
        refine T_region ?_
        refine pv tb 1 rfl ?_
        refine Tp rfl rfl (pur_add rfl rfl rfl (fits64 (by omega) (by omega))) rfl ?_
        refine pv tb 1 rfl ?_
        refine TO_nil ?_
        obtain rfl := some_inj H
        exact again (l1.length - (i_25 + 1)) (i_25 + 1, decide (x_i_25.b = x3)) (by omega) (w0 1) ⟨rfl, K26_⟩
     ·replace d26 := of_decide_eq_false d26
      obtain rfl := forS_end L26_ (by omega)
      refine T_exit ?_
      refine then_exit ?_
      refine then_exit ?_
      refine block_exit ?_
      replace H := N26_
      refine T_seq ?_
      refine sr ?_
      refine pv tb 1 rfl ?_
      refine TO_nil ?_
      refine T_cond (t := met10) rfl (fun c_29 => ?_) (fun c_29 => ?_)
      ·replace H := cond_t c_29 H
       refine T_region ?_
       obtain ⟨r_30, h_31, H⟩ := bind_inv H
       refine pv tb 6 rfl ?_
       refine TO_cons rfl (TOp_callO (call_static ent84 rfl) rfl (IH _ _ _ _ _ h_31) rfl rfl rfl ?_)
       refine toe [(0, (intA n0)), (1, (sl tConflictEdge l1)), (2, (sl tInt s2)), (3, (intA x3)), (9, (.m [0] 0 ([] : (List (List Int))).length (tSl tInt).k)), (65, (boolA met10)), (66, (.m [0] 0 ([] : (List (List Int))).length (tSl tInt).k)), (67, (intA n0)), (68, (sl tConflictEdge l1)), (69, (sl tInt s2)), (70, (intA x3)), (71, (intA (w64 (x3 + 1)))), (72, (.m [1] 0 r_30.length (tSl tInt).k))] rfl ?_
       refine TO_st (σ' := [.row (flat (tSl tInt).own ([] : (List (List Int)))), .row (flat (tSl tInt).own r_30)]) rfl ?_
       obtain ⟨us_32, h_33, H⟩ := bind_inv H
       refine TO_cons rfl (TOp_appOO (Y := (tSl tInt)) (xs := ([] : (List (List Int)))) (ys := r_30) sl39 zero31 rfl bytes31 (by decide) rfl rfl rfl rfl rfl rfl (by decide) h_33 ?_)
       refine toe [(0, (intA n0)), (1, (sl tConflictEdge l1)), (2, (sl tInt s2)), (3, (intA x3)), (65, (boolA met10)), (67, (intA n0)), (68, (sl tConflictEdge l1)), (69, (sl tInt s2)), (70, (intA x3)), (71, (intA (w64 (x3 + 1)))), (73, (.m [2] 0 us_32.length (tSl tInt).k))] rfl ?_
       refine TO_st (σ' := [.dead, .dead, .row (flat (tSl tInt).own us_32)]) rfl ?_
       refine pv tb 1 rfl ?_
       refine TO_nil ?_
       refine sr ?_
       refine pv tb 2 rfl ?_
       refine TO_nil ?_
       refine T_ret ?_
       obtain rfl := some_inj H
       exact end_pick (.tmp .nil) rfl [2] (by decide) rfl rfl rfl rfl rfl rfl
      ·replace H := cond_f c_29 H
       refine T_skip ?_
       refine sr ?_
       refine pv tb 2 rfl ?_
       refine TO_nil ?_
       refine T_ret ?_
       obtain rfl := some_inj H
       exact end_pick (.tmp .nil) rfl [0] (by decide) rfl rfl rfl rfl rfl rfl
theorem m_spec_l8Walk_ok (u : Nat) (n0 : Int) (l1 : (List ConflictEdge)) (s2 : (List Int)) (x3 : Int) (r : (List (List Int))) (H : m_spec_l8Walk u n0 l1 s2 x3 = some r) : FnV prg 84 [(intA n0), (sl tConflictEdge l1), (sl tInt s2), (intA x3)] (sl (tSl tInt) r) := (m_spec_l8Walk_own u n0 l1 s2 x3 r H).frz (frzT (T := (tSl tInt)) rfl)

set_option maxHeartbeats 1000000 in
theorem m_spec_MaximalIndependentSets_own (u : Nat) (n0 : Int) (l1 : (List ConflictEdge)) (r : (List (List Int))) (H : m_spec_MaximalIndependentSets u n0 l1 = some r) : FnO prg 58 [(intA n0), (sl tConflictEdge l1)] (.m [0] 0 r.length (tSl tInt).k) [.row (flat (tSl tInt).own r)] := by
  unfold m_spec_MaximalIndependentSets at H
  refine fnO_of_T Try.func58 rfl rfl (Nat.le_of_ble_eq_true rfl) ?_
  refine te [(0, (intA n0)), (1, (sl tConflictEdge l1))] rfl ?_
  refine sr ?_
  refine pv tb 1 rfl ?_
  refine TO_nil ?_
  refine T_seq ?_
  refine sr ?_
  obtain ⟨r_1, h_2, H⟩ := bind_inv H
  refine pv tb 2 rfl ?_
  refine TO_cons rfl (TOp_callV (call_static ent45 rfl) (m_spec_AreValidEdges_ok _ _ _ h_2) rfl rfl rfl ?_)
  refine pv tb 1 rfl ?_
  refine TO_nil ?_
  refine T_cond (t := (!r_1)) rfl (fun c_3 => ?_) (fun c_3 => ?_)
  ·replace H := cond_t c_3 H
   refine sr ?_
   refine TO_cons rfl (TOp_lit (nn := 0) (k := 1) sl39 zero31 rfl rfl rfl rfl (by decide) ?_)
   refine TO_st (σ' := [.row (flat (tSl tInt).own ([] : (List (List Int))))]) rfl ?_
   refine pv tb 1 rfl ?_
   refine TO_nil ?_
   refine T_ret ?_
   refine then_ret ?_
   obtain rfl := some_inj H
   exact end_pick (.tmp .nil) rfl [0] (by decide) rfl rfl rfl rfl rfl rfl
  ·replace H := cond_f c_3 H
   refine T_skip ?_
   refine sr ?_
   refine pv tb 2 rfl ?_
   refine TO_cons rfl (TOp_lit (nn := 0) (k := 1) sl31 zero3 rfl rfl rfl rfl (by decide) ?_)
   refine TO_st (σ' := [.row (flat tInt.enc ([] : (List Int)))]) rfl ?_
   obtain ⟨r_4, h_5, H⟩ := bind_inv H
   refine TO_cons rfl (TOp_callOG (call_static ent84 rfl) (frz_cons (frz_loose rfl) (frz_cons (frz_loose rfl) (frz_cons (frzTE (T := tInt) (xs := ([] : (List Int))) rfl) (frz_cons (frz_loose rfl) frz_nil)))).1 (frz_cons (frz_loose rfl) (frz_cons (frz_loose rfl) (frz_cons (frzTE (T := tInt) (xs := ([] : (List Int))) rfl) (frz_cons (frz_loose rfl) frz_nil)))).2 (m_spec_l8Walk_own u _ _ _ _ _ h_5) rfl (ownC_of (ownSB_cons (flat_ownR (tSl tInt) _) ownSB_nil)) rfl rfl rfl ?_)
   refine toe [(0, (intA n0)), (1, (sl tConflictEdge l1)), (10, (intA n0)), (11, (sl tConflictEdge l1)), (12, (.m [0] 0 ([] : (List Int)).length tInt.k)), (13, (.m [1] 0 r_4.length (tSl tInt).k))] rfl ?_
   refine TO_st (σ' := [.row (flat tInt.enc ([] : (List Int))), .row (flat (tSl tInt).own r_4)]) rfl ?_
   refine pv tb 1 rfl ?_
   refine TO_nil ?_
   refine T_ret ?_
   obtain rfl := some_inj H
   exact end_pick (.tmp .nil) rfl [1] (by decide) rfl rfl rfl rfl rfl rfl
theorem m_spec_MaximalIndependentSets_ok (u : Nat) (n0 : Int) (l1 : (List ConflictEdge)) (r : (List (List Int))) (H : m_spec_MaximalIndependentSets u n0 l1 = some r) : FnV prg 58 [(intA n0), (sl tConflictEdge l1)] (sl (tSl tInt) r) := (m_spec_MaximalIndependentSets_own u n0 l1 r H).frz (frzT (T := (tSl tInt)) rfl)

set_option maxHeartbeats 1000000 in
theorem m_spec_ParetoOptimalRepairs_ok (u : Nat) (n0 : Int) (l1 : (List ConflictEdge)) (p2 : (List ConflictEdge)) (r : (List (List Int))) (H : m_spec_ParetoOptimalRepairs u n0 l1 p2 = some r) : FnV prg 27 [(intA n0), (sl tConflictEdge l1), (sl tConflictEdge p2)] (sl (tSl tInt) r) := by
  unfold m_spec_ParetoOptimalRepairs at H
  refine fnV_of_T Try.func27 rfl rfl (Nat.le_of_ble_eq_true rfl) ?_
  refine te [(0, (intA n0)), (1, (sl tConflictEdge l1)), (2, (sl tConflictEdge p2))] rfl ?_
  refine sr ?_
  refine pv tb 1 rfl ?_
  refine TO_nil ?_
  refine sr ?_
  refine TO_cons rfl (TOp_lit (nn := 0) (k := 1) sl39 zero31 rfl rfl rfl rfl (by decide) ?_)
  refine TO_st (σ' := [.row (flat (tSl tInt).enc ([] : (List (List Int))))]) rfl ?_
  refine pv tb 1 rfl ?_
  refine TO_nil ?_
  refine sr ?_
  obtain ⟨r_1, h_2, H⟩ := bind_inv H
  refine pv tb 2 rfl ?_
  refine TO_cons rfl (TOp_callV (call_static ent58 rfl) (m_spec_MaximalIndependentSets_ok u _ _ _ h_2) rfl rfl rfl ?_)
  refine pv tb 1 rfl ?_
  refine TO_nil ?_
  refine T_seq ?_
  refine sr ?_
  refine pv tb 1 rfl ?_
  refine TO_nil ?_
  obtain ⟨O4_, L4_, N4_⟩ := bind_inv H
  clear H
  obtain ⟨B4_, hb4, L4_⟩ := gen_forS L4_
  refine T_block ?_
  refine T_loopX (fun k => fun (⟨i_3, out7⟩ : Nat × (List (List Int))) => k = r_1.length - i_3 ∧ forS B4_ (r_1.drop i_3) (i_3 : Int) out7 = some O4_) (fun (⟨i_3, out7⟩ : Nat × (List (List Int))) => [(0, (intA n0)), (1, (sl tConflictEdge l1)), (2, (sl tConflictEdge p2)), (7, (.m [0] 0 out7.length (tSl tInt).k)), (8, (sl (tSl tInt) r_1)), (9, (intA (i_3 : Int)))]) (fun (⟨i_3, out7⟩ : Nat × (List (List Int))) => [.row (flat (tSl tInt).enc out7)]) _ (0, ([] : (List (List Int)))) (w0 1) ⟨rfl, L4_⟩ ?_
  rintro _ ⟨i_3, out7⟩ ⟨rfl, L4_⟩
  refine T_fact (len_sl (T := (tSl tInt)) (.tmp 8) rfl) (fun hl4 => ?_)
  refine T_seq ?_
  refine sr ?_
  refine pv tb 2 rfl ?_
  refine Tp rfl rfl (pur_lenT (T := (tSl tInt)) sl39 rfl rfl) rfl ?_
  refine pv tb 1 rfl ?_
  refine TO_nil ?_
  refine T_cond (t := decide ((i_3 : Int) < (r_1.length : Int))) rfl (fun d4 => ?_) (fun d4 => ?_)
  ·replace d4 := of_decide_eq_true d4
   obtain ⟨x_i_3, hx_i_3⟩ : ∃ v, (r_1)[i_3]? = some v := ⟨_, List.getElem?_eq_getElem (by omega)⟩
   obtain ⟨C4_, H, K4_⟩ := forS_step L4_ hx_i_3
   rw [hb4] at H
   refine T_skip ?_
   refine T_seq ?_
   refine T_block ?_
   refine sr ?_
   refine pv tb 5 rfl ?_
   refine Tp rfl rfl (pur_ixT (T := (tSl tInt)) sl39 rfl rfl rfl hx_i_3 rfl) rfl ?_
   refine Tp rfl rfl (pur_ldT (T := (tSl tInt)) (i := i_3) (off := 0) rfl one31 rfl rfl hx_i_3 rfl) rfl ?_
   obtain ⟨r_5, h_6, H⟩ := bind_inv H
   refine TO_cons rfl (TOp_callV (call_static ent25 rfl) (m_spec_IsParetoOptimal_ok _ _ _ _ _ h_6) rfl rfl rfl ?_)
   refine TO_nil ?_
   refine T_cond (t := r_5) rfl (fun c_7 => ?_) (fun c_7 => ?_)
   ·replace H := cond_t c_7 H
    refine T_region ?_
    refine pv tb 3 rfl ?_
    refine Tp rfl rfl (pur_ixT (T := (tSl tInt)) sl39 rfl rfl rfl hx_i_3 rfl) rfl ?_
    refine Tp rfl rfl (pur_ldT (T := (tSl tInt)) (i := i_3) (off := 0) rfl one31 rfl rfl hx_i_3 rfl) rfl ?_
    refine TO_cons rfl (TOp_lit (nn := 1) (k := 1) sl39 zero31 rfl rfl rfl rfl (by decide) ?_)
    refine TO_st (σ' := [.row (flat (tSl tInt).enc out7), .row (flat (tSl tInt).enc ([x_i_3] : (List (List Int))))]) rfl ?_
    obtain ⟨us_8, h_9, H⟩ := bind_inv H
    refine TO_cons rfl (TOp_appZ (T := (tSl tInt)) (f := (tSl tInt).enc) (xs := out7) (ys := ([x_i_3] : (List (List Int)))) (tSl tInt).len sl39 zero31 rfl bytes31 (by decide) rfl rfl rfl rfl (src_mT (f := (tSl tInt).enc) (tSl tInt).len rfl rfl (flat_cell (tSl tInt) _)) (flat_cell (tSl tInt) _) h_9 (lb rfl) ?_)
    refine toe [(0, (intA n0)), (1, (sl tConflictEdge l1)), (2, (sl tConflictEdge p2)), (8, (sl (tSl tInt) r_1)), (9, (intA (i_3 : Int))), (27, (boolA r_5)), (29, (sl (tSl tInt) r_1)), (30, (intA (i_3 : Int))), (31, (.q (flat (tSl tInt).enc r_1) (i_3 * (tSl tInt).k))), (32, (sl tInt x_i_3)), (33, (.m [1] 0 ([x_i_3] : (List (List Int))).length (tSl tInt).k)), (34, (.m [0] 0 us_8.length (tSl tInt).k))] rfl ?_
    refine TO_st (σ' := [.row (flat (tSl tInt).enc us_8), .row (flat (tSl tInt).enc ([x_i_3] : (List (List Int)))), .dead]) rfl ?_
    refine pv tb 1 rfl ?_
    refine TO_nil ?_
    refine T_region ?_
    refine pv tb 1 rfl ?_
    refine Tp rfl rfl (pur_add rfl rfl rfl (fits64 (by omega) (by omega))) rfl ?_
    refine pv tb 1 rfl ?_
    refine TO_nil ?_
    obtain rfl := some_inj H
    exact again (r_1.length - (i_3 + 1)) (i_3 + 1, us_8) (by omega) (w0 1) ⟨rfl, K4_⟩
   ·replace H := cond_f c_7 H
    refine T_skip ?_
    refine T_region ?_
    refine pv tb 1 rfl ?_
    refine Tp rfl rfl (pur_add rfl rfl rfl (fits64 (by omega) (by omega))) rfl ?_
    refine pv tb 1 rfl ?_
    refine TO_nil ?_
    obtain rfl := some_inj H
    exact again (r_1.length - (i_3 + 1)) (i_3 + 1, out7) (by omega) (w0 1) ⟨rfl, K4_⟩
  ·replace d4 := of_decide_eq_false d4
   obtain rfl := forS_end L4_ (by omega)
   refine T_exit ?_
   refine then_exit ?_
   refine then_exit ?_
   refine block_exit ?_
   replace H := N4_
   refine sr ?_
   refine pv tb 2 rfl ?_
   refine TO_nil ?_
   refine T_frz1 0 (E' := [(6, (sl (tSl tInt) out7))]) rfl rfl (lb rfl) ⟨fz1E, trivial⟩ ?_
   refine T_st (σ' := [.dead]) rfl ?_
   refine T_ret ?_
   obtain rfl := some_inj H
   refine end_ret (.tmp .nil) rfl rfl ⟨?_, rfl⟩
   rfl
end Go.Proofs.Ytglgcncmjnjfgaa

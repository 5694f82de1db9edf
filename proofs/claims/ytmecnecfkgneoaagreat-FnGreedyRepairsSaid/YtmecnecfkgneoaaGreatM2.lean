import Derived.Test.YtmecnecfkgneoaaGreatM1
set_option linter.unusedVariables false
set_option linter.unusedSimpArgs false
set_option maxRecDepth 4000
namespace Go.Proofs.YtmecnecfkgneoaaGreat
open Go Go.Proofs Go.Sep
set_option maxHeartbeats 1000000 in
theorem m_laws_big_ok (code0 : (List Int)) (r : Bool) (H : m_laws_big code0 = some r) : FnV prg 4 [(sl (tI .u8) code0)] (boolA r) := by
  unfold m_laws_big at H
  refine fnV_of_T Tryz.func4 rfl rfl (Nat.le_of_ble_eq_true rfl) ?_
  refine te [(0, (sl (tI .u8) code0))] rfl ?_
  refine sr ?_
  refine pv tb 1 rfl ?_
  refine TO_nil ?_
  refine sr ?_
  refine pv tb 1 rfl ?_
  refine Tp rfl rfl (pur_lenT (T := (tI .u8)) sl22 rfl rfl) rfl ?_
  refine pv tb 2 rfl ?_
  refine TO_nil ?_
  refine T_ret ?_
  obtain rfl := some_inj H
  refine end_ret (.tmp .nil) rfl rfl ⟨?_, rfl⟩
  rfl

set_option maxHeartbeats 1000000 in
theorem m_spec_l1Byte_x (c0 : l1Cur) (r : (Int × l1Cur)) (H : m_spec_l1Byte c0 = some r) : FnS prg 60 [(.b 0 0)] [.box [(sl (tI .u8) c0.b), (intA c0.i), (intA c0.h)]] (intA r.1) [.box [(sl (tI .u8) r.2.b), (intA r.2.i), (intA r.2.h)]] := by
  unfold m_spec_l1Byte at H
  refine fnS_of_T Tryz.func60 rfl rfl (Nat.le_of_ble_eq_true rfl) ?_
  refine te [(0, (.b 0 0))] rfl ?_
  refine T_st (σ' := [.box [(sl (tI .u8) c0.b), (intA c0.i), (intA c0.h)]]) rfl ?_
  refine sr ?_
  refine pv tb 1 rfl ?_
  refine TO_nil ?_
  refine sr ?_
  refine pv tb 2 rfl ?_
  refine Tp rfl rfl (pur_nil_b rfl rfl) rfl ?_
  refine pv tb 4 rfl ?_
  refine Tp rfl rfl (pur_nil_b rfl rfl) rfl ?_
  refine pv tb 1 rfl ?_
  refine TO_cons rfl (TOp_storeB sz3 rfl rfl rfl rfl rfl rfl rfl (by decide) (lb rfl) rfl ?_)
  refine TO_st (σ' := [.box [(sl (tI .u8) c0.b), (intA c0.i), (intA (w64 ((w64 (c0.h * 6364136223846793005)) + 1442695040888963407)))]]) rfl ?_
  refine TO_nil ?_
  refine T_seq ?_
  refine T_regionD mixed (by kernel_rfl) ?_
  refine pq tb 1 rfl ?_
  refine TQ_pure rfl (pur_nil_b rfl rfl) rfl ?_
  refine pq tb 2 rfl ?_
  refine TQ_pure rfl (pur_shr rfl rfl rfl (by decide)) rfl ?_
  refine pq tb 1 rfl ?_
  refine TQ_pure rfl (pur_nil_b rfl rfl) rfl ?_
  refine pq tb 1 rfl ?_
  refine tqe [(0, (.b 0 0)), (17, (intA (shrI .i64 (w64 ((w64 (c0.h * 6364136223846793005)) + 1442695040888963407)) 33))), (20, (.b 0 2))] rfl ?_
  refine pq tb 1 rfl ?_
  refine TQ_pure rfl (pur_shr rfl rfl rfl (by decide)) rfl ?_
  refine TQ_pure rfl (pur_xor rfl rfl rfl) rfl ?_
  refine TQ_pure rfl (pur_and rfl rfl rfl) rfl ?_
  refine pq tb 1 rfl ?_
  refine TQ_nil ?_
  refine T_seq ?_
  refine T_seq ?_
  refine T_regionD mixed (by kernel_rfl) ?_
  refine pq tb 1 rfl ?_
  refine TQ_pure rfl (pur_nil_b rfl rfl) rfl ?_
  refine pq tb 3 rfl ?_
  refine TQ_pure rfl (pur_nil_b rfl rfl) rfl ?_
  refine pq tb 2 rfl ?_
  refine TQ_pure rfl (pur_lenT (T := (tI .u8)) sl22 rfl rfl) rfl ?_
  refine pq tb 1 rfl ?_
  refine TQ_nil ?_
  refine te [(0, (.b 0 0)), (3, (intA (bitI .and .i64 (bitI .xor .i64 (shrI .i64 (w64 ((w64 (c0.h * 6364136223846793005)) + 1442695040888963407)) 33) (shrI .i64 (w64 ((w64 (c0.h * 6364136223846793005)) + 1442695040888963407)) 45)) 255))), (34, (boolA (decide (c0.i < (c0.b.length : Int)))))] rfl ?_
  refine T_cond (t := decide (c0.i < (c0.b.length : Int))) rfl (fun c_1 => ?_) (fun c_1 => ?_)
  ·replace H := cond_t c_1 H
   refine T_seq ?_
   refine T_regionD mixed (by kernel_rfl) ?_
   refine pq tb 2 rfl ?_
   refine TQ_pure rfl (pur_nil_b rfl rfl) rfl ?_
   refine pq tb 3 rfl ?_
   refine TQ_pure rfl (pur_nil_b rfl rfl) rfl ?_
   obtain ⟨v_2, h_3, H⟩ := bind_inv H
   obtain ⟨n_4, hz_5, hv_6⟩ := getI_inv h_3
   refine pq tb 2 rfl ?_
   refine TQ_pure rfl (pur_ixT (T := (tI .u8)) sl22 rfl rfl hz_5 hv_6 rfl) rfl ?_
   refine TQ_pure rfl (pur_ldT (T := (tI .u8)) (i := n_4) (off := 0) rfl one5 rfl rfl hv_6 rfl) rfl ?_
   refine TQ_pure rfl (pur_convI (k := .i64) (k' := .u8) ⟨_, Tryz.underlying5⟩ Tryz.underlying3 rfl rfl) rfl ?_
   refine pq tb 1 rfl ?_
   refine TQ_pure rfl (pur_and rfl rfl rfl) rfl ?_
   refine pq tb 1 rfl ?_
   refine TQ_nil ?_
   refine te [(0, (.b 0 0)), (3, (intA (bitI .and .i64 (w64 ((bitI .and .i64 (bitI .xor .i64 (shrI .i64 (w64 ((w64 (c0.h * 6364136223846793005)) + 1442695040888963407)) 33) (shrI .i64 (w64 ((w64 (c0.h * 6364136223846793005)) + 1442695040888963407)) 45)) 255) + (w64 v_2))) 255)))] rfl ?_
   refine T_region ?_
   refine pv tb 2 rfl ?_
   refine Tp rfl rfl (pur_nil_b rfl rfl) rfl ?_
   refine pv tb 3 rfl ?_
   refine Tp rfl rfl (pur_nil_b rfl rfl) rfl ?_
   refine pv tb 1 rfl ?_
   refine TO_cons rfl (TOp_storeB sz3 rfl rfl rfl rfl rfl rfl rfl (by decide) (lb rfl) rfl ?_)
   refine TO_st (σ' := [.box [(sl (tI .u8) c0.b), (intA (w64 (c0.i + 1))), (intA (w64 ((w64 (c0.h * 6364136223846793005)) + 1442695040888963407)))]]) rfl ?_
   refine TO_nil ?_
   refine sr ?_
   refine pv tb 2 rfl ?_
   refine TO_nil ?_
   refine T_ret ?_
   obtain rfl := some_inj H
   exact end_pickX (.tmp .nil) rfl [0] (by decide) (lb rfl) rfl (lb rfl) rfl rfl rfl rfl rfl rfl
  ·replace H := cond_f c_1 H
   refine T_skip ?_
   refine sr ?_
   refine pv tb 2 rfl ?_
   refine TO_nil ?_
   refine T_ret ?_
   obtain rfl := some_inj H
   exact end_pickX (.tmp .nil) rfl [0] (by decide) (lb rfl) rfl (lb rfl) rfl rfl rfl rfl rfl rfl

set_option maxHeartbeats 1000000 in
theorem m_spec_l1Below_x (c0 : l1Cur) (n1 : Int) (r : (Int × l1Cur)) (H : m_spec_l1Below c0 n1 = some r) : FnS prg 36 [(.b 0 0), (intA n1)] [.box [(sl (tI .u8) c0.b), (intA c0.i), (intA c0.h)]] (intA r.1) [.box [(sl (tI .u8) r.2.b), (intA r.2.i), (intA r.2.h)]] := by
  unfold m_spec_l1Below at H
  refine fnS_of_T Tryz.func36 rfl rfl (Nat.le_of_ble_eq_true rfl) ?_
  refine te [(0, (.b 0 0)), (1, (intA n1))] rfl ?_
  refine T_st (σ' := [.box [(sl (tI .u8) c0.b), (intA c0.i), (intA c0.h)]]) rfl ?_
  refine sr ?_
  refine pv tb 1 rfl ?_
  refine TO_nil ?_
  refine T_seq ?_
  refine sr ?_
  refine pv tb 2 rfl ?_
  refine TO_nil ?_
  refine T_cond (t := decide (n1 ≤ 0)) rfl (fun c_1 => ?_) (fun c_1 => ?_)
  ·replace H := cond_t c_1 H
   refine sr ?_
   refine pv tb 1 rfl ?_
   refine TO_nil ?_
   refine T_ret ?_
   refine then_ret ?_
   obtain rfl := some_inj H
   exact end_pickX (.tmp .nil) rfl [0] (by decide) (lb rfl) rfl (lb rfl) rfl rfl rfl rfl rfl rfl
  ·replace H := cond_f c_1 H
   refine T_skip ?_
   refine T_seq ?_
   refine sr ?_
   refine pv tb 2 rfl ?_
   refine TO_nil ?_
   refine T_cond (t := decide (n1 ≤ 256)) rfl (fun c_2 => ?_) (fun c_2 => ?_)
   ·replace H := cond_t c_2 H
    refine sr ?_
    obtain ⟨r_3, h_4, H⟩ := bind_inv H
    refine pv tb 1 rfl ?_
    refine TO_cons rfl (TOp_callS [0] (call_static ent60 rfl) (by decide) rfl rfl rfl rfl rfl rfl (m_spec_l1Byte_x _ _ h_4) rfl rfl ?_)
    refine toe [(0, (.b 0 0)), (1, (intA n1)), (12, (boolA (decide (n1 ≤ 256)))), (13, (.b 0 0)), (14, (intA r_3.1))] rfl ?_
    refine TO_st (σ' := [.box [(sl (tI .u8) r_3.2.b), (intA r_3.2.i), (intA r_3.2.h)]]) rfl ?_
    obtain ⟨_u, h_5, H⟩ := bind_inv H
    refine pv tb 1 rfl ?_
    refine Tp rfl rfl (pur_rem rfl rfl rfl (gD_inv h_5)) rfl ?_
    refine pv tb 1 rfl ?_
    refine TO_nil ?_
    refine T_ret ?_
    refine then_ret ?_
    obtain rfl := some_inj H
    exact end_pickX (.tmp .nil) rfl [0] (by decide) (lb rfl) rfl (lb rfl) rfl rfl rfl rfl rfl rfl
   ·replace H := cond_f c_2 H
    refine T_skip ?_
    refine sr ?_
    obtain ⟨r_6, h_7, H⟩ := bind_inv H
    refine pv tb 1 rfl ?_
    refine TO_cons rfl (TOp_callS [0] (call_static ent60 rfl) (by decide) rfl rfl rfl rfl rfl rfl (m_spec_l1Byte_x _ _ h_7) rfl rfl ?_)
    refine toe [(0, (.b 0 0)), (1, (intA n1)), (17, (.b 0 0)), (18, (intA r_6.1))] rfl ?_
    refine TO_st (σ' := [.box [(sl (tI .u8) r_6.2.b), (intA r_6.2.i), (intA r_6.2.h)]]) rfl ?_
    refine pv tb 1 rfl ?_
    refine TO_nil ?_
    refine sr ?_
    obtain ⟨r_8, h_9, H⟩ := bind_inv H
    refine pv tb 1 rfl ?_
    refine TO_cons rfl (TOp_callS [0] (call_static ent60 rfl) (by decide) rfl rfl rfl rfl rfl rfl (m_spec_l1Byte_x _ _ h_9) rfl rfl ?_)
    refine toe [(0, (.b 0 0)), (1, (intA n1)), (5, (intA r_6.1)), (19, (.b 0 0)), (20, (intA r_8.1))] rfl ?_
    refine TO_st (σ' := [.box [(sl (tI .u8) r_8.2.b), (intA r_8.2.i), (intA r_8.2.h)]]) rfl ?_
    refine pv tb 1 rfl ?_
    refine TO_nil ?_
    refine sr ?_
    obtain ⟨r_10, h_11, H⟩ := bind_inv H
    refine pv tb 1 rfl ?_
    refine TO_cons rfl (TOp_callS [0] (call_static ent60 rfl) (by decide) rfl rfl rfl rfl rfl rfl (m_spec_l1Byte_x _ _ h_11) rfl rfl ?_)
    refine toe [(0, (.b 0 0)), (1, (intA n1)), (5, (intA r_6.1)), (6, (intA r_8.1)), (21, (.b 0 0)), (22, (intA r_10.1))] rfl ?_
    refine TO_st (σ' := [.box [(sl (tI .u8) r_10.2.b), (intA r_10.2.i), (intA r_10.2.h)]]) rfl ?_
    refine pv tb 1 rfl ?_
    refine TO_nil ?_
    refine sr ?_
    obtain ⟨r_12, h_13, H⟩ := bind_inv H
    refine pv tb 1 rfl ?_
    refine TO_cons rfl (TOp_callS [0] (call_static ent60 rfl) (by decide) rfl rfl rfl rfl rfl rfl (m_spec_l1Byte_x _ _ h_13) rfl rfl ?_)
    refine toe [(0, (.b 0 0)), (1, (intA n1)), (5, (intA r_6.1)), (6, (intA r_8.1)), (7, (intA r_10.1)), (23, (.b 0 0)), (24, (intA r_12.1))] rfl ?_
    refine TO_st (σ' := [.box [(sl (tI .u8) r_12.2.b), (intA r_12.2.i), (intA r_12.2.h)]]) rfl ?_
    refine pv tb 1 rfl ?_
    refine TO_nil ?_
    refine sr ?_
    obtain ⟨_u, h_14, H⟩ := bind_inv H
    refine pv tb 11 rfl ?_
    refine Tp rfl rfl (pur_rem rfl rfl rfl (gD_inv h_14)) rfl ?_
    refine pv tb 1 rfl ?_
    refine TO_nil ?_
    refine te [(4, (intA ((w64 ((w64 ((w64 ((w64 (r_6.1 * 16777216)) + (w64 (r_8.1 * 65536)))) + (w64 (r_10.1 * 256)))) + r_12.1)).tmod n1)))] rfl ?_
    refine T_ret ?_
    obtain rfl := some_inj H
    exact end_pickX (.tmp .nil) rfl [0] (by decide) (lb rfl) rfl (lb rfl) rfl rfl rfl rfl rfl rfl

set_option maxHeartbeats 1000000 in
theorem m_spec_l1Once_x (c0 : l1Cur) (n1 : Int) (r : (Bool × l1Cur)) (H : m_spec_l1Once c0 n1 = some r) : FnS prg 37 [(.b 0 0), (intA n1)] [.box [(sl (tI .u8) c0.b), (intA c0.i), (intA c0.h)]] (boolA r.1) [.box [(sl (tI .u8) r.2.b), (intA r.2.i), (intA r.2.h)]] := by
  unfold m_spec_l1Once at H
  refine fnS_of_T Tryz.func37 rfl rfl (Nat.le_of_ble_eq_true rfl) ?_
  refine te [(0, (.b 0 0)), (1, (intA n1))] rfl ?_
  refine T_st (σ' := [.box [(sl (tI .u8) c0.b), (intA c0.i), (intA c0.h)]]) rfl ?_
  refine sr ?_
  refine pv tb 1 rfl ?_
  refine TO_nil ?_
  refine sr ?_
  obtain ⟨r_1, h_2, H⟩ := bind_inv H
  refine pv tb 2 rfl ?_
  refine TO_cons rfl (TOp_callS [0] (call_static ent36 rfl) (by decide) rfl rfl rfl rfl rfl rfl (m_spec_l1Below_x _ _ _ h_2) rfl rfl ?_)
  refine toe [(0, (.b 0 0)), (1, (intA n1)), (5, (.b 0 0)), (6, (intA n1)), (7, (intA r_1.1))] rfl ?_
  refine TO_st (σ' := [.box [(sl (tI .u8) r_1.2.b), (intA r_1.2.i), (intA r_1.2.h)]]) rfl ?_
  refine pv tb 2 rfl ?_
  refine TO_nil ?_
  refine T_ret ?_
  obtain rfl := some_inj H
  exact end_pickX (.tmp .nil) rfl [0] (by decide) (lb rfl) rfl (lb rfl) rfl rfl rfl rfl rfl rfl

set_option maxHeartbeats 1000000 in
theorem m_spec_l8Edges_x (c0 : l1Cur) (r : ((Int × (List ConflictEdge)) × l1Cur)) (H : m_spec_l8Edges c0 = some r) : FnS prg 35 [(.b 0 0)] [.box [(sl (tI .u8) c0.b), (intA c0.i), (intA c0.h)]] (.t [(intA r.1.1), (.m [1] 0 r.1.2.length tConflictEdge.k)]) [.box [(sl (tI .u8) r.2.b), (intA r.2.i), (intA r.2.h)], .row (flat tConflictEdge.enc r.1.2)] := by
  unfold m_spec_l8Edges at H
  refine fnS_of_T Tryz.func35 rfl rfl (Nat.le_of_ble_eq_true rfl) ?_
  refine te [(0, (.b 0 0))] rfl ?_
  refine T_st (σ' := [.box [(sl (tI .u8) c0.b), (intA c0.i), (intA c0.h)]]) rfl ?_
  refine sr ?_
  refine pv tb 2 rfl ?_
  refine TO_nil ?_
  refine sr ?_
  obtain ⟨r_1, h_2, H⟩ := bind_inv H
  refine pv tb 1 rfl ?_
  refine TO_cons rfl (TOp_callS [0] (call_static ent36 rfl) (by decide) rfl rfl rfl rfl rfl rfl (m_spec_l1Below_x _ _ _ h_2) rfl rfl ?_)
  refine toe [(0, (.b 0 0)), (9, (.b 0 0)), (10, (intA r_1.1))] rfl ?_
  refine TO_st (σ' := [.box [(sl (tI .u8) r_1.2.b), (intA r_1.2.i), (intA r_1.2.h)]]) rfl ?_
  refine pv tb 1 rfl ?_
  refine TO_nil ?_
  refine sr ?_
  refine TO_cons rfl (TOp_lit (nn := 0) (k := 2) sl24 zero45 rfl rfl rfl rfl (by decide) ?_)
  refine TO_st (σ' := [.box [(sl (tI .u8) r_1.2.b), (intA r_1.2.i), (intA r_1.2.h)], .row (flat tConflictEdge.enc ([] : (List ConflictEdge)))]) rfl ?_
  refine pv tb 1 rfl ?_
  refine TO_nil ?_
  refine sr ?_
  obtain ⟨r_3, h_4, H⟩ := bind_inv H
  refine pv tb 1 rfl ?_
  refine TO_cons rfl (TOp_callS [0] (call_static ent36 rfl) (by decide) rfl rfl rfl rfl rfl rfl (m_spec_l1Below_x _ _ _ h_4) rfl rfl ?_)
  refine toe [(0, (.b 0 0)), (4, (intA r_1.1)), (5, (.m [1] 0 ([] : (List ConflictEdge)).length tConflictEdge.k)), (12, (.b 0 0)), (13, (intA r_3.1))] rfl ?_
  refine TO_st (σ' := [.box [(sl (tI .u8) r_3.2.b), (intA r_3.2.i), (intA r_3.2.h)], .row (flat tConflictEdge.enc ([] : (List ConflictEdge)))]) rfl ?_
  refine pv tb 2 rfl ?_
  refine TO_nil ?_
  refine T_seq ?_
  refine sr ?_
  refine pv tb 1 rfl ?_
  refine TO_nil ?_
  obtain ⟨_, h_7, H⟩ := bind_inv H
  replace h_7 := gN_inv h_7
  obtain ⟨O6_, L6_, N6_⟩ := bind_inv H
  clear H
  obtain ⟨B6_, hb6, L6_⟩ := gen_forM L6_
  refine T_block ?_
  refine T_loopX (fun k => fun (⟨i_5, l5, box0⟩ : Int × (List ConflictEdge) × l1Cur) => k = (r_1.1 - i_5).toNat ∧ 0 ≤ i_5 ∧ forM B6_ (r_1.1 - i_5).toNat i_5 (l5, box0) = some O6_) (fun (⟨i_5, l5, box0⟩ : Int × (List ConflictEdge) × l1Cur) => [(0, (.b 0 0)), (4, (intA r_1.1)), (5, (.m [1] 0 l5.length tConflictEdge.k)), (6, (intA (w64 (2 + r_3.1)))), (7, (intA (i_5 : Int)))]) (fun (⟨i_5, l5, box0⟩ : Int × (List ConflictEdge) × l1Cur) => [.box [(sl (tI .u8) box0.b), (intA box0.i), (intA box0.h)], .row (flat tConflictEdge.enc l5)]) _ (0, (([] : (List ConflictEdge)), r_3.2)) (w0 2) ⟨rfl, Int.le_refl _, L6_⟩ ?_
  rintro _ ⟨i_5, l5, box0⟩ ⟨rfl, hi6, L6_⟩
  refine T_seq ?_
  refine sr ?_
  refine pv tb 3 rfl ?_
  refine TO_nil ?_
  refine T_cond (t := decide ((i_5 : Int) < r_1.1)) rfl (fun d6 => ?_) (fun d6 => ?_)
  ·replace d6 := of_decide_eq_true d6
   obtain ⟨C6_, H, K6_⟩ := forM_step L6_ d6
   rw [hb6] at H
   refine T_skip ?_
   refine T_seq ?_
   refine T_block ?_
   refine sr ?_
   refine pv tb 1 rfl ?_
   refine Tp rfl rfl (pur_add rfl rfl rfl (fits64 (by omega) (by omega))) rfl ?_
   refine pv tb 1 rfl ?_
   refine TO_nil ?_
   obtain ⟨_, h_10, H⟩ := bind_inv H
   replace h_10 := gN_inv h_10
   obtain ⟨O9_, L9_, N9_⟩ := bind_inv H
   clear H
   obtain ⟨B9_, hb9, L9_⟩ := gen_forM L9_
   refine T_block ?_
   refine T_loopX (fun k => fun (⟨k_8, l5, box0⟩ : Int × (List ConflictEdge) × l1Cur) => k = (r_1.1 - k_8).toNat ∧ ((i_5 : Int) + 1) ≤ k_8 ∧ forM B9_ (r_1.1 - k_8).toNat k_8 (l5, box0) = some O9_) (fun (⟨k_8, l5, box0⟩ : Int × (List ConflictEdge) × l1Cur) => [(0, (.b 0 0)), (4, (intA r_1.1)), (5, (.m [1] 0 l5.length tConflictEdge.k)), (6, (intA (w64 (2 + r_3.1)))), (7, (intA (i_5 : Int))), (8, (intA (k_8 : Int)))]) (fun (⟨k_8, l5, box0⟩ : Int × (List ConflictEdge) × l1Cur) => [.box [(sl (tI .u8) box0.b), (intA box0.i), (intA box0.h)], .row (flat tConflictEdge.enc l5)]) _ (((i_5 : Int) + 1), (l5, box0)) (w0 2) ⟨rfl, Int.le_refl _, L9_⟩ ?_
   rintro _ ⟨k_8, l5, box0⟩ ⟨rfl, hi9, L9_⟩
   refine T_seq ?_
   refine sr ?_
   refine pv tb 3 rfl ?_
   refine TO_nil ?_
   refine T_cond (t := decide ((k_8 : Int) < r_1.1)) rfl (fun d9 => ?_) (fun d9 => ?_)
   ·replace d9 := of_decide_eq_true d9
    obtain ⟨C9_, H, K9_⟩ := forM_step L9_ d9
    rw [hb9] at H
    refine T_skip ?_
    refine T_seq ?_
    refine T_block ?_
    refine sr ?_
    obtain ⟨r_11, h_12, H⟩ := bind_inv H
    refine pv tb 2 rfl ?_
    refine TO_cons rfl (TOp_callS [0] (call_static ent37 rfl) (by decide) rfl rfl rfl rfl rfl rfl (m_spec_l1Once_x _ _ _ h_12) rfl rfl ?_)
    refine toe [(0, (.b 0 0)), (4, (intA r_1.1)), (5, (.m [1] 0 l5.length tConflictEdge.k)), (6, (intA (w64 (2 + r_3.1)))), (7, (intA (i_5 : Int))), (8, (intA (k_8 : Int))), (27, (.b 0 0)), (28, (intA (w64 (2 + r_3.1)))), (29, (boolA r_11.1))] rfl ?_
    refine TO_st (σ' := [.box [(sl (tI .u8) r_11.2.b), (intA r_11.2.i), (intA r_11.2.h)], .row (flat tConflictEdge.enc l5)]) rfl ?_
    refine TO_nil ?_
    refine T_cond (t := r_11.1) rfl (fun c_13 => ?_) (fun c_13 => ?_)
    ·replace H := cond_t c_13 H
     refine T_region ?_
     refine pv tb 3 rfl ?_
     refine Tp rfl rfl (pur_build bld45 rfl rfl) rfl ?_
     refine TO_cons rfl (TOp_lit (nn := 1) (k := 2) sl24 zero45 rfl rfl rfl rfl (by decide) ?_)
     refine TO_st (σ' := [.box [(sl (tI .u8) r_11.2.b), (intA r_11.2.i), (intA r_11.2.h)], .row (flat tConflictEdge.enc l5), .row (flat tConflictEdge.enc ([({ a := (i_5 : Int), b := (k_8 : Int) } : ConflictEdge)] : (List ConflictEdge)))]) rfl ?_
     obtain ⟨us_14, h_15, H⟩ := bind_inv H
     refine TO_cons rfl (TOp_appZ (T := tConflictEdge) (f := tConflictEdge.enc) (xs := l5) (ys := ([({ a := (i_5 : Int), b := (k_8 : Int) } : ConflictEdge)] : (List ConflictEdge))) tConflictEdge.len sl24 zero45 rfl bytes45 (by decide) rfl rfl rfl rfl (src_mT (f := tConflictEdge.enc) tConflictEdge.len rfl rfl (flat_cell tConflictEdge _)) (flat_cell tConflictEdge _) h_15 (lb rfl) ?_)
     refine toe [(0, (.b 0 0)), (4, (intA r_1.1)), (6, (intA (w64 (2 + r_3.1)))), (7, (intA (i_5 : Int))), (8, (intA (k_8 : Int))), (29, (boolA r_11.1)), (31, (intA (i_5 : Int))), (32, (intA (k_8 : Int))), (33, (.g [(intA (i_5 : Int)), (intA (k_8 : Int))])), (34, (.m [2] 0 ([({ a := (i_5 : Int), b := (k_8 : Int) } : ConflictEdge)] : (List ConflictEdge)).length tConflictEdge.k)), (35, (.m [1] 0 us_14.length tConflictEdge.k))] rfl ?_
     refine TO_st (σ' := [.box [(sl (tI .u8) r_11.2.b), (intA r_11.2.i), (intA r_11.2.h)], .row (flat tConflictEdge.enc us_14), .row (flat tConflictEdge.enc ([({ a := (i_5 : Int), b := (k_8 : Int) } : ConflictEdge)] : (List ConflictEdge))), .dead]) rfl ?_
     refine pv tb 1 rfl ?_
     refine TO_nil ?_
     refine T_region ?_
     refine pv tb 1 rfl ?_
     refine Tp rfl rfl (pur_add rfl rfl rfl (fits64 (by omega) (by omega))) rfl ?_
     refine pv tb 1 rfl ?_
     refine TO_nil ?_
     obtain rfl := some_inj H
     exact again (r_1.1 - (k_8 + 1)).toNat (k_8 + 1, (us_14, r_11.2)) (by omega) (w0 2) ⟨rfl, by omega, K9_⟩
    ·replace H := cond_f c_13 H
     refine T_skip ?_
     refine T_region ?_
     refine pv tb 1 rfl ?_
     refine Tp rfl rfl (pur_add rfl rfl rfl (fits64 (by omega) (by omega))) rfl ?_
     refine pv tb 1 rfl ?_
     refine TO_nil ?_
     obtain rfl := some_inj H
     exact again (r_1.1 - (k_8 + 1)).toNat (k_8 + 1, (l5, r_11.2)) (by omega) (w0 2) ⟨rfl, by omega, K9_⟩
   ·replace d9 := of_decide_eq_false d9
    obtain rfl := forM_end L9_ (by omega)
    refine T_exit ?_
    refine then_exit ?_
    refine then_exit ?_
    refine block_exit ?_
    replace H := N9_
    refine T_region ?_
    refine pv tb 1 rfl ?_
    refine Tp rfl rfl (pur_add rfl rfl rfl (fits64 (by omega) (by omega))) rfl ?_
    refine pv tb 1 rfl ?_
    refine TO_nil ?_
    obtain rfl := some_inj H
    exact again (r_1.1 - (i_5 + 1)).toNat (i_5 + 1, (l5, box0)) (by omega) (w0 2) ⟨rfl, by omega, K6_⟩
  ·replace d6 := of_decide_eq_false d6
   obtain rfl := forM_end L6_ (by omega)
   refine T_exit ?_
   refine then_exit ?_
   refine then_exit ?_
   refine block_exit ?_
   replace H := N6_
   refine T_seq ?_
   obtain ⟨⟨t42_16, box0_16⟩, J_16, H_17⟩ := bind_inv H
   refine T_cutX (fun x => (t42_16, box0_16) = x) (fun (⟨t42_16, box0_16⟩ : Bool × l1Cur) => [(0, (.b 0 0)), (4, (intA r_1.1)), (5, (.m [1] 0 l5.length tConflictEdge.k)), (42, (boolA t42_16))]) (fun (⟨t42_16, box0_16⟩ : Bool × l1Cur) => [.box [(sl (tI .u8) box0_16.b), (intA box0_16.i), (intA box0_16.h)], .row (flat tConflictEdge.enc l5)]) ?_ ?_
   ·replace H := J_16
    refine T_region ?_
    refine pv tb 1 rfl ?_
    refine Tp rfl rfl (pur_len_m sl24 rfl rfl) rfl ?_
    refine pv tb 2 rfl ?_
    refine TO_split (t := decide (0 < (l5.length : Int))) 39 rfl (fun g_18 => ?_) (fun g_18 => ?_)
    ·replace H := cond_t g_18 H
     obtain ⟨r_19, h_20, H⟩ := bind_inv H
     refine pv tb 1 rfl ?_
     refine TO_on rfl rfl (by decide) rfl rfl (TOp_callS [0] (call_static ent37 rfl) (by decide) rfl rfl rfl rfl rfl rfl (m_spec_l1Once_x _ _ _ h_20) rfl rfl ?_)
     refine toe [(0, (.b 0 0)), (4, (intA r_1.1)), (5, (.m [1] 0 l5.length tConflictEdge.k)), (36, (.m [1] 0 l5.length tConflictEdge.k)), (37, (intA (l5.length : Int))), (38, (boolA (decide (0 < (l5.length : Int))))), (39, (boolA true)), (40, (.b 0 0)), (41, (boolA r_19.1))] rfl ?_
     refine TO_st (σ' := [.box [(sl (tI .u8) r_19.2.b), (intA r_19.2.i), (intA r_19.2.h)], .row (flat tConflictEdge.enc l5)]) rfl ?_
     refine pv tb 1 rfl ?_
     refine TO_nil ?_
     exact joined (r_19.1, r_19.2) (w0 2) (some_inj H).symm
    ·replace H := cond_f g_18 H
     refine pv tb 3 rfl ?_
     refine TO_nil ?_
     exact joined (false, box0) (w0 2) (some_inj H).symm
   ·rintro _ rfl
    replace H := H_17
    refine T_cond (t := t42_16) rfl (fun c_21 => ?_) (fun c_21 => ?_)
    ·replace H := cond_t c_21 H
     refine T_region ?_
     refine pv tb 3 rfl ?_
     refine Tp rfl rfl (pur_len_m sl24 rfl rfl) rfl ?_
     obtain ⟨r_22, h_23, H⟩ := bind_inv H
     refine TO_cons rfl (TOp_callS [0] (call_static ent36 rfl) (by decide) rfl rfl rfl rfl rfl rfl (m_spec_l1Below_x _ _ _ h_23) rfl rfl ?_)
     refine toe [(0, (.b 0 0)), (4, (intA r_1.1)), (5, (.m [1] 0 l5.length tConflictEdge.k)), (42, (boolA t42_16)), (43, (.m [1] 0 l5.length tConflictEdge.k)), (44, (.b 0 0)), (45, (.m [1] 0 l5.length tConflictEdge.k)), (46, (intA (l5.length : Int))), (47, (intA r_22.1))] rfl ?_
     refine TO_st (σ' := [.box [(sl (tI .u8) r_22.2.b), (intA r_22.2.i), (intA r_22.2.h)], .row (flat tConflictEdge.enc l5)]) rfl ?_
     obtain ⟨r_24, h_25, H⟩ := bind_inv H
     refine pv tb 3 rfl ?_
     refine TO_cons rfl (TOp_callS [0] (call_static ent36 rfl) (by decide) rfl rfl rfl rfl rfl rfl (m_spec_l1Below_x _ _ _ h_25) rfl rfl ?_)
     refine toe [(4, (intA r_1.1)), (5, (.m [1] 0 l5.length tConflictEdge.k)), (43, (.m [1] 0 l5.length tConflictEdge.k)), (47, (intA r_22.1)), (48, (.b 0 0)), (50, (intA (w64 (r_1.1 + 2)))), (51, (intA r_24.1))] rfl ?_
     refine TO_st (σ' := [.box [(sl (tI .u8) r_24.2.b), (intA r_24.2.i), (intA r_24.2.h)], .row (flat tConflictEdge.enc l5)]) rfl ?_
     obtain ⟨v_26, h_27, H⟩ := bind_inv H
     obtain ⟨n_28, hz_29, hv_30⟩ := getI_inv h_27
     refine pv tb 1 rfl ?_
     refine Tp rfl rfl (pur_ixM (T := tConflictEdge) sl24 rfl rfl hz_29 hv_30 rfl) rfl ?_
     refine pv tb 1 rfl ?_
     refine TO_cons rfl (TOp_setP (f := tConflictEdge.enc) (k := tConflictEdge.k) (off := 1) (z := r_22.1) tConflictEdge.len ({ a := v_26.a, b := (w64 (r_24.1 - 1)) } : ConflictEdge) hz_29 sz3 (by decide) rfl rfl rfl rfl rfl hv_30 rfl rfl (by decide) rfl rfl ?_)
     refine TO_env (E' := [(4, (intA r_1.1)), (5, (.m [1] 0 (l5.set (r_22.1).toNat ({ a := v_26.a, b := (w64 (r_24.1 - 1)) } : ConflictEdge)).length tConflictEdge.k)), (43, (.m [1] 0 (l5.set (r_22.1).toNat ({ a := v_26.a, b := (w64 (r_24.1 - 1)) } : ConflictEdge)).length tConflictEdge.k)), (47, (intA r_22.1)), (48, (.b 0 0)), (50, (intA (w64 (r_1.1 + 2)))), (51, (intA r_24.1)), (52, (intA (w64 (r_24.1 - 1))))]) ⟨rfl, (congrArg (fun q => A.m [1] 0 q tConflictEdge.k) (List.length_set ..).symm), (congrArg (fun q => A.m [1] 0 q tConflictEdge.k) (List.length_set ..).symm), rfl, rfl, rfl, rfl, rfl, trivial⟩ ?_
     refine TO_st (σ' := [.box [(sl (tI .u8) r_24.2.b), (intA r_24.2.i), (intA r_24.2.h)], .row (flat tConflictEdge.enc (l5.set (r_22.1).toNat ({ a := v_26.a, b := (w64 (r_24.1 - 1)) } : ConflictEdge)))]) rfl ?_
     refine TO_nil ?_
     refine sr ?_
     refine pv tb 4 rfl ?_
     refine TO_nil ?_
     refine T_ret ?_
     obtain rfl := some_inj H
     exact end_pickX (.tmp (.tmp .nil)) rfl [0, 1] (by decide) (lb rfl) rfl (lb rfl) rfl rfl rfl rfl rfl rfl
    ·replace H := cond_f c_21 H
     refine T_skip ?_
     refine sr ?_
     refine pv tb 4 rfl ?_
     refine TO_nil ?_
     refine T_ret ?_
     obtain rfl := some_inj H
     exact end_pickX (.tmp (.tmp .nil)) rfl [0, 1] (by decide) (lb rfl) rfl (lb rfl) rfl rfl rfl rfl rfl rfl

set_option maxHeartbeats 1000000 in
theorem m_spec_l28Draw_x (c0 : l1Cur) (most1 : Int) (r : ((Int × (List ConflictEdge) × (List ConflictEdge)) × l1Cur)) (H : m_spec_l28Draw c0 most1 = some r) : FnS prg 15 [(.b 0 0), (intA most1)] [.box [(sl (tI .u8) c0.b), (intA c0.i), (intA c0.h)]] (.t [(intA r.1.1), (.m [1] 0 r.1.2.1.length tConflictEdge.k), (.m [2] 0 r.1.2.2.length tConflictEdge.k)]) [.box [(sl (tI .u8) r.2.b), (intA r.2.i), (intA r.2.h)], .row (flat tConflictEdge.enc r.1.2.1), .row (flat tConflictEdge.enc r.1.2.2)] := by
  unfold m_spec_l28Draw at H
  refine fnS_of_T Tryz.func15 rfl rfl (Nat.le_of_ble_eq_true rfl) ?_
  refine te [(0, (.b 0 0)), (1, (intA most1))] rfl ?_
  refine T_st (σ' := [.box [(sl (tI .u8) c0.b), (intA c0.i), (intA c0.h)]]) rfl ?_
  refine sr ?_
  refine pv tb 3 rfl ?_
  refine TO_nil ?_
  refine sr ?_
  obtain ⟨r_1, h_2, H⟩ := bind_inv H
  refine pv tb 1 rfl ?_
  refine TO_cons rfl (TOp_callS [0] (call_static ent35 rfl) (by decide) rfl rfl rfl rfl rfl rfl (m_spec_l8Edges_x _ _ h_2) rfl rfl ?_)
  refine toe [(0, (.b 0 0)), (1, (intA most1)), (14, (.b 0 0)), (15, (.t [(intA r_1.1.1), (.m [1] 0 r_1.1.2.length tConflictEdge.k)]))] rfl ?_
  refine TO_st (σ' := [.box [(sl (tI .u8) r_1.2.b), (intA r_1.2.i), (intA r_1.2.h)], .row (flat tConflictEdge.enc r_1.1.2)]) rfl ?_
  refine pv tb 5 rfl ?_
  refine TO_nil ?_
  refine T_seq ?_
  refine sr ?_
  refine pv tb 3 rfl ?_
  refine TO_nil ?_
  refine T_cond (t := decide (most1 < r_1.1.1)) rfl (fun c_3 => ?_) (fun c_3 => ?_)
  ·replace H := cond_t c_3 H
   refine sr ?_
   refine pv tb 2 rfl ?_
   refine TO_nil ?_
   refine sr ?_
   refine TO_cons rfl (TOp_lit (nn := 0) (k := 2) sl24 zero45 rfl rfl rfl rfl (by decide) ?_)
   refine TO_st (σ' := [.box [(sl (tI .u8) r_1.2.b), (intA r_1.2.i), (intA r_1.2.h)], .row (flat tConflictEdge.enc r_1.1.2), .row (flat tConflictEdge.enc ([] : (List ConflictEdge)))]) rfl ?_
   refine pv tb 1 rfl ?_
   refine TO_nil ?_
   refine T_seq ?_
   refine sr ?_
   refine pv tb 1 rfl ?_
   refine TO_nil ?_
   obtain ⟨O5_, L5_, N5_⟩ := bind_inv H
   clear H
   obtain ⟨B5_, hb5, L5_⟩ := gen_forS L5_
   refine T_block ?_
   refine T_loopX (fun k => fun (⟨i_4, keep9⟩ : Nat × (List ConflictEdge)) => k = r_1.1.2.length - i_4 ∧ forS B5_ (r_1.1.2.drop i_4) (i_4 : Int) keep9 = some O5_) (fun (⟨i_4, keep9⟩ : Nat × (List ConflictEdge)) => [(0, (.b 0 0)), (7, (intA most1)), (8, (.m [1] 0 r_1.1.2.length tConflictEdge.k)), (9, (.m [2] 0 keep9.length tConflictEdge.k)), (10, (intA (i_4 : Int)))]) (fun (⟨i_4, keep9⟩ : Nat × (List ConflictEdge)) => [.box [(sl (tI .u8) r_1.2.b), (intA r_1.2.i), (intA r_1.2.h)], .row (flat tConflictEdge.enc r_1.1.2), .row (flat tConflictEdge.enc keep9)]) _ (0, ([] : (List ConflictEdge))) (w0 3) ⟨rfl, L5_⟩ ?_
   rintro _ ⟨i_4, keep9⟩ ⟨rfl, L5_⟩
   refine T_fact (len_m (.tmp 8) rfl) (fun hl5 => ?_)
   refine T_seq ?_
   refine sr ?_
   refine pv tb 2 rfl ?_
   refine Tp rfl rfl (pur_len_m sl24 rfl rfl) rfl ?_
   refine pv tb 1 rfl ?_
   refine TO_nil ?_
   refine T_cond (t := decide ((i_4 : Int) < (r_1.1.2.length : Int))) rfl (fun d5 => ?_) (fun d5 => ?_)
   ·replace d5 := of_decide_eq_true d5
    obtain ⟨x_i_4, hx_i_4⟩ : ∃ v, (r_1.1.2)[i_4]? = some v := ⟨_, List.getElem?_eq_getElem (by omega)⟩
    obtain ⟨C5_, H, K5_⟩ := forS_step L5_ hx_i_4
    rw [hb5] at H
    refine T_skip ?_
    refine T_seq ?_
    refine T_block ?_
    refine sr ?_
    refine pv tb 2 rfl ?_
    refine Tp rfl rfl (pur_ixM (T := tConflictEdge) sl24 rfl rfl rfl hx_i_4 rfl) rfl ?_
    refine pv tb 1 rfl ?_
    refine Tp rfl rfl (pur_ldE (f := tConflictEdge.enc) (k := tConflictEdge.k) (i := i_4) (off := 1) tConflictEdge.len rfl one3 rfl rfl rfl hx_i_4 rfl rfl) rfl ?_
    refine pv tb 2 rfl ?_
    refine TO_nil ?_
    refine T_cond (t := decide (x_i_4.b < most1)) rfl (fun c_6 => ?_) (fun c_6 => ?_)
    ·replace H := cond_t c_6 H
     refine T_region ?_
     refine pv tb 3 rfl ?_
     refine Tp rfl rfl (pur_ixM (T := tConflictEdge) sl24 rfl rfl rfl hx_i_4 rfl) rfl ?_
     refine Tp rfl rfl (pur_ldEK (f := tConflictEdge.enc) (k := tConflictEdge.k) (i := i_4) (off := 0) tConflictEdge.len rfl agg45 rfl rfl rfl hx_i_4 (by decide) rfl) rfl ?_
     refine TO_cons rfl (TOp_lit (nn := 1) (k := 2) sl24 zero45 rfl rfl rfl rfl (by decide) ?_)
     refine TO_st (σ' := [.box [(sl (tI .u8) r_1.2.b), (intA r_1.2.i), (intA r_1.2.h)], .row (flat tConflictEdge.enc r_1.1.2), .row (flat tConflictEdge.enc keep9), .row (flat tConflictEdge.enc ([x_i_4] : (List ConflictEdge)))]) rfl ?_
     obtain ⟨us_7, h_8, H⟩ := bind_inv H
     refine TO_cons rfl (TOp_appZ (T := tConflictEdge) (f := tConflictEdge.enc) (xs := keep9) (ys := ([x_i_4] : (List ConflictEdge))) tConflictEdge.len sl24 zero45 rfl bytes45 (by decide) rfl rfl rfl rfl (src_mT (f := tConflictEdge.enc) tConflictEdge.len rfl rfl (flat_cell tConflictEdge _)) (flat_cell tConflictEdge _) h_8 (lb rfl) ?_)
     refine toe [(0, (.b 0 0)), (7, (intA most1)), (8, (.m [1] 0 r_1.1.2.length tConflictEdge.k)), (10, (intA (i_4 : Int))), (35, (boolA (decide (x_i_4.b < most1)))), (37, (.m [1] 0 r_1.1.2.length tConflictEdge.k)), (38, (intA (i_4 : Int))), (39, (.e [1] (i_4 * tConflictEdge.k))), (40, (.g (tConflictEdge.enc x_i_4))), (41, (.m [3] 0 ([x_i_4] : (List ConflictEdge)).length tConflictEdge.k)), (42, (.m [2] 0 us_7.length tConflictEdge.k))] rfl ?_
     refine TO_st (σ' := [.box [(sl (tI .u8) r_1.2.b), (intA r_1.2.i), (intA r_1.2.h)], .row (flat tConflictEdge.enc r_1.1.2), .row (flat tConflictEdge.enc us_7), .row (flat tConflictEdge.enc ([x_i_4] : (List ConflictEdge))), .dead]) rfl ?_
     refine pv tb 1 rfl ?_
     refine TO_nil ?_
     refine T_region ?_
     refine pv tb 1 rfl ?_
     refine Tp rfl rfl (pur_add rfl rfl rfl (fits64 (by omega) (by omega))) rfl ?_
     refine pv tb 1 rfl ?_
     refine TO_nil ?_
     obtain rfl := some_inj H
     exact again (r_1.1.2.length - (i_4 + 1)) (i_4 + 1, us_7) (by omega) (w0 3) ⟨rfl, K5_⟩
    ·replace H := cond_f c_6 H
     refine T_skip ?_
     refine T_region ?_
     refine pv tb 1 rfl ?_
     refine Tp rfl rfl (pur_add rfl rfl rfl (fits64 (by omega) (by omega))) rfl ?_
     refine pv tb 1 rfl ?_
     refine TO_nil ?_
     obtain rfl := some_inj H
     exact again (r_1.1.2.length - (i_4 + 1)) (i_4 + 1, keep9) (by omega) (w0 3) ⟨rfl, K5_⟩
   ·replace d5 := of_decide_eq_false d5
    obtain rfl := forS_end L5_ (by omega)
    refine T_exit ?_
    refine then_exit ?_
    refine then_exit ?_
    refine block_exit ?_
    replace H := N5_
    refine T_region ?_
    refine pv tb 2 rfl ?_
    refine TO_nil ?_
    refine sr ?_
    refine TO_cons rfl (TOp_lit (nn := 0) (k := 2) sl24 zero45 rfl rfl rfl rfl (by decide) ?_)
    refine TO_st (σ' := [.box [(sl (tI .u8) r_1.2.b), (intA r_1.2.i), (intA r_1.2.h)], .row (flat tConflictEdge.enc r_1.1.2), .row (flat tConflictEdge.enc keep9), .row (flat tConflictEdge.enc ([] : (List ConflictEdge)))]) rfl ?_
    refine pv tb 1 rfl ?_
    refine TO_nil ?_
    refine T_seq ?_
    refine sr ?_
    refine pv tb 1 rfl ?_
    refine TO_nil ?_
    obtain ⟨O10_, L10_, N10_⟩ := bind_inv H
    clear H
    obtain ⟨B10_, hb10, L10_⟩ := gen_forS L10_
    refine T_block ?_
    refine T_loopX (fun k => fun (⟨i_9, p11, box0⟩ : Nat × (List ConflictEdge) × l1Cur) => k = keep9.length - i_9 ∧ forS B10_ (keep9.drop i_9) (i_9 : Int) (p11, box0) = some O10_) (fun (⟨i_9, p11, box0⟩ : Nat × (List ConflictEdge) × l1Cur) => [(0, (.b 0 0)), (7, (intA most1)), (8, (.m [2] 0 keep9.length tConflictEdge.k)), (11, (.m [3] 0 p11.length tConflictEdge.k)), (12, (intA (i_9 : Int)))]) (fun (⟨i_9, p11, box0⟩ : Nat × (List ConflictEdge) × l1Cur) => [.box [(sl (tI .u8) box0.b), (intA box0.i), (intA box0.h)], .row (flat tConflictEdge.enc r_1.1.2), .row (flat tConflictEdge.enc keep9), .row (flat tConflictEdge.enc p11)]) _ (0, (([] : (List ConflictEdge)), r_1.2)) (w0 4) ⟨rfl, L10_⟩ ?_
    rintro _ ⟨i_9, p11, box0⟩ ⟨rfl, L10_⟩
    refine T_fact (len_m (.tmp 8) rfl) (fun hl10 => ?_)
    refine T_seq ?_
    refine sr ?_
    refine pv tb 2 rfl ?_
    refine Tp rfl rfl (pur_len_m sl24 rfl rfl) rfl ?_
    refine pv tb 1 rfl ?_
    refine TO_nil ?_
    refine T_cond (t := decide ((i_9 : Int) < (keep9.length : Int))) rfl (fun d10 => ?_) (fun d10 => ?_)
    ·replace d10 := of_decide_eq_true d10
     obtain ⟨x_i_9, hx_i_9⟩ : ∃ v, (keep9)[i_9]? = some v := ⟨_, List.getElem?_eq_getElem (by omega)⟩
     obtain ⟨C10_, H, K10_⟩ := forS_step L10_ hx_i_9
     rw [hb10] at H
     refine T_skip ?_
     refine T_seq ?_
     refine T_block ?_
     refine sr ?_
     obtain ⟨r_11, h_12, H⟩ := bind_inv H
     refine pv tb 1 rfl ?_
     refine TO_cons rfl (TOp_callS [0] (call_static ent36 rfl) (by decide) rfl rfl rfl rfl rfl rfl (m_spec_l1Below_x _ _ _ h_12) rfl rfl ?_)
     refine toe [(0, (.b 0 0)), (7, (intA most1)), (8, (.m [2] 0 keep9.length tConflictEdge.k)), (11, (.m [3] 0 p11.length tConflictEdge.k)), (12, (intA (i_9 : Int))), (51, (.b 0 0)), (52, (intA r_11.1))] rfl ?_
     refine TO_st (σ' := [.box [(sl (tI .u8) r_11.2.b), (intA r_11.2.i), (intA r_11.2.h)], .row (flat tConflictEdge.enc r_1.1.2), .row (flat tConflictEdge.enc keep9), .row (flat tConflictEdge.enc p11)]) rfl ?_
     refine TO_nil ?_
     refine T_block ?_
     refine sr ?_
     refine pv tb 2 rfl ?_
     refine TO_nil ?_
     refine T_cond (t := decide (r_11.1 = 0)) rfl (fun c_13 => ?_) (fun c_13 => ?_)
     ·replace H := cond_t c_13 H
      refine T_region ?_
      refine pv tb 3 rfl ?_
      refine Tp rfl rfl (pur_ixM (T := tConflictEdge) sl24 rfl rfl rfl hx_i_9 rfl) rfl ?_
      refine Tp rfl rfl (pur_ldEK (f := tConflictEdge.enc) (k := tConflictEdge.k) (i := i_9) (off := 0) tConflictEdge.len rfl agg45 rfl rfl rfl hx_i_9 (by decide) rfl) rfl ?_
      refine TO_cons rfl (TOp_lit (nn := 1) (k := 2) sl24 zero45 rfl rfl rfl rfl (by decide) ?_)
      refine TO_st (σ' := [.box [(sl (tI .u8) r_11.2.b), (intA r_11.2.i), (intA r_11.2.h)], .row (flat tConflictEdge.enc r_1.1.2), .row (flat tConflictEdge.enc keep9), .row (flat tConflictEdge.enc p11), .row (flat tConflictEdge.enc ([x_i_9] : (List ConflictEdge)))]) rfl ?_
      obtain ⟨us_14, h_15, H⟩ := bind_inv H
      refine TO_cons rfl (TOp_appZ (T := tConflictEdge) (f := tConflictEdge.enc) (xs := p11) (ys := ([x_i_9] : (List ConflictEdge))) tConflictEdge.len sl24 zero45 rfl bytes45 (by decide) rfl rfl rfl rfl (src_mT (f := tConflictEdge.enc) tConflictEdge.len rfl rfl (flat_cell tConflictEdge _)) (flat_cell tConflictEdge _) h_15 (lb rfl) ?_)
      refine toe [(0, (.b 0 0)), (7, (intA most1)), (8, (.m [2] 0 keep9.length tConflictEdge.k)), (12, (intA (i_9 : Int))), (52, (intA r_11.1)), (53, (boolA (decide (r_11.1 = 0)))), (56, (.m [2] 0 keep9.length tConflictEdge.k)), (57, (intA (i_9 : Int))), (58, (.e [2] (i_9 * tConflictEdge.k))), (59, (.g (tConflictEdge.enc x_i_9))), (60, (.m [4] 0 ([x_i_9] : (List ConflictEdge)).length tConflictEdge.k)), (61, (.m [3] 0 us_14.length tConflictEdge.k))] rfl ?_
      refine TO_st (σ' := [.box [(sl (tI .u8) r_11.2.b), (intA r_11.2.i), (intA r_11.2.h)], .row (flat tConflictEdge.enc r_1.1.2), .row (flat tConflictEdge.enc keep9), .row (flat tConflictEdge.enc us_14), .row (flat tConflictEdge.enc ([x_i_9] : (List ConflictEdge))), .dead]) rfl ?_
      refine pv tb 1 rfl ?_
      refine TO_nil ?_
      refine T_region ?_
      refine pv tb 1 rfl ?_
      refine Tp rfl rfl (pur_add rfl rfl rfl (fits64 (by omega) (by omega))) rfl ?_
      refine pv tb 1 rfl ?_
      refine TO_nil ?_
      obtain rfl := some_inj H
      exact again (keep9.length - (i_9 + 1)) (i_9 + 1, (us_14, r_11.2)) (by omega) (w0 4) ⟨rfl, K10_⟩
     ·replace H := cond_f c_13 H
      refine sr ?_
      refine pv tb 2 rfl ?_
      refine TO_nil ?_
      refine T_cond (t := decide (r_11.1 = 1)) rfl (fun c_16 => ?_) (fun c_16 => ?_)
      ·replace H := cond_t c_16 H
       refine sr ?_
       obtain ⟨r_17, h_18, H⟩ := bind_inv H
       refine pv tb 1 rfl ?_
       refine TO_cons rfl (TOp_callS [0] (call_static ent37 rfl) (by decide) rfl rfl rfl rfl rfl rfl (m_spec_l1Once_x _ _ _ h_18) rfl rfl ?_)
       refine toe [(0, (.b 0 0)), (7, (intA most1)), (8, (.m [2] 0 keep9.length tConflictEdge.k)), (11, (.m [3] 0 p11.length tConflictEdge.k)), (12, (intA (i_9 : Int))), (62, (boolA (decide (r_11.1 = 1)))), (64, (.b 0 0)), (65, (boolA r_17.1))] rfl ?_
       refine TO_st (σ' := [.box [(sl (tI .u8) r_17.2.b), (intA r_17.2.i), (intA r_17.2.h)], .row (flat tConflictEdge.enc r_1.1.2), .row (flat tConflictEdge.enc keep9), .row (flat tConflictEdge.enc p11)]) rfl ?_
       refine TO_nil ?_
       refine T_cond (t := r_17.1) rfl (fun c_19 => ?_) (fun c_19 => ?_)
       ·replace H := cond_t c_19 H
        obtain ⟨us_20, h_21, H⟩ := bind_inv H
        refine T_pad ?_
        refine T_pad ?_
        refine T_regionPh 4 14 mixed rfl (by kernel_rfl) ?_
        refine TA_have 3 #[true, true, true, true, true, true, true, true, true, true, true, false, false, false] [(0, (.b 0 0)), (7, (intA most1)), (8, (.m [2] 0 keep9.length tConflictEdge.k)), (11, (.m [3] 0 p11.length tConflictEdge.k)), (12, (intA (i_9 : Int))), (66, (.m [3] 0 p11.length tConflictEdge.k)), (71, (intA x_i_9.b)), (76, (intA x_i_9.a))] [.dead, .row (flat tConflictEdge.enc r_1.1.2), .row (flat tConflictEdge.enc keep9), .row (flat tConflictEdge.enc p11), .dead, .dead] ?_ (fun hj0_20 => ?_)
        ·skip
         refine tf 11 rfl (pur_build bld45 rfl rfl) rfl rfl (by kernel_rfl) ?_
         refine t1 12 (by kernel_rfl) rfl rfl (TOp_lit (nn := 1) (k := 2) sl24 zero45 rfl rfl rfl rfl (by decide) ?_)
         refine tmw 4 6 (by decide) (lb rfl) rfl rfl (lb rfl) rfl ?_
         refine t1 13 (by kernel_rfl) rfl rfl (TOp_appY (T := tConflictEdge) (f := tConflictEdge.enc) (xs := p11) (ys := ([({ a := x_i_9.b, b := x_i_9.a } : ConflictEdge)] : (List ConflictEdge))) tConflictEdge.len sl24 zero45 rfl bytes45 (by decide) rfl rfl rfl rfl (src_mT (f := tConflictEdge.enc) tConflictEdge.len rfl rfl (flat_cell tConflictEdge _)) (flat_cell tConflictEdge _) h_21 ?_)
         refine tmw 5 7 (by decide) (lb rfl) rfl rfl (lb rfl) rfl ?_
         refine tae [(0, (.b 0 0)), (7, (intA most1)), (8, (.m [2] 0 keep9.length tConflictEdge.k)), (12, (intA (i_9 : Int))), (79, (.m [5] 0 us_20.length tConflictEdge.k))] rfl ?_
         refine TA_st (σ' := [.dead, .row (flat tConflictEdge.enc r_1.1.2), .row (flat tConflictEdge.enc keep9), .dead, .row (flat tConflictEdge.enc ([({ a := x_i_9.b, b := x_i_9.a } : ConflictEdge)] : (List ConflictEdge))), .row (flat tConflictEdge.enc us_20), .dead, .dead]) rfl ?_
         refine TA_nil (by kernel_rfl) ?_
         refine TA_st (σ' := [.box [(sl (tI .u8) r_17.2.b), (intA r_17.2.i), (intA r_17.2.h)], .row (flat tConflictEdge.enc r_1.1.2), .row (flat tConflictEdge.enc keep9), .dead, .row (flat tConflictEdge.enc ([({ a := x_i_9.b, b := x_i_9.a } : ConflictEdge)] : (List ConflictEdge))), .row (flat tConflictEdge.enc us_20), .dead, .dead]) rfl ?_
         refine tmw 3 5 (by decide) (lb rfl) rfl rfl (lb rfl) rfl ?_
         refine pa tb [14] 0 rfl (by kernel_rfl) rfl ?_
         refine TA_nil (by kernel_rfl) ?_
         refine T_region ?_
         refine pv tb 1 rfl ?_
         refine Tp rfl rfl (pur_add rfl rfl rfl (fits64 (by omega) (by omega))) rfl ?_
         refine pv tb 1 rfl ?_
         refine TO_nil ?_
         obtain rfl := some_inj H
         exact again (keep9.length - (i_9 + 1)) (i_9 + 1, (us_20, r_17.2)) (by omega) (w0 4) ⟨rfl, K10_⟩
        refine pa tb [0, 1, 2] 11 rfl (by kernel_rfl) rfl ?_
        refine tf 3 rfl (pur_ixM (T := tConflictEdge) sl24 rfl rfl rfl hx_i_9 rfl) rfl rfl (by kernel_rfl) ?_
        refine pa tb [4, 6, 7] 7 rfl (by kernel_rfl) rfl ?_
        refine tf 8 rfl (pur_ixM (T := tConflictEdge) sl24 rfl rfl rfl hx_i_9 rfl) rfl rfl (by kernel_rfl) ?_
        refine pa tb [9] 5 rfl (by kernel_rfl) rfl ?_
        refine TA_all [5, 10] (by kernel_rfl) (by decide) ⟨?_, ?_, trivial⟩
        ·skip
         refine ⟨_, rfl, rfl, (TOp_pure (pur_ldE (f := tConflictEdge.enc) (k := tConflictEdge.k) (i := i_9) (off := 1) tConflictEdge.len rfl one3 rfl rfl rfl hx_i_9 rfl rfl) rfl ?_)⟩
         refine t1 10 (by kernel_rfl) rfl rfl (TOp_pure (pur_ldE (f := tConflictEdge.enc) (k := tConflictEdge.k) (i := i_9) (off := 0) tConflictEdge.len rfl one3 rfl rfl rfl hx_i_9 rfl rfl) rfl ?_)
         exact tj hj0_20 rfl (w0 6)
        ·skip
         refine ⟨_, rfl, rfl, (TOp_pure (pur_ldE (f := tConflictEdge.enc) (k := tConflictEdge.k) (i := i_9) (off := 0) tConflictEdge.len rfl one3 rfl rfl rfl hx_i_9 rfl rfl) rfl ?_)⟩
         refine t1 5 (by kernel_rfl) rfl rfl (TOp_pure (pur_ldE (f := tConflictEdge.enc) (k := tConflictEdge.k) (i := i_9) (off := 1) tConflictEdge.len rfl one3 rfl rfl rfl hx_i_9 rfl rfl) rfl ?_)
         exact tj hj0_20 rfl (w0 6)
       ·replace H := cond_f c_19 H
        refine T_skip ?_
        refine T_region ?_
        refine pv tb 1 rfl ?_
        refine Tp rfl rfl (pur_add rfl rfl rfl (fits64 (by omega) (by omega))) rfl ?_
        refine pv tb 1 rfl ?_
        refine TO_nil ?_
        obtain rfl := some_inj H
        exact again (keep9.length - (i_9 + 1)) (i_9 + 1, (p11, r_17.2)) (by omega) (w0 4) ⟨rfl, K10_⟩
      ·replace H := cond_f c_16 H
       refine T_skip ?_
       refine T_region ?_
       refine pv tb 1 rfl ?_
       refine Tp rfl rfl (pur_add rfl rfl rfl (fits64 (by omega) (by omega))) rfl ?_
       refine pv tb 1 rfl ?_
       refine TO_nil ?_
       obtain rfl := some_inj H
       exact again (keep9.length - (i_9 + 1)) (i_9 + 1, (p11, r_11.2)) (by omega) (w0 4) ⟨rfl, K10_⟩
    ·replace d10 := of_decide_eq_false d10
     obtain rfl := forS_end L10_ (by omega)
     refine T_exit ?_
     refine then_exit ?_
     refine then_exit ?_
     refine block_exit ?_
     replace H := N10_
     refine T_seq ?_
     refine sr ?_
     obtain ⟨r_22, h_23, H⟩ := bind_inv H
     refine pv tb 1 rfl ?_
     refine TO_cons rfl (TOp_callS [0] (call_static ent37 rfl) (by decide) rfl rfl rfl rfl rfl rfl (m_spec_l1Once_x _ _ _ h_23) rfl rfl ?_)
     refine toe [(0, (.b 0 0)), (7, (intA most1)), (8, (.m [2] 0 keep9.length tConflictEdge.k)), (11, (.m [3] 0 p11.length tConflictEdge.k)), (80, (.b 0 0)), (81, (boolA r_22.1))] rfl ?_
     refine TO_st (σ' := [.box [(sl (tI .u8) r_22.2.b), (intA r_22.2.i), (intA r_22.2.h)], .row (flat tConflictEdge.enc r_1.1.2), .row (flat tConflictEdge.enc keep9), .row (flat tConflictEdge.enc p11)]) rfl ?_
     refine TO_nil ?_
     refine T_cond (t := r_22.1) rfl (fun c_24 => ?_) (fun c_24 => ?_)
     ·replace H := cond_t c_24 H
      refine T_region ?_
      obtain ⟨r_25, h_26, H⟩ := bind_inv H
      refine pv tb 2 rfl ?_
      refine TO_cons rfl (TOp_callS [0] (call_static ent36 rfl) (by decide) rfl rfl rfl rfl rfl rfl (m_spec_l1Below_x _ _ _ h_26) rfl rfl ?_)
      refine toe [(0, (.b 0 0)), (7, (intA most1)), (8, (.m [2] 0 keep9.length tConflictEdge.k)), (11, (.m [3] 0 p11.length tConflictEdge.k)), (81, (boolA r_22.1)), (82, (.m [3] 0 p11.length tConflictEdge.k)), (83, (.b 0 0)), (84, (intA r_25.1))] rfl ?_
      refine TO_st (σ' := [.box [(sl (tI .u8) r_25.2.b), (intA r_25.2.i), (intA r_25.2.h)], .row (flat tConflictEdge.enc r_1.1.2), .row (flat tConflictEdge.enc keep9), .row (flat tConflictEdge.enc p11)]) rfl ?_
      obtain ⟨r_27, h_28, H⟩ := bind_inv H
      refine pv tb 1 rfl ?_
      refine TO_cons rfl (TOp_callS [0] (call_static ent36 rfl) (by decide) rfl rfl rfl rfl rfl rfl (m_spec_l1Below_x _ _ _ h_28) rfl rfl ?_)
      refine toe [(0, (.b 0 0)), (7, (intA most1)), (8, (.m [2] 0 keep9.length tConflictEdge.k)), (11, (.m [3] 0 p11.length tConflictEdge.k)), (81, (boolA r_22.1)), (82, (.m [3] 0 p11.length tConflictEdge.k)), (83, (.b 0 0)), (84, (intA r_25.1)), (85, (.b 0 0)), (86, (intA r_27.1))] rfl ?_
      refine TO_st (σ' := [.box [(sl (tI .u8) r_27.2.b), (intA r_27.2.i), (intA r_27.2.h)], .row (flat tConflictEdge.enc r_1.1.2), .row (flat tConflictEdge.enc keep9), .row (flat tConflictEdge.enc p11)]) rfl ?_
      refine Tp rfl rfl (pur_build bld45 rfl rfl) rfl ?_
      refine TO_cons rfl (TOp_lit (nn := 1) (k := 2) sl24 zero45 rfl rfl rfl rfl (by decide) ?_)
      refine TO_st (σ' := [.box [(sl (tI .u8) r_27.2.b), (intA r_27.2.i), (intA r_27.2.h)], .row (flat tConflictEdge.enc r_1.1.2), .row (flat tConflictEdge.enc keep9), .row (flat tConflictEdge.enc p11), .row (flat tConflictEdge.enc ([({ a := r_25.1, b := r_27.1 } : ConflictEdge)] : (List ConflictEdge)))]) rfl ?_
      obtain ⟨us_29, h_30, H⟩ := bind_inv H
      refine TO_cons rfl (TOp_appZ (T := tConflictEdge) (f := tConflictEdge.enc) (xs := p11) (ys := ([({ a := r_25.1, b := r_27.1 } : ConflictEdge)] : (List ConflictEdge))) tConflictEdge.len sl24 zero45 rfl bytes45 (by decide) rfl rfl rfl rfl (src_mT (f := tConflictEdge.enc) tConflictEdge.len rfl rfl (flat_cell tConflictEdge _)) (flat_cell tConflictEdge _) h_30 (lb rfl) ?_)
      refine toe [(0, (.b 0 0)), (7, (intA most1)), (8, (.m [2] 0 keep9.length tConflictEdge.k)), (81, (boolA r_22.1)), (83, (.b 0 0)), (84, (intA r_25.1)), (85, (.b 0 0)), (86, (intA r_27.1)), (87, (.g [(intA r_25.1), (intA r_27.1)])), (88, (.m [4] 0 ([({ a := r_25.1, b := r_27.1 } : ConflictEdge)] : (List ConflictEdge)).length tConflictEdge.k)), (89, (.m [3] 0 us_29.length tConflictEdge.k))] rfl ?_
      refine TO_st (σ' := [.box [(sl (tI .u8) r_27.2.b), (intA r_27.2.i), (intA r_27.2.h)], .row (flat tConflictEdge.enc r_1.1.2), .row (flat tConflictEdge.enc keep9), .row (flat tConflictEdge.enc us_29), .row (flat tConflictEdge.enc ([({ a := r_25.1, b := r_27.1 } : ConflictEdge)] : (List ConflictEdge))), .dead]) rfl ?_
      refine pv tb 1 rfl ?_
      refine TO_nil ?_
      refine sr ?_
      refine pv tb 6 rfl ?_
      refine TO_nil ?_
      refine te [(4, (intA most1)), (5, (.m [2] 0 keep9.length tConflictEdge.k)), (6, (.m [3] 0 us_29.length tConflictEdge.k))] rfl ?_
      refine T_ret ?_
      obtain rfl := some_inj H
      exact end_pickX (.tmp (.tmp (.tmp .nil))) rfl [0, 2, 3] (by decide) (lb rfl) rfl (lb rfl) rfl rfl rfl rfl rfl rfl
     ·replace H := cond_f c_24 H
      refine T_skip ?_
      refine sr ?_
      refine pv tb 6 rfl ?_
      refine TO_nil ?_
      refine T_ret ?_
      obtain rfl := some_inj H
      exact end_pickX (.tmp (.tmp (.tmp .nil))) rfl [0, 2, 3] (by decide) (lb rfl) rfl (lb rfl) rfl rfl rfl rfl rfl rfl
  ·replace H := cond_f c_3 H
   refine T_skip ?_
   refine sr ?_
   refine TO_cons rfl (TOp_lit (nn := 0) (k := 2) sl24 zero45 rfl rfl rfl rfl (by decide) ?_)
   refine TO_st (σ' := [.box [(sl (tI .u8) r_1.2.b), (intA r_1.2.i), (intA r_1.2.h)], .row (flat tConflictEdge.enc r_1.1.2), .row (flat tConflictEdge.enc ([] : (List ConflictEdge)))]) rfl ?_
   refine pv tb 1 rfl ?_
   refine TO_nil ?_
   refine T_seq ?_
   refine sr ?_
   refine pv tb 1 rfl ?_
   refine TO_nil ?_
   obtain ⟨O32_, L32_, N32_⟩ := bind_inv H
   clear H
   obtain ⟨B32_, hb32, L32_⟩ := gen_forS L32_
   refine T_block ?_
   refine T_loopX (fun k => fun (⟨i_31, p11, box0⟩ : Nat × (List ConflictEdge) × l1Cur) => k = r_1.1.2.length - i_31 ∧ forS B32_ (r_1.1.2.drop i_31) (i_31 : Int) (p11, box0) = some O32_) (fun (⟨i_31, p11, box0⟩ : Nat × (List ConflictEdge) × l1Cur) => [(0, (.b 0 0)), (7, (intA r_1.1.1)), (8, (.m [1] 0 r_1.1.2.length tConflictEdge.k)), (11, (.m [2] 0 p11.length tConflictEdge.k)), (12, (intA (i_31 : Int)))]) (fun (⟨i_31, p11, box0⟩ : Nat × (List ConflictEdge) × l1Cur) => [.box [(sl (tI .u8) box0.b), (intA box0.i), (intA box0.h)], .row (flat tConflictEdge.enc r_1.1.2), .row (flat tConflictEdge.enc p11)]) _ (0, (([] : (List ConflictEdge)), r_1.2)) (w0 3) ⟨rfl, L32_⟩ ?_
   rintro _ ⟨i_31, p11, box0⟩ ⟨rfl, L32_⟩
   refine T_fact (len_m (.tmp 8) rfl) (fun hl32 => ?_)
   refine T_seq ?_
   refine sr ?_
   refine pv tb 2 rfl ?_
   refine Tp rfl rfl (pur_len_m sl24 rfl rfl) rfl ?_
   refine pv tb 1 rfl ?_
   refine TO_nil ?_
   refine T_cond (t := decide ((i_31 : Int) < (r_1.1.2.length : Int))) rfl (fun d32 => ?_) (fun d32 => ?_)
   ·replace d32 := of_decide_eq_true d32
    obtain ⟨x_i_31, hx_i_31⟩ : ∃ v, (r_1.1.2)[i_31]? = some v := ⟨_, List.getElem?_eq_getElem (by omega)⟩
    obtain ⟨C32_, H, K32_⟩ := forS_step L32_ hx_i_31
    rw [hb32] at H
    refine T_skip ?_
    refine T_seq ?_
    refine T_block ?_
    refine sr ?_
    obtain ⟨r_33, h_34, H⟩ := bind_inv H
    refine pv tb 1 rfl ?_
    refine TO_cons rfl (TOp_callS [0] (call_static ent36 rfl) (by decide) rfl rfl rfl rfl rfl rfl (m_spec_l1Below_x _ _ _ h_34) rfl rfl ?_)
    refine toe [(0, (.b 0 0)), (7, (intA r_1.1.1)), (8, (.m [1] 0 r_1.1.2.length tConflictEdge.k)), (11, (.m [2] 0 p11.length tConflictEdge.k)), (12, (intA (i_31 : Int))), (51, (.b 0 0)), (52, (intA r_33.1))] rfl ?_
    refine TO_st (σ' := [.box [(sl (tI .u8) r_33.2.b), (intA r_33.2.i), (intA r_33.2.h)], .row (flat tConflictEdge.enc r_1.1.2), .row (flat tConflictEdge.enc p11)]) rfl ?_
    refine TO_nil ?_
    refine T_block ?_
    refine sr ?_
    refine pv tb 2 rfl ?_
    refine TO_nil ?_
    refine T_cond (t := decide (r_33.1 = 0)) rfl (fun c_35 => ?_) (fun c_35 => ?_)
    ·replace H := cond_t c_35 H
     refine T_region ?_
     refine pv tb 3 rfl ?_
     refine Tp rfl rfl (pur_ixM (T := tConflictEdge) sl24 rfl rfl rfl hx_i_31 rfl) rfl ?_
     refine Tp rfl rfl (pur_ldEK (f := tConflictEdge.enc) (k := tConflictEdge.k) (i := i_31) (off := 0) tConflictEdge.len rfl agg45 rfl rfl rfl hx_i_31 (by decide) rfl) rfl ?_
     refine TO_cons rfl (TOp_lit (nn := 1) (k := 2) sl24 zero45 rfl rfl rfl rfl (by decide) ?_)
     refine TO_st (σ' := [.box [(sl (tI .u8) r_33.2.b), (intA r_33.2.i), (intA r_33.2.h)], .row (flat tConflictEdge.enc r_1.1.2), .row (flat tConflictEdge.enc p11), .row (flat tConflictEdge.enc ([x_i_31] : (List ConflictEdge)))]) rfl ?_
     obtain ⟨us_36, h_37, H⟩ := bind_inv H
     refine TO_cons rfl (TOp_appZ (T := tConflictEdge) (f := tConflictEdge.enc) (xs := p11) (ys := ([x_i_31] : (List ConflictEdge))) tConflictEdge.len sl24 zero45 rfl bytes45 (by decide) rfl rfl rfl rfl (src_mT (f := tConflictEdge.enc) tConflictEdge.len rfl rfl (flat_cell tConflictEdge _)) (flat_cell tConflictEdge _) h_37 (lb rfl) ?_)
     refine toe [(0, (.b 0 0)), (7, (intA r_1.1.1)), (8, (.m [1] 0 r_1.1.2.length tConflictEdge.k)), (12, (intA (i_31 : Int))), (52, (intA r_33.1)), (53, (boolA (decide (r_33.1 = 0)))), (56, (.m [1] 0 r_1.1.2.length tConflictEdge.k)), (57, (intA (i_31 : Int))), (58, (.e [1] (i_31 * tConflictEdge.k))), (59, (.g (tConflictEdge.enc x_i_31))), (60, (.m [3] 0 ([x_i_31] : (List ConflictEdge)).length tConflictEdge.k)), (61, (.m [2] 0 us_36.length tConflictEdge.k))] rfl ?_
     refine TO_st (σ' := [.box [(sl (tI .u8) r_33.2.b), (intA r_33.2.i), (intA r_33.2.h)], .row (flat tConflictEdge.enc r_1.1.2), .row (flat tConflictEdge.enc us_36), .row (flat tConflictEdge.enc ([x_i_31] : (List ConflictEdge))), .dead]) rfl ?_
     refine pv tb 1 rfl ?_
     refine TO_nil ?_
     refine T_region ?_
     refine pv tb 1 rfl ?_
     refine Tp rfl rfl (pur_add rfl rfl rfl (fits64 (by omega) (by omega))) rfl ?_
     refine pv tb 1 rfl ?_
     refine TO_nil ?_
     obtain rfl := some_inj H
     exact again (r_1.1.2.length - (i_31 + 1)) (i_31 + 1, (us_36, r_33.2)) (by omega) (w0 3) ⟨rfl, K32_⟩
    ·replace H := cond_f c_35 H
     refine sr ?_
     refine pv tb 2 rfl ?_
     refine TO_nil ?_
     refine T_cond (t := decide (r_33.1 = 1)) rfl (fun c_38 => ?_) (fun c_38 => ?_)
     ·replace H := cond_t c_38 H
      refine sr ?_
      obtain ⟨r_39, h_40, H⟩ := bind_inv H
      refine pv tb 1 rfl ?_
      refine TO_cons rfl (TOp_callS [0] (call_static ent37 rfl) (by decide) rfl rfl rfl rfl rfl rfl (m_spec_l1Once_x _ _ _ h_40) rfl rfl ?_)
      refine toe [(0, (.b 0 0)), (7, (intA r_1.1.1)), (8, (.m [1] 0 r_1.1.2.length tConflictEdge.k)), (11, (.m [2] 0 p11.length tConflictEdge.k)), (12, (intA (i_31 : Int))), (62, (boolA (decide (r_33.1 = 1)))), (64, (.b 0 0)), (65, (boolA r_39.1))] rfl ?_
      refine TO_st (σ' := [.box [(sl (tI .u8) r_39.2.b), (intA r_39.2.i), (intA r_39.2.h)], .row (flat tConflictEdge.enc r_1.1.2), .row (flat tConflictEdge.enc p11)]) rfl ?_
      refine TO_nil ?_
      refine T_cond (t := r_39.1) rfl (fun c_41 => ?_) (fun c_41 => ?_)
      ·replace H := cond_t c_41 H
       obtain ⟨us_42, h_43, H⟩ := bind_inv H
       refine T_pad ?_
       refine T_pad ?_
       refine T_regionPh 3 14 mixed rfl (by kernel_rfl) ?_
       refine TA_have 3 #[true, true, true, true, true, true, true, true, true, true, true, false, false, false] [(0, (.b 0 0)), (7, (intA r_1.1.1)), (8, (.m [1] 0 r_1.1.2.length tConflictEdge.k)), (11, (.m [2] 0 p11.length tConflictEdge.k)), (12, (intA (i_31 : Int))), (66, (.m [2] 0 p11.length tConflictEdge.k)), (71, (intA x_i_31.b)), (76, (intA x_i_31.a))] [.dead, .row (flat tConflictEdge.enc r_1.1.2), .row (flat tConflictEdge.enc p11), .dead, .dead] ?_ (fun hj0_20 => ?_)
       ·skip
        refine tf 11 rfl (pur_build bld45 rfl rfl) rfl rfl (by kernel_rfl) ?_
        refine t1 12 (by kernel_rfl) rfl rfl (TOp_lit (nn := 1) (k := 2) sl24 zero45 rfl rfl rfl rfl (by decide) ?_)
        refine tmw 3 5 (by decide) (lb rfl) rfl rfl (lb rfl) rfl ?_
        refine t1 13 (by kernel_rfl) rfl rfl (TOp_appY (T := tConflictEdge) (f := tConflictEdge.enc) (xs := p11) (ys := ([({ a := x_i_31.b, b := x_i_31.a } : ConflictEdge)] : (List ConflictEdge))) tConflictEdge.len sl24 zero45 rfl bytes45 (by decide) rfl rfl rfl rfl (src_mT (f := tConflictEdge.enc) tConflictEdge.len rfl rfl (flat_cell tConflictEdge _)) (flat_cell tConflictEdge _) h_43 ?_)
        refine tmw 4 6 (by decide) (lb rfl) rfl rfl (lb rfl) rfl ?_
        refine tae [(0, (.b 0 0)), (7, (intA r_1.1.1)), (8, (.m [1] 0 r_1.1.2.length tConflictEdge.k)), (12, (intA (i_31 : Int))), (79, (.m [4] 0 us_42.length tConflictEdge.k))] rfl ?_
        refine TA_st (σ' := [.dead, .row (flat tConflictEdge.enc r_1.1.2), .dead, .row (flat tConflictEdge.enc ([({ a := x_i_31.b, b := x_i_31.a } : ConflictEdge)] : (List ConflictEdge))), .row (flat tConflictEdge.enc us_42), .dead, .dead]) rfl ?_
        refine TA_nil (by kernel_rfl) ?_
        refine TA_st (σ' := [.box [(sl (tI .u8) r_39.2.b), (intA r_39.2.i), (intA r_39.2.h)], .row (flat tConflictEdge.enc r_1.1.2), .dead, .row (flat tConflictEdge.enc ([({ a := x_i_31.b, b := x_i_31.a } : ConflictEdge)] : (List ConflictEdge))), .row (flat tConflictEdge.enc us_42), .dead, .dead]) rfl ?_
        refine tmw 2 4 (by decide) (lb rfl) rfl rfl (lb rfl) rfl ?_
        refine pa tb [14] 0 rfl (by kernel_rfl) rfl ?_
        refine TA_nil (by kernel_rfl) ?_
        refine T_region ?_
        refine pv tb 1 rfl ?_
        refine Tp rfl rfl (pur_add rfl rfl rfl (fits64 (by omega) (by omega))) rfl ?_
        refine pv tb 1 rfl ?_
        refine TO_nil ?_
        obtain rfl := some_inj H
        exact again (r_1.1.2.length - (i_31 + 1)) (i_31 + 1, (us_42, r_39.2)) (by omega) (w0 3) ⟨rfl, K32_⟩
       refine pa tb [0, 1, 2] 11 rfl (by kernel_rfl) rfl ?_
       refine tf 3 rfl (pur_ixM (T := tConflictEdge) sl24 rfl rfl rfl hx_i_31 rfl) rfl rfl (by kernel_rfl) ?_
       refine pa tb [4, 6, 7] 7 rfl (by kernel_rfl) rfl ?_
       refine tf 8 rfl (pur_ixM (T := tConflictEdge) sl24 rfl rfl rfl hx_i_31 rfl) rfl rfl (by kernel_rfl) ?_
       refine pa tb [9] 5 rfl (by kernel_rfl) rfl ?_
       refine TA_all [5, 10] (by kernel_rfl) (by decide) ⟨?_, ?_, trivial⟩
       ·skip
        refine ⟨_, rfl, rfl, (TOp_pure (pur_ldE (f := tConflictEdge.enc) (k := tConflictEdge.k) (i := i_31) (off := 1) tConflictEdge.len rfl one3 rfl rfl rfl hx_i_31 rfl rfl) rfl ?_)⟩
        refine t1 10 (by kernel_rfl) rfl rfl (TOp_pure (pur_ldE (f := tConflictEdge.enc) (k := tConflictEdge.k) (i := i_31) (off := 0) tConflictEdge.len rfl one3 rfl rfl rfl hx_i_31 rfl rfl) rfl ?_)
        exact tj hj0_20 rfl (w0 5)
       ·skip
        refine ⟨_, rfl, rfl, (TOp_pure (pur_ldE (f := tConflictEdge.enc) (k := tConflictEdge.k) (i := i_31) (off := 0) tConflictEdge.len rfl one3 rfl rfl rfl hx_i_31 rfl rfl) rfl ?_)⟩
        refine t1 5 (by kernel_rfl) rfl rfl (TOp_pure (pur_ldE (f := tConflictEdge.enc) (k := tConflictEdge.k) (i := i_31) (off := 1) tConflictEdge.len rfl one3 rfl rfl rfl hx_i_31 rfl rfl) rfl ?_)
        exact tj hj0_20 rfl (w0 5)
      ·replace H := cond_f c_41 H
       refine T_skip ?_
       refine T_region ?_
       refine pv tb 1 rfl ?_
       refine Tp rfl rfl (pur_add rfl rfl rfl (fits64 (by omega) (by omega))) rfl ?_
       refine pv tb 1 rfl ?_
       refine TO_nil ?_
       obtain rfl := some_inj H
       exact again (r_1.1.2.length - (i_31 + 1)) (i_31 + 1, (p11, r_39.2)) (by omega) (w0 3) ⟨rfl, K32_⟩
     ·replace H := cond_f c_38 H
      refine T_skip ?_
      refine T_region ?_
      refine pv tb 1 rfl ?_
      refine Tp rfl rfl (pur_add rfl rfl rfl (fits64 (by omega) (by omega))) rfl ?_
      refine pv tb 1 rfl ?_
      refine TO_nil ?_
      obtain rfl := some_inj H
      exact again (r_1.1.2.length - (i_31 + 1)) (i_31 + 1, (p11, r_33.2)) (by omega) (w0 3) ⟨rfl, K32_⟩
   ·replace d32 := of_decide_eq_false d32
    obtain rfl := forS_end L32_ (by omega)
    refine T_exit ?_
    refine then_exit ?_
    refine then_exit ?_
    refine block_exit ?_
    replace H := N32_
    refine T_seq ?_
    refine sr ?_
    obtain ⟨r_44, h_45, H⟩ := bind_inv H
    refine pv tb 1 rfl ?_
    refine TO_cons rfl (TOp_callS [0] (call_static ent37 rfl) (by decide) rfl rfl rfl rfl rfl rfl (m_spec_l1Once_x _ _ _ h_45) rfl rfl ?_)
    refine toe [(0, (.b 0 0)), (7, (intA r_1.1.1)), (8, (.m [1] 0 r_1.1.2.length tConflictEdge.k)), (11, (.m [2] 0 p11.length tConflictEdge.k)), (80, (.b 0 0)), (81, (boolA r_44.1))] rfl ?_
    refine TO_st (σ' := [.box [(sl (tI .u8) r_44.2.b), (intA r_44.2.i), (intA r_44.2.h)], .row (flat tConflictEdge.enc r_1.1.2), .row (flat tConflictEdge.enc p11)]) rfl ?_
    refine TO_nil ?_
    refine T_cond (t := r_44.1) rfl (fun c_46 => ?_) (fun c_46 => ?_)
    ·replace H := cond_t c_46 H
     refine T_region ?_
     obtain ⟨r_47, h_48, H⟩ := bind_inv H
     refine pv tb 2 rfl ?_
     refine TO_cons rfl (TOp_callS [0] (call_static ent36 rfl) (by decide) rfl rfl rfl rfl rfl rfl (m_spec_l1Below_x _ _ _ h_48) rfl rfl ?_)
     refine toe [(0, (.b 0 0)), (7, (intA r_1.1.1)), (8, (.m [1] 0 r_1.1.2.length tConflictEdge.k)), (11, (.m [2] 0 p11.length tConflictEdge.k)), (81, (boolA r_44.1)), (82, (.m [2] 0 p11.length tConflictEdge.k)), (83, (.b 0 0)), (84, (intA r_47.1))] rfl ?_
     refine TO_st (σ' := [.box [(sl (tI .u8) r_47.2.b), (intA r_47.2.i), (intA r_47.2.h)], .row (flat tConflictEdge.enc r_1.1.2), .row (flat tConflictEdge.enc p11)]) rfl ?_
     obtain ⟨r_49, h_50, H⟩ := bind_inv H
     refine pv tb 1 rfl ?_
     refine TO_cons rfl (TOp_callS [0] (call_static ent36 rfl) (by decide) rfl rfl rfl rfl rfl rfl (m_spec_l1Below_x _ _ _ h_50) rfl rfl ?_)
     refine toe [(0, (.b 0 0)), (7, (intA r_1.1.1)), (8, (.m [1] 0 r_1.1.2.length tConflictEdge.k)), (11, (.m [2] 0 p11.length tConflictEdge.k)), (81, (boolA r_44.1)), (82, (.m [2] 0 p11.length tConflictEdge.k)), (83, (.b 0 0)), (84, (intA r_47.1)), (85, (.b 0 0)), (86, (intA r_49.1))] rfl ?_
     refine TO_st (σ' := [.box [(sl (tI .u8) r_49.2.b), (intA r_49.2.i), (intA r_49.2.h)], .row (flat tConflictEdge.enc r_1.1.2), .row (flat tConflictEdge.enc p11)]) rfl ?_
     refine Tp rfl rfl (pur_build bld45 rfl rfl) rfl ?_
     refine TO_cons rfl (TOp_lit (nn := 1) (k := 2) sl24 zero45 rfl rfl rfl rfl (by decide) ?_)
     refine TO_st (σ' := [.box [(sl (tI .u8) r_49.2.b), (intA r_49.2.i), (intA r_49.2.h)], .row (flat tConflictEdge.enc r_1.1.2), .row (flat tConflictEdge.enc p11), .row (flat tConflictEdge.enc ([({ a := r_47.1, b := r_49.1 } : ConflictEdge)] : (List ConflictEdge)))]) rfl ?_
     obtain ⟨us_51, h_52, H⟩ := bind_inv H
     refine TO_cons rfl (TOp_appZ (T := tConflictEdge) (f := tConflictEdge.enc) (xs := p11) (ys := ([({ a := r_47.1, b := r_49.1 } : ConflictEdge)] : (List ConflictEdge))) tConflictEdge.len sl24 zero45 rfl bytes45 (by decide) rfl rfl rfl rfl (src_mT (f := tConflictEdge.enc) tConflictEdge.len rfl rfl (flat_cell tConflictEdge _)) (flat_cell tConflictEdge _) h_52 (lb rfl) ?_)
     refine toe [(0, (.b 0 0)), (7, (intA r_1.1.1)), (8, (.m [1] 0 r_1.1.2.length tConflictEdge.k)), (81, (boolA r_44.1)), (83, (.b 0 0)), (84, (intA r_47.1)), (85, (.b 0 0)), (86, (intA r_49.1)), (87, (.g [(intA r_47.1), (intA r_49.1)])), (88, (.m [3] 0 ([({ a := r_47.1, b := r_49.1 } : ConflictEdge)] : (List ConflictEdge)).length tConflictEdge.k)), (89, (.m [2] 0 us_51.length tConflictEdge.k))] rfl ?_
     refine TO_st (σ' := [.box [(sl (tI .u8) r_49.2.b), (intA r_49.2.i), (intA r_49.2.h)], .row (flat tConflictEdge.enc r_1.1.2), .row (flat tConflictEdge.enc us_51), .row (flat tConflictEdge.enc ([({ a := r_47.1, b := r_49.1 } : ConflictEdge)] : (List ConflictEdge))), .dead]) rfl ?_
     refine pv tb 1 rfl ?_
     refine TO_nil ?_
     refine sr ?_
     refine pv tb 6 rfl ?_
     refine TO_nil ?_
     refine te [(4, (intA r_1.1.1)), (5, (.m [1] 0 r_1.1.2.length tConflictEdge.k)), (6, (.m [2] 0 us_51.length tConflictEdge.k))] rfl ?_
     refine T_ret ?_
     obtain rfl := some_inj H
     exact end_pickX (.tmp (.tmp (.tmp .nil))) rfl [0, 1, 2] (by decide) (lb rfl) rfl (lb rfl) rfl rfl rfl rfl rfl rfl
    ·replace H := cond_f c_46 H
     refine T_skip ?_
     refine sr ?_
     refine pv tb 6 rfl ?_
     refine TO_nil ?_
     refine T_ret ?_
     obtain rfl := some_inj H
     exact end_pickX (.tmp (.tmp (.tmp .nil))) rfl [0, 1, 2] (by decide) (lb rfl) rfl (lb rfl) rfl rfl rfl rfl rfl rfl

set_option maxHeartbeats 1000000 in
theorem m_spec_l1New_x (u : Nat) (code0 : (List Int)) (r : l1Cur) (H : m_spec_l1New u code0 = some r) : FnS prg 16 [(sl (tI .u8) code0)] [] (.b 0 0) [.box [(sl (tI .u8) r.b), (intA r.i), (intA r.h)]] := by
  unfold m_spec_l1New at H
  refine fnS_of_T Tryz.func16 rfl rfl (Nat.le_of_ble_eq_true rfl) ?_
  refine te [(0, (sl (tI .u8) code0))] rfl ?_
  refine T_st (σ' := []) rfl ?_
  refine sr ?_
  refine pv tb 1 rfl ?_
  refine TO_nil ?_
  refine sr ?_
  refine pv tb 1 rfl ?_
  refine Tp rfl rfl (pur_lenT (T := (tI .u8)) sl22 rfl rfl) rfl ?_
  refine pv tb 2 rfl ?_
  refine TO_nil ?_
  refine T_seq ?_
  refine sr ?_
  refine pv tb 1 rfl ?_
  refine TO_nil ?_
  obtain ⟨O1_, L1_, N1_⟩ := bind_inv H
  clear H
  obtain ⟨B1_, hb1, L1_⟩ := gen_whileF L1_
  refine T_block ?_
  refine T_loopX (fun k => fun (⟨h3, i4⟩ : Int × Int) => whileF B1_ k (h3, i4) = some O1_) (fun (⟨h3, i4⟩ : Int × Int) => [(0, (sl (tI .u8) code0)), (3, (intA h3)), (4, (intA i4))]) (fun (⟨h3, i4⟩ : Int × Int) => []) u ((w64 (10101 + (code0.length : Int))), 0) (w0 0) L1_ ?_
  rintro _ ⟨h3, i4⟩ L1_
  obtain ⟨k1, rfl, C1_, H, K1_⟩ := while_step L1_
  rw [hb1] at H
  refine T_seq ?_
  refine T_cutX (fun x => ((decide (i4 < (code0.length : Int))) && (decide (i4 < 4000))) = x) (fun (t15_2 : Bool) => [(0, (sl (tI .u8) code0)), (3, (intA h3)), (4, (intA i4)), (15, (boolA t15_2))]) (fun (t15_2 : Bool) => []) ?_ ?_
  ·skip
   refine T_region ?_
   refine pv tb 2 rfl ?_
   refine Tp rfl rfl (pur_lenT (T := (tI .u8)) sl22 rfl rfl) rfl ?_
   refine pv tb 2 rfl ?_
   refine TO_split (t := decide (i4 < (code0.length : Int))) 12 rfl (fun g_4 => ?_) (fun g_4 => ?_)
   ·skip
    refine pv tb 3 rfl ?_
    refine TO_nil ?_
    exact joined (decide (i4 < 4000)) (w0 0) (by first | exact Eq.symm ((and_T g_4 rfl)))
   ·skip
    refine pv tb 3 rfl ?_
    refine TO_nil ?_
    exact joined false (w0 0) (by first | exact Eq.symm ((and_F g_4 rfl)))
  ·rintro _ rfl
   refine T_cond (t := ((decide (i4 < (code0.length : Int))) && (decide (i4 < 4000)))) rfl (fun c_5 => ?_) (fun c_5 => ?_)
   ·replace H := cond_t c_5 H
    refine T_skip ?_
    refine T_seq ?_
    refine T_block ?_
    refine T_region ?_
    obtain ⟨v_6, h_7, H⟩ := bind_inv H
    obtain ⟨n_8, hz_9, hv_10⟩ := getI_inv h_7
    refine pv tb 4 rfl ?_
    refine Tp rfl rfl (pur_ixT (T := (tI .u8)) sl22 rfl rfl hz_9 hv_10 rfl) rfl ?_
    refine Tp rfl rfl (pur_ldT (T := (tI .u8)) (i := n_8) (off := 0) rfl one5 rfl rfl hv_10 rfl) rfl ?_
    refine Tp rfl rfl (pur_convI (k := .i64) (k' := .u8) ⟨_, Tryz.underlying5⟩ Tryz.underlying3 rfl rfl) rfl ?_
    refine pv tb 2 rfl ?_
    refine Tp rfl rfl (pur_and rfl rfl rfl) rfl ?_
    refine pv tb 1 rfl ?_
    refine TO_nil ?_
    refine T_region ?_
    refine pv tb 3 rfl ?_
    refine TO_nil ?_
    obtain rfl := some_inj H
    exact again k1 ((bitI .and .i64 (w64 ((w64 ((w64 (h3 * 131)) + (w64 v_6))) + 7)) 1073741823), (w64 (i4 + 1))) (Nat.lt_succ_self _) (w0 0) K1_
   ·replace H := cond_f c_5 H
    refine T_exit ?_
    refine then_exit ?_
    refine then_exit ?_
    refine block_exit ?_
    obtain rfl := some_inj H
    obtain rfl := some_inj K1_
    replace H := onS_l N1_
    refine sr ?_
    refine pv tb 2 rfl ?_
    refine Tp rfl rfl (pur_build bld61 rfl rfl) rfl ?_
    refine TO_cons rfl (TOp_box rfl (boxAll rfl) rfl rfl ?_)
    refine pv tb 1 rfl ?_
    refine TO_nil ?_
    refine T_ret ?_
    obtain rfl := some_inj H
    exact end_pickX (.tmp .nil) rfl [0] (by decide) (lb rfl) rfl (lb rfl) rfl rfl rfl rfl rfl rfl

set_option maxHeartbeats 1000000 in
theorem m_spec_DrawGreedyRepairs_own (u : Nat) (code0 : (List Int)) (r : (Int × (List ConflictEdge) × (List ConflictEdge))) (H : m_spec_DrawGreedyRepairs u code0 = some r) : FnO prg 5 [(sl (tI .u8) code0)] (.t [(intA r.1), (.m [0] 0 r.2.1.length tConflictEdge.k), (.m [1] 0 r.2.2.length tConflictEdge.k)]) [.row (flat tConflictEdge.own r.2.1), .row (flat tConflictEdge.own r.2.2)] := by
  unfold m_spec_DrawGreedyRepairs at H
  refine fnO_of_T Tryz.func5 rfl rfl (Nat.le_of_ble_eq_true rfl) ?_
  refine te [(0, (sl (tI .u8) code0))] rfl ?_
  refine sr ?_
  refine pv tb 3 rfl ?_
  refine TO_nil ?_
  refine sr ?_
  obtain ⟨r_1, h_2, H⟩ := bind_inv H
  refine pv tb 1 rfl ?_
  refine TO_cons rfl (TOp_callS [] (call_static ent16 rfl) (by decide) rfl rfl rfl rfl rfl rfl (m_spec_l1New_x u _ _ h_2) rfl rfl ?_)
  refine toe [(0, (sl (tI .u8) code0)), (9, (sl (tI .u8) code0)), (10, (.b 0 0))] rfl ?_
  refine TO_st (σ' := [.box [(sl (tI .u8) r_1.b), (intA r_1.i), (intA r_1.h)]]) rfl ?_
  obtain ⟨r_3, h_4, H⟩ := bind_inv H
  refine TO_cons rfl (TOp_callS [0] (call_static ent15 rfl) (by decide) rfl rfl rfl rfl rfl rfl (m_spec_l28Draw_x _ _ _ h_4) rfl rfl ?_)
  refine toe [(0, (sl (tI .u8) code0)), (9, (sl (tI .u8) code0)), (10, (.b 0 0)), (11, (.t [(intA r_3.1.1), (.m [1] 0 r_3.1.2.1.length tConflictEdge.k), (.m [2] 0 r_3.1.2.2.length tConflictEdge.k)]))] rfl ?_
  refine TO_st (σ' := [.box [(sl (tI .u8) r_3.2.b), (intA r_3.2.i), (intA r_3.2.h)], .row (flat tConflictEdge.enc r_3.1.2.1), .row (flat tConflictEdge.enc r_3.1.2.2)]) rfl ?_
  refine pv tb 7 rfl ?_
  refine TO_nil ?_
  refine sr ?_
  refine pv tb 6 rfl ?_
  refine TO_nil ?_
  refine T_ret ?_
  obtain rfl := some_inj H
  exact end_pick (.tmp (.tmp (.tmp .nil))) rfl [1, 2] (by decide) rfl rfl rfl rfl rfl rfl
theorem m_spec_DrawGreedyRepairs_ok (u : Nat) (code0 : (List Int)) (r : (Int × (List ConflictEdge) × (List ConflictEdge))) (H : m_spec_DrawGreedyRepairs u code0 = some r) : FnV prg 5 [(sl (tI .u8) code0)] (.t [(intA r.1), (sl tConflictEdge r.2.1), (sl tConflictEdge r.2.2)]) := (m_spec_DrawGreedyRepairs_own u code0 r H).frz (frzOK_t (frz_cons (frz_loose rfl) (frz_cons (frzT (T := tConflictEdge) rfl) (frz_cons (frzT (T := tConflictEdge) rfl) frz_nil))).1 (frz_cons (frz_loose rfl) (frz_cons (frzT (T := tConflictEdge) rfl) (frz_cons (frzT (T := tConflictEdge) rfl) frz_nil))).2)

set_option maxHeartbeats 1000000 in
theorem m_impl_within_ok (n0 : Int) (low1 : Int) (high2 : Int) (r : Bool) (H : m_impl_within n0 low1 high2 = some r) : FnV prg 61 [(intA n0), (intA low1), (intA high2)] (boolA r) := by
  unfold m_impl_within at H
  refine fnV_of_T Tryz.func61 rfl rfl (Nat.le_of_ble_eq_true rfl) ?_
  refine te [(0, (intA n0)), (1, (intA low1)), (2, (intA high2))] rfl ?_
  refine sr ?_
  refine pv tb 1 rfl ?_
  refine TO_nil ?_
  refine T_cutX (fun x => ((decide (low1 ≤ n0)) && (decide (n0 ≤ high2))) = x) (fun (t6_1 : Bool) => [(6, (boolA t6_1))]) (fun (t6_1 : Bool) => []) ?_ ?_
  ·skip
   refine T_region ?_
   refine pv tb 4 rfl ?_
   refine TO_split (t := decide (low1 ≤ n0)) 10 rfl (fun g_3 => ?_) (fun g_3 => ?_)
   ·skip
    refine pv tb 5 rfl ?_
    refine TO_nil ?_
    exact joined (decide (n0 ≤ high2)) (w0 0) (by first | exact Eq.symm ((and_T g_3 rfl)))
   ·skip
    refine pv tb 5 rfl ?_
    refine TO_nil ?_
    exact joined false (w0 0) (by first | exact Eq.symm ((and_F g_3 rfl)))
  ·rintro _ rfl
   refine T_ret ?_
   obtain rfl := some_inj H
   refine end_ret (.tmp .nil) rfl rfl ⟨?_, rfl⟩
   rfl

set_option maxHeartbeats 1000000 in
theorem m_impl_AreValidEdges_ok (n0 : Int) (edges1 : (List ConflictEdge)) (r : Bool) (H : m_impl_AreValidEdges n0 edges1 = some r) : FnV prg 38 [(intA n0), (sl tConflictEdge edges1)] (boolA r) := by
  unfold m_impl_AreValidEdges at H
  refine fnV_of_T Tryz.func38 rfl rfl (Nat.le_of_ble_eq_true rfl) ?_
  refine te [(0, (intA n0)), (1, (sl tConflictEdge edges1))] rfl ?_
  refine sr ?_
  refine pv tb 1 rfl ?_
  refine TO_nil ?_
  refine T_seq ?_
  refine sr ?_
  obtain ⟨r_1, h_2, H⟩ := bind_inv H
  refine pv tb 1 rfl ?_
  refine TO_cons rfl (TOp_callV (call_static ent61 rfl) (m_impl_within_ok _ _ _ _ h_2) rfl rfl rfl ?_)
  refine pv tb 1 rfl ?_
  refine TO_nil ?_
  refine T_cond (t := (!r_1)) rfl (fun c_3 => ?_) (fun c_3 => ?_)
  ·replace H := cond_t c_3 H
   refine sr ?_
   refine pv tb 1 rfl ?_
   refine TO_nil ?_
   refine T_ret ?_
   refine then_ret ?_
   obtain rfl := some_inj H
   refine end_ret (.tmp .nil) rfl rfl ⟨?_, rfl⟩
   rfl
  ·replace H := cond_f c_3 H
   refine T_skip ?_
   refine T_seq ?_
   refine sr ?_
   refine pv tb 1 rfl ?_
   refine Tp rfl rfl (pur_lenT (T := tConflictEdge) sl24 rfl rfl) rfl ?_
   refine pv tb 1 rfl ?_
   refine TO_nil ?_
   obtain ⟨O5_, L5_, N5_⟩ := bind_inv H
   clear H
   obtain ⟨B5_, hb5, L5_⟩ := gen_forL L5_
   refine T_block ?_
   refine T_loopX (fun k => fun (t_4 : Nat) => k = edges1.length - t_4 ∧ forL B5_ (edges1.drop t_4) (t_4 : Int) () = some O5_) (fun (t_4 : Nat) => [(0, (intA n0)), (1, (sl tConflictEdge edges1)), (10, (sl tConflictEdge edges1)), (11, (intA (edges1.length : Int))), (12, (intA (t_4 : Int)))]) (fun (t_4 : Nat) => []) _ (0 : Nat) (w0 0) ⟨rfl, L5_⟩ ?_
   rintro _ t_4 ⟨rfl, L5_⟩
   refine T_fact (len_sl (T := tConflictEdge) (.tmp 1) rfl) (fun hl5 => ?_)
   refine sr ?_
   refine pv tb 1 rfl ?_
   refine TO_nil ?_
   refine T_seq ?_
   refine T_cond (t := decide ((t_4 : Int) < (edges1.length : Int))) rfl (fun d5 => ?_) (fun d5 => ?_)
   ·replace d5 := of_decide_eq_true d5
    obtain ⟨x_t_4, hx_t_4⟩ : ∃ v, (edges1)[t_4]? = some v := ⟨_, List.getElem?_eq_getElem (by omega)⟩
    obtain ⟨C5_, H, K5_⟩ := forL_step L5_ hx_t_4
    rw [hb5] at H
    refine T_skip ?_
    refine T_seq ?_
    refine T_block ?_
    refine sr ?_
    refine pv tb 1 rfl ?_
    refine Tp rfl rfl (pur_ixT (T := tConflictEdge) sl24 rfl rfl rfl hx_t_4 rfl) rfl ?_
    refine Tp rfl rfl (pur_ldTK (T := tConflictEdge) (i := t_4) (off := 0) rfl agg45 rfl rfl hx_t_4 (by decide) rfl) rfl ?_
    refine TO_cons rfl (TOp_alloc zero45 rfl rfl ?_)
    refine pv tb 1 rfl ?_
    refine TO_cons rfl (TOp_storeB sz45 rfl rfl rfl rfl rfl rfl rfl (by decide) (lb rfl) rfl ?_)
    refine TO_st (σ' := [.box [(intA x_t_4.a), (intA x_t_4.b)]]) rfl ?_
    refine TO_nil ?_
    obtain ⟨t69_6, J_6, H_7⟩ := bind_inv H
    refine T_cutX (fun x => t69_6 = x) (fun (t69_6 : Bool) => [(0, (intA n0)), (1, (sl tConflictEdge edges1)), (10, (sl tConflictEdge edges1)), (11, (intA (edges1.length : Int))), (12, (intA (t_4 : Int))), (69, (boolA t69_6))]) (fun (t69_6 : Bool) => []) ?_ ?_
    ·replace H := J_6
     refine T_regionD mixed (by kernel_rfl) ?_
     refine pq tb 4 rfl ?_
     refine TQ_split (t := decide (x_t_4.a < 0)) 20 rfl (fun g_8 => ?_) (fun g_8 => ?_)
     ·replace H := cond_t g_8 H
      refine pq tb 16 rfl ?_
      refine tqe [(0, (intA n0)), (1, (sl tConflictEdge edges1)), (5, (intA (t_4 : Int))), (6, (.b 0 0)), (10, (sl tConflictEdge edges1)), (11, (intA (edges1.length : Int))), (12, (intA (t_4 : Int))), (33, (boolA true)), (36, (.v undef))] rfl ?_
      refine pq tb 24 rfl ?_
      refine tqe [(0, (intA n0)), (1, (sl tConflictEdge edges1)), (6, (.b 0 0)), (10, (sl tConflictEdge edges1)), (11, (intA (edges1.length : Int))), (12, (intA (t_4 : Int))), (33, (boolA true)), (36, (.v undef)), (46, (.v undef)), (56, (.v undef)), (60, (.v undef))] rfl ?_
      refine pq tb 9 rfl ?_
      refine TQ_nil ?_
      exact joined true (w0 0) (some_inj H).symm
     ·replace H := cond_f g_8 H
      refine pq tb 7 rfl ?_
      refine TQ_split (t := decide (x_t_4.b ≤ x_t_4.a)) 27 rfl (fun g_9 => ?_) (fun g_9 => ?_)
      ·replace H := cond_t g_9 H
       refine pq tb 8 rfl ?_
       refine tqe [(0, (intA n0)), (1, (sl tConflictEdge edges1)), (5, (intA (t_4 : Int))), (6, (.b 0 0)), (10, (sl tConflictEdge edges1)), (11, (intA (edges1.length : Int))), (12, (intA (t_4 : Int))), (33, (boolA true)), (35, (.v undef))] rfl ?_
       refine pq tb 24 rfl ?_
       refine tqe [(0, (intA n0)), (1, (sl tConflictEdge edges1)), (6, (.b 0 0)), (10, (sl tConflictEdge edges1)), (11, (intA (edges1.length : Int))), (12, (intA (t_4 : Int))), (33, (boolA true)), (36, (.v undef)), (46, (.v undef)), (56, (.v undef)), (57, (.v undef)), (59, (.v undef))] rfl ?_
       refine pq tb 10 rfl ?_
       refine TQ_nil ?_
       exact joined true (w0 0) (some_inj H).symm
      ·replace H := cond_f g_9 H
       refine pq tb 6 rfl ?_
       refine TQ_split (t := decide (n0 ≤ x_t_4.b)) 33 rfl (fun g_10 => ?_) (fun g_10 => ?_)
       ·replace H := cond_t g_10 H
        refine pq tb 8 rfl ?_
        refine tqe [(0, (intA n0)), (1, (sl tConflictEdge edges1)), (5, (intA (t_4 : Int))), (6, (.b 0 0)), (10, (sl tConflictEdge edges1)), (11, (intA (edges1.length : Int))), (12, (intA (t_4 : Int))), (33, (boolA true)), (36, (.v undef)), (41, (.v undef))] rfl ?_
        refine pq tb 24 rfl ?_
        refine tqe [(0, (intA n0)), (1, (sl tConflictEdge edges1)), (10, (sl tConflictEdge edges1)), (11, (intA (edges1.length : Int))), (12, (intA (t_4 : Int))), (33, (boolA true)), (36, (.v undef)), (46, (.v undef)), (56, (.v undef)), (65, (.v undef))] rfl ?_
        refine pq tb 4 rfl ?_
        refine TQ_nil ?_
        exact joined true (w0 0) (some_inj H).symm
       ·replace H := cond_f g_10 H
        refine pq tb 3 rfl ?_
        refine TQ_split (t := decide (0 < (t_4 : Int))) 36 rfl (fun g_11 => ?_) (fun g_11 => ?_)
        ·replace H := cond_t g_11 H
         refine pq tb 2 rfl ?_
         refine TQ_on rfl rfl (by decide) rfl (pur_sub rfl rfl rfl (fits64 (by omega) (by omega))) rfl ?_
         obtain ⟨v_12, h_13, H⟩ := bind_inv H
         obtain ⟨n_14, hz_15, hv_16⟩ := getI_inv h_13
         refine TQ_on rfl rfl (by decide) rfl (pur_ixT (T := tConflictEdge) sl24 rfl rfl hz_15 hv_16 rfl) rfl ?_
         refine pq tb 1 rfl ?_
         refine TQ_on rfl rfl (by decide) rfl (pur_ldT (T := tConflictEdge) (i := n_14) (off := 0) rfl one3 rfl rfl hv_16 rfl) rfl ?_
         refine pq tb 2 rfl ?_
         refine tqe [(0, (intA n0)), (1, (sl tConflictEdge edges1)), (5, (intA (t_4 : Int))), (6, (.b 0 0)), (10, (sl tConflictEdge edges1)), (11, (intA (edges1.length : Int))), (12, (intA (t_4 : Int))), (33, (boolA false)), (36, (boolA true)), (42, (intA v_12.a)), (44, (intA x_t_4.a))] rfl ?_
         refine pq tb 2 rfl ?_
         refine TQ_split (t := decide (x_t_4.a < v_12.a)) 46 rfl (fun g_17 => ?_) (fun g_17 => ?_)
         ·replace H := cond_t g_17 H
          refine pq tb 16 rfl ?_
          refine tqe [(0, (intA n0)), (1, (sl tConflictEdge edges1)), (6, (.b 0 0)), (10, (sl tConflictEdge edges1)), (11, (intA (edges1.length : Int))), (12, (intA (t_4 : Int))), (33, (boolA false)), (36, (boolA true)), (46, (boolA true)), (56, (.v undef)), (62, (.v undef))] rfl ?_
          refine pq tb 7 rfl ?_
          refine TQ_nil ?_
          exact joined true (w0 0) (some_inj H).symm
         ·replace H := cond_f g_17 H
          refine pq tb 2 rfl ?_
          refine TQ_on rfl rfl (by decide) rfl (pur_sub rfl rfl rfl (fits64 (by omega) (by omega))) rfl ?_
          refine TQ_on rfl rfl (by decide) rfl (pur_ixT (T := tConflictEdge) sl24 rfl rfl hz_15 hv_16 rfl) rfl ?_
          refine pq tb 1 rfl ?_
          refine TQ_on rfl rfl (by decide) rfl (pur_ldT (T := tConflictEdge) (i := n_14) (off := 0) rfl one3 rfl rfl hv_16 rfl) rfl ?_
          refine pq tb 4 rfl ?_
          refine TQ_split (t := decide (v_12.a = x_t_4.a)) 56 rfl (fun g_18 => ?_) (fun g_18 => ?_)
          ·replace H := cond_t g_18 H
           refine pq tb 2 rfl ?_
           refine TQ_on rfl rfl (by decide) rfl (pur_sub rfl rfl rfl (fits64 (by omega) (by omega))) rfl ?_
           refine TQ_on rfl rfl (by decide) rfl (pur_ixT (T := tConflictEdge) sl24 rfl rfl hz_15 hv_16 rfl) rfl ?_
           refine pq tb 1 rfl ?_
           refine TQ_on rfl rfl (by decide) rfl (pur_ldT (T := tConflictEdge) (i := n_14) (off := 1) rfl one3 rfl rfl hv_16 rfl) rfl ?_
           refine pq tb 2 rfl ?_
           refine tqe [(0, (intA n0)), (1, (sl tConflictEdge edges1)), (10, (sl tConflictEdge edges1)), (11, (intA (edges1.length : Int))), (12, (intA (t_4 : Int))), (33, (boolA false)), (36, (boolA true)), (46, (boolA false)), (56, (boolA true)), (62, (intA v_12.b)), (64, (intA x_t_4.b))] rfl ?_
           refine pq tb 5 rfl ?_
           refine TQ_nil ?_
           exact joined (decide (x_t_4.b ≤ v_12.b)) (w0 0) (some_inj H).symm
          ·replace H := cond_f g_18 H
           refine pq tb 8 rfl ?_
           refine tqe [(0, (intA n0)), (1, (sl tConflictEdge edges1)), (10, (sl tConflictEdge edges1)), (11, (intA (edges1.length : Int))), (12, (intA (t_4 : Int))), (33, (boolA false)), (36, (boolA true)), (46, (boolA false)), (56, (boolA false)), (62, (.v undef)), (64, (.v undef))] rfl ?_
           refine pq tb 5 rfl ?_
           refine TQ_nil ?_
           exact joined false (w0 0) (some_inj H).symm
        ·replace H := cond_f g_11 H
         refine pq tb 8 rfl ?_
         refine tqe [(0, (intA n0)), (1, (sl tConflictEdge edges1)), (5, (intA (t_4 : Int))), (6, (.b 0 0)), (10, (sl tConflictEdge edges1)), (11, (intA (edges1.length : Int))), (12, (intA (t_4 : Int))), (33, (boolA false)), (36, (boolA false)), (42, (.v undef)), (44, (.v undef))] rfl ?_
         refine pq tb 16 rfl ?_
         refine tqe [(0, (intA n0)), (1, (sl tConflictEdge edges1)), (6, (.b 0 0)), (10, (sl tConflictEdge edges1)), (11, (intA (edges1.length : Int))), (12, (intA (t_4 : Int))), (33, (boolA false)), (36, (boolA false)), (46, (.v undef)), (56, (.v undef)), (60, (.v undef))] rfl ?_
         refine pq tb 9 rfl ?_
         refine TQ_nil ?_
         exact joined false (w0 0) (some_inj H).symm
    ·rintro _ rfl
     replace H := H_7
     refine T_cond (t := t69_6) rfl (fun c_19 => ?_) (fun c_19 => ?_)
     ·replace H := cond_t c_19 H
      refine sr ?_
      refine pv tb 1 rfl ?_
      refine TO_nil ?_
      refine T_ret ?_
      refine block_ret ?_
      refine then_ret ?_
      refine then_ret ?_
      refine block_ret ?_
      refine then_ret ?_
      obtain rfl := some_inj H
      obtain rfl := some_inj K5_
      replace H := onS_r N5_
      obtain rfl := some_inj H
      refine end_ret (.tmp .nil) rfl rfl ⟨?_, rfl⟩
      rfl
     ·replace H := cond_f c_19 H
      refine T_skip ?_
      refine T_region ?_
      refine Tp rfl rfl (pur_add rfl rfl rfl (fits64 (by omega) (by omega))) rfl ?_
      refine pv tb 1 rfl ?_
      refine TO_nil ?_
      obtain rfl := some_inj H
      exact again (edges1.length - (t_4 + 1)) (t_4 + 1) (by omega) (w0 0) ⟨rfl, K5_⟩
   ·replace d5 := of_decide_eq_false d5
    obtain rfl := forL_end L5_ (by omega)
    refine T_exit ?_
    refine then_exit ?_
    refine then_exit ?_
    refine block_exit ?_
    replace H := onS_l N5_
    refine sr ?_
    refine pv tb 1 rfl ?_
    refine TO_nil ?_
    refine T_ret ?_
    obtain rfl := some_inj H
    refine end_ret (.tmp .nil) rfl rfl ⟨?_, rfl⟩
    rfl

set_option maxHeartbeats 1000000 in
theorem m_slices_Index_Simpl_ConflictEdge_impl_ConflictEdge_ok (s0 : (List ConflictEdge)) (v1 : ConflictEdge) (r : Int) (H : m_slices_Index_Simpl_ConflictEdge_impl_ConflictEdge s0 v1 = some r) : FnV prg 62 [(sl tConflictEdge s0), (.g (tConflictEdge.enc v1))] (intA r) := by
  unfold m_slices_Index_Simpl_ConflictEdge_impl_ConflictEdge at H
  refine fnV_of_T Tryz.func62 rfl rfl (Nat.le_of_ble_eq_true rfl) ?_
  refine te [(0, (sl tConflictEdge s0)), (1, (.g (tConflictEdge.enc v1)))] rfl ?_
  refine sr ?_
  refine TO_cons rfl (TOp_box rfl (boxAll rfl) rfl rfl ?_)
  refine pv tb 1 rfl ?_
  refine TO_nil ?_
  refine T_seq ?_
  refine sr ?_
  refine pv tb 1 rfl ?_
  refine Tp rfl rfl (pur_lenT (T := tConflictEdge) sl24 rfl rfl) rfl ?_
  refine pv tb 1 rfl ?_
  refine TO_nil ?_
  obtain ⟨O2_, L2_, N2_⟩ := bind_inv H
  clear H
  obtain ⟨B2_, hb2, L2_⟩ := gen_forL L2_
  refine T_block ?_
  refine T_loopX (fun k => fun (t_1 : Nat) => k = s0.length - t_1 ∧ forL B2_ (s0.drop t_1) (t_1 : Int) () = some O2_) (fun (t_1 : Nat) => [(0, (sl tConflictEdge s0)), (3, (.b 0 0)), (7, (intA (s0.length : Int))), (8, (intA (t_1 : Int)))]) (fun (t_1 : Nat) => [.box [(intA v1.a), (intA v1.b)]]) _ (0 : Nat) (w0 1) ⟨rfl, L2_⟩ ?_
  rintro _ t_1 ⟨rfl, L2_⟩
  refine T_fact (len_sl (T := tConflictEdge) (.tmp 0) rfl) (fun hl2 => ?_)
  refine sr ?_
  refine pv tb 1 rfl ?_
  refine TO_nil ?_
  refine T_seq ?_
  refine T_cond (t := decide ((t_1 : Int) < (s0.length : Int))) rfl (fun d2 => ?_) (fun d2 => ?_)
  ·replace d2 := of_decide_eq_true d2
   obtain ⟨x_t_1, hx_t_1⟩ : ∃ v, (s0)[t_1]? = some v := ⟨_, List.getElem?_eq_getElem (by omega)⟩
   obtain ⟨C2_, H, K2_⟩ := forL_step L2_ hx_t_1
   rw [hb2] at H
   refine T_skip ?_
   refine T_seq ?_
   refine T_block ?_
   refine sr ?_
   refine pv tb 2 rfl ?_
   refine TO_nil ?_
   refine T_seq ?_
   refine T_regionD mixed (by kernel_rfl) ?_
   refine pq tb 3 rfl ?_
   refine TQ_pure rfl (pur_ixT (T := tConflictEdge) sl24 rfl rfl rfl hx_t_1 rfl) rfl ?_
   refine TQ_pure rfl (pur_ldTK (T := tConflictEdge) (i := t_1) (off := 0) rfl agg45 rfl rfl hx_t_1 (by decide) rfl) rfl ?_
   refine TQ_pure rfl (pur_eql_edge (a := (v1.a, v1.b)) (b := (x_t_1.a, x_t_1.b)) eqe45 rfl rfl rfl) rfl ?_
   refine TQ_nil ?_
   refine T_cond (t := decide ((v1.a, v1.b) = (x_t_1.a, x_t_1.b))) rfl (fun c_3 => ?_) (fun c_3 => ?_)
   ·replace H := cond_t c_3 H
    refine sr ?_
    refine pv tb 2 rfl ?_
    refine TO_nil ?_
    refine T_ret ?_
    refine block_ret ?_
    refine then_ret ?_
    refine then_ret ?_
    refine block_ret ?_
    refine then_ret ?_
    obtain rfl := some_inj H
    obtain rfl := some_inj K2_
    replace H := onS_r N2_
    obtain rfl := some_inj H
    refine end_ret (.tmp .nil) rfl rfl ⟨?_, rfl⟩
    rfl
   ·replace H := cond_f c_3 H
    refine T_skip ?_
    refine T_region ?_
    refine Tp rfl rfl (pur_add rfl rfl rfl (fits64 (by omega) (by omega))) rfl ?_
    refine pv tb 1 rfl ?_
    refine TO_nil ?_
    obtain rfl := some_inj H
    exact again (s0.length - (t_1 + 1)) (t_1 + 1) (by omega) (w0 1) ⟨rfl, K2_⟩
  ·replace d2 := of_decide_eq_false d2
   obtain rfl := forL_end L2_ (by omega)
   refine T_exit ?_
   refine then_exit ?_
   refine then_exit ?_
   refine block_exit ?_
   replace H := onS_l N2_
   refine sr ?_
   refine pv tb 1 rfl ?_
   refine TO_nil ?_
   refine T_ret ?_
   obtain rfl := some_inj H
   refine end_ret (.tmp .nil) rfl rfl ⟨?_, rfl⟩
   rfl

set_option maxHeartbeats 1000000 in
theorem m_slices_Contains_Simpl_ConflictEdge_impl_ConflictEdge_ok (s0 : (List ConflictEdge)) (v1 : ConflictEdge) (r : Bool) (H : m_slices_Contains_Simpl_ConflictEdge_impl_ConflictEdge s0 v1 = some r) : FnV prg 39 [(sl tConflictEdge s0), (.g (tConflictEdge.enc v1))] (boolA r) := by
  unfold m_slices_Contains_Simpl_ConflictEdge_impl_ConflictEdge at H
  refine fnV_of_T Tryz.func39 rfl rfl (Nat.le_of_ble_eq_true rfl) ?_
  refine te [(0, (sl tConflictEdge s0)), (1, (.g (tConflictEdge.enc v1)))] rfl ?_
  refine sr ?_
  refine TO_cons rfl (TOp_box rfl (boxAll rfl) rfl rfl ?_)
  refine pv tb 1 rfl ?_
  refine TO_nil ?_
  refine sr ?_
  obtain ⟨r_1, h_2, H⟩ := bind_inv H
  refine pv tb 2 rfl ?_
  refine TO_cons rfl (TOp_callV (call_static ent62 rfl) (m_slices_Index_Simpl_ConflictEdge_impl_ConflictEdge_ok _ _ _ h_2) rfl rfl rfl ?_)
  refine pv tb 2 rfl ?_
  refine TO_nil ?_
  refine T_ret ?_
  obtain rfl := some_inj H
  refine end_ret (.tmp .nil) rfl rfl ⟨?_, rfl⟩
  rfl

set_option maxHeartbeats 1000000 in
theorem m_slices_IndexFunc_Sint_int_ok (s0 : (List Int)) (f1 : (Int → Option Bool)) (f1_g : Nat) (f1_c : List A) (f1_E : EnT prg f1_g) (f1_l : looseL f1_c = true) (f1_m : firmL f1_c = true ∧ fzL f1_c = f1_c) (f1_H : ∀ (x0 : Int) r, f1 x0 = some r → FnV prg f1_g ([(intA x0)] ++ f1_c) (boolA r)) (r : Int) (H : m_slices_IndexFunc_Sint_int s0 f1 = some r) : FnV prg 56 [(sl tInt s0), (.f f1_g f1_c)] (intA r) := by
  unfold m_slices_IndexFunc_Sint_int at H
  refine fnV_of_T Tryz.func56 rfl rfl (Nat.le_of_ble_eq_true rfl) ?_
  refine te [(0, (sl tInt s0)), (1, (.f f1_g f1_c))] rfl ?_
  refine sr ?_
  refine pv tb 1 rfl ?_
  refine TO_nil ?_
  refine T_seq ?_
  refine sr ?_
  refine pv tb 1 rfl ?_
  refine Tp rfl rfl (pur_lenT (T := tInt) sl31 rfl rfl) rfl ?_
  refine pv tb 1 rfl ?_
  refine TO_nil ?_
  obtain ⟨O2_, L2_, N2_⟩ := bind_inv H
  clear H
  obtain ⟨B2_, hb2, L2_⟩ := gen_forL L2_
  refine T_block ?_
  refine T_loopX (fun k => fun (t_1 : Nat) => k = s0.length - t_1 ∧ forL B2_ (s0.drop t_1) (t_1 : Int) () = some O2_) (fun (t_1 : Nat) => [(0, (sl tInt s0)), (1, (.f f1_g f1_c)), (7, (intA (s0.length : Int))), (8, (intA (t_1 : Int)))]) (fun (t_1 : Nat) => []) _ (0 : Nat) (wp 0 (lb rfl) rfl rfl (by simp only [namesE, A.names, namesL_enc, Bool.false_or, Bool.or_false, looseL_names f1_l]) rfl rfl) ⟨rfl, L2_⟩ ?_
  rintro _ t_1 ⟨rfl, L2_⟩
  refine T_fact (len_sl (T := tInt) (.tmp 0) rfl) (fun hl2 => ?_)
  refine sr ?_
  refine pv tb 1 rfl ?_
  refine TO_nil ?_
  refine T_seq ?_
  refine T_cond (t := decide ((t_1 : Int) < (s0.length : Int))) rfl (fun d2 => ?_) (fun d2 => ?_)
  ·replace d2 := of_decide_eq_true d2
   obtain ⟨x_t_1, hx_t_1⟩ : ∃ v, (s0)[t_1]? = some v := ⟨_, List.getElem?_eq_getElem (by omega)⟩
   obtain ⟨C2_, H, K2_⟩ := forL_step L2_ hx_t_1
   rw [hb2] at H
   refine T_skip ?_
   refine T_seq ?_
   refine T_block ?_
   refine sr ?_
   refine pv tb 2 rfl ?_
   refine TO_nil ?_
   refine sr ?_
   refine pv tb 3 rfl ?_
   refine Tp rfl rfl (pur_ixT (T := tInt) sl31 rfl rfl rfl hx_t_1 rfl) rfl ?_
   refine Tp rfl rfl (pur_ldT (T := tInt) (i := t_1) (off := 0) rfl one3 rfl rfl hx_t_1 rfl) rfl ?_
   obtain ⟨r_3, h_4, H⟩ := bind_inv H
   refine TO_cons rfl (TOp_callV (call_closure f1_E rfl rfl) (f1_H _  _ h_4) (looseL_app rfl f1_l) rfl rfl ?_)
   refine TO_nil ?_
   refine T_cond (t := r_3) rfl (fun c_5 => ?_) (fun c_5 => ?_)
   ·replace H := cond_t c_5 H
    refine sr ?_
    refine pv tb 2 rfl ?_
    refine TO_nil ?_
    refine T_ret ?_
    refine block_ret ?_
    refine then_ret ?_
    refine then_ret ?_
    refine block_ret ?_
    refine then_ret ?_
    obtain rfl := some_inj H
    obtain rfl := some_inj K2_
    replace H := onS_r N2_
    obtain rfl := some_inj H
    refine end_ret (.tmp .nil) rfl rfl ⟨?_, rfl⟩
    rfl
   ·replace H := cond_f c_5 H
    refine T_skip ?_
    refine T_region ?_
    refine Tp rfl rfl (pur_add rfl rfl rfl (fits64 (by omega) (by omega))) rfl ?_
    refine pv tb 1 rfl ?_
    refine TO_nil ?_
    obtain rfl := some_inj H
    exact again (s0.length - (t_1 + 1)) (t_1 + 1) (by omega) (wp 0 (lb rfl) rfl rfl (by simp only [namesE, A.names, namesL_enc, Bool.false_or, Bool.or_false, looseL_names f1_l]) rfl rfl) ⟨rfl, K2_⟩
  ·replace d2 := of_decide_eq_false d2
   obtain rfl := forL_end L2_ (by omega)
   refine T_exit ?_
   refine then_exit ?_
   refine then_exit ?_
   refine block_exit ?_
   replace H := onS_l N2_
   refine sr ?_
   refine pv tb 1 rfl ?_
   refine TO_nil ?_
   refine T_ret ?_
   obtain rfl := some_inj H
   refine end_ret (.tmp .nil) rfl rfl ⟨?_, rfl⟩
   rfl

set_option maxHeartbeats 1000000 in
theorem m_slices_ContainsFunc_Sint_int_ok (s0 : (List Int)) (f1 : (Int → Option Bool)) (f1_g : Nat) (f1_c : List A) (f1_E : EnT prg f1_g) (f1_l : looseL f1_c = true) (f1_m : firmL f1_c = true ∧ fzL f1_c = f1_c) (f1_H : ∀ (x0 : Int) r, f1 x0 = some r → FnV prg f1_g ([(intA x0)] ++ f1_c) (boolA r)) (r : Bool) (H : m_slices_ContainsFunc_Sint_int s0 f1 = some r) : FnV prg 29 [(sl tInt s0), (.f f1_g f1_c)] (boolA r) := by
  unfold m_slices_ContainsFunc_Sint_int at H
  refine fnV_of_T Tryz.func29 rfl rfl (Nat.le_of_ble_eq_true rfl) ?_
  refine te [(0, (sl tInt s0)), (1, (.f f1_g f1_c))] rfl ?_
  refine sr ?_
  refine pv tb 1 rfl ?_
  refine TO_nil ?_
  refine sr ?_
  obtain ⟨r_1, h_2, H⟩ := bind_inv H
  refine pv tb 2 rfl ?_
  refine TO_cons rfl (TOp_callV (call_static ent56 rfl) (m_slices_IndexFunc_Sint_int_ok _ f1 f1_g f1_c f1_E f1_l f1_m f1_H _ h_2) (looseC rfl (looseC f1_l rfl)) rfl rfl ?_)
  refine pv tb 2 rfl ?_
  refine TO_nil ?_
  refine T_ret ?_
  obtain rfl := some_inj H
  refine end_ret (.tmp .nil) rfl rfl ⟨?_, rfl⟩
  rfl

set_option maxHeartbeats 1000000 in
theorem m_impl_IsPreferred_ok (preferences0 : (List ConflictEdge)) (a1 : Int) (b2 : Int) (r : Bool) (H : m_impl_IsPreferred preferences0 a1 b2 = some r) : FnV prg 32 [(sl tConflictEdge preferences0), (intA a1), (intA b2)] (boolA r) := by
  unfold m_impl_IsPreferred at H
  refine fnV_of_T Tryz.func32 rfl rfl (Nat.le_of_ble_eq_true rfl) ?_
  refine te [(0, (sl tConflictEdge preferences0)), (1, (intA a1)), (2, (intA b2))] rfl ?_
  refine sr ?_
  refine pv tb 1 rfl ?_
  refine TO_nil ?_
  refine sr ?_
  refine pv tb 3 rfl ?_
  refine Tp rfl rfl (pur_build bld45 rfl rfl) rfl ?_
  obtain ⟨r_1, h_2, H⟩ := bind_inv H
  refine TO_cons rfl (TOp_callV (call_static ent39 rfl) (m_slices_Contains_Simpl_ConflictEdge_impl_ConflictEdge_ok _ _ _ h_2) rfl rfl rfl ?_)
  refine pv tb 1 rfl ?_
  refine TO_nil ?_
  refine T_ret ?_
  obtain rfl := some_inj H
  refine end_ret (.tmp .nil) rfl rfl ⟨?_, rfl⟩
  rfl

set_option maxHeartbeats 1000000 in
theorem m_impl_undominated_1_ok (a0 : Int) (fv1 : (List ConflictEdge)) (fv2 : Int) (r : Bool) (H : m_impl_undominated_1 a0 fv1 fv2 = some r) : FnV prg 67 [(intA a0), (.q [(sl tConflictEdge fv1)] 0), (.q [(intA fv2)] 0)] (boolA r) := by
  unfold m_impl_undominated_1 at H
  refine fnV_of_T Tryz.func67 rfl rfl (Nat.le_of_ble_eq_true rfl) ?_
  refine te [(0, (intA a0)), (1, (.q [(sl tConflictEdge fv1)] 0)), (2, (.q [(intA fv2)] 0))] rfl ?_
  refine sr ?_
  refine pv tb 1 rfl ?_
  refine TO_nil ?_
  refine sr ?_
  obtain ⟨r_1, h_2, H⟩ := bind_inv H
  refine pv tb 3 rfl ?_
  refine TO_cons rfl (TOp_callV (call_static ent32 rfl) (m_impl_IsPreferred_ok _ _ _ _ h_2) rfl rfl rfl ?_)
  refine pv tb 1 rfl ?_
  refine TO_nil ?_
  refine T_ret ?_
  obtain rfl := some_inj H
  refine end_ret (.tmp .nil) rfl rfl ⟨?_, rfl⟩
  rfl

set_option maxHeartbeats 1000000 in
theorem m_impl_undominated_own (preferences0 : (List ConflictEdge)) (left1 : (List Int)) (r : (List Int)) (H : m_impl_undominated preferences0 left1 = some r) : FnO prg 43 [(sl tConflictEdge preferences0), (sl tInt left1)] (.m [0] 0 r.length tInt.k) [.row (flat tInt.own r)] := by
  unfold m_impl_undominated at H
  refine fnO_of_T Tryz.func43 rfl rfl (Nat.le_of_ble_eq_true rfl) ?_
  refine te [(0, (sl tConflictEdge preferences0)), (1, (sl tInt left1))] rfl ?_
  refine sr ?_
  refine TO_cons rfl (TOp_box rfl (boxAll rfl) rfl rfl ?_)
  refine pv tb 1 rfl ?_
  refine TO_nil ?_
  refine sr ?_
  refine TO_cons rfl (TOp_lit (nn := 0) (k := 1) sl31 zero3 rfl rfl rfl rfl (by decide) ?_)
  refine TO_st (σ' := [.box [(sl tConflictEdge preferences0)], .row (flat tInt.enc ([] : (List Int)))]) rfl ?_
  refine pv tb 1 rfl ?_
  refine TO_nil ?_
  refine T_seq ?_
  refine sr ?_
  refine pv tb 1 rfl ?_
  refine Tp rfl rfl (pur_lenT (T := tInt) sl31 rfl rfl) rfl ?_
  refine pv tb 1 rfl ?_
  refine TO_nil ?_
  obtain ⟨O2_, L2_, N2_⟩ := bind_inv H
  clear H
  obtain ⟨B2_, hb2, L2_⟩ := gen_forS L2_
  refine T_block ?_
  refine T_loopX (fun k => fun (⟨t_1, out5⟩ : Nat × (List Int)) => k = left1.length - t_1 ∧ forS B2_ (left1.drop t_1) (t_1 : Int) out5 = some O2_) (fun (⟨t_1, out5⟩ : Nat × (List Int)) => [(1, (sl tInt left1)), (2, (.b 0 0)), (5, (.m [1] 0 out5.length tInt.k)), (9, (sl tInt left1)), (10, (intA (left1.length : Int))), (11, (intA (t_1 : Int)))]) (fun (⟨t_1, out5⟩ : Nat × (List Int)) => [.box [(sl tConflictEdge preferences0)], .row (flat tInt.enc out5)]) _ (0, ([] : (List Int))) (w0 2) ⟨rfl, L2_⟩ ?_
  rintro _ ⟨t_1, out5⟩ ⟨rfl, L2_⟩
  refine T_fact (len_sl (T := tInt) (.tmp 1) rfl) (fun hl2 => ?_)
  refine sr ?_
  refine pv tb 1 rfl ?_
  refine TO_nil ?_
  refine T_seq ?_
  refine T_cond (t := decide ((t_1 : Int) < (left1.length : Int))) rfl (fun d2 => ?_) (fun d2 => ?_)
  ·replace d2 := of_decide_eq_true d2
   obtain ⟨x_t_1, hx_t_1⟩ : ∃ v, (left1)[t_1]? = some v := ⟨_, List.getElem?_eq_getElem (by omega)⟩
   obtain ⟨C2_, H, K2_⟩ := forS_step L2_ hx_t_1
   rw [hb2] at H
   refine T_skip ?_
   refine T_seq ?_
   refine T_block ?_
   refine sr ?_
   refine Tp rfl rfl (pur_ixT (T := tInt) sl31 rfl rfl rfl hx_t_1 rfl) rfl ?_
   refine Tp rfl rfl (pur_ldT (T := tInt) (i := t_1) (off := 0) rfl one3 rfl rfl hx_t_1 rfl) rfl ?_
   refine TO_cons rfl (TOp_alloc zero3 rfl rfl ?_)
   refine TO_cons rfl (TOp_storeB sz3 rfl rfl rfl rfl rfl rfl rfl (by decide) (lb rfl) rfl ?_)
   refine TO_st (σ' := [.box [(sl tConflictEdge preferences0)], .row (flat tInt.enc out5), .box [(intA x_t_1)]]) rfl ?_
   refine TO_nil ?_
   refine sr ?_
   obtain ⟨r_3, h_4, H⟩ := bind_inv H
   refine pv tb 2 rfl ?_
   refine TO_cons rfl (TOp_callB (call_static ent29 rfl) (frz_cons (frz_loose rfl) (frz_cons (frzOK_f (frz_cons (frzOK_b (xs := [(sl tConflictEdge preferences0)]) (ys := [(sl tConflictEdge preferences0)]) rfl rfl rfl) (frz_cons (frzOK_b (xs := [(intA x_t_1)]) (ys := [(intA x_t_1)]) rfl rfl rfl) frz_nil)).1 (frz_cons (frzOK_b (xs := [(sl tConflictEdge preferences0)]) (ys := [(sl tConflictEdge preferences0)]) rfl rfl rfl) (frz_cons (frzOK_b (xs := [(intA x_t_1)]) (ys := [(intA x_t_1)]) rfl rfl rfl) frz_nil)).2) frz_nil)).1 (frz_cons (frz_loose rfl) (frz_cons (frzOK_f (frz_cons (frzOK_b (xs := [(sl tConflictEdge preferences0)]) (ys := [(sl tConflictEdge preferences0)]) rfl rfl rfl) (frz_cons (frzOK_b (xs := [(intA x_t_1)]) (ys := [(intA x_t_1)]) rfl rfl rfl) frz_nil)).1 (frz_cons (frzOK_b (xs := [(sl tConflictEdge preferences0)]) (ys := [(sl tConflictEdge preferences0)]) rfl rfl rfl) (frz_cons (frzOK_b (xs := [(intA x_t_1)]) (ys := [(intA x_t_1)]) rfl rfl rfl) frz_nil)).2) frz_nil)).2 (m_slices_ContainsFunc_Sint_int_ok _ (fun x0 => m_impl_undominated_1 x0 preferences0 x_t_1) 67 [(.q [(sl tConflictEdge preferences0)] 0), (.q [(intA x_t_1)] 0)] ent67 rfl ⟨rfl, rfl⟩ (fun x0 r h => m_impl_undominated_1_ok x0 preferences0 x_t_1 r h) _ h_4) rfl ?_)
   refine pv tb 1 rfl ?_
   refine TO_nil ?_
   refine T_cond (t := (!r_3)) rfl (fun c_5 => ?_) (fun c_5 => ?_)
   ·replace H := cond_t c_5 H
    refine T_region ?_
    refine pv tb 2 rfl ?_
    refine TO_cons rfl (TOp_lit (nn := 1) (k := 1) sl31 zero3 rfl rfl rfl rfl (by decide) ?_)
    refine TO_st (σ' := [.box [(sl tConflictEdge preferences0)], .row (flat tInt.enc out5), .box [(intA x_t_1)], .row (flat tInt.enc ([x_t_1] : (List Int)))]) rfl ?_
    obtain ⟨us_6, h_7, H⟩ := bind_inv H
    refine TO_cons rfl (TOp_appZ (T := tInt) (f := tInt.enc) (xs := out5) (ys := ([x_t_1] : (List Int))) tInt.len sl31 zero3 rfl bytes3 (by decide) rfl rfl rfl rfl (src_mT (f := tInt.enc) tInt.len rfl rfl (flat_cell tInt _)) (flat_cell tInt _) h_7 (lb rfl) ?_)
    refine toe [(1, (sl tInt left1)), (2, (.b 0 0)), (7, (.b 2 0)), (9, (sl tInt left1)), (10, (intA (left1.length : Int))), (11, (intA (t_1 : Int))), (18, (boolA (!r_3))), (20, (intA x_t_1)), (21, (.m [3] 0 ([x_t_1] : (List Int)).length tInt.k)), (22, (.m [1] 0 us_6.length tInt.k))] rfl ?_
    refine TO_st (σ' := [.box [(sl tConflictEdge preferences0)], .row (flat tInt.enc us_6), .box [(intA x_t_1)], .row (flat tInt.enc ([x_t_1] : (List Int))), .dead]) rfl ?_
    refine pv tb 1 rfl ?_
    refine TO_nil ?_
    refine T_region ?_
    refine Tp rfl rfl (pur_add rfl rfl rfl (fits64 (by omega) (by omega))) rfl ?_
    refine pv tb 1 rfl ?_
    refine TO_nil ?_
    obtain rfl := some_inj H
    exact again (left1.length - (t_1 + 1)) (t_1 + 1, us_6) (by omega) (w0 2) ⟨rfl, K2_⟩
   ·replace H := cond_f c_5 H
    refine T_skip ?_
    refine T_region ?_
    refine Tp rfl rfl (pur_add rfl rfl rfl (fits64 (by omega) (by omega))) rfl ?_
    refine pv tb 1 rfl ?_
    refine TO_nil ?_
    obtain rfl := some_inj H
    exact again (left1.length - (t_1 + 1)) (t_1 + 1, out5) (by omega) (w0 2) ⟨rfl, K2_⟩
  ·replace d2 := of_decide_eq_false d2
   obtain rfl := forS_end L2_ (by omega)
   refine T_exit ?_
   refine then_exit ?_
   refine then_exit ?_
   refine block_exit ?_
   replace H := N2_
   refine sr ?_
   refine pv tb 2 rfl ?_
   refine TO_nil ?_
   refine T_ret ?_
   obtain rfl := some_inj H
   exact end_pick (.tmp .nil) rfl [1] (by decide) rfl rfl rfl rfl rfl rfl
theorem m_impl_undominated_ok (preferences0 : (List ConflictEdge)) (left1 : (List Int)) (r : (List Int)) (H : m_impl_undominated preferences0 left1 = some r) : FnV prg 43 [(sl tConflictEdge preferences0), (sl tInt left1)] (sl tInt r) := (m_impl_undominated_own preferences0 left1 r H).frz (frzT (T := tInt) rfl)

set_option maxHeartbeats 1000000 in
theorem m_slices_Index_Sint_int_ok (s0 : (List Int)) (v1 : Int) (r : Int) (H : m_slices_Index_Sint_int s0 v1 = some r) : FnV prg 55 [(sl tInt s0), (intA v1)] (intA r) := by
  unfold m_slices_Index_Sint_int at H
  refine fnV_of_T Tryz.func55 rfl rfl (Nat.le_of_ble_eq_true rfl) ?_
  refine te [(0, (sl tInt s0)), (1, (intA v1))] rfl ?_
  refine sr ?_
  refine pv tb 1 rfl ?_
  refine TO_nil ?_
  refine T_seq ?_
  refine sr ?_
  refine pv tb 1 rfl ?_
  refine Tp rfl rfl (pur_lenT (T := tInt) sl31 rfl rfl) rfl ?_
  refine pv tb 1 rfl ?_
  refine TO_nil ?_
  obtain ⟨O2_, L2_, N2_⟩ := bind_inv H
  clear H
  obtain ⟨B2_, hb2, L2_⟩ := gen_forL L2_
  refine T_block ?_
  refine T_loopX (fun k => fun (t_1 : Nat) => k = s0.length - t_1 ∧ forL B2_ (s0.drop t_1) (t_1 : Int) () = some O2_) (fun (t_1 : Nat) => [(0, (sl tInt s0)), (1, (intA v1)), (7, (intA (s0.length : Int))), (8, (intA (t_1 : Int)))]) (fun (t_1 : Nat) => []) _ (0 : Nat) (w0 0) ⟨rfl, L2_⟩ ?_
  rintro _ t_1 ⟨rfl, L2_⟩
  refine T_fact (len_sl (T := tInt) (.tmp 0) rfl) (fun hl2 => ?_)
  refine sr ?_
  refine pv tb 1 rfl ?_
  refine TO_nil ?_
  refine T_seq ?_
  refine T_cond (t := decide ((t_1 : Int) < (s0.length : Int))) rfl (fun d2 => ?_) (fun d2 => ?_)
  ·replace d2 := of_decide_eq_true d2
   obtain ⟨x_t_1, hx_t_1⟩ : ∃ v, (s0)[t_1]? = some v := ⟨_, List.getElem?_eq_getElem (by omega)⟩
   obtain ⟨C2_, H, K2_⟩ := forL_step L2_ hx_t_1
   rw [hb2] at H
   refine T_skip ?_
   refine T_seq ?_
   refine T_block ?_
   refine sr ?_
   refine pv tb 2 rfl ?_
   refine TO_nil ?_
   refine sr ?_
   refine pv tb 3 rfl ?_
   refine Tp rfl rfl (pur_ixT (T := tInt) sl31 rfl rfl rfl hx_t_1 rfl) rfl ?_
   refine Tp rfl rfl (pur_ldT (T := tInt) (i := t_1) (off := 0) rfl one3 rfl rfl hx_t_1 rfl) rfl ?_
   refine pv tb 1 rfl ?_
   refine TO_nil ?_
   refine T_cond (t := decide (v1 = x_t_1)) rfl (fun c_3 => ?_) (fun c_3 => ?_)
   ·replace H := cond_t c_3 H
    refine sr ?_
    refine pv tb 2 rfl ?_
    refine TO_nil ?_
    refine T_ret ?_
    refine block_ret ?_
    refine then_ret ?_
    refine then_ret ?_
    refine block_ret ?_
    refine then_ret ?_
    obtain rfl := some_inj H
    obtain rfl := some_inj K2_
    replace H := onS_r N2_
    obtain rfl := some_inj H
    refine end_ret (.tmp .nil) rfl rfl ⟨?_, rfl⟩
    rfl
   ·replace H := cond_f c_3 H
    refine T_skip ?_
    refine T_region ?_
    refine Tp rfl rfl (pur_add rfl rfl rfl (fits64 (by omega) (by omega))) rfl ?_
    refine pv tb 1 rfl ?_
    refine TO_nil ?_
    obtain rfl := some_inj H
    exact again (s0.length - (t_1 + 1)) (t_1 + 1) (by omega) (w0 0) ⟨rfl, K2_⟩
  ·replace d2 := of_decide_eq_false d2
   obtain rfl := forL_end L2_ (by omega)
   refine T_exit ?_
   refine then_exit ?_
   refine then_exit ?_
   refine block_exit ?_
   replace H := onS_l N2_
   refine sr ?_
   refine pv tb 1 rfl ?_
   refine TO_nil ?_
   refine T_ret ?_
   obtain rfl := some_inj H
   refine end_ret (.tmp .nil) rfl rfl ⟨?_, rfl⟩
   rfl

set_option maxHeartbeats 1000000 in
theorem m_slices_Contains_Sint_int_ok (s0 : (List Int)) (v1 : Int) (r : Bool) (H : m_slices_Contains_Sint_int s0 v1 = some r) : FnV prg 28 [(sl tInt s0), (intA v1)] (boolA r) := by
  unfold m_slices_Contains_Sint_int at H
  refine fnV_of_T Tryz.func28 rfl rfl (Nat.le_of_ble_eq_true rfl) ?_
  refine te [(0, (sl tInt s0)), (1, (intA v1))] rfl ?_
  refine sr ?_
  refine pv tb 1 rfl ?_
  refine TO_nil ?_
  refine sr ?_
  obtain ⟨r_1, h_2, H⟩ := bind_inv H
  refine pv tb 2 rfl ?_
  refine TO_cons rfl (TOp_callV (call_static ent55 rfl) (m_slices_Index_Sint_int_ok _ _ _ h_2) rfl rfl rfl ?_)
  refine pv tb 2 rfl ?_
  refine TO_nil ?_
  refine T_ret ?_
  obtain rfl := some_inj H
  refine end_ret (.tmp .nil) rfl rfl ⟨?_, rfl⟩
  rfl

set_option maxHeartbeats 1000000 in
theorem m_impl_without_own (a0 : (List Int)) (b1 : (List Int)) (r : (List Int)) (H : m_impl_without a0 b1 = some r) : FnO prg 63 [(sl tInt a0), (sl tInt b1)] (.m [0] 0 r.length tInt.k) [.row (flat tInt.own r)] := by
  unfold m_impl_without at H
  refine fnO_of_T Tryz.func63 rfl rfl (Nat.le_of_ble_eq_true rfl) ?_
  refine te [(0, (sl tInt a0)), (1, (sl tInt b1))] rfl ?_
  refine sr ?_
  refine pv tb 1 rfl ?_
  refine TO_nil ?_
  refine sr ?_
  refine TO_cons rfl (TOp_lit (nn := 0) (k := 1) sl31 zero3 rfl rfl rfl rfl (by decide) ?_)
  refine TO_st (σ' := [.row (flat tInt.enc ([] : (List Int)))]) rfl ?_
  refine pv tb 1 rfl ?_
  refine TO_nil ?_
  refine T_seq ?_
  refine sr ?_
  refine pv tb 1 rfl ?_
  refine Tp rfl rfl (pur_lenT (T := tInt) sl31 rfl rfl) rfl ?_
  refine pv tb 1 rfl ?_
  refine TO_nil ?_
  obtain ⟨O2_, L2_, N2_⟩ := bind_inv H
  clear H
  obtain ⟨B2_, hb2, L2_⟩ := gen_forS L2_
  refine T_block ?_
  refine T_loopX (fun k => fun (⟨t_1, out5⟩ : Nat × (List Int)) => k = a0.length - t_1 ∧ forS B2_ (a0.drop t_1) (t_1 : Int) out5 = some O2_) (fun (⟨t_1, out5⟩ : Nat × (List Int)) => [(1, (sl tInt b1)), (5, (.m [0] 0 out5.length tInt.k)), (9, (sl tInt a0)), (10, (intA (a0.length : Int))), (11, (intA (t_1 : Int)))]) (fun (⟨t_1, out5⟩ : Nat × (List Int)) => [.row (flat tInt.enc out5)]) _ (0, ([] : (List Int))) (w0 1) ⟨rfl, L2_⟩ ?_
  rintro _ ⟨t_1, out5⟩ ⟨rfl, L2_⟩
  refine T_fact (len_sl (T := tInt) (.tmp 9) rfl) (fun hl2 => ?_)
  refine sr ?_
  refine pv tb 1 rfl ?_
  refine TO_nil ?_
  refine T_seq ?_
  refine T_cond (t := decide ((t_1 : Int) < (a0.length : Int))) rfl (fun d2 => ?_) (fun d2 => ?_)
  ·replace d2 := of_decide_eq_true d2
   obtain ⟨x_t_1, hx_t_1⟩ : ∃ v, (a0)[t_1]? = some v := ⟨_, List.getElem?_eq_getElem (by omega)⟩
   obtain ⟨C2_, H, K2_⟩ := forS_step L2_ hx_t_1
   rw [hb2] at H
   refine T_skip ?_
   refine T_seq ?_
   refine T_block ?_
   refine sr ?_
   refine Tp rfl rfl (pur_ixT (T := tInt) sl31 rfl rfl rfl hx_t_1 rfl) rfl ?_
   refine Tp rfl rfl (pur_ldT (T := tInt) (i := t_1) (off := 0) rfl one3 rfl rfl hx_t_1 rfl) rfl ?_
   refine pv tb 1 rfl ?_
   refine TO_nil ?_
   refine sr ?_
   obtain ⟨r_3, h_4, H⟩ := bind_inv H
   refine pv tb 2 rfl ?_
   refine TO_cons rfl (TOp_callV (call_static ent28 rfl) (m_slices_Contains_Sint_int_ok _ _ _ h_4) rfl rfl rfl ?_)
   refine pv tb 1 rfl ?_
   refine TO_nil ?_
   refine T_cond (t := (!r_3)) rfl (fun c_5 => ?_) (fun c_5 => ?_)
   ·replace H := cond_t c_5 H
    refine T_region ?_
    refine pv tb 2 rfl ?_
    refine TO_cons rfl (TOp_lit (nn := 1) (k := 1) sl31 zero3 rfl rfl rfl rfl (by decide) ?_)
    refine TO_st (σ' := [.row (flat tInt.enc out5), .row (flat tInt.enc ([x_t_1] : (List Int)))]) rfl ?_
    obtain ⟨us_6, h_7, H⟩ := bind_inv H
    refine TO_cons rfl (TOp_appZ (T := tInt) (f := tInt.enc) (xs := out5) (ys := ([x_t_1] : (List Int))) tInt.len sl31 zero3 rfl bytes3 (by decide) rfl rfl rfl rfl (src_mT (f := tInt.enc) tInt.len rfl rfl (flat_cell tInt _)) (flat_cell tInt _) h_7 (lb rfl) ?_)
    refine toe [(1, (sl tInt b1)), (7, (intA x_t_1)), (9, (sl tInt a0)), (10, (intA (a0.length : Int))), (11, (intA (t_1 : Int))), (18, (boolA (!r_3))), (20, (intA x_t_1)), (21, (.m [1] 0 ([x_t_1] : (List Int)).length tInt.k)), (22, (.m [0] 0 us_6.length tInt.k))] rfl ?_
    refine TO_st (σ' := [.row (flat tInt.enc us_6), .row (flat tInt.enc ([x_t_1] : (List Int))), .dead]) rfl ?_
    refine pv tb 1 rfl ?_
    refine TO_nil ?_
    refine T_region ?_
    refine Tp rfl rfl (pur_add rfl rfl rfl (fits64 (by omega) (by omega))) rfl ?_
    refine pv tb 1 rfl ?_
    refine TO_nil ?_
    obtain rfl := some_inj H
    exact again (a0.length - (t_1 + 1)) (t_1 + 1, us_6) (by omega) (w0 1) ⟨rfl, K2_⟩
   ·replace H := cond_f c_5 H
    refine T_skip ?_
    refine T_region ?_
    refine Tp rfl rfl (pur_add rfl rfl rfl (fits64 (by omega) (by omega))) rfl ?_
    refine pv tb 1 rfl ?_
    refine TO_nil ?_
    obtain rfl := some_inj H
    exact again (a0.length - (t_1 + 1)) (t_1 + 1, out5) (by omega) (w0 1) ⟨rfl, K2_⟩
  ·replace d2 := of_decide_eq_false d2
   obtain rfl := forS_end L2_ (by omega)
   refine T_exit ?_
   refine then_exit ?_
   refine then_exit ?_
   refine block_exit ?_
   replace H := N2_
   refine sr ?_
   refine pv tb 2 rfl ?_
   refine TO_nil ?_
   refine T_ret ?_
   obtain rfl := some_inj H
   exact end_pick (.tmp .nil) rfl [0] (by decide) rfl rfl rfl rfl rfl rfl
theorem m_impl_without_ok (a0 : (List Int)) (b1 : (List Int)) (r : (List Int)) (H : m_impl_without a0 b1 = some r) : FnV prg 63 [(sl tInt a0), (sl tInt b1)] (sl tInt r) := (m_impl_without_own a0 b1 r H).frz (frzT (T := tInt) rfl)

set_option maxHeartbeats 1000000 in
theorem m_impl_areAcyclic_ok (u : Nat) (n0 : Int) (preferences1 : (List ConflictEdge)) (r : Bool) (H : m_impl_areAcyclic u n0 preferences1 = some r) : FnV prg 40 [(intA n0), (sl tConflictEdge preferences1)] (boolA r) := by
  unfold m_impl_areAcyclic at H
  refine fnV_of_T Tryz.func40 rfl rfl (Nat.le_of_ble_eq_true rfl) ?_
  refine te [(0, (intA n0)), (1, (sl tConflictEdge preferences1))] rfl ?_
  refine sr ?_
  refine pv tb 1 rfl ?_
  refine TO_nil ?_
  refine sr ?_
  refine TO_cons rfl (TOp_lit (nn := 0) (k := 1) sl31 zero3 rfl rfl rfl rfl (by decide) ?_)
  refine TO_st (σ' := [.row (flat tInt.enc ([] : (List Int)))]) rfl ?_
  refine pv tb 1 rfl ?_
  refine TO_nil ?_
  refine T_seq ?_
  refine sr ?_
  refine pv tb 2 rfl ?_
  refine TO_nil ?_
  obtain ⟨_, h_3, H⟩ := bind_inv H
  replace h_3 := gN_inv h_3
  obtain ⟨O2_, L2_, N2_⟩ := bind_inv H
  clear H
  obtain ⟨B2_, hb2, L2_⟩ := gen_forM L2_
  refine T_block ?_
  refine T_loopX (fun k => fun (⟨t_1, left5⟩ : Int × (List Int)) => k = (n0 - t_1).toNat ∧ 0 ≤ t_1 ∧ forM B2_ (n0 - t_1).toNat t_1 left5 = some O2_) (fun (⟨t_1, left5⟩ : Int × (List Int)) => [(1, (sl tConflictEdge preferences1)), (5, (.m [0] 0 left5.length tInt.k)), (9, (intA n0)), (10, (intA (t_1 : Int)))]) (fun (⟨t_1, left5⟩ : Int × (List Int)) => [.row (flat tInt.enc left5)]) _ (0, ([] : (List Int))) (w0 1) ⟨rfl, Int.le_refl _, L2_⟩ ?_
  rintro _ ⟨t_1, left5⟩ ⟨rfl, hi2, L2_⟩
  refine sr ?_
  refine pv tb 1 rfl ?_
  refine TO_nil ?_
  refine T_seq ?_
  refine T_cond (t := decide ((t_1 : Int) < n0)) rfl (fun d2 => ?_) (fun d2 => ?_)
  ·replace d2 := of_decide_eq_true d2
   obtain ⟨C2_, H, K2_⟩ := forM_step L2_ d2
   rw [hb2] at H
   refine T_skip ?_
   refine T_seq ?_
   refine T_block ?_
   refine sr ?_
   refine pv tb 2 rfl ?_
   refine TO_nil ?_
   refine T_region ?_
   refine pv tb 2 rfl ?_
   refine TO_cons rfl (TOp_lit (nn := 1) (k := 1) sl31 zero3 rfl rfl rfl rfl (by decide) ?_)
   refine TO_st (σ' := [.row (flat tInt.enc left5), .row (flat tInt.enc ([(t_1 : Int)] : (List Int)))]) rfl ?_
   obtain ⟨us_4, h_5, H⟩ := bind_inv H
   refine TO_cons rfl (TOp_appZ (T := tInt) (f := tInt.enc) (xs := left5) (ys := ([(t_1 : Int)] : (List Int))) tInt.len sl31 zero3 rfl bytes3 (by decide) rfl rfl rfl rfl (src_mT (f := tInt.enc) tInt.len rfl rfl (flat_cell tInt _)) (flat_cell tInt _) h_5 (lb rfl) ?_)
   refine toe [(1, (sl tConflictEdge preferences1)), (6, (intA (t_1 : Int))), (9, (intA n0)), (10, (intA (t_1 : Int))), (14, (intA (t_1 : Int))), (15, (.m [1] 0 ([(t_1 : Int)] : (List Int)).length tInt.k)), (16, (.m [0] 0 us_4.length tInt.k))] rfl ?_
   refine TO_st (σ' := [.row (flat tInt.enc us_4), .row (flat tInt.enc ([(t_1 : Int)] : (List Int))), .dead]) rfl ?_
   refine pv tb 1 rfl ?_
   refine TO_nil ?_
   refine T_region ?_
   refine Tp rfl rfl (pur_add rfl rfl rfl (fits64 (by omega) (by omega))) rfl ?_
   refine pv tb 1 rfl ?_
   refine TO_nil ?_
   obtain rfl := some_inj H
   exact again (n0 - (t_1 + 1)).toNat (t_1 + 1, us_4) (by omega) (w0 1) ⟨rfl, by omega, K2_⟩
  ·replace d2 := of_decide_eq_false d2
   obtain rfl := forM_end L2_ (by omega)
   refine T_exit ?_
   refine then_exit ?_
   refine then_exit ?_
   refine block_exit ?_
   replace H := N2_
   obtain ⟨O6_, L6_, N6_⟩ := bind_inv H
   clear H
   obtain ⟨B6_, hb6, L6_⟩ := gen_whileF L6_
   refine T_cutX (fun (x : (List Int)) => O6_ = .inl x) (fun (left5 : (List Int)) => []) (fun (left5 : (List Int)) => []) ?_ ?_
   ·skip
    refine T_block ?_
    refine T_loopX (fun k => fun (left5 : (List Int)) => whileF B6_ k left5 = some O6_) (fun (left5 : (List Int)) => [(1, (sl tConflictEdge preferences1)), (5, (.m [0] 0 left5.length tInt.k))]) (fun (left5 : (List Int)) => [.row (flat tInt.enc left5)]) u left5 (w0 1) L6_ ?_
    rintro _ left5 L6_
    obtain ⟨k6, rfl, C6_, H, K6_⟩ := while_step L6_
    rw [hb6] at H
    refine T_seq ?_
    refine sr ?_
    refine pv tb 1 rfl ?_
    refine Tp rfl rfl (pur_len_m sl31 rfl rfl) rfl ?_
    refine pv tb 1 rfl ?_
    refine TO_nil ?_
    refine T_cond (t := decide (0 < (left5.length : Int))) rfl (fun c_7 => ?_) (fun c_7 => ?_)
    ·replace H := cond_t c_7 H
     refine T_skip ?_
     refine T_block ?_
     refine sr ?_
     refine pv tb 3 rfl ?_
     refine TO_frz1 0 (E' := [(1, (sl tConflictEdge preferences1)), (5, (sl tInt left5)), (21, (sl tInt left5)), (22, (sl tConflictEdge preferences1)), (23, (sl tInt left5))]) rfl rfl (lb rfl) ⟨(.keep rfl), fz1E, fz1E, (.keep rfl), fz1E, trivial⟩ ?_
     refine TO_st (σ' := [.dead]) rfl ?_
     obtain ⟨r_8, h_9, H⟩ := bind_inv H
     refine TO_cons rfl (TOp_callV (call_static ent43 rfl) (m_impl_undominated_ok _ _ _ h_9) rfl rfl rfl ?_)
     obtain ⟨r_10, h_11, H⟩ := bind_inv H
     refine TO_cons rfl (TOp_callO (call_static ent63 rfl) rfl (m_impl_without_own _ _ _ h_11) rfl rfl rfl ?_)
     refine toe [(1, (sl tConflictEdge preferences1)), (5, (sl tInt left5)), (21, (sl tInt left5)), (22, (sl tConflictEdge preferences1)), (23, (sl tInt left5)), (24, (sl tInt r_8)), (25, (.m [1] 0 r_10.length tInt.k))] rfl ?_
     refine TO_st (σ' := [.dead, .row (flat tInt.own r_10)]) rfl ?_
     refine pv tb 1 rfl ?_
     refine TO_nil ?_
     refine T_seq ?_
     refine sr ?_
     refine pv tb 1 rfl ?_
     refine Tp rfl rfl (pur_len_m sl31 rfl rfl) rfl ?_
     refine pv tb 1 rfl ?_
     refine Tp rfl rfl (pur_lenT (T := tInt) sl31 rfl rfl) rfl ?_
     refine pv tb 1 rfl ?_
     refine TO_nil ?_
     refine T_cond (t := decide ((r_10.length : Int) = (left5.length : Int))) rfl (fun c_12 => ?_) (fun c_12 => ?_)
     ·replace H := cond_t c_12 H
      refine sr ?_
      refine pv tb 1 rfl ?_
      refine TO_nil ?_
      refine T_ret ?_
      refine then_ret ?_
      refine block_ret ?_
      refine then_ret ?_
      refine block_ret ?_
      refine then_ret ?_
      obtain rfl := some_inj H
      obtain rfl := some_inj K6_
      replace H := onS_r N6_
      obtain rfl := some_inj H
      refine end_ret (.tmp .nil) rfl rfl ⟨?_, rfl⟩
      rfl
     ·replace H := cond_f c_12 H
      refine T_skip ?_
      refine T_region ?_
      refine pv tb 2 rfl ?_
      refine TO_move 0 1 (by decide) (lb rfl) rfl rfl (lb rfl) ?_
      refine toe [(1, (sl tConflictEdge preferences1)), (5, (.m [0] 0 r_10.length tInt.k)), (7, (.m [0] 0 r_10.length tInt.k)), (31, (.m [0] 0 r_10.length tInt.k))] rfl ?_
      refine TO_st (σ' := [.row (flat tInt.own r_10), .dead]) rfl ?_
      refine TO_nil ?_
      obtain rfl := some_inj H
      exact again k6 r_10 (Nat.lt_succ_self _) (w0 1) K6_
    ·replace H := cond_f c_7 H
     refine T_exit ?_
     refine then_exit ?_
     refine then_exit ?_
     refine block_exit ?_
     obtain rfl := some_inj H
     obtain rfl := some_inj K6_
     exact joined left5 (w0 0) rfl
   ·rintro left5 rfl
    replace H := onS_l N6_
    refine sr ?_
    refine pv tb 1 rfl ?_
    refine TO_nil ?_
    refine T_ret ?_
    obtain rfl := some_inj H
    refine end_ret (.tmp .nil) rfl rfl ⟨?_, rfl⟩
    rfl

set_option maxHeartbeats 1000000 in
theorem m_impl_IsValidPreference_ok (u : Nat) (n0 : Int) (edges1 : (List ConflictEdge)) (preferences2 : (List ConflictEdge)) (r : Bool) (H : m_impl_IsValidPreference u n0 edges1 preferences2 = some r) : FnV prg 17 [(intA n0), (sl tConflictEdge edges1), (sl tConflictEdge preferences2)] (boolA r) := by
  unfold m_impl_IsValidPreference at H
  refine fnV_of_T Tryz.func17 rfl rfl (Nat.le_of_ble_eq_true rfl) ?_
  refine te [(0, (intA n0)), (1, (sl tConflictEdge edges1)), (2, (sl tConflictEdge preferences2))] rfl ?_
  refine sr ?_
  refine pv tb 1 rfl ?_
  refine TO_nil ?_
  refine T_seq ?_
  refine sr ?_
  obtain ⟨r_1, h_2, H⟩ := bind_inv H
  refine pv tb 2 rfl ?_
  refine TO_cons rfl (TOp_callV (call_static ent38 rfl) (m_impl_AreValidEdges_ok _ _ _ h_2) rfl rfl rfl ?_)
  refine pv tb 1 rfl ?_
  refine TO_nil ?_
  refine T_cond (t := (!r_1)) rfl (fun c_3 => ?_) (fun c_3 => ?_)
  ·replace H := cond_t c_3 H
   refine sr ?_
   refine pv tb 1 rfl ?_
   refine TO_nil ?_
   refine T_ret ?_
   refine then_ret ?_
   obtain rfl := some_inj H
   refine end_ret (.tmp .nil) rfl rfl ⟨?_, rfl⟩
   rfl
  ·replace H := cond_f c_3 H
   refine T_skip ?_
   refine T_seq ?_
   refine sr ?_
   refine pv tb 1 rfl ?_
   refine Tp rfl rfl (pur_lenT (T := tConflictEdge) sl24 rfl rfl) rfl ?_
   refine pv tb 1 rfl ?_
   refine TO_nil ?_
   obtain ⟨O5_, L5_, N5_⟩ := bind_inv H
   clear H
   obtain ⟨B5_, hb5, L5_⟩ := gen_forL L5_
   refine T_block ?_
   refine T_loopX (fun k => fun (t_4 : Nat) => k = preferences2.length - t_4 ∧ forL B5_ (preferences2.drop t_4) (t_4 : Int) () = some O5_) (fun (t_4 : Nat) => [(0, (intA n0)), (1, (sl tConflictEdge edges1)), (2, (sl tConflictEdge preferences2)), (13, (sl tConflictEdge preferences2)), (14, (intA (preferences2.length : Int))), (15, (intA (t_4 : Int)))]) (fun (t_4 : Nat) => []) _ (0 : Nat) (w0 0) ⟨rfl, L5_⟩ ?_
   rintro _ t_4 ⟨rfl, L5_⟩
   refine T_fact (len_sl (T := tConflictEdge) (.tmp 2) rfl) (fun hl5 => ?_)
   refine sr ?_
   refine pv tb 1 rfl ?_
   refine TO_nil ?_
   refine T_seq ?_
   refine T_cond (t := decide ((t_4 : Int) < (preferences2.length : Int))) rfl (fun d5 => ?_) (fun d5 => ?_)
   ·replace d5 := of_decide_eq_true d5
    obtain ⟨x_t_4, hx_t_4⟩ : ∃ v, (preferences2)[t_4]? = some v := ⟨_, List.getElem?_eq_getElem (by omega)⟩
    obtain ⟨C5_, H, K5_⟩ := forL_step L5_ hx_t_4
    rw [hb5] at H
    refine T_skip ?_
    refine T_seq ?_
    refine T_block ?_
    refine sr ?_
    refine Tp rfl rfl (pur_ixT (T := tConflictEdge) sl24 rfl rfl rfl hx_t_4 rfl) rfl ?_
    refine Tp rfl rfl (pur_ldTK (T := tConflictEdge) (i := t_4) (off := 0) rfl agg45 rfl rfl hx_t_4 (by decide) rfl) rfl ?_
    refine TO_cons rfl (TOp_alloc zero45 rfl rfl ?_)
    refine TO_cons rfl (TOp_storeB sz45 rfl rfl rfl rfl rfl rfl rfl (by decide) (lb rfl) rfl ?_)
    refine TO_st (σ' := [.box [(intA x_t_4.a), (intA x_t_4.b)]]) rfl ?_
    refine TO_nil ?_
    obtain ⟨t32_6, J_6, H_7⟩ := bind_inv H
    refine T_cutX (fun x => t32_6 = x) (fun (t32_6 : Bool) => [(0, (intA n0)), (1, (sl tConflictEdge edges1)), (2, (sl tConflictEdge preferences2)), (13, (sl tConflictEdge preferences2)), (14, (intA (preferences2.length : Int))), (15, (intA (t_4 : Int))), (32, (boolA t32_6))]) (fun (t32_6 : Bool) => []) ?_ ?_
    ·replace H := J_6
     refine T_region ?_
     obtain ⟨r_8, h_9, H⟩ := bind_inv H
     refine pv tb 2 rfl ?_
     refine TO_cons rfl (TOp_callV (call_static ent39 rfl) (m_slices_Contains_Simpl_ConflictEdge_impl_ConflictEdge_ok _ _ _ h_9) rfl rfl rfl ?_)
     refine pv tb 2 rfl ?_
     refine TO_split (t := (!r_8)) 23 rfl (fun g_10 => ?_) (fun g_10 => ?_)
     ·replace H := cond_t g_10 H
      refine pv tb 5 rfl ?_
      refine TO_on rfl rfl (by decide) rfl rfl (TOp_pure (pur_build bld45 rfl rfl) rfl ?_)
      obtain ⟨r_11, h_12, H⟩ := bind_inv H
      refine TO_on rfl rfl (by decide) rfl rfl (TOp_callV (call_static ent39 rfl) (m_slices_Contains_Simpl_ConflictEdge_impl_ConflictEdge_ok _ _ _ h_12) rfl rfl rfl ?_)
      refine pv tb 2 rfl ?_
      refine TO_nil ?_
      exact joined (!r_11) (w0 0) (some_inj H).symm
     ·replace H := cond_f g_10 H
      refine pv tb 9 rfl ?_
      refine TO_nil ?_
      exact joined false (w0 0) (some_inj H).symm
    ·rintro _ rfl
     replace H := H_7
     refine T_cond (t := t32_6) rfl (fun c_13 => ?_) (fun c_13 => ?_)
     ·replace H := cond_t c_13 H
      refine sr ?_
      refine pv tb 1 rfl ?_
      refine TO_nil ?_
      refine T_ret ?_
      refine block_ret ?_
      refine then_ret ?_
      refine then_ret ?_
      refine block_ret ?_
      refine then_ret ?_
      obtain rfl := some_inj H
      obtain rfl := some_inj K5_
      replace H := onS_r N5_
      obtain rfl := some_inj H
      refine end_ret (.tmp .nil) rfl rfl ⟨?_, rfl⟩
      rfl
     ·replace H := cond_f c_13 H
      refine T_skip ?_
      refine T_region ?_
      refine Tp rfl rfl (pur_add rfl rfl rfl (fits64 (by omega) (by omega))) rfl ?_
      refine pv tb 1 rfl ?_
      refine TO_nil ?_
      obtain rfl := some_inj H
      exact again (preferences2.length - (t_4 + 1)) (t_4 + 1) (by omega) (w0 0) ⟨rfl, K5_⟩
   ·replace d5 := of_decide_eq_false d5
    obtain rfl := forL_end L5_ (by omega)
    refine T_exit ?_
    refine then_exit ?_
    refine then_exit ?_
    refine block_exit ?_
    replace H := onS_l N5_
    refine sr ?_
    obtain ⟨r_14, h_15, H⟩ := bind_inv H
    refine pv tb 2 rfl ?_
    refine TO_cons rfl (TOp_callV (call_static ent40 rfl) (m_impl_areAcyclic_ok u _ _ _ h_15) rfl rfl rfl ?_)
    refine pv tb 1 rfl ?_
    refine TO_nil ?_
    refine T_ret ?_
    obtain rfl := some_inj H
    refine end_ret (.tmp .nil) rfl rfl ⟨?_, rfl⟩
    rfl
end Go.Proofs.YtmecnecfkgneoaaGreat

/- Walks. -/
import Derived.Test.YtlcpdlngbofgcaaM1
set_option linter.unusedVariables false
set_option linter.unusedSimpArgs false
set_option maxRecDepth 4000
namespace Go.Proofs.Ytlcpdlngbofgcaa
open Go Go.Proofs Go.Sep
set_option maxHeartbeats 1000000 in
/-- laws.big -/
theorem m_laws_big_ok (code0 : (List Int)) (r : Bool) (H : m_laws_big code0 = some r) : FnV prg 21 [(sl (tI .u8) code0)] (boolA r) := by
  unfold m_laws_big at H
  refine fnV_of_T Try.func21 rfl rfl (Nat.le_of_ble_eq_true rfl) ?_
  refine T_env (E' := [(0, (sl (tI .u8) code0))]) ⟨rfl, trivial⟩ ?_
  refine T_seq ?_
  refine T_region ?_
  refine TO_cons rfl (TOp_pure (pur_assign rfl) rfl ?_)
  refine TO_nil ?_
  refine T_env (E' := [(0, (sl (tI .u8) code0))]) ⟨rfl, trivial⟩ ?_
  refine T_seq ?_
  refine T_region ?_
  refine TO_cons rfl (TOp_pure (pur_move rfl) rfl ?_)
  refine TO_cons rfl (TOp_pure (pur_lenT (T := (tI .u8)) sl27 rfl rfl) rfl ?_)
  refine TO_cons rfl (TOp_pure (pur_gtr rfl rfl rfl) rfl ?_)
  refine TO_cons rfl (TOp_pure (pur_assign rfl) rfl ?_)
  refine TO_nil ?_
  refine T_env (E' := [(2, (boolA (decide (1048576 < (code0.length : Int)))))]) ⟨rfl, trivial⟩ ?_
  refine T_ret ?_
  obtain rfl := some_inj H
  refine end_ret (.tmp .nil) rfl rfl ⟨?_, rfl⟩
  rfl

set_option maxHeartbeats 1000000 in
/-- spec.l1Byte -/
theorem m_spec_l1Byte_x (c0 : l1Cur) (r : (Int × l1Cur)) (H : m_spec_l1Byte c0 = some r) : FnS prg 109 [(.b 0 0)] [.box [(sl (tI .u8) c0.b), (intA c0.i), (intA c0.h)]] (intA r.1) [.box [(sl (tI .u8) r.2.b), (intA r.2.i), (intA r.2.h)]] := by
  unfold m_spec_l1Byte at H
  refine fnS_of_T Try.func109 rfl rfl (Nat.le_of_ble_eq_true rfl) ?_
  refine T_env (E' := [(0, (.b 0 0))]) ⟨rfl, trivial⟩ ?_
  refine T_st (σ' := [.box [(sl (tI .u8) c0.b), (intA c0.i), (intA c0.h)]]) rfl ?_
  refine T_seq ?_
  refine T_region ?_
  refine TO_cons rfl (TOp_pure (pur_assign rfl) rfl ?_)
  refine TO_nil ?_
  refine T_env (E' := [(0, (.b 0 0))]) ⟨rfl, trivial⟩ ?_
  refine T_seq ?_
  refine T_region ?_
  refine TO_cons rfl (TOp_pure (pur_move rfl) rfl ?_)
  refine TO_cons rfl (TOp_pure (pur_move rfl) rfl ?_)
  refine TO_cons rfl (TOp_pure (pur_nil_b rfl rfl) rfl ?_)
  refine TO_cons rfl (TOp_pure (pur_fa_b fld118_2 rfl rfl) rfl ?_)
  refine TO_cons rfl (TOp_pure (pur_ld_b one3 rfl rfl rfl rfl) rfl ?_)
  refine TO_cons rfl (TOp_pure (pur_wmul rfl rfl rfl) rfl ?_)
  refine TO_cons rfl (TOp_pure (pur_wadd rfl rfl rfl) rfl ?_)
  refine TO_cons rfl (TOp_pure (pur_nil_b rfl rfl) rfl ?_)
  refine TO_cons rfl (TOp_pure (pur_fa_b fld118_2 rfl rfl) rfl ?_)
  refine TO_cons rfl (TOp_storeB sz3 rfl rfl rfl rfl rfl rfl rfl (by decide) (Nat.le_of_ble_eq_true rfl) rfl ?_)
  refine TO_st (σ' := [.box [(sl (tI .u8) c0.b), (intA c0.i), (intA (w64 ((w64 (c0.h * 6364136223846793005)) + 1442695040888963407)))]]) rfl ?_
  refine TO_nil ?_
  refine T_env (E' := [(0, (.b 0 0))]) ⟨rfl, trivial⟩ ?_
  refine T_seq ?_
  refine T_regionD mixed (by kernel_rfl) ?_
  refine TQ_pure rfl (pur_move rfl) rfl ?_
  refine TQ_pure rfl (pur_nil_b rfl rfl) rfl ?_
  refine TQ_pure rfl (pur_fa_b fld118_2 rfl rfl) rfl ?_
  refine TQ_pure rfl (pur_ld_b one3 rfl rfl rfl rfl) rfl ?_
  refine TQ_pure rfl (pur_shr rfl rfl rfl (by decide)) rfl ?_
  refine TQ_pure rfl (pur_move rfl) rfl ?_
  refine TQ_pure rfl (pur_nil_b rfl rfl) rfl ?_
  refine TQ_pure rfl (pur_fa_b fld118_2 rfl rfl) rfl ?_
  refine TQ_env (E' := [(0, (.b 0 0)), (17, (intA (shrI .i64 (w64 ((w64 (c0.h * 6364136223846793005)) + 1442695040888963407)) 33))), (20, (.b 0 2))]) ⟨rfl, rfl, rfl, trivial⟩ ?_
  refine TQ_pure rfl (pur_ld_b one3 rfl rfl rfl rfl) rfl ?_
  refine TQ_pure rfl (pur_shr rfl rfl rfl (by decide)) rfl ?_
  refine TQ_pure rfl (pur_xor rfl rfl rfl) rfl ?_
  refine TQ_pure rfl (pur_and rfl rfl rfl) rfl ?_
  refine TQ_pure rfl (pur_assign rfl) rfl ?_
  refine TQ_nil ?_
  refine T_env (E' := [(0, (.b 0 0)), (3, (intA (bitI .and .i64 (bitI .xor .i64 (shrI .i64 (w64 ((w64 (c0.h * 6364136223846793005)) + 1442695040888963407)) 33) (shrI .i64 (w64 ((w64 (c0.h * 6364136223846793005)) + 1442695040888963407)) 45)) 255)))]) ⟨rfl, rfl, trivial⟩ ?_
  refine T_seq ?_
  refine T_seq ?_
  refine T_regionD mixed (by kernel_rfl) ?_
  refine TQ_pure rfl (pur_move rfl) rfl ?_
  refine TQ_pure rfl (pur_nil_b rfl rfl) rfl ?_
  refine TQ_pure rfl (pur_fa_b fld118_1 rfl rfl) rfl ?_
  refine TQ_pure rfl (pur_ld_b one3 rfl rfl rfl rfl) rfl ?_
  refine TQ_pure rfl (pur_move rfl) rfl ?_
  refine TQ_pure rfl (pur_nil_b rfl rfl) rfl ?_
  refine TQ_pure rfl (pur_fa_b fld118_0 rfl rfl) rfl ?_
  refine TQ_pure rfl (pur_ld_b one27 rfl rfl rfl rfl) rfl ?_
  refine TQ_pure rfl (pur_lenT (T := (tI .u8)) sl27 rfl rfl) rfl ?_
  refine TQ_pure rfl (pur_lss rfl rfl rfl) rfl ?_
  refine TQ_nil ?_
  refine T_env (E' := [(0, (.b 0 0)), (3, (intA (bitI .and .i64 (bitI .xor .i64 (shrI .i64 (w64 ((w64 (c0.h * 6364136223846793005)) + 1442695040888963407)) 33) (shrI .i64 (w64 ((w64 (c0.h * 6364136223846793005)) + 1442695040888963407)) 45)) 255))), (34, (boolA (decide (c0.i < (c0.b.length : Int)))))]) ⟨rfl, rfl, rfl, trivial⟩ ?_
  refine T_cond (t := decide (c0.i < (c0.b.length : Int))) rfl (fun c_1 => ?_) (fun c_1 => ?_)
  · replace H := cond_t c_1 H
    refine T_seq ?_
    refine T_regionD mixed (by kernel_rfl) ?_
    refine TQ_pure rfl (pur_move rfl) rfl ?_
    refine TQ_pure rfl (pur_move rfl) rfl ?_
    refine TQ_pure rfl (pur_nil_b rfl rfl) rfl ?_
    refine TQ_pure rfl (pur_fa_b fld118_0 rfl rfl) rfl ?_
    refine TQ_pure rfl (pur_ld_b one27 rfl rfl rfl rfl) rfl ?_
    refine TQ_pure rfl (pur_move rfl) rfl ?_
    refine TQ_pure rfl (pur_nil_b rfl rfl) rfl ?_
    refine TQ_pure rfl (pur_fa_b fld118_1 rfl rfl) rfl ?_
    refine TQ_env (E' := [(0, (.b 0 0)), (3, (intA (bitI .and .i64 (bitI .xor .i64 (shrI .i64 (w64 ((w64 (c0.h * 6364136223846793005)) + 1442695040888963407)) 33) (shrI .i64 (w64 ((w64 (c0.h * 6364136223846793005)) + 1442695040888963407)) 45)) 255))), (35, (intA (bitI .and .i64 (bitI .xor .i64 (shrI .i64 (w64 ((w64 (c0.h * 6364136223846793005)) + 1442695040888963407)) 33) (shrI .i64 (w64 ((w64 (c0.h * 6364136223846793005)) + 1442695040888963407)) 45)) 255))), (39, (sl (tI .u8) c0.b)), (42, (.b 0 1))]) ⟨rfl, rfl, rfl, rfl, rfl, trivial⟩ ?_
    refine TQ_pure rfl (pur_ld_b one3 rfl rfl rfl rfl) rfl ?_
    obtain ⟨v_2, h_3, H⟩ := bind_inv H
    obtain ⟨n_4, hz_5, hv_6⟩ := getI_inv h_3
    refine TQ_pure rfl (pur_ixT (T := (tI .u8)) sl27 rfl rfl hz_5 hv_6 rfl) rfl ?_
    refine TQ_pure rfl (pur_ldT (T := (tI .u8)) (i := n_4) (off := 0) rfl one5 rfl rfl hv_6 rfl) rfl ?_
    refine TQ_pure rfl (pur_convI (k := .i64) (k' := .u8) ⟨_, Try.underlying5⟩ Try.underlying3 rfl rfl) rfl ?_
    refine TQ_pure rfl (pur_wadd rfl rfl rfl) rfl ?_
    refine TQ_pure rfl (pur_and rfl rfl rfl) rfl ?_
    refine TQ_pure rfl (pur_assign rfl) rfl ?_
    refine TQ_nil ?_
    refine T_env (E' := [(0, (.b 0 0)), (3, (intA (bitI .and .i64 (w64 ((bitI .and .i64 (bitI .xor .i64 (shrI .i64 (w64 ((w64 (c0.h * 6364136223846793005)) + 1442695040888963407)) 33) (shrI .i64 (w64 ((w64 (c0.h * 6364136223846793005)) + 1442695040888963407)) 45)) 255) + (w64 v_2))) 255)))]) ⟨rfl, rfl, trivial⟩ ?_
    refine T_region ?_
    refine TO_cons rfl (TOp_pure (pur_move rfl) rfl ?_)
    refine TO_cons rfl (TOp_pure (pur_move rfl) rfl ?_)
    refine TO_cons rfl (TOp_pure (pur_nil_b rfl rfl) rfl ?_)
    refine TO_cons rfl (TOp_pure (pur_fa_b fld118_1 rfl rfl) rfl ?_)
    refine TO_cons rfl (TOp_pure (pur_ld_b one3 rfl rfl rfl rfl) rfl ?_)
    refine TO_cons rfl (TOp_pure (pur_wadd rfl rfl rfl) rfl ?_)
    refine TO_cons rfl (TOp_pure (pur_nil_b rfl rfl) rfl ?_)
    refine TO_cons rfl (TOp_pure (pur_fa_b fld118_1 rfl rfl) rfl ?_)
    refine TO_cons rfl (TOp_storeB sz3 rfl rfl rfl rfl rfl rfl rfl (by decide) (Nat.le_of_ble_eq_true rfl) rfl ?_)
    refine TO_st (σ' := [.box [(sl (tI .u8) c0.b), (intA (w64 (c0.i + 1))), (intA (w64 ((w64 (c0.h * 6364136223846793005)) + 1442695040888963407)))]]) rfl ?_
    refine TO_nil ?_
    refine T_env (E' := [(3, (intA (bitI .and .i64 (w64 ((bitI .and .i64 (bitI .xor .i64 (shrI .i64 (w64 ((w64 (c0.h * 6364136223846793005)) + 1442695040888963407)) 33) (shrI .i64 (w64 ((w64 (c0.h * 6364136223846793005)) + 1442695040888963407)) 45)) 255) + (w64 v_2))) 255)))]) ⟨rfl, trivial⟩ ?_
    refine T_seq ?_
    refine T_region ?_
    refine TO_cons rfl (TOp_pure (pur_move rfl) rfl ?_)
    refine TO_cons rfl (TOp_pure (pur_assign rfl) rfl ?_)
    refine TO_nil ?_
    refine T_env (E' := [(2, (intA (bitI .and .i64 (w64 ((bitI .and .i64 (bitI .xor .i64 (shrI .i64 (w64 ((w64 (c0.h * 6364136223846793005)) + 1442695040888963407)) 33) (shrI .i64 (w64 ((w64 (c0.h * 6364136223846793005)) + 1442695040888963407)) 45)) 255) + (w64 v_2))) 255)))]) ⟨rfl, trivial⟩ ?_
    refine T_ret ?_
    obtain rfl := some_inj H
    exact end_pickX (.tmp .nil) rfl [0] (by decide) (Nat.le_of_ble_eq_true rfl) rfl (Nat.le_of_ble_eq_true rfl) rfl rfl rfl rfl rfl rfl
  · replace H := cond_f c_1 H
    refine T_skip ?_
    refine T_env (E' := [(3, (intA (bitI .and .i64 (bitI .xor .i64 (shrI .i64 (w64 ((w64 (c0.h * 6364136223846793005)) + 1442695040888963407)) 33) (shrI .i64 (w64 ((w64 (c0.h * 6364136223846793005)) + 1442695040888963407)) 45)) 255)))]) ⟨rfl, trivial⟩ ?_
    refine T_seq ?_
    refine T_region ?_
    refine TO_cons rfl (TOp_pure (pur_move rfl) rfl ?_)
    refine TO_cons rfl (TOp_pure (pur_assign rfl) rfl ?_)
    refine TO_nil ?_
    refine T_env (E' := [(2, (intA (bitI .and .i64 (bitI .xor .i64 (shrI .i64 (w64 ((w64 (c0.h * 6364136223846793005)) + 1442695040888963407)) 33) (shrI .i64 (w64 ((w64 (c0.h * 6364136223846793005)) + 1442695040888963407)) 45)) 255)))]) ⟨rfl, trivial⟩ ?_
    refine T_ret ?_
    obtain rfl := some_inj H
    exact end_pickX (.tmp .nil) rfl [0] (by decide) (Nat.le_of_ble_eq_true rfl) rfl (Nat.le_of_ble_eq_true rfl) rfl rfl rfl rfl rfl rfl

set_option maxHeartbeats 1000000 in
/-- spec.l1Below -/
theorem m_spec_l1Below_x (c0 : l1Cur) (n1 : Int) (r : (Int × l1Cur)) (H : m_spec_l1Below c0 n1 = some r) : FnS prg 83 [(.b 0 0), (intA n1)] [.box [(sl (tI .u8) c0.b), (intA c0.i), (intA c0.h)]] (intA r.1) [.box [(sl (tI .u8) r.2.b), (intA r.2.i), (intA r.2.h)]] := by
  unfold m_spec_l1Below at H
  refine fnS_of_T Try.func83 rfl rfl (Nat.le_of_ble_eq_true rfl) ?_
  refine T_env (E' := [(0, (.b 0 0)), (1, (intA n1))]) ⟨rfl, rfl, trivial⟩ ?_
  refine T_st (σ' := [.box [(sl (tI .u8) c0.b), (intA c0.i), (intA c0.h)]]) rfl ?_
  refine T_seq ?_
  refine T_region ?_
  refine TO_cons rfl (TOp_pure (pur_assign rfl) rfl ?_)
  refine TO_nil ?_
  refine T_env (E' := [(0, (.b 0 0)), (1, (intA n1))]) ⟨rfl, rfl, trivial⟩ ?_
  refine T_seq ?_
  refine T_seq ?_
  refine T_region ?_
  refine TO_cons rfl (TOp_pure (pur_move rfl) rfl ?_)
  refine TO_cons rfl (TOp_pure (pur_leq rfl rfl rfl) rfl ?_)
  refine TO_nil ?_
  refine T_env (E' := [(0, (.b 0 0)), (1, (intA n1)), (10, (boolA (decide (n1 ≤ 0))))]) ⟨rfl, rfl, rfl, trivial⟩ ?_
  refine T_cond (t := decide (n1 ≤ 0)) rfl (fun c_1 => ?_) (fun c_1 => ?_)
  · replace H := cond_t c_1 H
    refine T_seq ?_
    refine T_region ?_
    refine TO_cons rfl (TOp_pure (pur_assign rfl) rfl ?_)
    refine TO_nil ?_
    refine T_env (E' := [(4, (intA 0))]) ⟨rfl, trivial⟩ ?_
    refine T_ret ?_
    refine then_ret ?_
    obtain rfl := some_inj H
    exact end_pickX (.tmp .nil) rfl [0] (by decide) (Nat.le_of_ble_eq_true rfl) rfl (Nat.le_of_ble_eq_true rfl) rfl rfl rfl rfl rfl rfl
  · replace H := cond_f c_1 H
    refine T_skip ?_
    refine T_env (E' := [(0, (.b 0 0)), (1, (intA n1))]) ⟨rfl, rfl, trivial⟩ ?_
    refine T_seq ?_
    refine T_seq ?_
    refine T_region ?_
    refine TO_cons rfl (TOp_pure (pur_move rfl) rfl ?_)
    refine TO_cons rfl (TOp_pure (pur_leq rfl rfl rfl) rfl ?_)
    refine TO_nil ?_
    refine T_env (E' := [(0, (.b 0 0)), (1, (intA n1)), (12, (boolA (decide (n1 ≤ 256))))]) ⟨rfl, rfl, rfl, trivial⟩ ?_
    refine T_cond (t := decide (n1 ≤ 256)) rfl (fun c_2 => ?_) (fun c_2 => ?_)
    · replace H := cond_t c_2 H
      refine T_seq ?_
      refine T_region ?_
      refine TO_cons rfl (TOp_pure (pur_move rfl) rfl ?_)
      obtain ⟨r_3, h_4, H⟩ := bind_inv H
      refine TO_cons rfl (TOp_callS [0] (call_static ent109 rfl) (by decide) rfl rfl rfl rfl rfl rfl (m_spec_l1Byte_x _ _ h_4) rfl rfl ?_)
      refine TO_env (E' := [(0, (.b 0 0)), (1, (intA n1)), (12, (boolA (decide (n1 ≤ 256)))), (13, (.b 0 0)), (14, (intA r_3.1))]) ⟨rfl, rfl, rfl, rfl, rfl, trivial⟩ ?_
      refine TO_st (σ' := [.box [(sl (tI .u8) r_3.2.b), (intA r_3.2.i), (intA r_3.2.h)]]) rfl ?_
      refine TO_cons rfl (TOp_pure (pur_move rfl) rfl ?_)
      obtain ⟨_u, h_5, H⟩ := bind_inv H
      refine TO_cons rfl (TOp_pure (pur_rem rfl rfl rfl (gD_inv h_5)) rfl ?_)
      refine TO_cons rfl (TOp_pure (pur_assign rfl) rfl ?_)
      refine TO_nil ?_
      refine T_env (E' := [(4, (intA (r_3.1.tmod n1)))]) ⟨rfl, trivial⟩ ?_
      refine T_ret ?_
      refine then_ret ?_
      obtain rfl := some_inj H
      exact end_pickX (.tmp .nil) rfl [0] (by decide) (Nat.le_of_ble_eq_true rfl) rfl (Nat.le_of_ble_eq_true rfl) rfl rfl rfl rfl rfl rfl
    · replace H := cond_f c_2 H
      refine T_skip ?_
      refine T_env (E' := [(0, (.b 0 0)), (1, (intA n1))]) ⟨rfl, rfl, trivial⟩ ?_
      refine T_seq ?_
      refine T_region ?_
      refine TO_cons rfl (TOp_pure (pur_move rfl) rfl ?_)
      obtain ⟨r_6, h_7, H⟩ := bind_inv H
      refine TO_cons rfl (TOp_callS [0] (call_static ent109 rfl) (by decide) rfl rfl rfl rfl rfl rfl (m_spec_l1Byte_x _ _ h_7) rfl rfl ?_)
      refine TO_env (E' := [(0, (.b 0 0)), (1, (intA n1)), (17, (.b 0 0)), (18, (intA r_6.1))]) ⟨rfl, rfl, rfl, rfl, trivial⟩ ?_
      refine TO_st (σ' := [.box [(sl (tI .u8) r_6.2.b), (intA r_6.2.i), (intA r_6.2.h)]]) rfl ?_
      refine TO_cons rfl (TOp_pure (pur_assign rfl) rfl ?_)
      refine TO_nil ?_
      refine T_env (E' := [(0, (.b 0 0)), (1, (intA n1)), (5, (intA r_6.1))]) ⟨rfl, rfl, rfl, trivial⟩ ?_
      refine T_seq ?_
      refine T_region ?_
      refine TO_cons rfl (TOp_pure (pur_move rfl) rfl ?_)
      obtain ⟨r_8, h_9, H⟩ := bind_inv H
      refine TO_cons rfl (TOp_callS [0] (call_static ent109 rfl) (by decide) rfl rfl rfl rfl rfl rfl (m_spec_l1Byte_x _ _ h_9) rfl rfl ?_)
      refine TO_env (E' := [(0, (.b 0 0)), (1, (intA n1)), (5, (intA r_6.1)), (19, (.b 0 0)), (20, (intA r_8.1))]) ⟨rfl, rfl, rfl, rfl, rfl, trivial⟩ ?_
      refine TO_st (σ' := [.box [(sl (tI .u8) r_8.2.b), (intA r_8.2.i), (intA r_8.2.h)]]) rfl ?_
      refine TO_cons rfl (TOp_pure (pur_assign rfl) rfl ?_)
      refine TO_nil ?_
      refine T_env (E' := [(0, (.b 0 0)), (1, (intA n1)), (5, (intA r_6.1)), (6, (intA r_8.1))]) ⟨rfl, rfl, rfl, rfl, trivial⟩ ?_
      refine T_seq ?_
      refine T_region ?_
      refine TO_cons rfl (TOp_pure (pur_move rfl) rfl ?_)
      obtain ⟨r_10, h_11, H⟩ := bind_inv H
      refine TO_cons rfl (TOp_callS [0] (call_static ent109 rfl) (by decide) rfl rfl rfl rfl rfl rfl (m_spec_l1Byte_x _ _ h_11) rfl rfl ?_)
      refine TO_env (E' := [(0, (.b 0 0)), (1, (intA n1)), (5, (intA r_6.1)), (6, (intA r_8.1)), (21, (.b 0 0)), (22, (intA r_10.1))]) ⟨rfl, rfl, rfl, rfl, rfl, rfl, trivial⟩ ?_
      refine TO_st (σ' := [.box [(sl (tI .u8) r_10.2.b), (intA r_10.2.i), (intA r_10.2.h)]]) rfl ?_
      refine TO_cons rfl (TOp_pure (pur_assign rfl) rfl ?_)
      refine TO_nil ?_
      refine T_env (E' := [(0, (.b 0 0)), (1, (intA n1)), (5, (intA r_6.1)), (6, (intA r_8.1)), (7, (intA r_10.1))]) ⟨rfl, rfl, rfl, rfl, rfl, trivial⟩ ?_
      refine T_seq ?_
      refine T_region ?_
      refine TO_cons rfl (TOp_pure (pur_move rfl) rfl ?_)
      obtain ⟨r_12, h_13, H⟩ := bind_inv H
      refine TO_cons rfl (TOp_callS [0] (call_static ent109 rfl) (by decide) rfl rfl rfl rfl rfl rfl (m_spec_l1Byte_x _ _ h_13) rfl rfl ?_)
      refine TO_env (E' := [(0, (.b 0 0)), (1, (intA n1)), (5, (intA r_6.1)), (6, (intA r_8.1)), (7, (intA r_10.1)), (23, (.b 0 0)), (24, (intA r_12.1))]) ⟨rfl, rfl, rfl, rfl, rfl, rfl, rfl, trivial⟩ ?_
      refine TO_st (σ' := [.box [(sl (tI .u8) r_12.2.b), (intA r_12.2.i), (intA r_12.2.h)]]) rfl ?_
      refine TO_cons rfl (TOp_pure (pur_assign rfl) rfl ?_)
      refine TO_nil ?_
      refine T_env (E' := [(1, (intA n1)), (5, (intA r_6.1)), (6, (intA r_8.1)), (7, (intA r_10.1)), (8, (intA r_12.1))]) ⟨rfl, rfl, rfl, rfl, rfl, trivial⟩ ?_
      refine T_seq ?_
      refine T_region ?_
      refine TO_cons rfl (TOp_pure (pur_move rfl) rfl ?_)
      refine TO_cons rfl (TOp_pure (pur_wmul rfl rfl rfl) rfl ?_)
      refine TO_cons rfl (TOp_pure (pur_move rfl) rfl ?_)
      refine TO_cons rfl (TOp_pure (pur_wmul rfl rfl rfl) rfl ?_)
      refine TO_cons rfl (TOp_pure (pur_wadd rfl rfl rfl) rfl ?_)
      refine TO_cons rfl (TOp_pure (pur_move rfl) rfl ?_)
      refine TO_cons rfl (TOp_pure (pur_wmul rfl rfl rfl) rfl ?_)
      refine TO_cons rfl (TOp_pure (pur_wadd rfl rfl rfl) rfl ?_)
      refine TO_env (E' := [(1, (intA n1)), (8, (intA r_12.1)), (32, (intA (w64 ((w64 ((w64 (r_6.1 * 16777216)) + (w64 (r_8.1 * 65536)))) + (w64 (r_10.1 * 256))))))]) ⟨rfl, rfl, rfl, trivial⟩ ?_
      refine TO_cons rfl (TOp_pure (pur_move rfl) rfl ?_)
      refine TO_cons rfl (TOp_pure (pur_wadd rfl rfl rfl) rfl ?_)
      refine TO_cons rfl (TOp_pure (pur_move rfl) rfl ?_)
      obtain ⟨_u, h_14, H⟩ := bind_inv H
      refine TO_cons rfl (TOp_pure (pur_rem rfl rfl rfl (gD_inv h_14)) rfl ?_)
      refine TO_cons rfl (TOp_pure (pur_assign rfl) rfl ?_)
      refine TO_nil ?_
      refine T_env (E' := [(4, (intA ((w64 ((w64 ((w64 ((w64 (r_6.1 * 16777216)) + (w64 (r_8.1 * 65536)))) + (w64 (r_10.1 * 256)))) + r_12.1)).tmod n1)))]) ⟨rfl, trivial⟩ ?_
      refine T_ret ?_
      obtain rfl := some_inj H
      exact end_pickX (.tmp .nil) rfl [0] (by decide) (Nat.le_of_ble_eq_true rfl) rfl (Nat.le_of_ble_eq_true rfl) rfl rfl rfl rfl rfl rfl

set_option maxHeartbeats 1000000 in
/-- spec.l1New -/
theorem m_spec_l1New_x (u : Nat) (code0 : (List Int)) (r : l1Cur) (H : m_spec_l1New u code0 = some r) : FnS prg 85 [(sl (tI .u8) code0)] [] (.b 0 0) [.box [(sl (tI .u8) r.b), (intA r.i), (intA r.h)]] := by
  unfold m_spec_l1New at H
  refine fnS_of_T Try.func85 rfl rfl (Nat.le_of_ble_eq_true rfl) ?_
  refine T_env (E' := [(0, (sl (tI .u8) code0))]) ⟨rfl, trivial⟩ ?_
  refine T_st (σ' := []) rfl ?_
  refine T_seq ?_
  refine T_region ?_
  refine TO_cons rfl (TOp_pure (pur_assign rfl) rfl ?_)
  refine TO_nil ?_
  refine T_env (E' := [(0, (sl (tI .u8) code0))]) ⟨rfl, trivial⟩ ?_
  refine T_seq ?_
  refine T_region ?_
  refine TO_cons rfl (TOp_pure (pur_move rfl) rfl ?_)
  refine TO_cons rfl (TOp_pure (pur_lenT (T := (tI .u8)) sl27 rfl rfl) rfl ?_)
  refine TO_cons rfl (TOp_pure (pur_wadd rfl rfl rfl) rfl ?_)
  refine TO_cons rfl (TOp_pure (pur_assign rfl) rfl ?_)
  refine TO_nil ?_
  refine T_env (E' := [(0, (sl (tI .u8) code0)), (3, (intA (w64 (10101 + (code0.length : Int)))))]) ⟨rfl, rfl, trivial⟩ ?_
  refine T_seq ?_
  refine T_seq ?_
  refine T_region ?_
  refine TO_cons rfl (TOp_pure (pur_assign rfl) rfl ?_)
  refine TO_nil ?_
  refine T_env (E' := [(0, (sl (tI .u8) code0)), (3, (intA (w64 (10101 + (code0.length : Int))))), (4, (intA 0))]) ⟨rfl, rfl, rfl, trivial⟩ ?_
  obtain ⟨O1_, L1_, N1_⟩ := bind_inv H
  clear H
  obtain ⟨B1_, hb1, L1_⟩ := gen_whileF L1_
  refine T_block ?_
  refine T_loopX (fun k => fun (x_ : Int × Int) => whileF B1_ k (x_.1, x_.2) = some O1_) (fun (x_ : Int × Int) => [(0, (sl (tI .u8) code0)), (3, (intA x_.1)), (4, (intA x_.2))]) (fun (x_ : Int × Int) => []) u ((w64 (10101 + (code0.length : Int))), 0) (WeakL.to 0 (Nat.le_of_ble_eq_true rfl) rfl rfl rfl rfl ⟨leR rfl, leR rfl, leR rfl, trivial⟩) L1_ ?_
  rintro _ ⟨h3, i4⟩ L1_
  obtain ⟨k1, rfl, C1_, H, K1_⟩ := while_step L1_
  rw [hb1] at H
  refine T_env (E' := [(0, (sl (tI .u8) code0)), (3, (intA h3)), (4, (intA i4))]) ⟨rfl, rfl, rfl, trivial⟩ ?_
  refine T_st (σ' := []) rfl ?_
  refine T_seq ?_
  refine T_cutX (fun x => ((decide (i4 < (code0.length : Int))) && (decide (i4 < 4000))) = x) (fun (t15_2 : Bool) => [(0, (sl (tI .u8) code0)), (3, (intA h3)), (4, (intA i4)), (15, (boolA t15_2))]) (fun (t15_2 : Bool) => []) ?_ ?_
  · skip
    refine T_region ?_
    refine TO_cons rfl (TOp_pure (pur_move rfl) rfl ?_)
    refine TO_cons rfl (TOp_pure (pur_move rfl) rfl ?_)
    refine TO_cons rfl (TOp_pure (pur_lenT (T := (tI .u8)) sl27 rfl rfl) rfl ?_)
    refine TO_cons rfl (TOp_pure (pur_lss rfl rfl rfl) rfl ?_)
    refine TO_cons rfl (TOp_pure (pur_move rfl) rfl ?_)
    refine TO_split (t := decide (i4 < (code0.length : Int))) 12 rfl (fun g_4 => ?_) (fun g_4 => ?_)
    · skip
      refine TO_on rfl rfl (by decide) rfl rfl (TOp_pure (pur_move rfl) rfl ?_)
      refine TO_on rfl rfl (by decide) rfl rfl (TOp_pure (pur_lss rfl rfl rfl) rfl ?_)
      refine TO_cons rfl (TOp_pure (pur_pick (t := true) rfl rfl rfl) rfl ?_)
      refine TO_nil ?_
      exact joined (decide (i4 < 4000)) (WeakL.to 0 (Nat.le_of_ble_eq_true rfl) rfl rfl rfl rfl ⟨leR rfl, leR rfl, leR rfl, leR rfl, trivial⟩) (by first | exact Eq.symm ((and_T g_4 rfl)))
    · skip
      refine TO_off rfl rfl (by decide) rfl rfl rfl ?_
      refine TO_off rfl rfl (by decide) rfl rfl rfl ?_
      refine TO_cons rfl (TOp_pure (pur_pick (t := false) rfl rfl rfl) rfl ?_)
      refine TO_nil ?_
      exact joined false (WeakL.to 0 (Nat.le_of_ble_eq_true rfl) rfl rfl rfl rfl ⟨leR rfl, leR rfl, leR rfl, leR rfl, trivial⟩) (by first | exact Eq.symm ((and_F g_4 rfl)))
  · rintro _ rfl
    refine T_env (E' := [(0, (sl (tI .u8) code0)), (3, (intA h3)), (4, (intA i4)), (15, (boolA ((decide (i4 < (code0.length : Int))) && (decide (i4 < 4000)))))]) ⟨rfl, rfl, rfl, rfl, trivial⟩ ?_
    refine T_cond (t := ((decide (i4 < (code0.length : Int))) && (decide (i4 < 4000)))) rfl (fun c_5 => ?_) (fun c_5 => ?_)
    · replace H := cond_t c_5 H
      refine T_skip ?_
      refine T_env (E' := [(0, (sl (tI .u8) code0)), (3, (intA h3)), (4, (intA i4))]) ⟨rfl, rfl, rfl, trivial⟩ ?_
      refine T_seq ?_
      refine T_block ?_
      refine T_region ?_
      refine TO_cons rfl (TOp_pure (pur_move rfl) rfl ?_)
      refine TO_cons rfl (TOp_pure (pur_wmul rfl rfl rfl) rfl ?_)
      refine TO_cons rfl (TOp_pure (pur_move rfl) rfl ?_)
      refine TO_cons rfl (TOp_pure (pur_move rfl) rfl ?_)
      obtain ⟨v_6, h_7, H⟩ := bind_inv H
      obtain ⟨n_8, hz_9, hv_10⟩ := getI_inv h_7
      refine TO_cons rfl (TOp_pure (pur_ixT (T := (tI .u8)) sl27 rfl rfl hz_9 hv_10 rfl) rfl ?_)
      refine TO_cons rfl (TOp_pure (pur_ldT (T := (tI .u8)) (i := n_8) (off := 0) rfl one5 rfl rfl hv_10 rfl) rfl ?_)
      refine TO_cons rfl (TOp_pure (pur_convI (k := .i64) (k' := .u8) ⟨_, Try.underlying5⟩ Try.underlying3 rfl rfl) rfl ?_)
      refine TO_cons rfl (TOp_pure (pur_wadd rfl rfl rfl) rfl ?_)
      refine TO_env (E' := [(0, (sl (tI .u8) code0)), (3, (intA h3)), (4, (intA i4)), (25, (intA (w64 ((w64 (h3 * 131)) + (w64 v_6)))))]) ⟨rfl, rfl, rfl, rfl, trivial⟩ ?_
      refine TO_cons rfl (TOp_pure (pur_wadd rfl rfl rfl) rfl ?_)
      refine TO_cons rfl (TOp_pure (pur_and rfl rfl rfl) rfl ?_)
      refine TO_cons rfl (TOp_pure (pur_assign rfl) rfl ?_)
      refine TO_nil ?_
      refine T_env (E' := [(0, (sl (tI .u8) code0)), (3, (intA (bitI .and .i64 (w64 ((w64 ((w64 (h3 * 131)) + (w64 v_6))) + 7)) 1073741823))), (4, (intA i4))]) ⟨rfl, rfl, rfl, trivial⟩ ?_
      refine T_region ?_
      refine TO_cons rfl (TOp_pure (pur_move rfl) rfl ?_)
      refine TO_cons rfl (TOp_pure (pur_wadd rfl rfl rfl) rfl ?_)
      refine TO_cons rfl (TOp_pure (pur_assign rfl) rfl ?_)
      refine TO_nil ?_
      obtain rfl := some_inj H
      exact again k1 ((bitI .and .i64 (w64 ((w64 ((w64 (h3 * 131)) + (w64 v_6))) + 7)) 1073741823), (w64 (i4 + 1))) (Nat.lt_succ_self _) (WeakL.to 0 (Nat.le_of_ble_eq_true rfl) rfl rfl rfl rfl ⟨leR rfl, leR rfl, leR rfl, trivial⟩) K1_
    · replace H := cond_f c_5 H
      refine T_exit ?_
      refine then_exit ?_
      refine then_exit ?_
      refine block_exit ?_
      obtain rfl := some_inj H
      obtain rfl := some_inj K1_
      replace H := onS_l N1_
      refine T_env (E' := [(0, (sl (tI .u8) code0)), (3, (intA h3))]) ⟨rfl, rfl, trivial⟩ ?_
      refine T_seq ?_
      refine T_region ?_
      refine TO_cons rfl (TOp_pure (pur_move rfl) rfl ?_)
      refine TO_cons rfl (TOp_pure (pur_move rfl) rfl ?_)
      refine TO_cons rfl (TOp_pure (pur_build bld118 rfl rfl) rfl ?_)
      refine TO_cons rfl (TOp_box rfl (boxAll rfl) rfl rfl ?_)
      refine TO_cons rfl (TOp_pure (pur_assign rfl) rfl ?_)
      refine TO_nil ?_
      refine T_env (E' := [(2, (.b 0 0))]) ⟨rfl, trivial⟩ ?_
      refine T_ret ?_
      obtain rfl := some_inj H
      exact end_pickX (.tmp .nil) rfl [0] (by decide) (Nat.le_of_ble_eq_true rfl) rfl (Nat.le_of_ble_eq_true rfl) rfl rfl rfl rfl rfl rfl

set_option maxHeartbeats 1000000 in
/-- spec.l1PickInt -/
theorem m_spec_l1PickInt_x (c0 : l1Cur) (list1 : (List Int)) (r : (Int × l1Cur)) (H : m_spec_l1PickInt c0 list1 = some r) : FnS prg 88 [(.b 0 0), (sl tInt list1)] [.box [(sl (tI .u8) c0.b), (intA c0.i), (intA c0.h)]] (intA r.1) [.box [(sl (tI .u8) r.2.b), (intA r.2.i), (intA r.2.h)]] := by
  unfold m_spec_l1PickInt at H
  refine fnS_of_T Try.func88 rfl rfl (Nat.le_of_ble_eq_true rfl) ?_
  refine T_env (E' := [(0, (.b 0 0)), (1, (sl tInt list1))]) ⟨rfl, rfl, trivial⟩ ?_
  refine T_st (σ' := [.box [(sl (tI .u8) c0.b), (intA c0.i), (intA c0.h)]]) rfl ?_
  refine T_seq ?_
  refine T_region ?_
  refine TO_cons rfl (TOp_pure (pur_assign rfl) rfl ?_)
  refine TO_nil ?_
  refine T_env (E' := [(0, (.b 0 0)), (1, (sl tInt list1))]) ⟨rfl, rfl, trivial⟩ ?_
  refine T_seq ?_
  refine T_region ?_
  refine TO_cons rfl (TOp_pure (pur_move rfl) rfl ?_)
  refine TO_cons rfl (TOp_pure (pur_move rfl) rfl ?_)
  refine TO_cons rfl (TOp_pure (pur_move rfl) rfl ?_)
  refine TO_cons rfl (TOp_pure (pur_lenT (T := tInt) sl33 rfl rfl) rfl ?_)
  obtain ⟨r_1, h_2, H⟩ := bind_inv H
  refine TO_cons rfl (TOp_callS [0] (call_static ent83 rfl) (by decide) rfl rfl rfl rfl rfl rfl (m_spec_l1Below_x _ _ _ h_2) rfl rfl ?_)
  refine TO_env (E' := [(0, (.b 0 0)), (1, (sl tInt list1)), (5, (sl tInt list1)), (6, (.b 0 0)), (7, (sl tInt list1)), (8, (intA (list1.length : Int))), (9, (intA r_1.1))]) ⟨rfl, rfl, rfl, rfl, rfl, rfl, rfl, trivial⟩ ?_
  refine TO_st (σ' := [.box [(sl (tI .u8) r_1.2.b), (intA r_1.2.i), (intA r_1.2.h)]]) rfl ?_
  obtain ⟨v_3, h_4, H⟩ := bind_inv H
  obtain ⟨n_5, hz_6, hv_7⟩ := getI_inv h_4
  refine TO_cons rfl (TOp_pure (pur_ixT (T := tInt) sl33 rfl rfl hz_6 hv_7 rfl) rfl ?_)
  refine TO_cons rfl (TOp_pure (pur_ldT (T := tInt) (i := n_5) (off := 0) rfl one3 rfl rfl hv_7 rfl) rfl ?_)
  refine TO_cons rfl (TOp_pure (pur_assign rfl) rfl ?_)
  refine TO_nil ?_
  refine T_env (E' := [(4, (intA v_3))]) ⟨rfl, trivial⟩ ?_
  refine T_ret ?_
  obtain rfl := some_inj H
  exact end_pickX (.tmp .nil) rfl [0] (by decide) (Nat.le_of_ble_eq_true rfl) rfl (Nat.le_of_ble_eq_true rfl) rfl rfl rfl rfl rfl rfl

set_option maxHeartbeats 1000000 in
/-- spec.l2Sigs -/
theorem m_spec_l2Sigs_x (c0 : l1Cur) (r : ((List Relation) × l1Cur)) (H : m_spec_l2Sigs c0 = some r) : FnS prg 126 [(.b 0 0)] [.box [(sl (tI .u8) c0.b), (intA c0.i), (intA c0.h)]] (.m [1] 0 r.1.length tRelation.k) [.box [(sl (tI .u8) r.2.b), (intA r.2.i), (intA r.2.h)], .row (flat tRelation.enc r.1)] := by
  unfold m_spec_l2Sigs at H
  refine fnS_of_T Try.func126 rfl rfl (Nat.le_of_ble_eq_true rfl) ?_
  refine T_env (E' := [(0, (.b 0 0))]) ⟨rfl, trivial⟩ ?_
  refine T_st (σ' := [.box [(sl (tI .u8) c0.b), (intA c0.i), (intA c0.h)]]) rfl ?_
  refine T_seq ?_
  refine T_region ?_
  refine TO_cons rfl (TOp_pure (pur_assign rfl) rfl ?_)
  refine TO_nil ?_
  refine T_env (E' := [(0, (.b 0 0))]) ⟨rfl, trivial⟩ ?_
  refine T_seq ?_
  refine T_region ?_
  refine TO_cons rfl (TOp_pure (pur_build bld97 rfl rfl) rfl ?_)
  refine TO_cons rfl (TOp_pure (pur_build bld97 rfl rfl) rfl ?_)
  refine TO_cons rfl (TOp_pure (pur_move rfl) rfl ?_)
  refine TO_cons rfl (TOp_lit (nn := 4) (k := 1) sl33 zero3 rfl rfl rfl rfl (by decide) ?_)
  refine TO_st (σ' := [.box [(sl (tI .u8) c0.b), (intA c0.i), (intA c0.h)], .row (flat tInt.enc ([1, 1, 2, 0] : (List Int)))]) rfl ?_
  refine TO_frz1 1 (E' := [(0, (.b 0 0)), (3, (.g [(strA (⟨#[114]⟩ : ByteArray)), (intA 2), (intA 1)])), (4, (.g [(strA (⟨#[115]⟩ : ByteArray)), (intA 2), (intA 1)])), (5, (.b 0 0)), (6, (sl tInt ([1, 1, 2, 0] : (List Int))))]) rfl rfl (Nat.le_of_ble_eq_true rfl) ⟨(.keep rfl), (.keep rfl), (.keep rfl), (.keep rfl), fz1E, trivial⟩ ?_
  refine TO_st (σ' := [.box [(sl (tI .u8) c0.b), (intA c0.i), (intA c0.h)], .dead]) rfl ?_
  obtain ⟨r_1, h_2, H⟩ := bind_inv H
  refine TO_cons rfl (TOp_callS [0] (call_static ent88 rfl) (by decide) rfl rfl rfl rfl rfl rfl (m_spec_l1PickInt_x _ _ _ h_2) rfl rfl ?_)
  refine TO_env (E' := [(0, (.b 0 0)), (3, (.g [(strA (⟨#[114]⟩ : ByteArray)), (intA 2), (intA 1)])), (4, (.g [(strA (⟨#[115]⟩ : ByteArray)), (intA 2), (intA 1)])), (5, (.b 0 0)), (6, (sl tInt ([1, 1, 2, 0] : (List Int)))), (7, (intA r_1.1))]) ⟨rfl, rfl, rfl, rfl, rfl, rfl, trivial⟩ ?_
  refine TO_st (σ' := [.box [(sl (tI .u8) r_1.2.b), (intA r_1.2.i), (intA r_1.2.h)], .dead]) rfl ?_
  refine TO_cons rfl (TOp_pure (pur_build bld97 rfl rfl) rfl ?_)
  refine TO_cons rfl (TOp_pure (pur_move rfl) rfl ?_)
  obtain ⟨r_3, h_4, H⟩ := bind_inv H
  refine TO_cons rfl (TOp_callS [0] (call_static ent83 rfl) (by decide) rfl rfl rfl rfl rfl rfl (m_spec_l1Below_x _ _ _ h_4) rfl rfl ?_)
  refine TO_env (E' := [(0, (.b 0 0)), (3, (.g [(strA (⟨#[114]⟩ : ByteArray)), (intA 2), (intA 1)])), (4, (.g [(strA (⟨#[115]⟩ : ByteArray)), (intA 2), (intA 1)])), (5, (.b 0 0)), (6, (sl tInt ([1, 1, 2, 0] : (List Int)))), (7, (intA r_1.1)), (8, (.g [(strA (⟨#[116]⟩ : ByteArray)), (intA 2), (intA r_1.1)])), (9, (.b 0 0)), (10, (intA r_3.1))]) ⟨rfl, rfl, rfl, rfl, rfl, rfl, rfl, rfl, rfl, trivial⟩ ?_
  refine TO_st (σ' := [.box [(sl (tI .u8) r_3.2.b), (intA r_3.2.i), (intA r_3.2.h)], .dead]) rfl ?_
  refine TO_env (E' := [(3, (.g [(strA (⟨#[114]⟩ : ByteArray)), (intA 2), (intA 1)])), (4, (.g [(strA (⟨#[115]⟩ : ByteArray)), (intA 2), (intA 1)])), (8, (.g [(strA (⟨#[116]⟩ : ByteArray)), (intA 2), (intA r_1.1)])), (10, (intA r_3.1))]) ⟨rfl, rfl, rfl, rfl, trivial⟩ ?_
  refine TO_cons rfl (TOp_pure (pur_wadd rfl rfl rfl) rfl ?_)
  refine TO_cons rfl (TOp_pure (pur_build bld97 rfl rfl) rfl ?_)
  refine TO_cons rfl (TOp_lit (nn := 4) (k := 3) sl29 zero97 rfl rfl rfl rfl (by decide) ?_)
  refine TO_st (σ' := [.box [(sl (tI .u8) r_3.2.b), (intA r_3.2.i), (intA r_3.2.h)], .dead, .row (flat tRelation.enc ([({ name := (⟨#[114]⟩ : ByteArray), arity := 2, keyLength := 1 } : Relation), ({ name := (⟨#[115]⟩ : ByteArray), arity := 2, keyLength := 1 } : Relation), ({ name := (⟨#[116]⟩ : ByteArray), arity := 2, keyLength := r_1.1 } : Relation), ({ name := (⟨#[117]⟩ : ByteArray), arity := 3, keyLength := (w64 (1 + r_3.1)) } : Relation)] : (List Relation)))]) rfl ?_
  refine TO_cons rfl (TOp_pure (pur_assign rfl) rfl ?_)
  refine TO_nil ?_
  refine T_env (E' := [(2, (.m [2] 0 ([({ name := (⟨#[114]⟩ : ByteArray), arity := 2, keyLength := 1 } : Relation), ({ name := (⟨#[115]⟩ : ByteArray), arity := 2, keyLength := 1 } : Relation), ({ name := (⟨#[116]⟩ : ByteArray), arity := 2, keyLength := r_1.1 } : Relation), ({ name := (⟨#[117]⟩ : ByteArray), arity := 3, keyLength := (w64 (1 + r_3.1)) } : Relation)] : (List Relation)).length tRelation.k))]) ⟨rfl, trivial⟩ ?_
  refine T_ret ?_
  obtain rfl := some_inj H
  exact end_pickX (.tmp .nil) rfl [0, 2] (by decide) (Nat.le_of_ble_eq_true rfl) rfl (Nat.le_of_ble_eq_true rfl) rfl rfl rfl rfl rfl rfl

set_option maxHeartbeats 1000000 in
/-- spec.l1In -/
theorem m_spec_l1In_ok (x0 : Int) (low1 : Int) (high2 : Int) (r : Bool) (H : m_spec_l1In x0 low1 high2 = some r) : FnV prg 78 [(intA x0), (intA low1), (intA high2)] (boolA r) := by
  unfold m_spec_l1In at H
  refine fnV_of_T Try.func78 rfl rfl (Nat.le_of_ble_eq_true rfl) ?_
  refine T_env (E' := [(0, (intA x0)), (1, (intA low1)), (2, (intA high2))]) ⟨rfl, rfl, rfl, trivial⟩ ?_
  refine T_seq ?_
  refine T_region ?_
  refine TO_cons rfl (TOp_pure (pur_assign rfl) rfl ?_)
  refine TO_nil ?_
  refine T_env (E' := [(0, (intA x0)), (1, (intA low1)), (2, (intA high2))]) ⟨rfl, rfl, rfl, trivial⟩ ?_
  refine T_cutX (fun x => ((decide (low1 ≤ x0)) && (decide (x0 ≤ high2))) = x) (fun (t6_1 : Bool) => [(6, (boolA t6_1))]) (fun (t6_1 : Bool) => []) ?_ ?_
  · skip
    refine T_region ?_
    refine TO_cons rfl (TOp_pure (pur_move rfl) rfl ?_)
    refine TO_cons rfl (TOp_pure (pur_move rfl) rfl ?_)
    refine TO_cons rfl (TOp_pure (pur_geq rfl rfl rfl) rfl ?_)
    refine TO_cons rfl (TOp_pure (pur_move rfl) rfl ?_)
    refine TO_split (t := decide (low1 ≤ x0)) 10 rfl (fun g_3 => ?_) (fun g_3 => ?_)
    · skip
      refine TO_on rfl rfl (by decide) rfl rfl (TOp_pure (pur_move rfl) rfl ?_)
      refine TO_on rfl rfl (by decide) rfl rfl (TOp_pure (pur_move rfl) rfl ?_)
      refine TO_on rfl rfl (by decide) rfl rfl (TOp_pure (pur_leq rfl rfl rfl) rfl ?_)
      refine TO_cons rfl (TOp_pure (pur_pick (t := true) rfl rfl rfl) rfl ?_)
      refine TO_cons rfl (TOp_pure (pur_assign rfl) rfl ?_)
      refine TO_nil ?_
      exact joined (decide (x0 ≤ high2)) (WeakL.to 0 (Nat.le_of_ble_eq_true rfl) rfl rfl rfl rfl ⟨leR rfl, trivial⟩) (by first | exact Eq.symm ((and_T g_3 rfl)))
    · skip
      refine TO_off rfl rfl (by decide) rfl rfl rfl ?_
      refine TO_off rfl rfl (by decide) rfl rfl rfl ?_
      refine TO_off rfl rfl (by decide) rfl rfl rfl ?_
      refine TO_cons rfl (TOp_pure (pur_pick (t := false) rfl rfl rfl) rfl ?_)
      refine TO_cons rfl (TOp_pure (pur_assign rfl) rfl ?_)
      refine TO_nil ?_
      exact joined false (WeakL.to 0 (Nat.le_of_ble_eq_true rfl) rfl rfl rfl rfl ⟨leR rfl, trivial⟩) (by first | exact Eq.symm ((and_F g_3 rfl)))
  · rintro _ rfl
    refine T_env (E' := [(6, (boolA ((decide (low1 ≤ x0)) && (decide (x0 ≤ high2)))))]) ⟨rfl, trivial⟩ ?_
    refine T_ret ?_
    obtain rfl := some_inj H
    refine end_ret (.tmp .nil) rfl rfl ⟨?_, rfl⟩
    rfl

set_option maxHeartbeats 1000000 in
/-- spec.IsValidRelation -/
theorem m_spec_IsValidRelation_ok (s0 : Relation) (r : Bool) (H : m_spec_IsValidRelation s0 = some r) : FnV prg 121 [(.g (tRelation.enc s0))] (boolA r) := by
  unfold m_spec_IsValidRelation at H
  refine fnV_of_T Try.func121 rfl rfl (Nat.le_of_ble_eq_true rfl) ?_
  refine T_env (E' := [(0, (.g (tRelation.enc s0)))]) ⟨rfl, trivial⟩ ?_
  refine T_seq ?_
  refine T_region ?_
  refine TO_cons rfl (TOp_box rfl (boxAll rfl) rfl rfl ?_)
  refine TO_cons rfl (TOp_pure (pur_assign rfl) rfl ?_)
  refine TO_nil ?_
  refine T_env (E' := [(1, (.b 0 0))]) ⟨rfl, trivial⟩ ?_
  obtain ⟨t2_1, J_1, H_2⟩ := bind_inv H
  refine T_cutX (fun x => t2_1 = x) (fun (t2_1 : Bool) => [(2, (boolA t2_1))]) (fun (t2_1 : Bool) => []) ?_ ?_
  · replace H := J_1
    refine T_region ?_
    refine TO_cons rfl (TOp_pure (pur_fa_b fld97_0 rfl rfl) rfl ?_)
    refine TO_cons rfl (TOp_pure (pur_ld_b one9 rfl rfl rfl rfl) rfl ?_)
    refine TO_cons rfl (TOp_pure (pur_len_s (by kernel_rfl) rfl rfl) rfl ?_)
    refine TO_cons rfl (TOp_pure (pur_eql rfl rfl rfl) rfl ?_)
    refine TO_cons rfl (TOp_pure (pur_move rfl) rfl ?_)
    refine TO_split (t := decide ((s0.name.size : Int) = 1)) 7 rfl (fun g_3 => ?_) (fun g_3 => ?_)
    · replace H := cond_t g_3 H
      refine TO_on rfl rfl (by decide) rfl rfl (TOp_pure (pur_fa_b fld97_0 rfl rfl) rfl ?_)
      refine TO_on rfl rfl (by decide) rfl rfl (TOp_pure (pur_ld_b one9 rfl rfl rfl rfl) rfl ?_)
      obtain ⟨b_4, h_5, H⟩ := bind_inv H
      refine TO_on rfl rfl (by decide) rfl rfl (TOp_pure (pur_ixS (by kernel_rfl) rfl rfl h_5 rfl) rfl ?_)
      refine TO_on rfl rfl (by decide) rfl rfl (TOp_pure (pur_geq rfl rfl rfl) rfl ?_)
      refine TO_cons rfl (TOp_pure (pur_pick (t := true) rfl rfl rfl) rfl ?_)
      refine TO_cons rfl (TOp_pure (pur_move rfl) rfl ?_)
      refine TO_split (t := decide (97 ≤ b_4)) 13 rfl (fun g_6 => ?_) (fun g_6 => ?_)
      · replace H := cond_t g_6 H
        refine TO_on rfl rfl (by decide) rfl rfl (TOp_pure (pur_fa_b fld97_0 rfl rfl) rfl ?_)
        refine TO_on rfl rfl (by decide) rfl rfl (TOp_pure (pur_ld_b one9 rfl rfl rfl rfl) rfl ?_)
        obtain ⟨b_7, h_8, H⟩ := bind_inv H
        refine TO_on rfl rfl (by decide) rfl rfl (TOp_pure (pur_ixS (by kernel_rfl) rfl rfl h_8 rfl) rfl ?_)
        refine TO_on rfl rfl (by decide) rfl rfl (TOp_pure (pur_leq rfl rfl rfl) rfl ?_)
        refine TO_cons rfl (TOp_pure (pur_pick (t := true) rfl rfl rfl) rfl ?_)
        refine TO_cons rfl (TOp_pure (pur_move rfl) rfl ?_)
        refine TO_split (t := decide (b_7 ≤ 122)) 19 rfl (fun g_9 => ?_) (fun g_9 => ?_)
        · replace H := cond_t g_9 H
          refine TO_on rfl rfl (by decide) rfl rfl (TOp_pure (pur_fa_b fld97_1 rfl rfl) rfl ?_)
          refine TO_on rfl rfl (by decide) rfl rfl (TOp_pure (pur_ld_b one3 rfl rfl rfl rfl) rfl ?_)
          obtain ⟨r_10, h_11, H⟩ := bind_inv H
          refine TO_on rfl rfl (by decide) rfl rfl (TOp_callV (call_static ent78 rfl) (m_spec_l1In_ok _ _ _ _ h_11) rfl rfl rfl ?_)
          refine TO_cons rfl (TOp_pure (pur_pick (t := true) rfl rfl rfl) rfl ?_)
          refine TO_cons rfl (TOp_pure (pur_move rfl) rfl ?_)
          refine TO_split (t := r_10) 24 rfl (fun g_12 => ?_) (fun g_12 => ?_)
          · replace H := cond_t g_12 H
            refine TO_on rfl rfl (by decide) rfl rfl (TOp_pure (pur_fa_b fld97_2 rfl rfl) rfl ?_)
            refine TO_on rfl rfl (by decide) rfl rfl (TOp_pure (pur_ld_b one3 rfl rfl rfl rfl) rfl ?_)
            refine TO_on rfl rfl (by decide) rfl rfl (TOp_pure (pur_fa_b fld97_1 rfl rfl) rfl ?_)
            refine TO_on rfl rfl (by decide) rfl rfl (TOp_pure (pur_ld_b one3 rfl rfl rfl rfl) rfl ?_)
            obtain ⟨r_13, h_14, H⟩ := bind_inv H
            refine TO_on rfl rfl (by decide) rfl rfl (TOp_callV (call_static ent78 rfl) (m_spec_l1In_ok _ _ _ _ h_14) rfl rfl rfl ?_)
            refine TO_cons rfl (TOp_pure (pur_pick (t := true) rfl rfl rfl) rfl ?_)
            refine TO_cons rfl (TOp_pure (pur_assign rfl) rfl ?_)
            refine TO_nil ?_
            exact joined r_13 (WeakL.to 0 (Nat.le_of_ble_eq_true rfl) rfl rfl rfl rfl ⟨leR rfl, trivial⟩) (some_inj H).symm
          · replace H := cond_f g_12 H
            refine TO_off rfl rfl (by decide) rfl rfl rfl ?_
            refine TO_off rfl rfl (by decide) rfl rfl rfl ?_
            refine TO_off rfl rfl (by decide) rfl rfl rfl ?_
            refine TO_off rfl rfl (by decide) rfl rfl rfl ?_
            refine TO_off rfl rfl (by decide) rfl rfl rfl ?_
            refine TO_cons rfl (TOp_pure (pur_pick (t := false) rfl rfl rfl) rfl ?_)
            refine TO_cons rfl (TOp_pure (pur_assign rfl) rfl ?_)
            refine TO_nil ?_
            exact joined false (WeakL.to 0 (Nat.le_of_ble_eq_true rfl) rfl rfl rfl rfl ⟨leR rfl, trivial⟩) (some_inj H).symm
        · replace H := cond_f g_9 H
          refine TO_off rfl rfl (by decide) rfl rfl rfl ?_
          refine TO_off rfl rfl (by decide) rfl rfl rfl ?_
          refine TO_off rfl rfl (by decide) rfl rfl rfl ?_
          refine TO_cons rfl (TOp_pure (pur_pick (t := false) rfl rfl rfl) rfl ?_)
          refine TO_cons rfl (TOp_pure (pur_move rfl) rfl ?_)
          refine TO_off rfl rfl (by decide) rfl rfl rfl ?_
          refine TO_off rfl rfl (by decide) rfl rfl rfl ?_
          refine TO_off rfl rfl (by decide) rfl rfl rfl ?_
          refine TO_env (E' := [(24, (boolA false)), (26, (.v undef)), (27, (.v undef))]) ⟨rfl, rfl, rfl, trivial⟩ ?_
          refine TO_off rfl rfl (by decide) rfl rfl rfl ?_
          refine TO_off rfl rfl (by decide) rfl rfl rfl ?_
          refine TO_cons rfl (TOp_pure (pur_pick (t := false) rfl rfl rfl) rfl ?_)
          refine TO_cons rfl (TOp_pure (pur_assign rfl) rfl ?_)
          refine TO_nil ?_
          exact joined false (WeakL.to 0 (Nat.le_of_ble_eq_true rfl) rfl rfl rfl rfl ⟨leR rfl, trivial⟩) (some_inj H).symm
      · replace H := cond_f g_6 H
        refine TO_off rfl rfl (by decide) rfl rfl rfl ?_
        refine TO_off rfl rfl (by decide) rfl rfl rfl ?_
        refine TO_off rfl rfl (by decide) rfl rfl rfl ?_
        refine TO_off rfl rfl (by decide) rfl rfl rfl ?_
        refine TO_cons rfl (TOp_pure (pur_pick (t := false) rfl rfl rfl) rfl ?_)
        refine TO_cons rfl (TOp_pure (pur_move rfl) rfl ?_)
        refine TO_off rfl rfl (by decide) rfl rfl rfl ?_
        refine TO_off rfl rfl (by decide) rfl rfl rfl ?_
        refine TO_env (E' := [(1, (.b 0 0)), (19, (boolA false)), (21, (.v undef))]) ⟨rfl, rfl, rfl, trivial⟩ ?_
        refine TO_off rfl rfl (by decide) rfl rfl rfl ?_
        refine TO_cons rfl (TOp_pure (pur_pick (t := false) rfl rfl rfl) rfl ?_)
        refine TO_cons rfl (TOp_pure (pur_move rfl) rfl ?_)
        refine TO_off rfl rfl (by decide) rfl rfl rfl ?_
        refine TO_off rfl rfl (by decide) rfl rfl rfl ?_
        refine TO_off rfl rfl (by decide) rfl rfl rfl ?_
        refine TO_off rfl rfl (by decide) rfl rfl rfl ?_
        refine TO_off rfl rfl (by decide) rfl rfl rfl ?_
        refine TO_cons rfl (TOp_pure (pur_pick (t := false) rfl rfl rfl) rfl ?_)
        refine TO_cons rfl (TOp_pure (pur_assign rfl) rfl ?_)
        refine TO_nil ?_
        exact joined false (WeakL.to 0 (Nat.le_of_ble_eq_true rfl) rfl rfl rfl rfl ⟨leR rfl, trivial⟩) (some_inj H).symm
    · replace H := cond_f g_3 H
      refine TO_off rfl rfl (by decide) rfl rfl rfl ?_
      refine TO_off rfl rfl (by decide) rfl rfl rfl ?_
      refine TO_off rfl rfl (by decide) rfl rfl rfl ?_
      refine TO_off rfl rfl (by decide) rfl rfl rfl ?_
      refine TO_cons rfl (TOp_pure (pur_pick (t := false) rfl rfl rfl) rfl ?_)
      refine TO_cons rfl (TOp_pure (pur_move rfl) rfl ?_)
      refine TO_off rfl rfl (by decide) rfl rfl rfl ?_
      refine TO_off rfl rfl (by decide) rfl rfl rfl ?_
      refine TO_env (E' := [(1, (.b 0 0)), (13, (boolA false)), (15, (.v undef))]) ⟨rfl, rfl, rfl, trivial⟩ ?_
      refine TO_off rfl rfl (by decide) rfl rfl rfl ?_
      refine TO_off rfl rfl (by decide) rfl rfl rfl ?_
      refine TO_cons rfl (TOp_pure (pur_pick (t := false) rfl rfl rfl) rfl ?_)
      refine TO_cons rfl (TOp_pure (pur_move rfl) rfl ?_)
      refine TO_off rfl rfl (by decide) rfl rfl rfl ?_
      refine TO_off rfl rfl (by decide) rfl rfl rfl ?_
      refine TO_off rfl rfl (by decide) rfl rfl rfl ?_
      refine TO_cons rfl (TOp_pure (pur_pick (t := false) rfl rfl rfl) rfl ?_)
      refine TO_env (E' := [(1, (.b 0 0)), (23, (boolA false))]) ⟨rfl, rfl, trivial⟩ ?_
      refine TO_cons rfl (TOp_pure (pur_move rfl) rfl ?_)
      refine TO_off rfl rfl (by decide) rfl rfl rfl ?_
      refine TO_off rfl rfl (by decide) rfl rfl rfl ?_
      refine TO_off rfl rfl (by decide) rfl rfl rfl ?_
      refine TO_off rfl rfl (by decide) rfl rfl rfl ?_
      refine TO_off rfl rfl (by decide) rfl rfl rfl ?_
      refine TO_cons rfl (TOp_pure (pur_pick (t := false) rfl rfl rfl) rfl ?_)
      refine TO_cons rfl (TOp_pure (pur_assign rfl) rfl ?_)
      refine TO_nil ?_
      exact joined false (WeakL.to 0 (Nat.le_of_ble_eq_true rfl) rfl rfl rfl rfl ⟨leR rfl, trivial⟩) (some_inj H).symm
  · rintro _ rfl
    replace H := H_2
    refine T_env (E' := [(2, (boolA t2_1))]) ⟨rfl, trivial⟩ ?_
    refine T_ret ?_
    obtain rfl := some_inj H
    refine end_ret (.tmp .nil) rfl rfl ⟨?_, rfl⟩
    rfl

set_option maxHeartbeats 1000000 in
/-- spec.AreValidRelations -/
theorem m_spec_AreValidRelations_ok (l0 : (List Relation)) (r : Bool) (H : m_spec_AreValidRelations l0 = some r) : FnV prg 104 [(sl tRelation l0)] (boolA r) := by
  unfold m_spec_AreValidRelations at H
  refine fnV_of_T Try.func104 rfl rfl (Nat.le_of_ble_eq_true rfl) ?_
  refine T_env (E' := [(0, (sl tRelation l0))]) ⟨rfl, trivial⟩ ?_
  refine T_seq ?_
  refine T_region ?_
  refine TO_cons rfl (TOp_pure (pur_assign rfl) rfl ?_)
  refine TO_nil ?_
  refine T_env (E' := [(0, (sl tRelation l0))]) ⟨rfl, trivial⟩ ?_
  refine T_seq ?_
  refine T_seq ?_
  refine T_region ?_
  refine TO_cons rfl (TOp_pure (pur_assign rfl) rfl ?_)
  refine TO_nil ?_
  refine T_env (E' := [(0, (sl tRelation l0)), (3, (intA 0))]) ⟨rfl, rfl, trivial⟩ ?_
  obtain ⟨O2_, L2_, N2_⟩ := bind_inv H
  clear H
  obtain ⟨B2_, hb2, L2_⟩ := gen_forL L2_
  refine T_block ?_
  refine T_loopX (fun k => fun (i_1 : Nat) => k = l0.length - i_1 ∧ forL B2_ (l0.drop i_1) (i_1 : Int) () = some O2_) (fun (i_1 : Nat) => [(0, (sl tRelation l0)), (3, (intA (i_1 : Int)))]) (fun (i_1 : Nat) => []) _ (0 : Nat) (WeakL.to 0 (Nat.le_of_ble_eq_true rfl) rfl rfl rfl rfl ⟨leR rfl, leR rfl, trivial⟩) ⟨rfl, L2_⟩ ?_
  rintro _ i_1 ⟨rfl, L2_⟩
  refine T_env (E' := [(0, (sl tRelation l0)), (3, (intA (i_1 : Int)))]) ⟨rfl, rfl, trivial⟩ ?_
  refine T_st (σ' := []) rfl ?_
  refine T_fact (len_sl (T := tRelation) (.tmp 0) rfl) (fun hl2 => ?_)
  refine T_seq ?_
  refine T_seq ?_
  refine T_region ?_
  refine TO_cons rfl (TOp_pure (pur_move rfl) rfl ?_)
  refine TO_cons rfl (TOp_pure (pur_move rfl) rfl ?_)
  refine TO_cons rfl (TOp_pure (pur_lenT (T := tRelation) sl29 rfl rfl) rfl ?_)
  refine TO_cons rfl (TOp_pure (pur_lss rfl rfl rfl) rfl ?_)
  refine TO_nil ?_
  refine T_env (E' := [(0, (sl tRelation l0)), (3, (intA (i_1 : Int))), (7, (boolA (decide ((i_1 : Int) < (l0.length : Int)))))]) ⟨rfl, rfl, rfl, trivial⟩ ?_
  refine T_cond (t := decide ((i_1 : Int) < (l0.length : Int))) rfl (fun d2 => ?_) (fun d2 => ?_)
  · replace d2 := of_decide_eq_true d2
    obtain ⟨x_i_1, hx_i_1⟩ : ∃ v, (l0)[i_1]? = some v := ⟨_, List.getElem?_eq_getElem (by omega)⟩
    obtain ⟨C2_, H, K2_⟩ := forL_step L2_ hx_i_1
    rw [hb2] at H
    refine T_skip ?_
    refine T_env (E' := [(0, (sl tRelation l0)), (3, (intA (i_1 : Int)))]) ⟨rfl, rfl, trivial⟩ ?_
    refine T_seq ?_
    refine T_block ?_
    obtain ⟨t33_3, J_3, H_4⟩ := bind_inv H
    refine T_cutX (fun x => t33_3 = x) (fun (t33_3 : Bool) => [(0, (sl tRelation l0)), (3, (intA (i_1 : Int))), (33, (boolA t33_3))]) (fun (t33_3 : Bool) => []) ?_ ?_
    · replace H := J_3
      refine T_regionD mixed (by kernel_rfl) ?_
      refine TQ_pure rfl (pur_move rfl) rfl ?_
      refine TQ_pure rfl (pur_move rfl) rfl ?_
      refine TQ_pure rfl (pur_ixT (T := tRelation) sl29 rfl rfl rfl hx_i_1 rfl) rfl ?_
      refine TQ_pure rfl (pur_ldTK (T := tRelation) (i := i_1) (off := 0) rfl agg97 rfl rfl hx_i_1 (by decide) rfl) rfl ?_
      obtain ⟨r_5, h_6, H⟩ := bind_inv H
      refine TQ_callV rfl (call_static ent121 rfl) (m_spec_IsValidRelation_ok _ _ h_6) rfl rfl ?_
      refine TQ_pure rfl (pur_not rfl rfl) rfl ?_
      refine TQ_pure rfl (pur_move rfl) rfl ?_
      refine TQ_split (t := (!r_5)) 16 rfl (fun g_7 => ?_) (fun g_7 => ?_)
      · replace H := cond_t g_7 H
        refine TQ_off rfl rfl (by decide) rfl rfl rfl ?_
        refine TQ_off rfl rfl (by decide) rfl rfl rfl ?_
        refine TQ_off rfl rfl (by decide) rfl rfl rfl ?_
        refine TQ_off rfl rfl (by decide) rfl rfl rfl ?_
        refine TQ_off rfl rfl (by decide) rfl rfl rfl ?_
        refine TQ_off rfl rfl (by decide) rfl rfl rfl ?_
        refine TQ_off rfl rfl (by decide) rfl rfl rfl ?_
        refine TQ_off rfl rfl (by decide) rfl rfl rfl ?_
        refine TQ_env (E' := [(0, (sl tRelation l0)), (3, (intA (i_1 : Int))), (16, (boolA true)), (19, (.v undef)), (24, (.v undef))]) ⟨rfl, rfl, rfl, rfl, rfl, trivial⟩ ?_
        refine TQ_off rfl rfl (by decide) rfl rfl rfl ?_
        refine TQ_off rfl rfl (by decide) rfl rfl rfl ?_
        refine TQ_off rfl rfl (by decide) rfl rfl rfl ?_
        refine TQ_off rfl rfl (by decide) rfl rfl rfl ?_
        refine TQ_off rfl rfl (by decide) rfl rfl rfl ?_
        refine TQ_off rfl rfl (by decide) rfl rfl rfl ?_
        refine TQ_off rfl rfl (by decide) rfl rfl rfl ?_
        refine TQ_off rfl rfl (by decide) rfl rfl rfl ?_
        refine TQ_pure rfl (pur_pick (t := true) rfl rfl rfl) rfl ?_
        refine TQ_nil ?_
        exact joined true (WeakL.to 0 (Nat.le_of_ble_eq_true rfl) rfl rfl rfl rfl ⟨leR rfl, leR rfl, leR rfl, trivial⟩) (some_inj H).symm
      · replace H := cond_f g_7 H
        refine TQ_on rfl rfl (by decide) rfl (pur_move rfl) rfl ?_
        refine TQ_on rfl rfl (by decide) rfl (pur_gtr rfl rfl rfl) rfl ?_
        refine TQ_on rfl rfl (by decide) rfl (pur_move rfl) rfl ?_
        refine TQ_split (t := decide (0 < (i_1 : Int))) 19 rfl (fun g_8 => ?_) (fun g_8 => ?_)
        · replace H := cond_t g_8 H
          refine TQ_on rfl rfl (by decide) rfl (pur_move rfl) rfl ?_
          refine TQ_on rfl rfl (by decide) rfl (pur_move rfl) rfl ?_
          refine TQ_on rfl rfl (by decide) rfl (pur_sub rfl rfl rfl (fits64 (by omega) (by omega))) rfl ?_
          obtain ⟨v_9, h_10, H⟩ := bind_inv H
          obtain ⟨n_11, hz_12, hv_13⟩ := getI_inv h_10
          refine TQ_on rfl rfl (by decide) rfl (pur_ixT (T := tRelation) sl29 rfl rfl hz_12 hv_13 rfl) rfl ?_
          refine TQ_on rfl rfl (by decide) rfl (pur_fa_q fld97_0 rfl rfl) rfl ?_
          refine TQ_on rfl rfl (by decide) rfl (pur_ldT (T := tRelation) (i := n_11) (off := 0) rfl one9 rfl rfl hv_13 rfl) rfl ?_
          refine TQ_on rfl rfl (by decide) rfl (pur_move rfl) rfl ?_
          refine TQ_on rfl rfl (by decide) rfl (pur_move rfl) rfl ?_
          refine TQ_env (E' := [(0, (sl tRelation l0)), (3, (intA (i_1 : Int))), (16, (boolA false)), (19, (boolA true)), (25, (strA v_9.name)), (26, (sl tRelation l0)), (27, (intA (i_1 : Int)))]) ⟨rfl, rfl, rfl, rfl, rfl, rfl, rfl, trivial⟩ ?_
          refine TQ_on rfl rfl (by decide) rfl (pur_ixT (T := tRelation) sl29 rfl rfl rfl hx_i_1 rfl) rfl ?_
          refine TQ_on rfl rfl (by decide) rfl (pur_fa_q fld97_0 rfl rfl) rfl ?_
          refine TQ_on rfl rfl (by decide) rfl (pur_ldT (T := tRelation) (i := i_1) (off := 0) rfl one9 rfl rfl hx_i_1 rfl) rfl ?_
          refine TQ_on rfl rfl (by decide) rfl (pur_geqS rfl rfl rfl) rfl ?_
          refine TQ_on rfl rfl (by decide) rfl (pur_pick (t := true) rfl rfl rfl) rfl ?_
          refine TQ_pure rfl (pur_pick (t := false) rfl rfl rfl) rfl ?_
          refine TQ_nil ?_
          exact joined (!ltS v_9.name x_i_1.name) (WeakL.to 0 (Nat.le_of_ble_eq_true rfl) rfl rfl rfl rfl ⟨leR rfl, leR rfl, leR rfl, trivial⟩) (some_inj H).symm
        · replace H := cond_f g_8 H
          refine TQ_off rfl rfl (by decide) rfl rfl rfl ?_
          refine TQ_off rfl rfl (by decide) rfl rfl rfl ?_
          refine TQ_off rfl rfl (by decide) rfl rfl rfl ?_
          refine TQ_off rfl rfl (by decide) rfl rfl rfl ?_
          refine TQ_off rfl rfl (by decide) rfl rfl rfl ?_
          refine TQ_off rfl rfl (by decide) rfl rfl rfl ?_
          refine TQ_off rfl rfl (by decide) rfl rfl rfl ?_
          refine TQ_off rfl rfl (by decide) rfl rfl rfl ?_
          refine TQ_env (E' := [(0, (sl tRelation l0)), (3, (intA (i_1 : Int))), (16, (boolA false)), (19, (boolA false)), (25, (.v undef)), (26, (.v undef)), (27, (.v undef))]) ⟨rfl, rfl, rfl, rfl, rfl, rfl, rfl, trivial⟩ ?_
          refine TQ_off rfl rfl (by decide) rfl rfl rfl ?_
          refine TQ_off rfl rfl (by decide) rfl rfl rfl ?_
          refine TQ_off rfl rfl (by decide) rfl rfl rfl ?_
          refine TQ_off rfl rfl (by decide) rfl rfl rfl ?_
          refine TQ_on rfl rfl (by decide) rfl (pur_pick (t := false) rfl rfl rfl) rfl ?_
          refine TQ_pure rfl (pur_pick (t := false) rfl rfl rfl) rfl ?_
          refine TQ_nil ?_
          exact joined false (WeakL.to 0 (Nat.le_of_ble_eq_true rfl) rfl rfl rfl rfl ⟨leR rfl, leR rfl, leR rfl, trivial⟩) (some_inj H).symm
    · rintro _ rfl
      replace H := H_4
      refine T_env (E' := [(0, (sl tRelation l0)), (3, (intA (i_1 : Int))), (33, (boolA t33_3))]) ⟨rfl, rfl, rfl, trivial⟩ ?_
      refine T_cond (t := t33_3) rfl (fun c_14 => ?_) (fun c_14 => ?_)
      · replace H := cond_t c_14 H
        refine T_seq ?_
        refine T_region ?_
        refine TO_cons rfl (TOp_pure (pur_assign rfl) rfl ?_)
        refine TO_nil ?_
        refine T_env (E' := [(2, (boolA false))]) ⟨rfl, trivial⟩ ?_
        refine T_ret ?_
        refine block_ret ?_
        refine then_ret ?_
        refine then_ret ?_
        refine block_ret ?_
        refine then_ret ?_
        obtain rfl := some_inj H
        obtain rfl := some_inj K2_
        replace H := onS_r N2_
        obtain rfl := some_inj H
        refine end_ret (.tmp .nil) rfl rfl ⟨?_, rfl⟩
        rfl
      · replace H := cond_f c_14 H
        refine T_skip ?_
        refine T_env (E' := [(0, (sl tRelation l0)), (3, (intA (i_1 : Int)))]) ⟨rfl, rfl, trivial⟩ ?_
        refine T_region ?_
        refine TO_cons rfl (TOp_pure (pur_move rfl) rfl ?_)
        refine TO_cons rfl (TOp_pure (pur_add rfl rfl rfl (fits64 (by omega) (by omega))) rfl ?_)
        refine TO_cons rfl (TOp_pure (pur_assign rfl) rfl ?_)
        refine TO_nil ?_
        obtain rfl := some_inj H
        exact again (l0.length - (i_1 + 1)) (i_1 + 1) (by omega) (WeakL.to 0 (Nat.le_of_ble_eq_true rfl) rfl rfl rfl rfl ⟨leR rfl, leR rfl, trivial⟩) ⟨rfl, K2_⟩
  · replace d2 := of_decide_eq_false d2
    obtain rfl := forL_end L2_ (by omega)
    refine T_exit ?_
    refine then_exit ?_
    refine then_exit ?_
    refine block_exit ?_
    replace H := onS_l N2_
    refine T_env (E' := [(0, (sl tRelation l0))]) ⟨rfl, trivial⟩ ?_
    refine T_seq ?_
    refine T_region ?_
    refine TO_cons rfl (TOp_pure (pur_move rfl) rfl ?_)
    refine TO_cons rfl (TOp_pure (pur_lenT (T := tRelation) sl29 rfl rfl) rfl ?_)
    refine TO_cons rfl (TOp_pure (pur_leq rfl rfl rfl) rfl ?_)
    refine TO_cons rfl (TOp_pure (pur_assign rfl) rfl ?_)
    refine TO_nil ?_
    refine T_env (E' := [(2, (boolA (decide ((l0.length : Int) ≤ 4))))]) ⟨rfl, trivial⟩ ?_
    refine T_ret ?_
    obtain rfl := some_inj H
    refine end_ret (.tmp .nil) rfl rfl ⟨?_, rfl⟩
    rfl

set_option maxHeartbeats 1000000 in
/-- spec.IsValidFact -/
theorem m_spec_IsValidFact_ok (u : Nat) (l0 : (List Relation)) (f1 : Fact) (r : Bool) (H : m_spec_IsValidFact u l0 f1 = some r) : FnV prg 102 [(sl tRelation l0), (.g (tFact.enc f1))] (boolA r) := by
  unfold m_spec_IsValidFact at H
  refine fnV_of_T Try.func102 rfl rfl (Nat.le_of_ble_eq_true rfl) ?_
  refine T_env (E' := [(0, (sl tRelation l0)), (1, (.g (tFact.enc f1)))]) ⟨rfl, rfl, trivial⟩ ?_
  refine T_seq ?_
  refine T_region ?_
  refine TO_cons rfl (TOp_box rfl (boxAll rfl) rfl rfl ?_)
  refine TO_cons rfl (TOp_pure (pur_assign rfl) rfl ?_)
  refine TO_nil ?_
  refine T_env (E' := [(0, (sl tRelation l0)), (3, (.b 0 0))]) ⟨rfl, rfl, trivial⟩ ?_
  refine T_seq ?_
  obtain ⟨t29_1, J_1, H_2⟩ := bind_inv H
  refine T_cutX (fun x => t29_1 = x) (fun (t29_1 : Bool) => [(3, (.b 0 0)), (29, (boolA t29_1))]) (fun (t29_1 : Bool) => [.box [(intA f1.relation), (sl tInt f1.values)]]) ?_ ?_
  · replace H := J_1
    refine T_regionD mixed (by kernel_rfl) ?_
    refine TQ_pure rfl (pur_move rfl) rfl ?_
    obtain ⟨r_3, h_4, H⟩ := bind_inv H
    refine TQ_callV rfl (call_static ent104 rfl) (m_spec_AreValidRelations_ok _ _ h_4) rfl rfl ?_
    refine TQ_pure rfl (pur_not rfl rfl) rfl ?_
    refine TQ_pure rfl (pur_move rfl) rfl ?_
    refine TQ_split (t := (!r_3)) 9 rfl (fun g_5 => ?_) (fun g_5 => ?_)
    · replace H := cond_t g_5 H
      refine TQ_off rfl rfl (by decide) rfl rfl rfl ?_
      refine TQ_off rfl rfl (by decide) rfl rfl rfl ?_
      refine TQ_off rfl rfl (by decide) rfl rfl rfl ?_
      refine TQ_off rfl rfl (by decide) rfl rfl rfl ?_
      refine TQ_off rfl rfl (by decide) rfl rfl rfl ?_
      refine TQ_off rfl rfl (by decide) rfl rfl rfl ?_
      refine TQ_off rfl rfl (by decide) rfl rfl rfl ?_
      refine TQ_pure rfl (pur_pick (t := true) rfl rfl rfl) rfl ?_
      refine TQ_env (E' := [(0, (sl tRelation l0)), (3, (.b 0 0)), (17, (boolA true))]) ⟨rfl, rfl, rfl, trivial⟩ ?_
      refine TQ_pure rfl (pur_move rfl) rfl ?_
      refine TQ_off rfl rfl (by decide) rfl rfl rfl ?_
      refine TQ_off rfl rfl (by decide) rfl rfl rfl ?_
      refine TQ_off rfl rfl (by decide) rfl rfl rfl ?_
      refine TQ_off rfl rfl (by decide) rfl rfl rfl ?_
      refine TQ_off rfl rfl (by decide) rfl rfl rfl ?_
      refine TQ_off rfl rfl (by decide) rfl rfl rfl ?_
      refine TQ_off rfl rfl (by decide) rfl rfl rfl ?_
      refine TQ_env (E' := [(3, (.b 0 0)), (18, (boolA true)), (21, (.v undef)), (25, (.v undef))]) ⟨rfl, rfl, rfl, rfl, trivial⟩ ?_
      refine TQ_off rfl rfl (by decide) rfl rfl rfl ?_
      refine TQ_off rfl rfl (by decide) rfl rfl rfl ?_
      refine TQ_off rfl rfl (by decide) rfl rfl rfl ?_
      refine TQ_pure rfl (pur_pick (t := true) rfl rfl rfl) rfl ?_
      refine TQ_nil ?_
      exact joined true (WeakL.to 1 (Nat.le_of_ble_eq_true rfl) rfl rfl rfl rfl ⟨leR rfl, leR rfl, trivial⟩) (some_inj H).symm
    · replace H := cond_f g_5 H
      refine TQ_on rfl rfl (by decide) rfl (pur_fa_b fld60_0 rfl rfl) rfl ?_
      refine TQ_on rfl rfl (by decide) rfl (pur_ld_b one3 rfl rfl rfl rfl) rfl ?_
      refine TQ_on rfl rfl (by decide) rfl (pur_move rfl) rfl ?_
      refine TQ_on rfl rfl (by decide) rfl (pur_lenT (T := tRelation) sl29 rfl rfl) rfl ?_
      refine TQ_fact (len_sl (T := tRelation) (.tmp 0) rfl) (fun hl_6 => ?_)
      refine TQ_on rfl rfl (by decide) rfl (pur_sub rfl rfl rfl (fits64 (by omega) (by omega))) rfl ?_
      obtain ⟨r_7, h_8, H⟩ := bind_inv H
      refine TQ_onV rfl rfl (by decide) rfl (call_static ent78 rfl) (m_spec_l1In_ok _ _ _ _ h_8) rfl rfl ?_
      refine TQ_on rfl rfl (by decide) rfl (pur_not rfl rfl) rfl ?_
      refine TQ_pure rfl (pur_pick (t := false) rfl rfl rfl) rfl ?_
      refine TQ_env (E' := [(0, (sl tRelation l0)), (3, (.b 0 0)), (17, (boolA (!r_7)))]) ⟨rfl, rfl, rfl, trivial⟩ ?_
      refine TQ_pure rfl (pur_move rfl) rfl ?_
      refine TQ_split (t := (!r_7)) 18 rfl (fun g_9 => ?_) (fun g_9 => ?_)
      · replace H := cond_t g_9 H
        refine TQ_off rfl rfl (by decide) rfl rfl rfl ?_
        refine TQ_off rfl rfl (by decide) rfl rfl rfl ?_
        refine TQ_off rfl rfl (by decide) rfl rfl rfl ?_
        refine TQ_off rfl rfl (by decide) rfl rfl rfl ?_
        refine TQ_off rfl rfl (by decide) rfl rfl rfl ?_
        refine TQ_off rfl rfl (by decide) rfl rfl rfl ?_
        refine TQ_off rfl rfl (by decide) rfl rfl rfl ?_
        refine TQ_off rfl rfl (by decide) rfl rfl rfl ?_
        refine TQ_env (E' := [(3, (.b 0 0)), (18, (boolA true)), (21, (.v undef)), (26, (.v undef))]) ⟨rfl, rfl, rfl, rfl, trivial⟩ ?_
        refine TQ_off rfl rfl (by decide) rfl rfl rfl ?_
        refine TQ_off rfl rfl (by decide) rfl rfl rfl ?_
        refine TQ_pure rfl (pur_pick (t := true) rfl rfl rfl) rfl ?_
        refine TQ_nil ?_
        exact joined true (WeakL.to 1 (Nat.le_of_ble_eq_true rfl) rfl rfl rfl rfl ⟨leR rfl, leR rfl, trivial⟩) (some_inj H).symm
      · replace H := cond_f g_9 H
        refine TQ_on rfl rfl (by decide) rfl (pur_fa_b fld60_1 rfl rfl) rfl ?_
        refine TQ_on rfl rfl (by decide) rfl (pur_ld_b one33 rfl rfl rfl rfl) rfl ?_
        refine TQ_on rfl rfl (by decide) rfl (pur_lenT (T := tInt) sl33 rfl rfl) rfl ?_
        refine TQ_on rfl rfl (by decide) rfl (pur_move rfl) rfl ?_
        refine TQ_on rfl rfl (by decide) rfl (pur_fa_b fld60_0 rfl rfl) rfl ?_
        refine TQ_on rfl rfl (by decide) rfl (pur_ld_b one3 rfl rfl rfl rfl) rfl ?_
        obtain ⟨v_10, h_11, H⟩ := bind_inv H
        obtain ⟨n_12, hz_13, hv_14⟩ := getI_inv h_11
        refine TQ_on rfl rfl (by decide) rfl (pur_ixT (T := tRelation) sl29 rfl rfl hz_13 hv_14 rfl) rfl ?_
        refine TQ_on rfl rfl (by decide) rfl (pur_fa_q fld97_1 rfl rfl) rfl ?_
        refine TQ_env (E' := [(3, (.b 0 0)), (18, (boolA false)), (21, (intA (f1.values.length : Int))), (26, (.q (flat tRelation.enc l0) (n_12 * tRelation.k + 1)))]) ⟨rfl, rfl, rfl, rfl, trivial⟩ ?_
        refine TQ_on rfl rfl (by decide) rfl (pur_ldT (T := tRelation) (i := n_12) (off := 1) rfl one3 rfl rfl hv_14 rfl) rfl ?_
        refine TQ_on rfl rfl (by decide) rfl (pur_neq rfl rfl rfl) rfl ?_
        refine TQ_pure rfl (pur_pick (t := false) rfl rfl rfl) rfl ?_
        refine TQ_nil ?_
        exact joined (decide ((f1.values.length : Int) ≠ v_10.arity)) (WeakL.to 1 (Nat.le_of_ble_eq_true rfl) rfl rfl rfl rfl ⟨leR rfl, leR rfl, trivial⟩) (some_inj H).symm
  · rintro _ rfl
    replace H := H_2
    refine T_env (E' := [(3, (.b 0 0)), (29, (boolA t29_1))]) ⟨rfl, rfl, trivial⟩ ?_
    refine T_cond (t := t29_1) rfl (fun c_15 => ?_) (fun c_15 => ?_)
    · replace H := cond_t c_15 H
      refine T_seq ?_
      refine T_region ?_
      refine TO_cons rfl (TOp_pure (pur_assign rfl) rfl ?_)
      refine TO_nil ?_
      refine T_env (E' := [(4, (boolA false))]) ⟨rfl, trivial⟩ ?_
      refine T_ret ?_
      refine then_ret ?_
      obtain rfl := some_inj H
      refine end_ret (.tmp .nil) rfl rfl ⟨?_, rfl⟩
      rfl
    · replace H := cond_f c_15 H
      refine T_skip ?_
      refine T_env (E' := [(3, (.b 0 0))]) ⟨rfl, trivial⟩ ?_
      refine T_seq ?_
      refine T_seq ?_
      refine T_region ?_
      refine TO_cons rfl (TOp_pure (pur_assign rfl) rfl ?_)
      refine TO_nil ?_
      refine T_env (E' := [(3, (.b 0 0)), (5, (intA 0))]) ⟨rfl, rfl, trivial⟩ ?_
      obtain ⟨O16_, L16_, N16_⟩ := bind_inv H
      clear H
      obtain ⟨B16_, hb16, L16_⟩ := gen_whileF L16_
      refine T_block ?_
      refine T_loopX (fun k => fun (i5 : Int) => whileF B16_ k i5 = some O16_) (fun (i5 : Int) => [(3, (.b 0 0)), (5, (intA i5))]) (fun (i5 : Int) => [.box [(intA f1.relation), (sl tInt f1.values)]]) u 0 (WeakL.to 1 (Nat.le_of_ble_eq_true rfl) rfl rfl rfl rfl ⟨leR rfl, leR rfl, trivial⟩) L16_ ?_
      rintro _ i5 L16_
      obtain ⟨k16, rfl, C16_, H, K16_⟩ := while_step L16_
      rw [hb16] at H
      refine T_env (E' := [(3, (.b 0 0)), (5, (intA i5))]) ⟨rfl, rfl, trivial⟩ ?_
      refine T_st (σ' := [.box [(intA f1.relation), (sl tInt f1.values)]]) rfl ?_
      refine T_seq ?_
      refine T_seq ?_
      refine T_region ?_
      refine TO_cons rfl (TOp_pure (pur_move rfl) rfl ?_)
      refine TO_cons rfl (TOp_pure (pur_fa_b fld60_1 rfl rfl) rfl ?_)
      refine TO_cons rfl (TOp_pure (pur_ld_b one33 rfl rfl rfl rfl) rfl ?_)
      refine TO_cons rfl (TOp_pure (pur_lenT (T := tInt) sl33 rfl rfl) rfl ?_)
      refine TO_cons rfl (TOp_pure (pur_lss rfl rfl rfl) rfl ?_)
      refine TO_nil ?_
      refine T_env (E' := [(3, (.b 0 0)), (5, (intA i5)), (34, (boolA (decide (i5 < (f1.values.length : Int)))))]) ⟨rfl, rfl, rfl, trivial⟩ ?_
      refine T_cond (t := decide (i5 < (f1.values.length : Int))) rfl (fun c_17 => ?_) (fun c_17 => ?_)
      · replace H := cond_t c_17 H
        refine T_skip ?_
        refine T_env (E' := [(3, (.b 0 0)), (5, (intA i5))]) ⟨rfl, rfl, trivial⟩ ?_
        refine T_seq ?_
        refine T_block ?_
        refine T_seq ?_
        refine T_region ?_
        refine TO_cons rfl (TOp_pure (pur_fa_b fld60_1 rfl rfl) rfl ?_)
        refine TO_cons rfl (TOp_pure (pur_ld_b one33 rfl rfl rfl rfl) rfl ?_)
        refine TO_cons rfl (TOp_pure (pur_move rfl) rfl ?_)
        obtain ⟨v_18, h_19, H⟩ := bind_inv H
        obtain ⟨n_20, hz_21, hv_22⟩ := getI_inv h_19
        refine TO_cons rfl (TOp_pure (pur_ixT (T := tInt) sl33 rfl rfl hz_21 hv_22 rfl) rfl ?_)
        refine TO_cons rfl (TOp_pure (pur_ldT (T := tInt) (i := n_20) (off := 0) rfl one3 rfl rfl hv_22 rfl) rfl ?_)
        obtain ⟨r_23, h_24, H⟩ := bind_inv H
        refine TO_cons rfl (TOp_callV (call_static ent78 rfl) (m_spec_l1In_ok _ _ _ _ h_24) rfl rfl rfl ?_)
        refine TO_cons rfl (TOp_pure (pur_not rfl rfl) rfl ?_)
        refine TO_nil ?_
        refine T_env (E' := [(3, (.b 0 0)), (5, (intA i5)), (43, (boolA (!r_23)))]) ⟨rfl, rfl, rfl, trivial⟩ ?_
        refine T_cond (t := (!r_23)) rfl (fun c_25 => ?_) (fun c_25 => ?_)
        · replace H := cond_t c_25 H
          refine T_seq ?_
          refine T_region ?_
          refine TO_cons rfl (TOp_pure (pur_assign rfl) rfl ?_)
          refine TO_nil ?_
          refine T_env (E' := [(4, (boolA false))]) ⟨rfl, trivial⟩ ?_
          refine T_ret ?_
          refine block_ret ?_
          refine then_ret ?_
          refine then_ret ?_
          refine block_ret ?_
          refine then_ret ?_
          obtain rfl := some_inj H
          obtain rfl := some_inj K16_
          replace H := onS_r N16_
          obtain rfl := some_inj H
          refine end_ret (.tmp .nil) rfl rfl ⟨?_, rfl⟩
          rfl
        · replace H := cond_f c_25 H
          refine T_skip ?_
          refine T_env (E' := [(3, (.b 0 0)), (5, (intA i5))]) ⟨rfl, rfl, trivial⟩ ?_
          refine T_region ?_
          refine TO_cons rfl (TOp_pure (pur_move rfl) rfl ?_)
          refine TO_cons rfl (TOp_pure (pur_wadd rfl rfl rfl) rfl ?_)
          refine TO_cons rfl (TOp_pure (pur_assign rfl) rfl ?_)
          refine TO_nil ?_
          obtain rfl := some_inj H
          exact again k16 (w64 (i5 + 1)) (Nat.lt_succ_self _) (WeakL.to 1 (Nat.le_of_ble_eq_true rfl) rfl rfl rfl rfl ⟨leR rfl, leR rfl, trivial⟩) K16_
      · replace H := cond_f c_17 H
        refine T_exit ?_
        refine then_exit ?_
        refine then_exit ?_
        refine block_exit ?_
        obtain rfl := some_inj H
        obtain rfl := some_inj K16_
        replace H := onS_l N16_
        refine T_env (E' := []) trivial ?_
        refine T_seq ?_
        refine T_region ?_
        refine TO_cons rfl (TOp_pure (pur_assign rfl) rfl ?_)
        refine TO_nil ?_
        refine T_env (E' := [(4, (boolA true))]) ⟨rfl, trivial⟩ ?_
        refine T_ret ?_
        obtain rfl := some_inj H
        refine end_ret (.tmp .nil) rfl rfl ⟨?_, rfl⟩
        rfl

set_option maxHeartbeats 1000000 in
/-- spec.l3Ints -/
theorem m_spec_l3Ints_ok (u : Nat) (a0 : (List Int)) (b1 : (List Int)) (r : Int) (H : m_spec_l3Ints u a0 b1 = some r) : FnV prg 47 [(sl tInt a0), (sl tInt b1)] (intA r) := by
  unfold m_spec_l3Ints at H
  refine fnV_of_T Try.func47 rfl rfl (Nat.le_of_ble_eq_true rfl) ?_
  refine T_env (E' := [(0, (sl tInt a0)), (1, (sl tInt b1))]) ⟨rfl, rfl, trivial⟩ ?_
  refine T_seq ?_
  refine T_region ?_
  refine TO_cons rfl (TOp_pure (pur_assign rfl) rfl ?_)
  refine TO_nil ?_
  refine T_env (E' := [(0, (sl tInt a0)), (1, (sl tInt b1))]) ⟨rfl, rfl, trivial⟩ ?_
  refine T_seq ?_
  refine T_seq ?_
  refine T_region ?_
  refine TO_cons rfl (TOp_pure (pur_assign rfl) rfl ?_)
  refine TO_nil ?_
  refine T_env (E' := [(0, (sl tInt a0)), (1, (sl tInt b1)), (5, (intA 0))]) ⟨rfl, rfl, rfl, trivial⟩ ?_
  obtain ⟨O1_, L1_, N1_⟩ := bind_inv H
  clear H
  obtain ⟨B1_, hb1, L1_⟩ := gen_whileF L1_
  refine T_block ?_
  refine T_loopX (fun k => fun (i5 : Int) => whileF B1_ k i5 = some O1_) (fun (i5 : Int) => [(0, (sl tInt a0)), (1, (sl tInt b1)), (5, (intA i5))]) (fun (i5 : Int) => []) u 0 (WeakL.to 0 (Nat.le_of_ble_eq_true rfl) rfl rfl rfl rfl ⟨leR rfl, leR rfl, leR rfl, trivial⟩) L1_ ?_
  rintro _ i5 L1_
  obtain ⟨k1, rfl, C1_, H, K1_⟩ := while_step L1_
  rw [hb1] at H
  refine T_env (E' := [(0, (sl tInt a0)), (1, (sl tInt b1)), (5, (intA i5))]) ⟨rfl, rfl, rfl, trivial⟩ ?_
  refine T_st (σ' := []) rfl ?_
  refine T_seq ?_
  refine T_cutX (fun x => ((decide (i5 < (a0.length : Int))) && (decide (i5 < (b1.length : Int)))) = x) (fun (t15_2 : Bool) => [(0, (sl tInt a0)), (1, (sl tInt b1)), (5, (intA i5)), (15, (boolA t15_2))]) (fun (t15_2 : Bool) => []) ?_ ?_
  · skip
    refine T_region ?_
    refine TO_cons rfl (TOp_pure (pur_move rfl) rfl ?_)
    refine TO_cons rfl (TOp_pure (pur_move rfl) rfl ?_)
    refine TO_cons rfl (TOp_pure (pur_lenT (T := tInt) sl33 rfl rfl) rfl ?_)
    refine TO_cons rfl (TOp_pure (pur_lss rfl rfl rfl) rfl ?_)
    refine TO_cons rfl (TOp_pure (pur_move rfl) rfl ?_)
    refine TO_split (t := decide (i5 < (a0.length : Int))) 10 rfl (fun g_4 => ?_) (fun g_4 => ?_)
    · skip
      refine TO_on rfl rfl (by decide) rfl rfl (TOp_pure (pur_move rfl) rfl ?_)
      refine TO_on rfl rfl (by decide) rfl rfl (TOp_pure (pur_move rfl) rfl ?_)
      refine TO_on rfl rfl (by decide) rfl rfl (TOp_pure (pur_lenT (T := tInt) sl33 rfl rfl) rfl ?_)
      refine TO_on rfl rfl (by decide) rfl rfl (TOp_pure (pur_lss rfl rfl rfl) rfl ?_)
      refine TO_cons rfl (TOp_pure (pur_pick (t := true) rfl rfl rfl) rfl ?_)
      refine TO_nil ?_
      exact joined (decide (i5 < (b1.length : Int))) (WeakL.to 0 (Nat.le_of_ble_eq_true rfl) rfl rfl rfl rfl ⟨leR rfl, leR rfl, leR rfl, leR rfl, trivial⟩) (by first | exact Eq.symm ((and_T g_4 rfl)))
    · skip
      refine TO_off rfl rfl (by decide) rfl rfl rfl ?_
      refine TO_off rfl rfl (by decide) rfl rfl rfl ?_
      refine TO_off rfl rfl (by decide) rfl rfl rfl ?_
      refine TO_off rfl rfl (by decide) rfl rfl rfl ?_
      refine TO_cons rfl (TOp_pure (pur_pick (t := false) rfl rfl rfl) rfl ?_)
      refine TO_nil ?_
      exact joined false (WeakL.to 0 (Nat.le_of_ble_eq_true rfl) rfl rfl rfl rfl ⟨leR rfl, leR rfl, leR rfl, leR rfl, trivial⟩) (by first | exact Eq.symm ((and_F g_4 rfl)))
  · rintro _ rfl
    refine T_env (E' := [(0, (sl tInt a0)), (1, (sl tInt b1)), (5, (intA i5)), (15, (boolA ((decide (i5 < (a0.length : Int))) && (decide (i5 < (b1.length : Int))))))]) ⟨rfl, rfl, rfl, rfl, trivial⟩ ?_
    refine T_cond (t := ((decide (i5 < (a0.length : Int))) && (decide (i5 < (b1.length : Int))))) rfl (fun c_5 => ?_) (fun c_5 => ?_)
    · replace H := cond_t c_5 H
      refine T_skip ?_
      refine T_env (E' := [(0, (sl tInt a0)), (1, (sl tInt b1)), (5, (intA i5))]) ⟨rfl, rfl, rfl, trivial⟩ ?_
      refine T_seq ?_
      refine T_block ?_
      refine T_seq ?_
      refine T_seq ?_
      refine T_regionD mixed (by kernel_rfl) ?_
      refine TQ_pure rfl (pur_move rfl) rfl ?_
      refine TQ_pure rfl (pur_move rfl) rfl ?_
      obtain ⟨v_6, h_7, H⟩ := bind_inv H
      obtain ⟨n_8, hz_9, hv_10⟩ := getI_inv h_7
      refine TQ_pure rfl (pur_ixT (T := tInt) sl33 rfl rfl hz_9 hv_10 rfl) rfl ?_
      refine TQ_pure rfl (pur_ldT (T := tInt) (i := n_8) (off := 0) rfl one3 rfl rfl hv_10 rfl) rfl ?_
      refine TQ_pure rfl (pur_move rfl) rfl ?_
      refine TQ_pure rfl (pur_move rfl) rfl ?_
      obtain ⟨v_11, h_12, H⟩ := bind_inv H
      obtain ⟨n_13, hz_14, hv_15⟩ := getI_inv h_12
      refine TQ_pure rfl (pur_ixT (T := tInt) sl33 rfl rfl hz_14 hv_15 rfl) rfl ?_
      refine TQ_pure rfl (pur_ldT (T := tInt) (i := n_13) (off := 0) rfl one3 rfl rfl hv_15 rfl) rfl ?_
      refine TQ_pure rfl (pur_lss rfl rfl rfl) rfl ?_
      refine TQ_nil ?_
      refine T_env (E' := [(0, (sl tInt a0)), (1, (sl tInt b1)), (5, (intA i5)), (26, (boolA (decide (v_6 < v_11))))]) ⟨rfl, rfl, rfl, rfl, trivial⟩ ?_
      refine T_cond (t := decide (v_6 < v_11)) rfl (fun c_16 => ?_) (fun c_16 => ?_)
      · replace H := cond_t c_16 H
        refine T_seq ?_
        refine T_region ?_
        refine TO_cons rfl (TOp_pure (pur_assign rfl) rfl ?_)
        refine TO_nil ?_
        refine T_env (E' := [(4, (intA (-1)))]) ⟨rfl, trivial⟩ ?_
        refine T_ret ?_
        refine then_ret ?_
        refine block_ret ?_
        refine then_ret ?_
        refine then_ret ?_
        refine block_ret ?_
        refine then_ret ?_
        obtain rfl := some_inj H
        obtain rfl := some_inj K1_
        replace H := onS_r N1_
        obtain rfl := some_inj H
        refine end_ret (.tmp .nil) rfl rfl ⟨?_, rfl⟩
        rfl
      · replace H := cond_f c_16 H
        refine T_skip ?_
        refine T_env (E' := [(0, (sl tInt a0)), (1, (sl tInt b1)), (5, (intA i5))]) ⟨rfl, rfl, rfl, trivial⟩ ?_
        refine T_seq ?_
        refine T_regionD mixed (by kernel_rfl) ?_
        refine TQ_pure rfl (pur_move rfl) rfl ?_
        refine TQ_pure rfl (pur_move rfl) rfl ?_
        refine TQ_pure rfl (pur_ixT (T := tInt) sl33 rfl rfl hz_9 hv_10 rfl) rfl ?_
        refine TQ_pure rfl (pur_ldT (T := tInt) (i := n_8) (off := 0) rfl one3 rfl rfl hv_10 rfl) rfl ?_
        refine TQ_pure rfl (pur_move rfl) rfl ?_
        refine TQ_pure rfl (pur_move rfl) rfl ?_
        refine TQ_pure rfl (pur_ixT (T := tInt) sl33 rfl rfl hz_14 hv_15 rfl) rfl ?_
        refine TQ_pure rfl (pur_ldT (T := tInt) (i := n_13) (off := 0) rfl one3 rfl rfl hv_15 rfl) rfl ?_
        refine TQ_pure rfl (pur_gtr rfl rfl rfl) rfl ?_
        refine TQ_nil ?_
        refine T_env (E' := [(0, (sl tInt a0)), (1, (sl tInt b1)), (5, (intA i5)), (35, (boolA (decide (v_11 < v_6))))]) ⟨rfl, rfl, rfl, rfl, trivial⟩ ?_
        refine T_cond (t := decide (v_11 < v_6)) rfl (fun c_17 => ?_) (fun c_17 => ?_)
        · replace H := cond_t c_17 H
          refine T_seq ?_
          refine T_region ?_
          refine TO_cons rfl (TOp_pure (pur_assign rfl) rfl ?_)
          refine TO_nil ?_
          refine T_env (E' := [(4, (intA 1))]) ⟨rfl, trivial⟩ ?_
          refine T_ret ?_
          refine block_ret ?_
          refine then_ret ?_
          refine then_ret ?_
          refine block_ret ?_
          refine then_ret ?_
          obtain rfl := some_inj H
          obtain rfl := some_inj K1_
          replace H := onS_r N1_
          obtain rfl := some_inj H
          refine end_ret (.tmp .nil) rfl rfl ⟨?_, rfl⟩
          rfl
        · replace H := cond_f c_17 H
          refine T_skip ?_
          refine T_env (E' := [(0, (sl tInt a0)), (1, (sl tInt b1)), (5, (intA i5))]) ⟨rfl, rfl, rfl, trivial⟩ ?_
          refine T_region ?_
          refine TO_cons rfl (TOp_pure (pur_move rfl) rfl ?_)
          refine TO_cons rfl (TOp_pure (pur_wadd rfl rfl rfl) rfl ?_)
          refine TO_cons rfl (TOp_pure (pur_assign rfl) rfl ?_)
          refine TO_nil ?_
          obtain rfl := some_inj H
          exact again k1 (w64 (i5 + 1)) (Nat.lt_succ_self _) (WeakL.to 0 (Nat.le_of_ble_eq_true rfl) rfl rfl rfl rfl ⟨leR rfl, leR rfl, leR rfl, trivial⟩) K1_
    · replace H := cond_f c_5 H
      refine T_exit ?_
      refine then_exit ?_
      refine then_exit ?_
      refine block_exit ?_
      obtain rfl := some_inj H
      obtain rfl := some_inj K1_
      replace H := onS_l N1_
      refine T_env (E' := [(0, (sl tInt a0)), (1, (sl tInt b1))]) ⟨rfl, rfl, trivial⟩ ?_
      refine T_seq ?_
      refine T_seq ?_
      refine T_region ?_
      refine TO_cons rfl (TOp_pure (pur_move rfl) rfl ?_)
      refine TO_cons rfl (TOp_pure (pur_lenT (T := tInt) sl33 rfl rfl) rfl ?_)
      refine TO_cons rfl (TOp_pure (pur_move rfl) rfl ?_)
      refine TO_cons rfl (TOp_pure (pur_lenT (T := tInt) sl33 rfl rfl) rfl ?_)
      refine TO_cons rfl (TOp_pure (pur_lss rfl rfl rfl) rfl ?_)
      refine TO_nil ?_
      refine T_env (E' := [(0, (sl tInt a0)), (1, (sl tInt b1)), (40, (boolA (decide ((a0.length : Int) < (b1.length : Int)))))]) ⟨rfl, rfl, rfl, trivial⟩ ?_
      refine T_cond (t := decide ((a0.length : Int) < (b1.length : Int))) rfl (fun c_18 => ?_) (fun c_18 => ?_)
      · replace H := cond_t c_18 H
        refine T_seq ?_
        refine T_region ?_
        refine TO_cons rfl (TOp_pure (pur_assign rfl) rfl ?_)
        refine TO_nil ?_
        refine T_env (E' := [(4, (intA (-1)))]) ⟨rfl, trivial⟩ ?_
        refine T_ret ?_
        refine then_ret ?_
        obtain rfl := some_inj H
        refine end_ret (.tmp .nil) rfl rfl ⟨?_, rfl⟩
        rfl
      · replace H := cond_f c_18 H
        refine T_skip ?_
        refine T_env (E' := [(0, (sl tInt a0)), (1, (sl tInt b1))]) ⟨rfl, rfl, trivial⟩ ?_
        refine T_seq ?_
        refine T_seq ?_
        refine T_region ?_
        refine TO_cons rfl (TOp_pure (pur_move rfl) rfl ?_)
        refine TO_cons rfl (TOp_pure (pur_lenT (T := tInt) sl33 rfl rfl) rfl ?_)
        refine TO_cons rfl (TOp_pure (pur_move rfl) rfl ?_)
        refine TO_cons rfl (TOp_pure (pur_lenT (T := tInt) sl33 rfl rfl) rfl ?_)
        refine TO_cons rfl (TOp_pure (pur_gtr rfl rfl rfl) rfl ?_)
        refine TO_nil ?_
        refine T_env (E' := [(45, (boolA (decide ((b1.length : Int) < (a0.length : Int)))))]) ⟨rfl, trivial⟩ ?_
        refine T_cond (t := decide ((b1.length : Int) < (a0.length : Int))) rfl (fun c_19 => ?_) (fun c_19 => ?_)
        · replace H := cond_t c_19 H
          refine T_seq ?_
          refine T_region ?_
          refine TO_cons rfl (TOp_pure (pur_assign rfl) rfl ?_)
          refine TO_nil ?_
          refine T_env (E' := [(4, (intA 1))]) ⟨rfl, trivial⟩ ?_
          refine T_ret ?_
          refine then_ret ?_
          obtain rfl := some_inj H
          refine end_ret (.tmp .nil) rfl rfl ⟨?_, rfl⟩
          rfl
        · replace H := cond_f c_19 H
          refine T_skip ?_
          refine T_env (E' := []) trivial ?_
          refine T_seq ?_
          refine T_region ?_
          refine TO_cons rfl (TOp_pure (pur_assign rfl) rfl ?_)
          refine TO_nil ?_
          refine T_env (E' := [(4, (intA 0))]) ⟨rfl, trivial⟩ ?_
          refine T_ret ?_
          obtain rfl := some_inj H
          refine end_ret (.tmp .nil) rfl rfl ⟨?_, rfl⟩
          rfl

set_option maxHeartbeats 1000000 in
/-- spec.CompareFacts -/
theorem m_spec_CompareFacts_ok (u : Nat) (a0 : Fact) (b1 : Fact) (r : Int) (H : m_spec_CompareFacts u a0 b1 = some r) : FnV prg 103 [(.g (tFact.enc a0)), (.g (tFact.enc b1))] (intA r) := by
  unfold m_spec_CompareFacts at H
  refine fnV_of_T Try.func103 rfl rfl (Nat.le_of_ble_eq_true rfl) ?_
  refine T_env (E' := [(0, (.g (tFact.enc a0))), (1, (.g (tFact.enc b1)))]) ⟨rfl, rfl, trivial⟩ ?_
  refine T_seq ?_
  refine T_region ?_
  refine TO_cons rfl (TOp_box rfl (boxAll rfl) rfl rfl ?_)
  refine TO_cons rfl (TOp_box rfl (boxAll rfl) rfl rfl ?_)
  refine TO_cons rfl (TOp_pure (pur_assign rfl) rfl ?_)
  refine TO_nil ?_
  refine T_env (E' := [(2, (.b 0 0)), (3, (.b 1 0))]) ⟨rfl, rfl, trivial⟩ ?_
  refine T_seq ?_
  refine T_seq ?_
  refine T_region ?_
  refine TO_cons rfl (TOp_pure (pur_fa_b fld60_0 rfl rfl) rfl ?_)
  refine TO_cons rfl (TOp_pure (pur_ld_b one3 rfl rfl rfl rfl) rfl ?_)
  refine TO_cons rfl (TOp_pure (pur_fa_b fld60_0 rfl rfl) rfl ?_)
  refine TO_cons rfl (TOp_pure (pur_ld_b one3 rfl rfl rfl rfl) rfl ?_)
  refine TO_cons rfl (TOp_pure (pur_lss rfl rfl rfl) rfl ?_)
  refine TO_nil ?_
  refine T_env (E' := [(2, (.b 0 0)), (3, (.b 1 0)), (9, (boolA (decide (a0.relation < b1.relation))))]) ⟨rfl, rfl, rfl, trivial⟩ ?_
  refine T_cond (t := decide (a0.relation < b1.relation)) rfl (fun c_1 => ?_) (fun c_1 => ?_)
  · replace H := cond_t c_1 H
    refine T_seq ?_
    refine T_region ?_
    refine TO_cons rfl (TOp_pure (pur_assign rfl) rfl ?_)
    refine TO_nil ?_
    refine T_env (E' := [(4, (intA (-1)))]) ⟨rfl, trivial⟩ ?_
    refine T_ret ?_
    refine then_ret ?_
    obtain rfl := some_inj H
    refine end_ret (.tmp .nil) rfl rfl ⟨?_, rfl⟩
    rfl
  · replace H := cond_f c_1 H
    refine T_skip ?_
    refine T_env (E' := [(2, (.b 0 0)), (3, (.b 1 0))]) ⟨rfl, rfl, trivial⟩ ?_
    refine T_seq ?_
    refine T_seq ?_
    refine T_region ?_
    refine TO_cons rfl (TOp_pure (pur_fa_b fld60_0 rfl rfl) rfl ?_)
    refine TO_cons rfl (TOp_pure (pur_ld_b one3 rfl rfl rfl rfl) rfl ?_)
    refine TO_cons rfl (TOp_pure (pur_fa_b fld60_0 rfl rfl) rfl ?_)
    refine TO_cons rfl (TOp_pure (pur_ld_b one3 rfl rfl rfl rfl) rfl ?_)
    refine TO_cons rfl (TOp_pure (pur_gtr rfl rfl rfl) rfl ?_)
    refine TO_nil ?_
    refine T_env (E' := [(2, (.b 0 0)), (3, (.b 1 0)), (14, (boolA (decide (b1.relation < a0.relation))))]) ⟨rfl, rfl, rfl, trivial⟩ ?_
    refine T_cond (t := decide (b1.relation < a0.relation)) rfl (fun c_2 => ?_) (fun c_2 => ?_)
    · replace H := cond_t c_2 H
      refine T_seq ?_
      refine T_region ?_
      refine TO_cons rfl (TOp_pure (pur_assign rfl) rfl ?_)
      refine TO_nil ?_
      refine T_env (E' := [(4, (intA 1))]) ⟨rfl, trivial⟩ ?_
      refine T_ret ?_
      refine then_ret ?_
      obtain rfl := some_inj H
      refine end_ret (.tmp .nil) rfl rfl ⟨?_, rfl⟩
      rfl
    · replace H := cond_f c_2 H
      refine T_skip ?_
      refine T_env (E' := [(2, (.b 0 0)), (3, (.b 1 0))]) ⟨rfl, rfl, trivial⟩ ?_
      refine T_seq ?_
      refine T_region ?_
      refine TO_cons rfl (TOp_pure (pur_fa_b fld60_1 rfl rfl) rfl ?_)
      refine TO_cons rfl (TOp_pure (pur_ld_b one33 rfl rfl rfl rfl) rfl ?_)
      refine TO_cons rfl (TOp_pure (pur_fa_b fld60_1 rfl rfl) rfl ?_)
      refine TO_cons rfl (TOp_pure (pur_ld_b one33 rfl rfl rfl rfl) rfl ?_)
      obtain ⟨r_3, h_4, H⟩ := bind_inv H
      refine TO_cons rfl (TOp_callV (call_static ent47 rfl) (m_spec_l3Ints_ok u _ _ _ h_4) rfl rfl rfl ?_)
      refine TO_cons rfl (TOp_pure (pur_assign rfl) rfl ?_)
      refine TO_nil ?_
      refine T_env (E' := [(4, (intA r_3))]) ⟨rfl, trivial⟩ ?_
      refine T_ret ?_
      obtain rfl := some_inj H
      refine end_ret (.tmp .nil) rfl rfl ⟨?_, rfl⟩
      rfl

set_option maxHeartbeats 1000000 in
/-- spec.IsValidDatabase -/
theorem m_spec_IsValidDatabase_ok (u : Nat) (d0 : Database) (r : Bool) (H : m_spec_IsValidDatabase u d0 = some r) : FnV prg 76 [(.g (tDatabase.enc d0))] (boolA r) := by
  unfold m_spec_IsValidDatabase at H
  refine fnV_of_T Try.func76 rfl rfl (Nat.le_of_ble_eq_true rfl) ?_
  refine T_env (E' := [(0, (.g (tDatabase.enc d0)))]) ⟨rfl, trivial⟩ ?_
  refine T_seq ?_
  refine T_region ?_
  refine TO_cons rfl (TOp_box rfl (boxAll rfl) rfl rfl ?_)
  refine TO_cons rfl (TOp_pure (pur_assign rfl) rfl ?_)
  refine TO_nil ?_
  refine T_env (E' := [(1, (.b 0 0))]) ⟨rfl, trivial⟩ ?_
  refine T_seq ?_
  refine T_seq ?_
  refine T_region ?_
  refine TO_cons rfl (TOp_pure (pur_assign rfl) rfl ?_)
  refine TO_nil ?_
  refine T_env (E' := [(1, (.b 0 0)), (3, (intA 0))]) ⟨rfl, rfl, trivial⟩ ?_
  obtain ⟨O1_, L1_, N1_⟩ := bind_inv H
  clear H
  obtain ⟨B1_, hb1, L1_⟩ := gen_whileF L1_
  refine T_block ?_
  refine T_loopX (fun k => fun (i3 : Int) => whileF B1_ k i3 = some O1_) (fun (i3 : Int) => [(1, (.b 0 0)), (3, (intA i3))]) (fun (i3 : Int) => [.box [(sl tRelation d0.relations), (sl tFact d0.facts)]]) u 0 (WeakL.to 1 (Nat.le_of_ble_eq_true rfl) rfl rfl rfl rfl ⟨leR rfl, leR rfl, trivial⟩) L1_ ?_
  rintro _ i3 L1_
  obtain ⟨k1, rfl, C1_, H, K1_⟩ := while_step L1_
  rw [hb1] at H
  refine T_env (E' := [(1, (.b 0 0)), (3, (intA i3))]) ⟨rfl, rfl, trivial⟩ ?_
  refine T_st (σ' := [.box [(sl tRelation d0.relations), (sl tFact d0.facts)]]) rfl ?_
  refine T_seq ?_
  refine T_seq ?_
  refine T_region ?_
  refine TO_cons rfl (TOp_pure (pur_move rfl) rfl ?_)
  refine TO_cons rfl (TOp_pure (pur_fa_b fld32_1 rfl rfl) rfl ?_)
  refine TO_cons rfl (TOp_pure (pur_ld_b one30 rfl rfl rfl rfl) rfl ?_)
  refine TO_cons rfl (TOp_pure (pur_lenT (T := tFact) sl30 rfl rfl) rfl ?_)
  refine TO_cons rfl (TOp_pure (pur_lss rfl rfl rfl) rfl ?_)
  refine TO_nil ?_
  refine T_env (E' := [(1, (.b 0 0)), (3, (intA i3)), (8, (boolA (decide (i3 < (d0.facts.length : Int)))))]) ⟨rfl, rfl, rfl, trivial⟩ ?_
  refine T_cond (t := decide (i3 < (d0.facts.length : Int))) rfl (fun c_2 => ?_) (fun c_2 => ?_)
  · replace H := cond_t c_2 H
    refine T_skip ?_
    refine T_env (E' := [(1, (.b 0 0)), (3, (intA i3))]) ⟨rfl, rfl, trivial⟩ ?_
    refine T_seq ?_
    refine T_block ?_
    obtain ⟨t38_3, J_3, H_4⟩ := bind_inv H
    refine T_cutX (fun x => t38_3 = x) (fun (t38_3 : Bool) => [(1, (.b 0 0)), (3, (intA i3)), (38, (boolA t38_3))]) (fun (t38_3 : Bool) => [.box [(sl tRelation d0.relations), (sl tFact d0.facts)]]) ?_ ?_
    · replace H := J_3
      refine T_regionD mixed (by kernel_rfl) ?_
      refine TQ_pure rfl (pur_fa_b fld32_0 rfl rfl) rfl ?_
      refine TQ_pure rfl (pur_ld_b one29 rfl rfl rfl rfl) rfl ?_
      refine TQ_pure rfl (pur_fa_b fld32_1 rfl rfl) rfl ?_
      refine TQ_pure rfl (pur_ld_b one30 rfl rfl rfl rfl) rfl ?_
      refine TQ_pure rfl (pur_move rfl) rfl ?_
      obtain ⟨v_5, h_6, H⟩ := bind_inv H
      obtain ⟨n_7, hz_8, hv_9⟩ := getI_inv h_6
      refine TQ_pure rfl (pur_ixT (T := tFact) sl30 rfl rfl hz_8 hv_9 rfl) rfl ?_
      refine TQ_pure rfl (pur_ldTK (T := tFact) (i := n_7) (off := 0) rfl agg60 rfl rfl hv_9 (by decide) rfl) rfl ?_
      obtain ⟨r_10, h_11, H⟩ := bind_inv H
      refine TQ_callV rfl (call_static ent102 rfl) (m_spec_IsValidFact_ok u _ _ _ h_11) rfl rfl ?_
      refine TQ_env (E' := [(1, (.b 0 0)), (3, (intA i3)), (18, (boolA r_10))]) ⟨rfl, rfl, rfl, trivial⟩ ?_
      refine TQ_pure rfl (pur_not rfl rfl) rfl ?_
      refine TQ_pure rfl (pur_move rfl) rfl ?_
      refine TQ_split (t := (!r_10)) 20 rfl (fun g_12 => ?_) (fun g_12 => ?_)
      · replace H := cond_t g_12 H
        refine TQ_off rfl rfl (by decide) rfl rfl rfl ?_
        refine TQ_off rfl rfl (by decide) rfl rfl rfl ?_
        refine TQ_off rfl rfl (by decide) rfl rfl rfl ?_
        refine TQ_off rfl rfl (by decide) rfl rfl rfl ?_
        refine TQ_off rfl rfl (by decide) rfl rfl rfl ?_
        refine TQ_off rfl rfl (by decide) rfl rfl rfl ?_
        refine TQ_off rfl rfl (by decide) rfl rfl rfl ?_
        refine TQ_off rfl rfl (by decide) rfl rfl rfl ?_
        refine TQ_env (E' := [(1, (.b 0 0)), (3, (intA i3)), (20, (boolA true)), (23, (.v undef)), (28, (.v undef))]) ⟨rfl, rfl, rfl, rfl, rfl, trivial⟩ ?_
        refine TQ_off rfl rfl (by decide) rfl rfl rfl ?_
        refine TQ_off rfl rfl (by decide) rfl rfl rfl ?_
        refine TQ_off rfl rfl (by decide) rfl rfl rfl ?_
        refine TQ_off rfl rfl (by decide) rfl rfl rfl ?_
        refine TQ_off rfl rfl (by decide) rfl rfl rfl ?_
        refine TQ_off rfl rfl (by decide) rfl rfl rfl ?_
        refine TQ_off rfl rfl (by decide) rfl rfl rfl ?_
        refine TQ_off rfl rfl (by decide) rfl rfl rfl ?_
        refine TQ_off rfl rfl (by decide) rfl rfl rfl ?_
        refine TQ_pure rfl (pur_pick (t := true) rfl rfl rfl) rfl ?_
        refine TQ_nil ?_
        exact joined true (WeakL.to 1 (Nat.le_of_ble_eq_true rfl) rfl rfl rfl rfl ⟨leR rfl, leR rfl, leR rfl, trivial⟩) (some_inj H).symm
      · replace H := cond_f g_12 H
        refine TQ_on rfl rfl (by decide) rfl (pur_move rfl) rfl ?_
        refine TQ_on rfl rfl (by decide) rfl (pur_gtr rfl rfl rfl) rfl ?_
        refine TQ_on rfl rfl (by decide) rfl (pur_move rfl) rfl ?_
        refine TQ_split (t := decide (0 < i3)) 23 rfl (fun g_13 => ?_) (fun g_13 => ?_)
        · replace H := cond_t g_13 H
          refine TQ_on rfl rfl (by decide) rfl (pur_fa_b fld32_1 rfl rfl) rfl ?_
          refine TQ_on rfl rfl (by decide) rfl (pur_ld_b one30 rfl rfl rfl rfl) rfl ?_
          refine TQ_on rfl rfl (by decide) rfl (pur_move rfl) rfl ?_
          refine TQ_on rfl rfl (by decide) rfl (pur_wsub rfl rfl rfl) rfl ?_
          obtain ⟨v_14, h_15, H⟩ := bind_inv H
          obtain ⟨n_16, hz_17, hv_18⟩ := getI_inv h_15
          refine TQ_on rfl rfl (by decide) rfl (pur_ixT (T := tFact) sl30 rfl rfl hz_17 hv_18 rfl) rfl ?_
          refine TQ_on rfl rfl (by decide) rfl (pur_ldTK (T := tFact) (i := n_16) (off := 0) rfl agg60 rfl rfl hv_18 (by decide) rfl) rfl ?_
          refine TQ_on rfl rfl (by decide) rfl (pur_fa_b fld32_1 rfl rfl) rfl ?_
          refine TQ_on rfl rfl (by decide) rfl (pur_ld_b one30 rfl rfl rfl rfl) rfl ?_
          refine TQ_env (E' := [(1, (.b 0 0)), (3, (intA i3)), (20, (boolA false)), (23, (boolA true)), (29, (.g (tFact.enc v_14))), (31, (sl tFact d0.facts))]) ⟨rfl, rfl, rfl, rfl, rfl, rfl, trivial⟩ ?_
          refine TQ_on rfl rfl (by decide) rfl (pur_move rfl) rfl ?_
          refine TQ_on rfl rfl (by decide) rfl (pur_ixT (T := tFact) sl30 rfl rfl hz_8 hv_9 rfl) rfl ?_
          refine TQ_on rfl rfl (by decide) rfl (pur_ldTK (T := tFact) (i := n_7) (off := 0) rfl agg60 rfl rfl hv_9 (by decide) rfl) rfl ?_
          obtain ⟨r_19, h_20, H⟩ := bind_inv H
          refine TQ_onV rfl rfl (by decide) rfl (call_static ent103 rfl) (m_spec_CompareFacts_ok u _ _ _ h_20) rfl rfl ?_
          refine TQ_on rfl rfl (by decide) rfl (pur_geq rfl rfl rfl) rfl ?_
          refine TQ_on rfl rfl (by decide) rfl (pur_pick (t := true) rfl rfl rfl) rfl ?_
          refine TQ_pure rfl (pur_pick (t := false) rfl rfl rfl) rfl ?_
          refine TQ_nil ?_
          exact joined (decide (0 ≤ r_19)) (WeakL.to 1 (Nat.le_of_ble_eq_true rfl) rfl rfl rfl rfl ⟨leR rfl, leR rfl, leR rfl, trivial⟩) (some_inj H).symm
        · replace H := cond_f g_13 H
          refine TQ_off rfl rfl (by decide) rfl rfl rfl ?_
          refine TQ_off rfl rfl (by decide) rfl rfl rfl ?_
          refine TQ_off rfl rfl (by decide) rfl rfl rfl ?_
          refine TQ_off rfl rfl (by decide) rfl rfl rfl ?_
          refine TQ_off rfl rfl (by decide) rfl rfl rfl ?_
          refine TQ_off rfl rfl (by decide) rfl rfl rfl ?_
          refine TQ_off rfl rfl (by decide) rfl rfl rfl ?_
          refine TQ_off rfl rfl (by decide) rfl rfl rfl ?_
          refine TQ_env (E' := [(1, (.b 0 0)), (3, (intA i3)), (20, (boolA false)), (23, (boolA false)), (29, (.v undef)), (31, (.v undef))]) ⟨rfl, rfl, rfl, rfl, rfl, rfl, trivial⟩ ?_
          refine TQ_off rfl rfl (by decide) rfl rfl rfl ?_
          refine TQ_off rfl rfl (by decide) rfl rfl rfl ?_
          refine TQ_off rfl rfl (by decide) rfl rfl rfl ?_
          refine TQ_off rfl rfl (by decide) rfl rfl rfl ?_
          refine TQ_off rfl rfl (by decide) rfl rfl rfl ?_
          refine TQ_on rfl rfl (by decide) rfl (pur_pick (t := false) rfl rfl rfl) rfl ?_
          refine TQ_pure rfl (pur_pick (t := false) rfl rfl rfl) rfl ?_
          refine TQ_nil ?_
          exact joined false (WeakL.to 1 (Nat.le_of_ble_eq_true rfl) rfl rfl rfl rfl ⟨leR rfl, leR rfl, leR rfl, trivial⟩) (some_inj H).symm
    · rintro _ rfl
      replace H := H_4
      refine T_env (E' := [(1, (.b 0 0)), (3, (intA i3)), (38, (boolA t38_3))]) ⟨rfl, rfl, rfl, trivial⟩ ?_
      refine T_cond (t := t38_3) rfl (fun c_21 => ?_) (fun c_21 => ?_)
      · replace H := cond_t c_21 H
        refine T_seq ?_
        refine T_region ?_
        refine TO_cons rfl (TOp_pure (pur_assign rfl) rfl ?_)
        refine TO_nil ?_
        refine T_env (E' := [(2, (boolA false))]) ⟨rfl, trivial⟩ ?_
        refine T_ret ?_
        refine block_ret ?_
        refine then_ret ?_
        refine then_ret ?_
        refine block_ret ?_
        refine then_ret ?_
        obtain rfl := some_inj H
        obtain rfl := some_inj K1_
        replace H := onS_r N1_
        obtain rfl := some_inj H
        refine end_ret (.tmp .nil) rfl rfl ⟨?_, rfl⟩
        rfl
      · replace H := cond_f c_21 H
        refine T_skip ?_
        refine T_env (E' := [(1, (.b 0 0)), (3, (intA i3))]) ⟨rfl, rfl, trivial⟩ ?_
        refine T_region ?_
        refine TO_cons rfl (TOp_pure (pur_move rfl) rfl ?_)
        refine TO_cons rfl (TOp_pure (pur_wadd rfl rfl rfl) rfl ?_)
        refine TO_cons rfl (TOp_pure (pur_assign rfl) rfl ?_)
        refine TO_nil ?_
        obtain rfl := some_inj H
        exact again k1 (w64 (i3 + 1)) (Nat.lt_succ_self _) (WeakL.to 1 (Nat.le_of_ble_eq_true rfl) rfl rfl rfl rfl ⟨leR rfl, leR rfl, trivial⟩) K1_
  · replace H := cond_f c_2 H
    refine T_exit ?_
    refine then_exit ?_
    refine then_exit ?_
    refine block_exit ?_
    obtain rfl := some_inj H
    obtain rfl := some_inj K1_
    replace H := onS_l N1_
    refine T_env (E' := [(1, (.b 0 0))]) ⟨rfl, trivial⟩ ?_
    obtain ⟨t2_22, J_22, H_23⟩ := bind_inv H
    refine T_cutX (fun x => t2_22 = x) (fun (t2_22 : Bool) => [(2, (boolA t2_22))]) (fun (t2_22 : Bool) => []) ?_ ?_
    · replace H := J_22
      refine T_region ?_
      refine TO_cons rfl (TOp_pure (pur_fa_b fld32_0 rfl rfl) rfl ?_)
      refine TO_cons rfl (TOp_pure (pur_ld_b one29 rfl rfl rfl rfl) rfl ?_)
      obtain ⟨r_24, h_25, H⟩ := bind_inv H
      refine TO_cons rfl (TOp_callV (call_static ent104 rfl) (m_spec_AreValidRelations_ok _ _ h_25) rfl rfl rfl ?_)
      refine TO_cons rfl (TOp_pure (pur_move rfl) rfl ?_)
      refine TO_split (t := r_24) 42 rfl (fun g_26 => ?_) (fun g_26 => ?_)
      · replace H := cond_t g_26 H
        refine TO_on rfl rfl (by decide) rfl rfl (TOp_pure (pur_fa_b fld32_1 rfl rfl) rfl ?_)
        refine TO_on rfl rfl (by decide) rfl rfl (TOp_pure (pur_ld_b one30 rfl rfl rfl rfl) rfl ?_)
        refine TO_on rfl rfl (by decide) rfl rfl (TOp_pure (pur_lenT (T := tFact) sl30 rfl rfl) rfl ?_)
        refine TO_on rfl rfl (by decide) rfl rfl (TOp_pure (pur_leq rfl rfl rfl) rfl ?_)
        refine TO_cons rfl (TOp_pure (pur_pick (t := true) rfl rfl rfl) rfl ?_)
        refine TO_cons rfl (TOp_pure (pur_assign rfl) rfl ?_)
        refine TO_nil ?_
        exact joined (decide ((d0.facts.length : Int) ≤ 14)) (WeakL.to 0 (Nat.le_of_ble_eq_true rfl) rfl rfl rfl rfl ⟨leR rfl, trivial⟩) (some_inj H).symm
      · replace H := cond_f g_26 H
        refine TO_off rfl rfl (by decide) rfl rfl rfl ?_
        refine TO_off rfl rfl (by decide) rfl rfl rfl ?_
        refine TO_off rfl rfl (by decide) rfl rfl rfl ?_
        refine TO_off rfl rfl (by decide) rfl rfl rfl ?_
        refine TO_cons rfl (TOp_pure (pur_pick (t := false) rfl rfl rfl) rfl ?_)
        refine TO_cons rfl (TOp_pure (pur_assign rfl) rfl ?_)
        refine TO_nil ?_
        exact joined false (WeakL.to 0 (Nat.le_of_ble_eq_true rfl) rfl rfl rfl rfl ⟨leR rfl, trivial⟩) (some_inj H).symm
    · rintro _ rfl
      replace H := H_23
      refine T_env (E' := [(2, (boolA t2_22))]) ⟨rfl, trivial⟩ ?_
      refine T_ret ?_
      obtain rfl := some_inj H
      refine end_ret (.tmp .nil) rfl rfl ⟨?_, rfl⟩
      rfl
end Go.Proofs.Ytlcpdlngbofgcaa

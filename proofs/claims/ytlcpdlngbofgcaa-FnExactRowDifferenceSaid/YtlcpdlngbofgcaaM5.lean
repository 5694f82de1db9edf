/- Walks. -/
import Derived.Test.YtlcpdlngbofgcaaM1
set_option linter.unusedVariables false
set_option linter.unusedSimpArgs false
set_option maxRecDepth 4000
namespace Go.Proofs.Ytlcpdlngbofgcaa
open Go Go.Proofs Go.Sep
set_option maxHeartbeats 1000000 in
/-- laws.heldIntS -/
theorem m_laws_heldIntS_ok (a0 : (List Int)) (k1 : Int) (r : Int) (H : m_laws_heldIntS a0 k1 = some r) : FnV prg 52 [(sl tInt a0), (intA k1)] (intA r) := by
  unfold m_laws_heldIntS at H
  refine fnV_of_T Try.func52 rfl rfl (Nat.le_of_ble_eq_true rfl) ?_
  refine T_env (E' := [(0, (sl tInt a0)), (1, (intA k1))]) ⟨rfl, rfl, trivial⟩ ?_
  refine T_seq ?_
  refine T_region ?_
  refine TO_cons rfl (TOp_pure (pur_assign rfl) rfl ?_)
  refine TO_nil ?_
  refine T_env (E' := [(0, (sl tInt a0)), (1, (intA k1))]) ⟨rfl, rfl, trivial⟩ ?_
  refine T_seq ?_
  refine T_seq ?_
  refine T_region ?_
  refine TO_cons rfl (TOp_pure (pur_assign rfl) rfl ?_)
  refine TO_nil ?_
  refine T_env (E' := [(0, (sl tInt a0)), (1, (intA k1)), (5, (intA 0))]) ⟨rfl, rfl, rfl, trivial⟩ ?_
  obtain ⟨O2_, L2_, N2_⟩ := bind_inv H
  clear H
  obtain ⟨B2_, hb2, L2_⟩ := gen_forL L2_
  refine T_block ?_
  refine T_loopX (fun k => fun (x_ : Nat × Int) => k = a0.length - x_.1 ∧ forL B2_ (a0.drop x_.1) (x_.1 : Int) x_.2 = some O2_) (fun (x_ : Nat × Int) => [(0, (sl tInt a0)), (1, (intA x_.2)), (5, (intA (x_.1 : Int)))]) (fun (x_ : Nat × Int) => []) _ (0, k1) (WeakL.to 0 (Nat.le_of_ble_eq_true rfl) rfl rfl rfl rfl ⟨leR rfl, leR rfl, leR rfl, trivial⟩) ⟨rfl, L2_⟩ ?_
  rintro _ ⟨i_1, k1⟩ ⟨rfl, L2_⟩
  refine T_env (E' := [(0, (sl tInt a0)), (1, (intA k1)), (5, (intA (i_1 : Int)))]) ⟨rfl, rfl, rfl, trivial⟩ ?_
  refine T_st (σ' := []) rfl ?_
  refine T_fact (len_sl (T := tInt) (.tmp 0) rfl) (fun hl2 => ?_)
  refine T_seq ?_
  refine T_seq ?_
  refine T_region ?_
  refine TO_cons rfl (TOp_pure (pur_move rfl) rfl ?_)
  refine TO_cons rfl (TOp_pure (pur_move rfl) rfl ?_)
  refine TO_cons rfl (TOp_pure (pur_lenT (T := tInt) sl33 rfl rfl) rfl ?_)
  refine TO_cons rfl (TOp_pure (pur_lss rfl rfl rfl) rfl ?_)
  refine TO_nil ?_
  refine T_env (E' := [(0, (sl tInt a0)), (1, (intA k1)), (5, (intA (i_1 : Int))), (9, (boolA (decide ((i_1 : Int) < (a0.length : Int)))))]) ⟨rfl, rfl, rfl, rfl, trivial⟩ ?_
  refine T_cond (t := decide ((i_1 : Int) < (a0.length : Int))) rfl (fun d2 => ?_) (fun d2 => ?_)
  · replace d2 := of_decide_eq_true d2
    obtain ⟨x_i_1, hx_i_1⟩ : ∃ v, (a0)[i_1]? = some v := ⟨_, List.getElem?_eq_getElem (by omega)⟩
    obtain ⟨C2_, H, K2_⟩ := forL_step L2_ hx_i_1
    rw [hb2] at H
    refine T_skip ?_
    refine T_env (E' := [(0, (sl tInt a0)), (1, (intA k1)), (5, (intA (i_1 : Int)))]) ⟨rfl, rfl, rfl, trivial⟩ ?_
    refine T_seq ?_
    refine T_block ?_
    refine T_seq ?_
    refine T_seq ?_
    refine T_region ?_
    refine TO_cons rfl (TOp_pure (pur_move rfl) rfl ?_)
    refine TO_cons rfl (TOp_pure (pur_move rfl) rfl ?_)
    refine TO_cons rfl (TOp_pure (pur_ixT (T := tInt) sl33 rfl rfl rfl hx_i_1 rfl) rfl ?_)
    refine TO_cons rfl (TOp_pure (pur_ldT (T := tInt) (i := i_1) (off := 0) rfl one3 rfl rfl hx_i_1 rfl) rfl ?_)
    refine TO_cons rfl (TOp_pure (pur_move rfl) rfl ?_)
    refine TO_cons rfl (TOp_pure (pur_neq rfl rfl rfl) rfl ?_)
    refine TO_nil ?_
    refine T_env (E' := [(0, (sl tInt a0)), (1, (intA k1)), (5, (intA (i_1 : Int))), (17, (boolA (decide (x_i_1 ≠ k1))))]) ⟨rfl, rfl, rfl, rfl, trivial⟩ ?_
    refine T_cond (t := decide (x_i_1 ≠ k1)) rfl (fun c_3 => ?_) (fun c_3 => ?_)
    · replace H := cond_t c_3 H
      refine T_seq ?_
      refine T_region ?_
      refine TO_cons rfl (TOp_pure (pur_assign rfl) rfl ?_)
      refine TO_nil ?_
      refine T_env (E' := [(4, (intA (-1)))]) ⟨rfl, trivial⟩ ?_
      refine T_ret ?_
      refine then_ret ?_
      refine block_ret ?_
      refine then_ret ?_
      refine then_ret ?_
      refine block_ret ?_
      refine then_ret ?_
      obtain rfl := some_inj H
      obtain rfl := some_inj K2_
      replace H := onS_r N2_
      obtain rfl := some_inj H
      refine end_ret (.tmp .nil) rfl rfl ⟨?_, rfl⟩
      rfl
    · replace H := cond_f c_3 H
      refine T_skip ?_
      refine T_env (E' := [(0, (sl tInt a0)), (1, (intA k1)), (5, (intA (i_1 : Int)))]) ⟨rfl, rfl, rfl, trivial⟩ ?_
      refine T_region ?_
      refine TO_cons rfl (TOp_pure (pur_move rfl) rfl ?_)
      refine TO_cons rfl (TOp_pure (pur_wadd rfl rfl rfl) rfl ?_)
      refine TO_cons rfl (TOp_pure (pur_assign rfl) rfl ?_)
      refine TO_nil ?_
      refine T_env (E' := [(0, (sl tInt a0)), (1, (intA (w64 (k1 + 1)))), (5, (intA (i_1 : Int)))]) ⟨rfl, rfl, rfl, trivial⟩ ?_
      refine T_region ?_
      refine TO_cons rfl (TOp_pure (pur_move rfl) rfl ?_)
      refine TO_cons rfl (TOp_pure (pur_add rfl rfl rfl (fits64 (by omega) (by omega))) rfl ?_)
      refine TO_cons rfl (TOp_pure (pur_assign rfl) rfl ?_)
      refine TO_nil ?_
      obtain rfl := some_inj H
      exact again (a0.length - (i_1 + 1)) (i_1 + 1, (w64 (k1 + 1))) (by omega) (WeakL.to 0 (Nat.le_of_ble_eq_true rfl) rfl rfl rfl rfl ⟨leR rfl, leR rfl, leR rfl, trivial⟩) ⟨rfl, K2_⟩
  · replace d2 := of_decide_eq_false d2
    obtain rfl := forL_end L2_ (by omega)
    refine T_exit ?_
    refine then_exit ?_
    refine then_exit ?_
    refine block_exit ?_
    replace H := onS_l N2_
    refine T_env (E' := [(1, (intA k1))]) ⟨rfl, trivial⟩ ?_
    refine T_seq ?_
    refine T_region ?_
    refine TO_cons rfl (TOp_pure (pur_move rfl) rfl ?_)
    refine TO_cons rfl (TOp_pure (pur_assign rfl) rfl ?_)
    refine TO_nil ?_
    refine T_env (E' := [(4, (intA k1))]) ⟨rfl, trivial⟩ ?_
    refine T_ret ?_
    obtain rfl := some_inj H
    refine end_ret (.tmp .nil) rfl rfl ⟨?_, rfl⟩
    rfl

set_option maxHeartbeats 1000000 in
/-- laws.heldIntSS -/
theorem m_laws_heldIntSS_ok (a0 : (List (List Int))) (k1 : Int) (r : Int) (H : m_laws_heldIntSS a0 k1 = some r) : FnV prg 20 [(sl (tSl tInt) a0), (intA k1)] (intA r) := by
  unfold m_laws_heldIntSS at H
  refine fnV_of_T Try.func20 rfl rfl (Nat.le_of_ble_eq_true rfl) ?_
  refine T_env (E' := [(0, (sl (tSl tInt) a0)), (1, (intA k1))]) ⟨rfl, rfl, trivial⟩ ?_
  refine T_seq ?_
  refine T_region ?_
  refine TO_cons rfl (TOp_pure (pur_assign rfl) rfl ?_)
  refine TO_nil ?_
  refine T_env (E' := [(0, (sl (tSl tInt) a0)), (1, (intA k1))]) ⟨rfl, rfl, trivial⟩ ?_
  refine T_seq ?_
  refine T_seq ?_
  refine T_region ?_
  refine TO_cons rfl (TOp_pure (pur_assign rfl) rfl ?_)
  refine TO_nil ?_
  refine T_env (E' := [(0, (sl (tSl tInt) a0)), (1, (intA k1)), (5, (intA 0))]) ⟨rfl, rfl, rfl, trivial⟩ ?_
  obtain ⟨O2_, L2_, N2_⟩ := bind_inv H
  clear H
  obtain ⟨B2_, hb2, L2_⟩ := gen_forL L2_
  refine T_block ?_
  refine T_loopX (fun k => fun (x_ : Nat × Int) => k = a0.length - x_.1 ∧ forL B2_ (a0.drop x_.1) (x_.1 : Int) x_.2 = some O2_) (fun (x_ : Nat × Int) => [(0, (sl (tSl tInt) a0)), (1, (intA x_.2)), (5, (intA (x_.1 : Int)))]) (fun (x_ : Nat × Int) => []) _ (0, k1) (WeakL.to 0 (Nat.le_of_ble_eq_true rfl) rfl rfl rfl rfl ⟨leR rfl, leR rfl, leR rfl, trivial⟩) ⟨rfl, L2_⟩ ?_
  rintro _ ⟨i_1, k1⟩ ⟨rfl, L2_⟩
  refine T_env (E' := [(0, (sl (tSl tInt) a0)), (1, (intA k1)), (5, (intA (i_1 : Int)))]) ⟨rfl, rfl, rfl, trivial⟩ ?_
  refine T_st (σ' := []) rfl ?_
  refine T_fact (len_sl (T := (tSl tInt)) (.tmp 0) rfl) (fun hl2 => ?_)
  refine T_seq ?_
  refine T_seq ?_
  refine T_region ?_
  refine TO_cons rfl (TOp_pure (pur_move rfl) rfl ?_)
  refine TO_cons rfl (TOp_pure (pur_move rfl) rfl ?_)
  refine TO_cons rfl (TOp_pure (pur_lenT (T := (tSl tInt)) sl22 rfl rfl) rfl ?_)
  refine TO_cons rfl (TOp_pure (pur_lss rfl rfl rfl) rfl ?_)
  refine TO_nil ?_
  refine T_env (E' := [(0, (sl (tSl tInt) a0)), (1, (intA k1)), (5, (intA (i_1 : Int))), (9, (boolA (decide ((i_1 : Int) < (a0.length : Int)))))]) ⟨rfl, rfl, rfl, rfl, trivial⟩ ?_
  refine T_cond (t := decide ((i_1 : Int) < (a0.length : Int))) rfl (fun d2 => ?_) (fun d2 => ?_)
  · replace d2 := of_decide_eq_true d2
    obtain ⟨x_i_1, hx_i_1⟩ : ∃ v, (a0)[i_1]? = some v := ⟨_, List.getElem?_eq_getElem (by omega)⟩
    obtain ⟨C2_, H, K2_⟩ := forL_step L2_ hx_i_1
    rw [hb2] at H
    refine T_skip ?_
    refine T_env (E' := [(0, (sl (tSl tInt) a0)), (1, (intA k1)), (5, (intA (i_1 : Int)))]) ⟨rfl, rfl, rfl, trivial⟩ ?_
    refine T_seq ?_
    refine T_block ?_
    refine T_seq ?_
    refine T_region ?_
    refine TO_cons rfl (TOp_pure (pur_move rfl) rfl ?_)
    refine TO_cons rfl (TOp_pure (pur_move rfl) rfl ?_)
    refine TO_cons rfl (TOp_pure (pur_ixT (T := (tSl tInt)) sl22 rfl rfl rfl hx_i_1 rfl) rfl ?_)
    refine TO_cons rfl (TOp_pure (pur_ldT (T := (tSl tInt)) (i := i_1) (off := 0) rfl one33 rfl rfl hx_i_1 rfl) rfl ?_)
    refine TO_cons rfl (TOp_pure (pur_move rfl) rfl ?_)
    obtain ⟨r_3, h_4, H⟩ := bind_inv H
    refine TO_cons rfl (TOp_callV (call_static ent52 rfl) (m_laws_heldIntS_ok _ _ _ h_4) rfl rfl rfl ?_)
    refine TO_cons rfl (TOp_pure (pur_assign rfl) rfl ?_)
    refine TO_nil ?_
    refine T_env (E' := [(0, (sl (tSl tInt) a0)), (1, (intA r_3)), (5, (intA (i_1 : Int)))]) ⟨rfl, rfl, rfl, trivial⟩ ?_
    refine T_seq ?_
    refine T_region ?_
    refine TO_cons rfl (TOp_pure (pur_move rfl) rfl ?_)
    refine TO_cons rfl (TOp_pure (pur_lss rfl rfl rfl) rfl ?_)
    refine TO_nil ?_
    refine T_env (E' := [(0, (sl (tSl tInt) a0)), (1, (intA r_3)), (5, (intA (i_1 : Int))), (19, (boolA (decide (r_3 < 0))))]) ⟨rfl, rfl, rfl, rfl, trivial⟩ ?_
    refine T_cond (t := decide (r_3 < 0)) rfl (fun c_5 => ?_) (fun c_5 => ?_)
    · replace H := cond_t c_5 H
      refine T_seq ?_
      refine T_region ?_
      refine TO_cons rfl (TOp_pure (pur_assign rfl) rfl ?_)
      refine TO_nil ?_
      refine T_env (E' := [(4, (intA (-1)))]) ⟨rfl, trivial⟩ ?_
      refine T_ret ?_
      refine block_ret ?_
      refine then_ret ?_
      refine then_ret ?_
      refine block_ret ?_
      refine then_ret ?_
      obtain rfl := some_inj H
      obtain rfl := some_inj K2_
      replace H := onS_r N2_
      obtain rfl := some_inj H
      refine end_ret (.tmp .nil) rfl rfl ⟨?_, rfl⟩
      rfl
    · replace H := cond_f c_5 H
      refine T_skip ?_
      refine T_env (E' := [(0, (sl (tSl tInt) a0)), (1, (intA r_3)), (5, (intA (i_1 : Int)))]) ⟨rfl, rfl, rfl, trivial⟩ ?_
      refine T_region ?_
      refine TO_cons rfl (TOp_pure (pur_move rfl) rfl ?_)
      refine TO_cons rfl (TOp_pure (pur_add rfl rfl rfl (fits64 (by omega) (by omega))) rfl ?_)
      refine TO_cons rfl (TOp_pure (pur_assign rfl) rfl ?_)
      refine TO_nil ?_
      obtain rfl := some_inj H
      exact again (a0.length - (i_1 + 1)) (i_1 + 1, r_3) (by omega) (WeakL.to 0 (Nat.le_of_ble_eq_true rfl) rfl rfl rfl rfl ⟨leR rfl, leR rfl, leR rfl, trivial⟩) ⟨rfl, K2_⟩
  · replace d2 := of_decide_eq_false d2
    obtain rfl := forL_end L2_ (by omega)
    refine T_exit ?_
    refine then_exit ?_
    refine then_exit ?_
    refine block_exit ?_
    replace H := onS_l N2_
    refine T_env (E' := [(1, (intA k1))]) ⟨rfl, trivial⟩ ?_
    refine T_seq ?_
    refine T_region ?_
    refine TO_cons rfl (TOp_pure (pur_move rfl) rfl ?_)
    refine TO_cons rfl (TOp_pure (pur_assign rfl) rfl ?_)
    refine TO_nil ?_
    refine T_env (E' := [(4, (intA k1))]) ⟨rfl, trivial⟩ ?_
    refine T_ret ?_
    obtain rfl := some_inj H
    refine end_ret (.tmp .nil) rfl rfl ⟨?_, rfl⟩
    rfl
end Go.Proofs.Ytlcpdlngbofgcaa

/- Walks. -/
import Derived.Test.YtlcpdlngbofgcaaM1
import Derived.Test.YtlcpdlngbofgcaaM2
set_option linter.unusedVariables false
set_option linter.unusedSimpArgs false
set_option maxRecDepth 4000
namespace Go.Proofs.Ytlcpdlngbofgcaa
open Go Go.Proofs Go.Sep
set_option maxHeartbeats 1000000 in
/-- impl.compare -/
theorem m_impl_compare_ok (a0 : Int) (b1 : Int) (r : Int) (H : m_impl_compare a0 b1 = some r) : FnV prg 132 [(intA a0), (intA b1)] (intA r) := by
  unfold m_impl_compare at H
  refine fnV_of_T Try.func132 rfl rfl (Nat.le_of_ble_eq_true rfl) ?_
  refine T_env (E' := [(0, (intA a0)), (1, (intA b1))]) ⟨rfl, rfl, trivial⟩ ?_
  refine T_seq ?_
  refine T_region ?_
  refine TO_cons rfl (TOp_pure (pur_assign rfl) rfl ?_)
  refine TO_nil ?_
  refine T_env (E' := [(0, (intA a0)), (1, (intA b1))]) ⟨rfl, rfl, trivial⟩ ?_
  refine T_seq ?_
  refine T_block ?_
  refine T_seq ?_
  refine T_region ?_
  refine TO_cons rfl (TOp_pure (pur_move rfl) rfl ?_)
  refine TO_cons rfl (TOp_pure (pur_move rfl) rfl ?_)
  refine TO_cons rfl (TOp_pure (pur_lss rfl rfl rfl) rfl ?_)
  refine TO_cons rfl (TOp_pure (pur_assign rfl) rfl ?_)
  refine TO_nil ?_
  refine T_env (E' := [(0, (intA a0)), (1, (intA b1)), (5, (boolA (decide (a0 < b1))))]) ⟨rfl, rfl, rfl, trivial⟩ ?_
  refine T_cond (t := decide (a0 < b1)) rfl (fun c_1 => ?_) (fun c_1 => ?_)
  · replace H := cond_t c_1 H
    refine T_seq ?_
    refine T_region ?_
    refine TO_cons rfl (TOp_pure (pur_assign rfl) rfl ?_)
    refine TO_nil ?_
    refine T_env (E' := [(4, (intA (-1)))]) ⟨rfl, trivial⟩ ?_
    refine T_ret ?_
    refine block_ret ?_
    refine then_ret ?_
    obtain rfl := some_inj H
    refine end_ret (.tmp .nil) rfl rfl ⟨?_, rfl⟩
    rfl
  · replace H := cond_f c_1 H
    refine T_seq ?_
    refine T_region ?_
    refine TO_cons rfl (TOp_pure (pur_move rfl) rfl ?_)
    refine TO_cons rfl (TOp_pure (pur_move rfl) rfl ?_)
    refine TO_cons rfl (TOp_pure (pur_gtr rfl rfl rfl) rfl ?_)
    refine TO_cons rfl (TOp_pure (pur_assign rfl) rfl ?_)
    refine TO_nil ?_
    refine T_env (E' := [(9, (boolA (decide (b1 < a0))))]) ⟨rfl, trivial⟩ ?_
    refine T_cond (t := decide (b1 < a0)) rfl (fun c_2 => ?_) (fun c_2 => ?_)
    · replace H := cond_t c_2 H
      refine T_seq ?_
      refine T_region ?_
      refine TO_cons rfl (TOp_pure (pur_assign rfl) rfl ?_)
      refine TO_nil ?_
      refine T_env (E' := [(4, (intA 1))]) ⟨rfl, trivial⟩ ?_
      refine T_ret ?_
      refine block_ret ?_
      refine then_ret ?_
      obtain rfl := some_inj H
      refine end_ret (.tmp .nil) rfl rfl ⟨?_, rfl⟩
      rfl
    · replace H := cond_f c_2 H
      refine T_skip ?_
      refine T_env (E' := []) trivial ?_
      refine T_seq ?_
      refine T_region ?_
      refine TO_cons rfl (TOp_pure (pur_assign rfl) rfl ?_)
      refine TO_nil ?_
      refine T_env (E' := [(4, (intA 0))]) ⟨rfl, trivial⟩ ?_
      refine T_ret ?_
      obtain rfl := some_inj H
      refine end_ret (.tmp .nil) rfl rfl ⟨?_, rfl⟩
      rfl

set_option maxHeartbeats 1000000 in
/-- cmp.isNaN[int] -/
theorem m_cmp_isNaN_int_ok (x0 : Int) (r : Bool) (H : m_cmp_isNaN_int x0 = some r) : FnV prg 157 [(intA x0)] (boolA r) := by
  unfold m_cmp_isNaN_int at H
  refine fnV_of_T Try.func157 rfl rfl (Nat.le_of_ble_eq_true rfl) ?_
  refine T_env (E' := [(0, (intA x0))]) ⟨rfl, trivial⟩ ?_
  refine T_seq ?_
  refine T_region ?_
  refine TO_cons rfl (TOp_pure (pur_assign rfl) rfl ?_)
  refine TO_nil ?_
  refine T_env (E' := [(0, (intA x0))]) ⟨rfl, trivial⟩ ?_
  refine T_seq ?_
  refine T_region ?_
  refine TO_cons rfl (TOp_pure (pur_move rfl) rfl ?_)
  refine TO_cons rfl (TOp_pure (pur_move rfl) rfl ?_)
  refine TO_cons rfl (TOp_pure (pur_neq rfl rfl rfl) rfl ?_)
  refine TO_cons rfl (TOp_pure (pur_assign rfl) rfl ?_)
  refine TO_nil ?_
  refine T_env (E' := [(2, (boolA (decide (x0 ≠ x0))))]) ⟨rfl, trivial⟩ ?_
  refine T_ret ?_
  obtain rfl := some_inj H
  refine end_ret (.tmp .nil) rfl rfl ⟨?_, rfl⟩
  rfl

set_option maxHeartbeats 1000000 in
/-- cmp.Compare[int] -/
theorem m_cmp_Compare_int_ok (x0 : Int) (y1 : Int) (r : Int) (H : m_cmp_Compare_int x0 y1 = some r) : FnV prg 151 [(intA x0), (intA y1)] (intA r) := by
  unfold m_cmp_Compare_int at H
  refine fnV_of_T Try.func151 rfl rfl (Nat.le_of_ble_eq_true rfl) ?_
  refine T_env (E' := [(0, (intA x0)), (1, (intA y1))]) ⟨rfl, rfl, trivial⟩ ?_
  refine T_seq ?_
  refine T_region ?_
  refine TO_cons rfl (TOp_pure (pur_assign rfl) rfl ?_)
  refine TO_nil ?_
  refine T_env (E' := [(0, (intA x0)), (1, (intA y1))]) ⟨rfl, rfl, trivial⟩ ?_
  refine T_seq ?_
  refine T_region ?_
  refine TO_cons rfl (TOp_pure (pur_move rfl) rfl ?_)
  obtain ⟨r_1, h_2, H⟩ := bind_inv H
  refine TO_cons rfl (TOp_callV (call_static ent157 rfl) (m_cmp_isNaN_int_ok _ _ h_2) rfl rfl rfl ?_)
  refine TO_cons rfl (TOp_pure (pur_assign rfl) rfl ?_)
  refine TO_nil ?_
  refine T_env (E' := [(0, (intA x0)), (1, (intA y1)), (5, (boolA r_1))]) ⟨rfl, rfl, rfl, trivial⟩ ?_
  refine T_seq ?_
  refine T_region ?_
  refine TO_cons rfl (TOp_pure (pur_move rfl) rfl ?_)
  obtain ⟨r_3, h_4, H⟩ := bind_inv H
  refine TO_cons rfl (TOp_callV (call_static ent157 rfl) (m_cmp_isNaN_int_ok _ _ h_4) rfl rfl rfl ?_)
  refine TO_cons rfl (TOp_pure (pur_assign rfl) rfl ?_)
  refine TO_nil ?_
  refine T_env (E' := [(0, (intA x0)), (1, (intA y1)), (5, (boolA r_1)), (6, (boolA r_3))]) ⟨rfl, rfl, rfl, rfl, trivial⟩ ?_
  refine T_seq ?_
  refine T_seq ?_
  refine T_region ?_
  refine TO_cons rfl (TOp_pure (pur_move rfl) rfl ?_)
  refine TO_nil ?_
  refine T_env (E' := [(0, (intA x0)), (1, (intA y1)), (6, (boolA r_3)), (11, (boolA r_1))]) ⟨rfl, rfl, rfl, rfl, trivial⟩ ?_
  refine T_cond (t := r_1) rfl (fun c_5 => ?_) (fun c_5 => ?_)
  · replace H := cond_t c_5 H
    refine T_seq ?_
    refine T_seq ?_
    refine T_region ?_
    refine TO_cons rfl (TOp_pure (pur_move rfl) rfl ?_)
    refine TO_nil ?_
    refine T_env (E' := [(12, (boolA r_3))]) ⟨rfl, trivial⟩ ?_
    refine T_cond (t := r_3) rfl (fun c_6 => ?_) (fun c_6 => ?_)
    · replace H := cond_t c_6 H
      refine T_seq ?_
      refine T_region ?_
      refine TO_cons rfl (TOp_pure (pur_assign rfl) rfl ?_)
      refine TO_nil ?_
      refine T_env (E' := [(4, (intA 0))]) ⟨rfl, trivial⟩ ?_
      refine T_ret ?_
      refine then_ret ?_
      refine then_ret ?_
      obtain rfl := some_inj H
      refine end_ret (.tmp .nil) rfl rfl ⟨?_, rfl⟩
      rfl
    · replace H := cond_f c_6 H
      refine T_skip ?_
      refine T_env (E' := []) trivial ?_
      refine T_seq ?_
      refine T_region ?_
      refine TO_cons rfl (TOp_pure (pur_assign rfl) rfl ?_)
      refine TO_nil ?_
      refine T_env (E' := [(4, (intA (-1)))]) ⟨rfl, trivial⟩ ?_
      refine T_ret ?_
      refine then_ret ?_
      obtain rfl := some_inj H
      refine end_ret (.tmp .nil) rfl rfl ⟨?_, rfl⟩
      rfl
  · replace H := cond_f c_5 H
    refine T_skip ?_
    refine T_env (E' := [(0, (intA x0)), (1, (intA y1)), (6, (boolA r_3))]) ⟨rfl, rfl, rfl, trivial⟩ ?_
    refine T_seq ?_
    refine T_seq ?_
    refine T_region ?_
    refine TO_cons rfl (TOp_pure (pur_move rfl) rfl ?_)
    refine TO_nil ?_
    refine T_env (E' := [(0, (intA x0)), (1, (intA y1)), (13, (boolA r_3))]) ⟨rfl, rfl, rfl, trivial⟩ ?_
    refine T_cond (t := r_3) rfl (fun c_7 => ?_) (fun c_7 => ?_)
    · replace H := cond_t c_7 H
      refine T_seq ?_
      refine T_region ?_
      refine TO_cons rfl (TOp_pure (pur_assign rfl) rfl ?_)
      refine TO_nil ?_
      refine T_env (E' := [(4, (intA 1))]) ⟨rfl, trivial⟩ ?_
      refine T_ret ?_
      refine then_ret ?_
      obtain rfl := some_inj H
      refine end_ret (.tmp .nil) rfl rfl ⟨?_, rfl⟩
      rfl
    · replace H := cond_f c_7 H
      refine T_skip ?_
      refine T_env (E' := [(0, (intA x0)), (1, (intA y1))]) ⟨rfl, rfl, trivial⟩ ?_
      refine T_seq ?_
      refine T_seq ?_
      refine T_region ?_
      refine TO_cons rfl (TOp_pure (pur_move rfl) rfl ?_)
      refine TO_cons rfl (TOp_pure (pur_move rfl) rfl ?_)
      refine TO_cons rfl (TOp_pure (pur_lss rfl rfl rfl) rfl ?_)
      refine TO_nil ?_
      refine T_env (E' := [(0, (intA x0)), (1, (intA y1)), (16, (boolA (decide (x0 < y1))))]) ⟨rfl, rfl, rfl, trivial⟩ ?_
      refine T_cond (t := decide (x0 < y1)) rfl (fun c_8 => ?_) (fun c_8 => ?_)
      · replace H := cond_t c_8 H
        refine T_seq ?_
        refine T_region ?_
        refine TO_cons rfl (TOp_pure (pur_assign rfl) rfl ?_)
        refine TO_nil ?_
        refine T_env (E' := [(4, (intA (-1)))]) ⟨rfl, trivial⟩ ?_
        refine T_ret ?_
        refine then_ret ?_
        obtain rfl := some_inj H
        refine end_ret (.tmp .nil) rfl rfl ⟨?_, rfl⟩
        rfl
      · replace H := cond_f c_8 H
        refine T_skip ?_
        refine T_env (E' := [(0, (intA x0)), (1, (intA y1))]) ⟨rfl, rfl, trivial⟩ ?_
        refine T_seq ?_
        refine T_seq ?_
        refine T_region ?_
        refine TO_cons rfl (TOp_pure (pur_move rfl) rfl ?_)
        refine TO_cons rfl (TOp_pure (pur_move rfl) rfl ?_)
        refine TO_cons rfl (TOp_pure (pur_gtr rfl rfl rfl) rfl ?_)
        refine TO_nil ?_
        refine T_env (E' := [(19, (boolA (decide (y1 < x0))))]) ⟨rfl, trivial⟩ ?_
        refine T_cond (t := decide (y1 < x0)) rfl (fun c_9 => ?_) (fun c_9 => ?_)
        · replace H := cond_t c_9 H
          refine T_seq ?_
          refine T_region ?_
          refine TO_cons rfl (TOp_pure (pur_assign rfl) rfl ?_)
          refine TO_nil ?_
          refine T_env (E' := [(4, (intA 1))]) ⟨rfl, trivial⟩ ?_
          refine T_ret ?_
          refine then_ret ?_
          obtain rfl := some_inj H
          refine end_ret (.tmp .nil) rfl rfl ⟨?_, rfl⟩
          rfl
        · replace H := cond_f c_9 H
          refine T_skip ?_
          refine T_env (E' := []) trivial ?_
          refine T_seq ?_
          refine T_region ?_
          refine TO_cons rfl (TOp_pure (pur_assign rfl) rfl ?_)
          refine TO_nil ?_
          refine T_env (E' := [(4, (intA 0))]) ⟨rfl, trivial⟩ ?_
          refine T_ret ?_
          obtain rfl := some_inj H
          refine end_ret (.tmp .nil) rfl rfl ⟨?_, rfl⟩
          rfl

set_option maxHeartbeats 1000000 in
/-- slices.Compare[[]int,int] -/
theorem m_slices_Compare_Sint_int_ok (s10 : (List Int)) (s21 : (List Int)) (r : Int) (H : m_slices_Compare_Sint_int s10 s21 = some r) : FnV prg 133 [(sl tInt s10), (sl tInt s21)] (intA r) := by
  unfold m_slices_Compare_Sint_int at H
  refine fnV_of_T Try.func133 rfl rfl (Nat.le_of_ble_eq_true rfl) ?_
  refine T_env (E' := [(0, (sl tInt s10)), (1, (sl tInt s21))]) ⟨rfl, rfl, trivial⟩ ?_
  refine T_seq ?_
  refine T_region ?_
  refine TO_cons rfl (TOp_pure (pur_assign rfl) rfl ?_)
  refine TO_nil ?_
  refine T_env (E' := [(0, (sl tInt s10)), (1, (sl tInt s21))]) ⟨rfl, rfl, trivial⟩ ?_
  refine T_seq ?_
  refine T_seq ?_
  refine T_region ?_
  refine TO_cons rfl (TOp_pure (pur_move rfl) rfl ?_)
  refine TO_cons rfl (TOp_pure (pur_lenT (T := tInt) sl33 rfl rfl) rfl ?_)
  refine TO_cons rfl (TOp_pure (pur_move rfl) rfl ?_)
  refine TO_nil ?_
  refine T_env (E' := [(0, (sl tInt s10)), (1, (sl tInt s21)), (9, (sl tInt s10)), (10, (intA (s10.length : Int))), (11, (intA 0))]) ⟨rfl, rfl, rfl, rfl, rfl, trivial⟩ ?_
  obtain ⟨O2_, L2_, N2_⟩ := bind_inv H
  clear H
  obtain ⟨B2_, hb2, L2_⟩ := gen_forL L2_
  refine T_block ?_
  refine T_loopX (fun k => fun (t_1 : Nat) => k = s10.length - t_1 ∧ forL B2_ (s10.drop t_1) (t_1 : Int) () = some O2_) (fun (t_1 : Nat) => [(0, (sl tInt s10)), (1, (sl tInt s21)), (9, (sl tInt s10)), (10, (intA (s10.length : Int))), (11, (intA (t_1 : Int)))]) (fun (t_1 : Nat) => []) _ (0 : Nat) (WeakL.to 0 (Nat.le_of_ble_eq_true rfl) rfl rfl rfl rfl ⟨leR rfl, leR rfl, leR rfl, leR rfl, leR rfl, trivial⟩) ⟨rfl, L2_⟩ ?_
  rintro _ t_1 ⟨rfl, L2_⟩
  refine T_env (E' := [(0, (sl tInt s10)), (1, (sl tInt s21)), (9, (sl tInt s10)), (10, (intA (s10.length : Int))), (11, (intA (t_1 : Int)))]) ⟨rfl, rfl, rfl, rfl, rfl, trivial⟩ ?_
  refine T_st (σ' := []) rfl ?_
  refine T_fact (len_sl (T := tInt) (.tmp 0) rfl) (fun hl2 => ?_)
  refine T_seq ?_
  refine T_region ?_
  refine TO_cons rfl (TOp_pure (pur_lss rfl rfl rfl) rfl ?_)
  refine TO_nil ?_
  refine T_env (E' := [(0, (sl tInt s10)), (1, (sl tInt s21)), (9, (sl tInt s10)), (10, (intA (s10.length : Int))), (11, (intA (t_1 : Int))), (12, (boolA (decide ((t_1 : Int) < (s10.length : Int)))))]) ⟨rfl, rfl, rfl, rfl, rfl, rfl, trivial⟩ ?_
  refine T_seq ?_
  refine T_cond (t := decide ((t_1 : Int) < (s10.length : Int))) rfl (fun d2 => ?_) (fun d2 => ?_)
  · replace d2 := of_decide_eq_true d2
    obtain ⟨x_t_1, hx_t_1⟩ : ∃ v, (s10)[t_1]? = some v := ⟨_, List.getElem?_eq_getElem (by omega)⟩
    obtain ⟨C2_, H, K2_⟩ := forL_step L2_ hx_t_1
    rw [hb2] at H
    refine T_skip ?_
    refine T_env (E' := [(0, (sl tInt s10)), (1, (sl tInt s21)), (9, (sl tInt s10)), (10, (intA (s10.length : Int))), (11, (intA (t_1 : Int)))]) ⟨rfl, rfl, rfl, rfl, rfl, trivial⟩ ?_
    refine T_seq ?_
    refine T_block ?_
    refine T_seq ?_
    refine T_region ?_
    refine TO_cons rfl (TOp_pure (pur_move rfl) rfl ?_)
    refine TO_cons rfl (TOp_pure (pur_ixT (T := tInt) sl33 rfl rfl rfl hx_t_1 rfl) rfl ?_)
    refine TO_cons rfl (TOp_pure (pur_ldT (T := tInt) (i := t_1) (off := 0) rfl one3 rfl rfl hx_t_1 rfl) rfl ?_)
    refine TO_cons rfl (TOp_pure (pur_assign rfl) rfl ?_)
    refine TO_cons rfl (TOp_pure (pur_assign rfl) rfl ?_)
    refine TO_nil ?_
    refine T_env (E' := [(0, (sl tInt s10)), (1, (sl tInt s21)), (5, (intA (t_1 : Int))), (6, (intA x_t_1)), (9, (sl tInt s10)), (10, (intA (s10.length : Int))), (11, (intA (t_1 : Int)))]) ⟨rfl, rfl, rfl, rfl, rfl, rfl, rfl, trivial⟩ ?_
    refine T_seq ?_
    refine T_seq ?_
    refine T_region ?_
    refine TO_cons rfl (TOp_pure (pur_move rfl) rfl ?_)
    refine TO_cons rfl (TOp_pure (pur_move rfl) rfl ?_)
    refine TO_cons rfl (TOp_pure (pur_lenT (T := tInt) sl33 rfl rfl) rfl ?_)
    refine TO_cons rfl (TOp_pure (pur_geq rfl rfl rfl) rfl ?_)
    refine TO_nil ?_
    refine T_env (E' := [(0, (sl tInt s10)), (1, (sl tInt s21)), (5, (intA (t_1 : Int))), (6, (intA x_t_1)), (9, (sl tInt s10)), (10, (intA (s10.length : Int))), (11, (intA (t_1 : Int))), (19, (boolA (decide ((s21.length : Int) ≤ (t_1 : Int)))))]) ⟨rfl, rfl, rfl, rfl, rfl, rfl, rfl, rfl, trivial⟩ ?_
    refine T_cond (t := decide ((s21.length : Int) ≤ (t_1 : Int))) rfl (fun c_3 => ?_) (fun c_3 => ?_)
    · replace H := cond_t c_3 H
      refine T_seq ?_
      refine T_region ?_
      refine TO_cons rfl (TOp_pure (pur_assign rfl) rfl ?_)
      refine TO_nil ?_
      refine T_env (E' := [(4, (intA 1))]) ⟨rfl, trivial⟩ ?_
      refine T_ret ?_
      refine then_ret ?_
      refine block_ret ?_
      refine then_ret ?_
      refine then_ret ?_
      refine block_ret ?_
      refine then_ret ?_
      obtain rfl := some_inj H
      obtain rfl := some_inj K2_
      replace H := onS_r N2_
      obtain rfl := some_inj H
      refine end_ret (.tmp .nil) rfl rfl ⟨?_, rfl⟩
      rfl
    · replace H := cond_f c_3 H
      refine T_skip ?_
      refine T_env (E' := [(0, (sl tInt s10)), (1, (sl tInt s21)), (5, (intA (t_1 : Int))), (6, (intA x_t_1)), (9, (sl tInt s10)), (10, (intA (s10.length : Int))), (11, (intA (t_1 : Int)))]) ⟨rfl, rfl, rfl, rfl, rfl, rfl, rfl, trivial⟩ ?_
      refine T_seq ?_
      refine T_region ?_
      refine TO_cons rfl (TOp_pure (pur_move rfl) rfl ?_)
      refine TO_cons rfl (TOp_pure (pur_move rfl) rfl ?_)
      obtain ⟨v_4, h_5, H⟩ := bind_inv H
      obtain ⟨n_6, hz_7, hv_8⟩ := getI_inv h_5
      refine TO_cons rfl (TOp_pure (pur_ixT (T := tInt) sl33 rfl rfl hz_7 hv_8 rfl) rfl ?_)
      refine TO_cons rfl (TOp_pure (pur_ldT (T := tInt) (i := n_6) (off := 0) rfl one3 rfl rfl hv_8 rfl) rfl ?_)
      refine TO_cons rfl (TOp_pure (pur_assign rfl) rfl ?_)
      refine TO_nil ?_
      refine T_env (E' := [(0, (sl tInt s10)), (1, (sl tInt s21)), (6, (intA x_t_1)), (7, (intA v_4)), (9, (sl tInt s10)), (10, (intA (s10.length : Int))), (11, (intA (t_1 : Int)))]) ⟨rfl, rfl, rfl, rfl, rfl, rfl, rfl, trivial⟩ ?_
      refine T_seq ?_
      refine T_region ?_
      refine TO_cons rfl (TOp_pure (pur_move rfl) rfl ?_)
      refine TO_cons rfl (TOp_pure (pur_move rfl) rfl ?_)
      obtain ⟨r_9, h_10, H⟩ := bind_inv H
      refine TO_cons rfl (TOp_callV (call_static ent151 rfl) (m_cmp_Compare_int_ok _ _ _ h_10) rfl rfl rfl ?_)
      refine TO_cons rfl (TOp_pure (pur_assign rfl) rfl ?_)
      refine TO_nil ?_
      refine T_env (E' := [(0, (sl tInt s10)), (1, (sl tInt s21)), (8, (intA r_9)), (9, (sl tInt s10)), (10, (intA (s10.length : Int))), (11, (intA (t_1 : Int)))]) ⟨rfl, rfl, rfl, rfl, rfl, rfl, trivial⟩ ?_
      refine T_seq ?_
      refine T_region ?_
      refine TO_cons rfl (TOp_pure (pur_move rfl) rfl ?_)
      refine TO_cons rfl (TOp_pure (pur_neq rfl rfl rfl) rfl ?_)
      refine TO_nil ?_
      refine T_env (E' := [(0, (sl tInt s10)), (1, (sl tInt s21)), (8, (intA r_9)), (9, (sl tInt s10)), (10, (intA (s10.length : Int))), (11, (intA (t_1 : Int))), (28, (boolA (decide (r_9 ≠ 0))))]) ⟨rfl, rfl, rfl, rfl, rfl, rfl, rfl, trivial⟩ ?_
      refine T_cond (t := decide (r_9 ≠ 0)) rfl (fun c_11 => ?_) (fun c_11 => ?_)
      · replace H := cond_t c_11 H
        refine T_seq ?_
        refine T_region ?_
        refine TO_cons rfl (TOp_pure (pur_move rfl) rfl ?_)
        refine TO_cons rfl (TOp_pure (pur_assign rfl) rfl ?_)
        refine TO_nil ?_
        refine T_env (E' := [(4, (intA r_9))]) ⟨rfl, trivial⟩ ?_
        refine T_ret ?_
        refine block_ret ?_
        refine then_ret ?_
        refine then_ret ?_
        refine block_ret ?_
        refine then_ret ?_
        obtain rfl := some_inj H
        obtain rfl := some_inj K2_
        replace H := onS_r N2_
        obtain rfl := some_inj H
        refine end_ret (.tmp .nil) rfl rfl ⟨?_, rfl⟩
        rfl
      · replace H := cond_f c_11 H
        refine T_skip ?_
        refine T_env (E' := [(0, (sl tInt s10)), (1, (sl tInt s21)), (9, (sl tInt s10)), (10, (intA (s10.length : Int))), (11, (intA (t_1 : Int)))]) ⟨rfl, rfl, rfl, rfl, rfl, trivial⟩ ?_
        refine T_region ?_
        refine TO_cons rfl (TOp_pure (pur_add rfl rfl rfl (fits64 (by omega) (by omega))) rfl ?_)
        refine TO_cons rfl (TOp_pure (pur_move rfl) rfl ?_)
        refine TO_nil ?_
        obtain rfl := some_inj H
        exact again (s10.length - (t_1 + 1)) (t_1 + 1) (by omega) (WeakL.to 0 (Nat.le_of_ble_eq_true rfl) rfl rfl rfl rfl ⟨leR rfl, leR rfl, leR rfl, leR rfl, leR rfl, trivial⟩) ⟨rfl, K2_⟩
  · replace d2 := of_decide_eq_false d2
    obtain rfl := forL_end L2_ (by omega)
    refine T_exit ?_
    refine then_exit ?_
    refine then_exit ?_
    refine block_exit ?_
    replace H := onS_l N2_
    refine T_env (E' := [(0, (sl tInt s10)), (1, (sl tInt s21))]) ⟨rfl, rfl, trivial⟩ ?_
    refine T_seq ?_
    refine T_seq ?_
    refine T_region ?_
    refine TO_cons rfl (TOp_pure (pur_move rfl) rfl ?_)
    refine TO_cons rfl (TOp_pure (pur_lenT (T := tInt) sl33 rfl rfl) rfl ?_)
    refine TO_cons rfl (TOp_pure (pur_move rfl) rfl ?_)
    refine TO_cons rfl (TOp_pure (pur_lenT (T := tInt) sl33 rfl rfl) rfl ?_)
    refine TO_cons rfl (TOp_pure (pur_lss rfl rfl rfl) rfl ?_)
    refine TO_nil ?_
    refine T_env (E' := [(35, (boolA (decide ((s10.length : Int) < (s21.length : Int)))))]) ⟨rfl, trivial⟩ ?_
    refine T_cond (t := decide ((s10.length : Int) < (s21.length : Int))) rfl (fun c_12 => ?_) (fun c_12 => ?_)
    · replace H := cond_t c_12 H
      refine T_seq ?_
      refine T_region ?_
      refine TO_cons rfl (TOp_pure (pur_assign rfl) rfl ?_)
      refine TO_nil ?_
      refine T_env (E' := [(4, (intA (-1)))]) ⟨rfl, trivial⟩ ?_
      refine T_ret ?_
      refine then_ret ?_
      obtain rfl := some_inj H
      refine end_ret (.tmp .nil) rfl rfl ⟨?_, rfl⟩
      rfl
    · replace H := cond_f c_12 H
      refine T_skip ?_
      refine T_env (E' := []) trivial ?_
      refine T_seq ?_
      refine T_region ?_
      refine TO_cons rfl (TOp_pure (pur_assign rfl) rfl ?_)
      refine TO_nil ?_
      refine T_env (E' := [(4, (intA 0))]) ⟨rfl, trivial⟩ ?_
      refine T_ret ?_
      obtain rfl := some_inj H
      refine end_ret (.tmp .nil) rfl rfl ⟨?_, rfl⟩
      rfl

set_option maxHeartbeats 1000000 in
/-- impl.CompareFacts -/
theorem m_impl_CompareFacts_ok (a0 : Fact) (b1 : Fact) (r : Int) (H : m_impl_CompareFacts a0 b1 = some r) : FnV prg 115 [(.g (tFact.enc a0)), (.g (tFact.enc b1))] (intA r) := by
  unfold m_impl_CompareFacts at H
  refine fnV_of_T Try.func115 rfl rfl (Nat.le_of_ble_eq_true rfl) ?_
  refine T_env (E' := [(0, (.g (tFact.enc a0))), (1, (.g (tFact.enc b1)))]) ⟨rfl, rfl, trivial⟩ ?_
  refine T_seq ?_
  refine T_region ?_
  refine TO_cons rfl (TOp_box rfl (boxAll rfl) rfl rfl ?_)
  refine TO_cons rfl (TOp_box rfl (boxAll rfl) rfl rfl ?_)
  refine TO_cons rfl (TOp_pure (pur_assign rfl) rfl ?_)
  refine TO_nil ?_
  refine T_env (E' := [(2, (.b 0 0)), (3, (.b 1 0))]) ⟨rfl, rfl, trivial⟩ ?_
  refine T_seq ?_
  refine T_seq ?_
  refine T_region ?_
  refine TO_cons rfl (TOp_pure (pur_fa_b fld60_0 rfl rfl) rfl ?_)
  refine TO_cons rfl (TOp_pure (pur_ld_b one3 rfl rfl rfl rfl) rfl ?_)
  refine TO_cons rfl (TOp_pure (pur_fa_b fld60_0 rfl rfl) rfl ?_)
  refine TO_cons rfl (TOp_pure (pur_ld_b one3 rfl rfl rfl rfl) rfl ?_)
  refine TO_cons rfl (TOp_pure (pur_neq rfl rfl rfl) rfl ?_)
  refine TO_nil ?_
  refine T_env (E' := [(2, (.b 0 0)), (3, (.b 1 0)), (9, (boolA (decide (a0.relation ≠ b1.relation))))]) ⟨rfl, rfl, rfl, trivial⟩ ?_
  refine T_cond (t := decide (a0.relation ≠ b1.relation)) rfl (fun c_1 => ?_) (fun c_1 => ?_)
  · replace H := cond_t c_1 H
    refine T_seq ?_
    refine T_region ?_
    refine TO_cons rfl (TOp_pure (pur_fa_b fld60_0 rfl rfl) rfl ?_)
    refine TO_cons rfl (TOp_pure (pur_ld_b one3 rfl rfl rfl rfl) rfl ?_)
    refine TO_cons rfl (TOp_pure (pur_fa_b fld60_0 rfl rfl) rfl ?_)
    refine TO_cons rfl (TOp_pure (pur_ld_b one3 rfl rfl rfl rfl) rfl ?_)
    obtain ⟨r_2, h_3, H⟩ := bind_inv H
    refine TO_cons rfl (TOp_callV (call_static ent132 rfl) (m_impl_compare_ok _ _ _ h_3) rfl rfl rfl ?_)
    refine TO_cons rfl (TOp_pure (pur_assign rfl) rfl ?_)
    refine TO_nil ?_
    refine T_env (E' := [(4, (intA r_2))]) ⟨rfl, trivial⟩ ?_
    refine T_ret ?_
    refine then_ret ?_
    obtain rfl := some_inj H
    refine end_ret (.tmp .nil) rfl rfl ⟨?_, rfl⟩
    rfl
  · replace H := cond_f c_1 H
    refine T_skip ?_
    refine T_env (E' := [(2, (.b 0 0)), (3, (.b 1 0))]) ⟨rfl, rfl, trivial⟩ ?_
    refine T_seq ?_
    refine T_region ?_
    refine TO_cons rfl (TOp_pure (pur_fa_b fld60_1 rfl rfl) rfl ?_)
    refine TO_cons rfl (TOp_pure (pur_ld_b one33 rfl rfl rfl rfl) rfl ?_)
    refine TO_cons rfl (TOp_pure (pur_fa_b fld60_1 rfl rfl) rfl ?_)
    refine TO_cons rfl (TOp_pure (pur_ld_b one33 rfl rfl rfl rfl) rfl ?_)
    obtain ⟨r_4, h_5, H⟩ := bind_inv H
    refine TO_cons rfl (TOp_callV (call_static ent133 rfl) (m_slices_Compare_Sint_int_ok _ _ _ h_5) rfl rfl rfl ?_)
    refine TO_cons rfl (TOp_pure (pur_assign rfl) rfl ?_)
    refine TO_nil ?_
    refine T_env (E' := [(4, (intA r_4))]) ⟨rfl, trivial⟩ ?_
    refine T_ret ?_
    obtain rfl := some_inj H
    refine end_ret (.tmp .nil) rfl rfl ⟨?_, rfl⟩
    rfl

set_option maxHeartbeats 1000000 in
/-- impl.IsValidDatabase -/
theorem m_impl_IsValidDatabase_ok (db0 : Database) (r : Bool) (H : m_impl_IsValidDatabase db0 = some r) : FnV prg 89 [(.g (tDatabase.enc db0))] (boolA r) := by
  unfold m_impl_IsValidDatabase at H
  refine fnV_of_T Try.func89 rfl rfl (Nat.le_of_ble_eq_true rfl) ?_
  refine T_env (E' := [(0, (.g (tDatabase.enc db0)))]) ⟨rfl, trivial⟩ ?_
  refine T_seq ?_
  refine T_region ?_
  refine TO_cons rfl (TOp_box rfl (boxAll rfl) rfl rfl ?_)
  refine TO_cons rfl (TOp_pure (pur_assign rfl) rfl ?_)
  refine TO_nil ?_
  refine T_env (E' := [(1, (.b 0 0))]) ⟨rfl, trivial⟩ ?_
  refine T_seq ?_
  obtain ⟨t14, J_1, H_2⟩ := bind_inv H
  refine T_cutX (fun x => t14 = x) (fun (t14 : Bool) => [(1, (.b 0 0)), (14, (boolA t14))]) (fun (t14 : Bool) => [.box [(sl tRelation db0.relations), (sl tFact db0.facts)]]) ?_ ?_
  · replace H := J_1
    refine T_region ?_
    refine TO_cons rfl (TOp_pure (pur_fa_b fld32_0 rfl rfl) rfl ?_)
    refine TO_cons rfl (TOp_pure (pur_ld_b one29 rfl rfl rfl rfl) rfl ?_)
    obtain ⟨r_3, h_4, H⟩ := bind_inv H
    refine TO_cons rfl (TOp_callV (call_static ent113 rfl) (m_impl_AreValidRelations_ok _ _ h_4) rfl rfl rfl ?_)
    refine TO_cons rfl (TOp_pure (pur_not rfl rfl) rfl ?_)
    refine TO_cons rfl (TOp_pure (pur_move rfl) rfl ?_)
    refine TO_split (t := (!r_3)) 9 rfl (fun g_5 => ?_) (fun g_5 => ?_)
    · replace H := cond_t g_5 H
      refine TO_off rfl rfl (by decide) rfl rfl rfl ?_
      refine TO_off rfl rfl (by decide) rfl rfl rfl ?_
      refine TO_off rfl rfl (by decide) rfl rfl rfl ?_
      refine TO_off rfl rfl (by decide) rfl rfl rfl ?_
      refine TO_cons rfl (TOp_pure (pur_pick (t := true) rfl rfl rfl) rfl ?_)
      refine TO_nil ?_
      exact joined true (WeakL.to 1 (Nat.le_of_ble_eq_true rfl) rfl rfl rfl rfl ⟨leR rfl, leR rfl, trivial⟩) (some_inj H).symm
    · replace H := cond_f g_5 H
      refine TO_on rfl rfl (by decide) rfl rfl (TOp_pure (pur_fa_b fld32_1 rfl rfl) rfl ?_)
      refine TO_on rfl rfl (by decide) rfl rfl (TOp_pure (pur_ld_b one30 rfl rfl rfl rfl) rfl ?_)
      refine TO_on rfl rfl (by decide) rfl rfl (TOp_pure (pur_lenT (T := tFact) sl30 rfl rfl) rfl ?_)
      refine TO_on rfl rfl (by decide) rfl rfl (TOp_pure (pur_gtr rfl rfl rfl) rfl ?_)
      refine TO_cons rfl (TOp_pure (pur_pick (t := false) rfl rfl rfl) rfl ?_)
      refine TO_nil ?_
      exact joined (decide (14 < (db0.facts.length : Int))) (WeakL.to 1 (Nat.le_of_ble_eq_true rfl) rfl rfl rfl rfl ⟨leR rfl, leR rfl, trivial⟩) (some_inj H).symm
  · rintro _ rfl
    replace H := H_2
    refine T_env (E' := [(1, (.b 0 0)), (14, (boolA t14))]) ⟨rfl, rfl, trivial⟩ ?_
    refine T_cond (t := t14) rfl (fun c_6 => ?_) (fun c_6 => ?_)
    · replace H := cond_t c_6 H
      refine T_seq ?_
      refine T_region ?_
      refine TO_cons rfl (TOp_pure (pur_assign rfl) rfl ?_)
      refine TO_nil ?_
      refine T_env (E' := [(2, (boolA false))]) ⟨rfl, trivial⟩ ?_
      refine T_ret ?_
      refine then_ret ?_
      obtain rfl := some_inj H
      refine end_ret (.tmp .nil) rfl rfl ⟨?_, rfl⟩
      rfl
    · replace H := cond_f c_6 H
      refine T_skip ?_
      refine T_env (E' := [(1, (.b 0 0))]) ⟨rfl, trivial⟩ ?_
      refine T_seq ?_
      refine T_seq ?_
      refine T_region ?_
      refine TO_cons rfl (TOp_pure (pur_fa_b fld32_1 rfl rfl) rfl ?_)
      refine TO_cons rfl (TOp_pure (pur_ld_b one30 rfl rfl rfl rfl) rfl ?_)
      refine TO_cons rfl (TOp_pure (pur_lenT (T := tFact) sl30 rfl rfl) rfl ?_)
      refine TO_cons rfl (TOp_pure (pur_move rfl) rfl ?_)
      refine TO_nil ?_
      refine T_env (E' := [(1, (.b 0 0)), (16, (sl tFact db0.facts)), (17, (intA (db0.facts.length : Int))), (18, (intA 0))]) ⟨rfl, rfl, rfl, rfl, trivial⟩ ?_
      obtain ⟨O8_, L8_, N8_⟩ := bind_inv H
      clear H
      obtain ⟨B8_, hb8, L8_⟩ := gen_forL L8_
      refine T_block ?_
      refine T_loopX (fun k => fun (t_7 : Nat) => k = db0.facts.length - t_7 ∧ forL B8_ (db0.facts.drop t_7) (t_7 : Int) () = some O8_) (fun (t_7 : Nat) => [(1, (.b 0 0)), (16, (sl tFact db0.facts)), (17, (intA (db0.facts.length : Int))), (18, (intA (t_7 : Int)))]) (fun (t_7 : Nat) => [.box [(sl tRelation db0.relations), (sl tFact db0.facts)]]) _ (0 : Nat) (WeakL.to 1 (Nat.le_of_ble_eq_true rfl) rfl rfl rfl rfl ⟨leR rfl, leR rfl, leR rfl, leR rfl, trivial⟩) ⟨rfl, L8_⟩ ?_
      rintro _ t_7 ⟨rfl, L8_⟩
      refine T_env (E' := [(1, (.b 0 0)), (16, (sl tFact db0.facts)), (17, (intA (db0.facts.length : Int))), (18, (intA (t_7 : Int)))]) ⟨rfl, rfl, rfl, rfl, trivial⟩ ?_
      refine T_st (σ' := [.box [(sl tRelation db0.relations), (sl tFact db0.facts)]]) rfl ?_
      refine T_fact (len_sl (T := tFact) (.tmp 16) rfl) (fun hl8 => ?_)
      refine T_seq ?_
      refine T_region ?_
      refine TO_cons rfl (TOp_pure (pur_lss rfl rfl rfl) rfl ?_)
      refine TO_nil ?_
      refine T_env (E' := [(1, (.b 0 0)), (16, (sl tFact db0.facts)), (17, (intA (db0.facts.length : Int))), (18, (intA (t_7 : Int))), (19, (boolA (decide ((t_7 : Int) < (db0.facts.length : Int)))))]) ⟨rfl, rfl, rfl, rfl, rfl, trivial⟩ ?_
      refine T_seq ?_
      refine T_cond (t := decide ((t_7 : Int) < (db0.facts.length : Int))) rfl (fun d8 => ?_) (fun d8 => ?_)
      · replace d8 := of_decide_eq_true d8
        obtain ⟨x_t_7, hx_t_7⟩ : ∃ v, (db0.facts)[t_7]? = some v := ⟨_, List.getElem?_eq_getElem (by omega)⟩
        obtain ⟨C8_, H, K8_⟩ := forL_step L8_ hx_t_7
        rw [hb8] at H
        refine T_skip ?_
        refine T_env (E' := [(1, (.b 0 0)), (16, (sl tFact db0.facts)), (17, (intA (db0.facts.length : Int))), (18, (intA (t_7 : Int)))]) ⟨rfl, rfl, rfl, rfl, trivial⟩ ?_
        refine T_seq ?_
        refine T_block ?_
        refine T_seq ?_
        refine T_region ?_
        refine TO_cons rfl (TOp_pure (pur_move rfl) rfl ?_)
        refine TO_cons rfl (TOp_pure (pur_ixT (T := tFact) sl30 rfl rfl rfl hx_t_7 rfl) rfl ?_)
        refine TO_cons rfl (TOp_pure (pur_ldTK (T := tFact) (i := t_7) (off := 0) rfl agg60 rfl rfl hx_t_7 (by decide) rfl) rfl ?_)
        refine TO_cons rfl (TOp_alloc zero60 rfl rfl ?_)
        refine TO_cons rfl (TOp_pure (pur_assign rfl) rfl ?_)
        refine TO_cons rfl (TOp_storeB sz60 rfl rfl rfl rfl rfl rfl rfl (by decide) (Nat.le_of_ble_eq_true rfl) rfl ?_)
        refine TO_st (σ' := [.box [(sl tRelation db0.relations), (sl tFact db0.facts)], .box [(intA x_t_7.relation), (sl tInt x_t_7.values)]]) rfl ?_
        refine TO_nil ?_
        refine T_env (E' := [(1, (.b 0 0)), (3, (intA (t_7 : Int))), (4, (.b 1 0)), (16, (sl tFact db0.facts)), (17, (intA (db0.facts.length : Int))), (18, (intA (t_7 : Int)))]) ⟨rfl, rfl, rfl, rfl, rfl, rfl, trivial⟩ ?_
        obtain ⟨t42, J_9, H_10⟩ := bind_inv H
        refine T_cutX (fun x => t42 = x) (fun (t42 : Bool) => [(1, (.b 0 0)), (16, (sl tFact db0.facts)), (17, (intA (db0.facts.length : Int))), (18, (intA (t_7 : Int))), (42, (boolA t42))]) (fun (t42 : Bool) => [.box [(sl tRelation db0.relations), (sl tFact db0.facts)]]) ?_ ?_
        · replace H := J_9
          refine T_regionD mixed (by kernel_rfl) ?_
          refine TQ_pure rfl (pur_fa_b fld32_0 rfl rfl) rfl ?_
          refine TQ_pure rfl (pur_ld_b one29 rfl rfl rfl rfl) rfl ?_
          refine TQ_pure rfl (pur_ldK_b agg60 rfl rfl (Nat.le_of_ble_eq_true rfl) rfl) rfl ?_
          obtain ⟨r_11, h_12, H⟩ := bind_inv H
          refine TQ_callV rfl (call_static ent114 rfl) (m_impl_isFact_ok _ _ _ h_12) rfl rfl ?_
          refine TQ_pure rfl (pur_not rfl rfl) rfl ?_
          refine TQ_pure rfl (pur_move rfl) rfl ?_
          refine TQ_split (t := (!r_11)) 28 rfl (fun g_13 => ?_) (fun g_13 => ?_)
          · replace H := cond_t g_13 H
            refine TQ_off rfl rfl (by decide) rfl rfl rfl ?_
            refine TQ_off rfl rfl (by decide) rfl rfl rfl ?_
            refine TQ_off rfl rfl (by decide) rfl rfl rfl ?_
            refine TQ_off rfl rfl (by decide) rfl rfl rfl ?_
            refine TQ_off rfl rfl (by decide) rfl rfl rfl ?_
            refine TQ_off rfl rfl (by decide) rfl rfl rfl ?_
            refine TQ_off rfl rfl (by decide) rfl rfl rfl ?_
            refine TQ_off rfl rfl (by decide) rfl rfl rfl ?_
            refine TQ_env (E' := [(1, (.b 0 0)), (4, (.b 1 0)), (16, (sl tFact db0.facts)), (17, (intA (db0.facts.length : Int))), (18, (intA (t_7 : Int))), (28, (boolA true)), (31, (.v undef)), (36, (.v undef))]) ⟨rfl, rfl, rfl, rfl, rfl, rfl, rfl, rfl, trivial⟩ ?_
            refine TQ_off rfl rfl (by decide) rfl rfl rfl ?_
            refine TQ_off rfl rfl (by decide) rfl rfl rfl ?_
            refine TQ_off rfl rfl (by decide) rfl rfl rfl ?_
            refine TQ_off rfl rfl (by decide) rfl rfl rfl ?_
            refine TQ_off rfl rfl (by decide) rfl rfl rfl ?_
            refine TQ_pure rfl (pur_pick (t := true) rfl rfl rfl) rfl ?_
            refine TQ_nil ?_
            exact joined true (WeakL.to 1 (Nat.le_of_ble_eq_true rfl) rfl rfl rfl rfl ⟨leR rfl, leR rfl, leR rfl, leR rfl, leR rfl, trivial⟩) (some_inj H).symm
          · replace H := cond_f g_13 H
            refine TQ_on rfl rfl (by decide) rfl (pur_move rfl) rfl ?_
            refine TQ_on rfl rfl (by decide) rfl (pur_gtr rfl rfl rfl) rfl ?_
            refine TQ_on rfl rfl (by decide) rfl (pur_move rfl) rfl ?_
            refine TQ_split (t := decide (0 < (t_7 : Int))) 31 rfl (fun g_14 => ?_) (fun g_14 => ?_)
            · replace H := cond_t g_14 H
              refine TQ_on rfl rfl (by decide) rfl (pur_fa_b fld32_1 rfl rfl) rfl ?_
              refine TQ_on rfl rfl (by decide) rfl (pur_ld_b one30 rfl rfl rfl rfl) rfl ?_
              refine TQ_on rfl rfl (by decide) rfl (pur_move rfl) rfl ?_
              refine TQ_on rfl rfl (by decide) rfl (pur_sub rfl rfl rfl (fits64 (by omega) (by omega))) rfl ?_
              obtain ⟨v_15, h_16, H⟩ := bind_inv H
              obtain ⟨n_17, hz_18, hv_19⟩ := getI_inv h_16
              refine TQ_on rfl rfl (by decide) rfl (pur_ixT (T := tFact) sl30 rfl rfl hz_18 hv_19 rfl) rfl ?_
              refine TQ_on rfl rfl (by decide) rfl (pur_ldTK (T := tFact) (i := n_17) (off := 0) rfl agg60 rfl rfl hv_19 (by decide) rfl) rfl ?_
              refine TQ_on rfl rfl (by decide) rfl (pur_ldK_b agg60 rfl rfl (Nat.le_of_ble_eq_true rfl) rfl) rfl ?_
              obtain ⟨r_20, h_21, H⟩ := bind_inv H
              refine TQ_onV rfl rfl (by decide) rfl (call_static ent115 rfl) (m_impl_CompareFacts_ok _ _ _ h_21) rfl rfl ?_
              refine TQ_env (E' := [(1, (.b 0 0)), (16, (sl tFact db0.facts)), (17, (intA (db0.facts.length : Int))), (18, (intA (t_7 : Int))), (28, (boolA false)), (31, (boolA true)), (39, (intA r_20))]) ⟨rfl, rfl, rfl, rfl, rfl, rfl, rfl, trivial⟩ ?_
              refine TQ_on rfl rfl (by decide) rfl (pur_geq rfl rfl rfl) rfl ?_
              refine TQ_on rfl rfl (by decide) rfl (pur_pick (t := true) rfl rfl rfl) rfl ?_
              refine TQ_pure rfl (pur_pick (t := false) rfl rfl rfl) rfl ?_
              refine TQ_nil ?_
              exact joined (decide (0 ≤ r_20)) (WeakL.to 1 (Nat.le_of_ble_eq_true rfl) rfl rfl rfl rfl ⟨leR rfl, leR rfl, leR rfl, leR rfl, leR rfl, trivial⟩) (some_inj H).symm
            · replace H := cond_f g_14 H
              refine TQ_off rfl rfl (by decide) rfl rfl rfl ?_
              refine TQ_off rfl rfl (by decide) rfl rfl rfl ?_
              refine TQ_off rfl rfl (by decide) rfl rfl rfl ?_
              refine TQ_off rfl rfl (by decide) rfl rfl rfl ?_
              refine TQ_off rfl rfl (by decide) rfl rfl rfl ?_
              refine TQ_off rfl rfl (by decide) rfl rfl rfl ?_
              refine TQ_off rfl rfl (by decide) rfl rfl rfl ?_
              refine TQ_off rfl rfl (by decide) rfl rfl rfl ?_
              refine TQ_env (E' := [(1, (.b 0 0)), (16, (sl tFact db0.facts)), (17, (intA (db0.facts.length : Int))), (18, (intA (t_7 : Int))), (28, (boolA false)), (31, (boolA false)), (39, (.v undef))]) ⟨rfl, rfl, rfl, rfl, rfl, rfl, rfl, trivial⟩ ?_
              refine TQ_off rfl rfl (by decide) rfl rfl rfl ?_
              refine TQ_on rfl rfl (by decide) rfl (pur_pick (t := false) rfl rfl rfl) rfl ?_
              refine TQ_pure rfl (pur_pick (t := false) rfl rfl rfl) rfl ?_
              refine TQ_nil ?_
              exact joined false (WeakL.to 1 (Nat.le_of_ble_eq_true rfl) rfl rfl rfl rfl ⟨leR rfl, leR rfl, leR rfl, leR rfl, leR rfl, trivial⟩) (some_inj H).symm
        · rintro _ rfl
          replace H := H_10
          refine T_env (E' := [(1, (.b 0 0)), (16, (sl tFact db0.facts)), (17, (intA (db0.facts.length : Int))), (18, (intA (t_7 : Int))), (42, (boolA t42))]) ⟨rfl, rfl, rfl, rfl, rfl, trivial⟩ ?_
          refine T_cond (t := t42) rfl (fun c_22 => ?_) (fun c_22 => ?_)
          · replace H := cond_t c_22 H
            refine T_seq ?_
            refine T_region ?_
            refine TO_cons rfl (TOp_pure (pur_assign rfl) rfl ?_)
            refine TO_nil ?_
            refine T_env (E' := [(2, (boolA false))]) ⟨rfl, trivial⟩ ?_
            refine T_ret ?_
            refine block_ret ?_
            refine then_ret ?_
            refine then_ret ?_
            refine block_ret ?_
            refine then_ret ?_
            obtain rfl := some_inj H
            obtain rfl := some_inj K8_
            replace H := onS_r N8_
            obtain rfl := some_inj H
            refine end_ret (.tmp .nil) rfl rfl ⟨?_, rfl⟩
            rfl
          · replace H := cond_f c_22 H
            refine T_skip ?_
            refine T_env (E' := [(1, (.b 0 0)), (16, (sl tFact db0.facts)), (17, (intA (db0.facts.length : Int))), (18, (intA (t_7 : Int)))]) ⟨rfl, rfl, rfl, rfl, trivial⟩ ?_
            refine T_region ?_
            refine TO_cons rfl (TOp_pure (pur_add rfl rfl rfl (fits64 (by omega) (by omega))) rfl ?_)
            refine TO_cons rfl (TOp_pure (pur_move rfl) rfl ?_)
            refine TO_nil ?_
            obtain rfl := some_inj H
            exact again (db0.facts.length - (t_7 + 1)) (t_7 + 1) (by omega) (WeakL.to 1 (Nat.le_of_ble_eq_true rfl) rfl rfl rfl rfl ⟨leR rfl, leR rfl, leR rfl, leR rfl, trivial⟩) ⟨rfl, K8_⟩
      · replace d8 := of_decide_eq_false d8
        obtain rfl := forL_end L8_ (by omega)
        refine T_exit ?_
        refine then_exit ?_
        refine then_exit ?_
        refine block_exit ?_
        replace H := onS_l N8_
        refine T_env (E' := []) trivial ?_
        refine T_seq ?_
        refine T_region ?_
        refine TO_cons rfl (TOp_pure (pur_assign rfl) rfl ?_)
        refine TO_nil ?_
        refine T_env (E' := [(2, (boolA true))]) ⟨rfl, trivial⟩ ?_
        refine T_ret ?_
        obtain rfl := some_inj H
        refine end_ret (.tmp .nil) rfl rfl ⟨?_, rfl⟩
        rfl
end Go.Proofs.Ytlcpdlngbofgcaa

/- Walks. -/
import Derived.Test.YtlcpdlngbofgcaaM1
import Derived.Test.YtlcpdlngbofgcaaM2
import Derived.Test.YtlcpdlngbofgcaaM3
set_option linter.unusedVariables false
set_option linter.unusedSimpArgs false
set_option maxRecDepth 4000
namespace Go.Proofs.Ytlcpdlngbofgcaa
open Go Go.Proofs Go.Sep
set_option maxHeartbeats 1000000 in
/-- impl.isColumn -/
theorem m_impl_isColumn_ok (db0 : Database) (relation1 : Int) (column2 : Int) (r : Bool) (H : m_impl_isColumn db0 relation1 column2 = some r) : FnV prg 55 [(.g (tDatabase.enc db0)), (intA relation1), (intA column2)] (boolA r) := by
  unfold m_impl_isColumn at H
  refine fnV_of_T Try.func55 rfl rfl (Nat.le_of_ble_eq_true rfl) ?_
  refine T_env (E' := [(0, (.g (tDatabase.enc db0))), (1, (intA relation1)), (2, (intA column2))]) ⟨rfl, rfl, rfl, trivial⟩ ?_
  refine T_seq ?_
  refine T_region ?_
  refine TO_cons rfl (TOp_box rfl (boxAll rfl) rfl rfl ?_)
  refine TO_cons rfl (TOp_pure (pur_assign rfl) rfl ?_)
  refine TO_nil ?_
  refine T_env (E' := [(1, (intA relation1)), (2, (intA column2)), (3, (.b 0 0))]) ⟨rfl, rfl, rfl, trivial⟩ ?_
  obtain ⟨t6, J_1, H_2⟩ := bind_inv H
  refine T_cutX (fun x => t6 = x) (fun (t6 : Bool) => [(6, (boolA t6))]) (fun (t6 : Bool) => []) ?_ ?_
  · replace H := J_1
    refine T_region ?_
    refine TO_cons rfl (TOp_pure (pur_ldK_b agg32 rfl rfl (Nat.le_of_ble_eq_true rfl) rfl) rfl ?_)
    obtain ⟨r_3, h_4, H⟩ := bind_inv H
    refine TO_cons rfl (TOp_callV (call_static ent89 rfl) (m_impl_IsValidDatabase_ok _ _ h_4) rfl rfl rfl ?_)
    refine TO_cons rfl (TOp_pure (pur_move rfl) rfl ?_)
    refine TO_split (t := r_3) 9 rfl (fun g_5 => ?_) (fun g_5 => ?_)
    · replace H := cond_t g_5 H
      refine TO_on rfl rfl (by decide) rfl rfl (TOp_pure (pur_move rfl) rfl ?_)
      refine TO_on rfl rfl (by decide) rfl rfl (TOp_pure (pur_fa_b fld32_0 rfl rfl) rfl ?_)
      refine TO_on rfl rfl (by decide) rfl rfl (TOp_pure (pur_ld_b one29 rfl rfl rfl rfl) rfl ?_)
      refine TO_on rfl rfl (by decide) rfl rfl (TOp_pure (pur_lenT (T := tRelation) sl29 rfl rfl) rfl ?_)
      refine TO_fact (len_sl (T := tRelation) (.tmp 12) rfl) (fun hl_6 => ?_)
      refine TO_on rfl rfl (by decide) rfl rfl (TOp_pure (pur_sub rfl rfl rfl (fits64 (by omega) (by omega))) rfl ?_)
      obtain ⟨r_7, h_8, H⟩ := bind_inv H
      refine TO_on rfl rfl (by decide) rfl rfl (TOp_callV (call_static ent90 rfl) (m_impl_within_ok _ _ _ _ h_8) rfl rfl rfl ?_)
      refine TO_cons rfl (TOp_pure (pur_pick (t := true) rfl rfl rfl) rfl ?_)
      refine TO_cons rfl (TOp_pure (pur_move rfl) rfl ?_)
      refine TO_env (E' := [(1, (intA relation1)), (2, (intA column2)), (3, (.b 0 0)), (17, (boolA r_7))]) ⟨rfl, rfl, rfl, rfl, trivial⟩ ?_
      refine TO_split (t := r_7) 17 rfl (fun g_9 => ?_) (fun g_9 => ?_)
      · replace H := cond_t g_9 H
        refine TO_on rfl rfl (by decide) rfl rfl (TOp_pure (pur_move rfl) rfl ?_)
        refine TO_on rfl rfl (by decide) rfl rfl (TOp_pure (pur_fa_b fld32_0 rfl rfl) rfl ?_)
        refine TO_on rfl rfl (by decide) rfl rfl (TOp_pure (pur_ld_b one29 rfl rfl rfl rfl) rfl ?_)
        refine TO_on rfl rfl (by decide) rfl rfl (TOp_pure (pur_move rfl) rfl ?_)
        obtain ⟨v_10, h_11, H⟩ := bind_inv H
        obtain ⟨n_12, hz_13, hv_14⟩ := getI_inv h_11
        refine TO_on rfl rfl (by decide) rfl rfl (TOp_pure (pur_ixT (T := tRelation) sl29 rfl rfl hz_13 hv_14 rfl) rfl ?_)
        refine TO_on rfl rfl (by decide) rfl rfl (TOp_pure (pur_fa_q fld97_1 rfl rfl) rfl ?_)
        refine TO_on rfl rfl (by decide) rfl rfl (TOp_pure (pur_ldT (T := tRelation) (i := n_12) (off := 1) rfl one3 rfl rfl hv_14 rfl) rfl ?_)
        refine TO_on rfl rfl (by decide) rfl rfl (TOp_pure (pur_wsub rfl rfl rfl) rfl ?_)
        refine TO_env (E' := [(17, (boolA true)), (18, (intA column2)), (25, (intA (w64 (v_10.arity - 1))))]) ⟨rfl, rfl, rfl, trivial⟩ ?_
        obtain ⟨r_15, h_16, H⟩ := bind_inv H
        refine TO_on rfl rfl (by decide) rfl rfl (TOp_callV (call_static ent90 rfl) (m_impl_within_ok _ _ _ _ h_16) rfl rfl rfl ?_)
        refine TO_cons rfl (TOp_pure (pur_pick (t := true) rfl rfl rfl) rfl ?_)
        refine TO_cons rfl (TOp_pure (pur_assign rfl) rfl ?_)
        refine TO_nil ?_
        exact joined r_15 (WeakL.to 0 (Nat.le_of_ble_eq_true rfl) rfl rfl rfl rfl ⟨leR rfl, trivial⟩) (some_inj H).symm
      · replace H := cond_f g_9 H
        refine TO_off rfl rfl (by decide) rfl rfl rfl ?_
        refine TO_off rfl rfl (by decide) rfl rfl rfl ?_
        refine TO_off rfl rfl (by decide) rfl rfl rfl ?_
        refine TO_off rfl rfl (by decide) rfl rfl rfl ?_
        refine TO_off rfl rfl (by decide) rfl rfl rfl ?_
        refine TO_off rfl rfl (by decide) rfl rfl rfl ?_
        refine TO_off rfl rfl (by decide) rfl rfl rfl ?_
        refine TO_off rfl rfl (by decide) rfl rfl rfl ?_
        refine TO_env (E' := [(17, (boolA false)), (18, (.v undef)), (25, (.v undef))]) ⟨rfl, rfl, rfl, trivial⟩ ?_
        refine TO_off rfl rfl (by decide) rfl rfl rfl ?_
        refine TO_cons rfl (TOp_pure (pur_pick (t := false) rfl rfl rfl) rfl ?_)
        refine TO_cons rfl (TOp_pure (pur_assign rfl) rfl ?_)
        refine TO_nil ?_
        exact joined false (WeakL.to 0 (Nat.le_of_ble_eq_true rfl) rfl rfl rfl rfl ⟨leR rfl, trivial⟩) (some_inj H).symm
    · replace H := cond_f g_5 H
      refine TO_off rfl rfl (by decide) rfl rfl rfl ?_
      refine TO_off rfl rfl (by decide) rfl rfl rfl ?_
      refine TO_off rfl rfl (by decide) rfl rfl rfl ?_
      refine TO_off rfl rfl (by decide) rfl rfl rfl ?_
      refine TO_off rfl rfl (by decide) rfl rfl rfl ?_
      refine TO_off rfl rfl (by decide) rfl rfl rfl ?_
      refine TO_cons rfl (TOp_pure (pur_pick (t := false) rfl rfl rfl) rfl ?_)
      refine TO_cons rfl (TOp_pure (pur_move rfl) rfl ?_)
      refine TO_env (E' := [(1, (intA relation1)), (2, (intA column2)), (3, (.b 0 0)), (17, (boolA false))]) ⟨rfl, rfl, rfl, rfl, trivial⟩ ?_
      refine TO_off rfl rfl (by decide) rfl rfl rfl ?_
      refine TO_off rfl rfl (by decide) rfl rfl rfl ?_
      refine TO_off rfl rfl (by decide) rfl rfl rfl ?_
      refine TO_off rfl rfl (by decide) rfl rfl rfl ?_
      refine TO_off rfl rfl (by decide) rfl rfl rfl ?_
      refine TO_off rfl rfl (by decide) rfl rfl rfl ?_
      refine TO_off rfl rfl (by decide) rfl rfl rfl ?_
      refine TO_off rfl rfl (by decide) rfl rfl rfl ?_
      refine TO_env (E' := [(17, (boolA false)), (18, (.v undef)), (25, (.v undef))]) ⟨rfl, rfl, rfl, trivial⟩ ?_
      refine TO_off rfl rfl (by decide) rfl rfl rfl ?_
      refine TO_cons rfl (TOp_pure (pur_pick (t := false) rfl rfl rfl) rfl ?_)
      refine TO_cons rfl (TOp_pure (pur_assign rfl) rfl ?_)
      refine TO_nil ?_
      exact joined false (WeakL.to 0 (Nat.le_of_ble_eq_true rfl) rfl rfl rfl rfl ⟨leR rfl, trivial⟩) (some_inj H).symm
  · rintro _ rfl
    replace H := H_2
    refine T_env (E' := [(6, (boolA t6))]) ⟨rfl, trivial⟩ ?_
    refine T_ret ?_
    obtain rfl := some_inj H
    refine end_ret (.tmp .nil) rfl rfl ⟨?_, rfl⟩
    rfl

set_option maxHeartbeats 1000000 in
/-- impl.areIndices -/
theorem m_impl_areIndices_ok (indices0 : (List Int)) (n1 : Int) (r : Bool) (H : m_impl_areIndices indices0 n1 = some r) : FnV prg 56 [(sl tInt indices0), (intA n1)] (boolA r) := by
  unfold m_impl_areIndices at H
  refine fnV_of_T Try.func56 rfl rfl (Nat.le_of_ble_eq_true rfl) ?_
  refine T_env (E' := [(0, (sl tInt indices0)), (1, (intA n1))]) ⟨rfl, rfl, trivial⟩ ?_
  refine T_seq ?_
  refine T_region ?_
  refine TO_cons rfl (TOp_pure (pur_assign rfl) rfl ?_)
  refine TO_nil ?_
  refine T_env (E' := [(0, (sl tInt indices0)), (1, (intA n1))]) ⟨rfl, rfl, trivial⟩ ?_
  refine T_seq ?_
  refine T_seq ?_
  refine T_region ?_
  refine TO_cons rfl (TOp_pure (pur_move rfl) rfl ?_)
  refine TO_cons rfl (TOp_pure (pur_lenT (T := tInt) sl33 rfl rfl) rfl ?_)
  refine TO_cons rfl (TOp_pure (pur_move rfl) rfl ?_)
  refine TO_nil ?_
  refine T_env (E' := [(0, (sl tInt indices0)), (1, (intA n1)), (7, (sl tInt indices0)), (8, (intA (indices0.length : Int))), (9, (intA 0))]) ⟨rfl, rfl, rfl, rfl, rfl, trivial⟩ ?_
  obtain ⟨O2_, L2_, N2_⟩ := bind_inv H
  clear H
  obtain ⟨B2_, hb2, L2_⟩ := gen_forL L2_
  refine T_block ?_
  refine T_loopX (fun k => fun (t_1 : Nat) => k = indices0.length - t_1 ∧ forL B2_ (indices0.drop t_1) (t_1 : Int) () = some O2_) (fun (t_1 : Nat) => [(0, (sl tInt indices0)), (1, (intA n1)), (7, (sl tInt indices0)), (8, (intA (indices0.length : Int))), (9, (intA (t_1 : Int)))]) (fun (t_1 : Nat) => []) _ (0 : Nat) (WeakL.to 0 (Nat.le_of_ble_eq_true rfl) rfl rfl rfl rfl ⟨leR rfl, leR rfl, leR rfl, leR rfl, leR rfl, trivial⟩) ⟨rfl, L2_⟩ ?_
  rintro _ t_1 ⟨rfl, L2_⟩
  refine T_env (E' := [(0, (sl tInt indices0)), (1, (intA n1)), (7, (sl tInt indices0)), (8, (intA (indices0.length : Int))), (9, (intA (t_1 : Int)))]) ⟨rfl, rfl, rfl, rfl, rfl, trivial⟩ ?_
  refine T_st (σ' := []) rfl ?_
  refine T_fact (len_sl (T := tInt) (.tmp 0) rfl) (fun hl2 => ?_)
  refine T_seq ?_
  refine T_region ?_
  refine TO_cons rfl (TOp_pure (pur_lss rfl rfl rfl) rfl ?_)
  refine TO_nil ?_
  refine T_env (E' := [(0, (sl tInt indices0)), (1, (intA n1)), (7, (sl tInt indices0)), (8, (intA (indices0.length : Int))), (9, (intA (t_1 : Int))), (10, (boolA (decide ((t_1 : Int) < (indices0.length : Int)))))]) ⟨rfl, rfl, rfl, rfl, rfl, rfl, trivial⟩ ?_
  refine T_seq ?_
  refine T_cond (t := decide ((t_1 : Int) < (indices0.length : Int))) rfl (fun d2 => ?_) (fun d2 => ?_)
  · replace d2 := of_decide_eq_true d2
    obtain ⟨x_t_1, hx_t_1⟩ : ∃ v, (indices0)[t_1]? = some v := ⟨_, List.getElem?_eq_getElem (by omega)⟩
    obtain ⟨C2_, H, K2_⟩ := forL_step L2_ hx_t_1
    rw [hb2] at H
    refine T_skip ?_
    refine T_env (E' := [(0, (sl tInt indices0)), (1, (intA n1)), (7, (sl tInt indices0)), (8, (intA (indices0.length : Int))), (9, (intA (t_1 : Int)))]) ⟨rfl, rfl, rfl, rfl, rfl, trivial⟩ ?_
    refine T_seq ?_
    refine T_block ?_
    refine T_seq ?_
    refine T_region ?_
    refine TO_cons rfl (TOp_pure (pur_move rfl) rfl ?_)
    refine TO_cons rfl (TOp_pure (pur_ixT (T := tInt) sl33 rfl rfl rfl hx_t_1 rfl) rfl ?_)
    refine TO_cons rfl (TOp_pure (pur_ldT (T := tInt) (i := t_1) (off := 0) rfl one3 rfl rfl hx_t_1 rfl) rfl ?_)
    refine TO_cons rfl (TOp_pure (pur_assign rfl) rfl ?_)
    refine TO_cons rfl (TOp_pure (pur_assign rfl) rfl ?_)
    refine TO_nil ?_
    refine T_env (E' := [(0, (sl tInt indices0)), (1, (intA n1)), (5, (intA (t_1 : Int))), (6, (intA x_t_1)), (7, (sl tInt indices0)), (8, (intA (indices0.length : Int))), (9, (intA (t_1 : Int)))]) ⟨rfl, rfl, rfl, rfl, rfl, rfl, rfl, trivial⟩ ?_
    obtain ⟨t31, J_3, H_4⟩ := bind_inv H
    refine T_cutX (fun x => t31 = x) (fun (t31 : Bool) => [(0, (sl tInt indices0)), (1, (intA n1)), (7, (sl tInt indices0)), (8, (intA (indices0.length : Int))), (9, (intA (t_1 : Int))), (31, (boolA t31))]) (fun (t31 : Bool) => []) ?_ ?_
    · replace H := J_3
      refine T_region ?_
      refine TO_cons rfl (TOp_pure (pur_move rfl) rfl ?_)
      refine TO_cons rfl (TOp_pure (pur_move rfl) rfl ?_)
      refine TO_cons rfl (TOp_pure (pur_wsub rfl rfl rfl) rfl ?_)
      obtain ⟨r_5, h_6, H⟩ := bind_inv H
      refine TO_cons rfl (TOp_callV (call_static ent90 rfl) (m_impl_within_ok _ _ _ _ h_6) rfl rfl rfl ?_)
      refine TO_cons rfl (TOp_pure (pur_not rfl rfl) rfl ?_)
      refine TO_cons rfl (TOp_pure (pur_move rfl) rfl ?_)
      refine TO_split (t := (!r_5)) 19 rfl (fun g_7 => ?_) (fun g_7 => ?_)
      · replace H := cond_t g_7 H
        refine TO_off rfl rfl (by decide) rfl rfl rfl ?_
        refine TO_off rfl rfl (by decide) rfl rfl rfl ?_
        refine TO_off rfl rfl (by decide) rfl rfl rfl ?_
        refine TO_off rfl rfl (by decide) rfl rfl rfl ?_
        refine TO_off rfl rfl (by decide) rfl rfl rfl ?_
        refine TO_off rfl rfl (by decide) rfl rfl rfl ?_
        refine TO_off rfl rfl (by decide) rfl rfl rfl ?_
        refine TO_off rfl rfl (by decide) rfl rfl rfl ?_
        refine TO_env (E' := [(0, (sl tInt indices0)), (1, (intA n1)), (6, (intA x_t_1)), (7, (sl tInt indices0)), (8, (intA (indices0.length : Int))), (9, (intA (t_1 : Int))), (19, (boolA true)), (22, (.v undef)), (27, (.v undef))]) ⟨rfl, rfl, rfl, rfl, rfl, rfl, rfl, rfl, rfl, trivial⟩ ?_
        refine TO_off rfl rfl (by decide) rfl rfl rfl ?_
        refine TO_off rfl rfl (by decide) rfl rfl rfl ?_
        refine TO_off rfl rfl (by decide) rfl rfl rfl ?_
        refine TO_cons rfl (TOp_pure (pur_pick (t := true) rfl rfl rfl) rfl ?_)
        refine TO_nil ?_
        exact joined true (WeakL.to 0 (Nat.le_of_ble_eq_true rfl) rfl rfl rfl rfl ⟨leR rfl, leR rfl, leR rfl, leR rfl, leR rfl, leR rfl, trivial⟩) (some_inj H).symm
      · replace H := cond_f g_7 H
        refine TO_on rfl rfl (by decide) rfl rfl (TOp_pure (pur_move rfl) rfl ?_)
        refine TO_on rfl rfl (by decide) rfl rfl (TOp_pure (pur_gtr rfl rfl rfl) rfl ?_)
        refine TO_on rfl rfl (by decide) rfl rfl (TOp_pure (pur_move rfl) rfl ?_)
        refine TO_split (t := decide (0 < (t_1 : Int))) 22 rfl (fun g_8 => ?_) (fun g_8 => ?_)
        · replace H := cond_t g_8 H
          refine TO_on rfl rfl (by decide) rfl rfl (TOp_pure (pur_move rfl) rfl ?_)
          refine TO_on rfl rfl (by decide) rfl rfl (TOp_pure (pur_move rfl) rfl ?_)
          refine TO_on rfl rfl (by decide) rfl rfl (TOp_pure (pur_sub rfl rfl rfl (fits64 (by omega) (by omega))) rfl ?_)
          obtain ⟨v_9, h_10, H⟩ := bind_inv H
          obtain ⟨n_11, hz_12, hv_13⟩ := getI_inv h_10
          refine TO_on rfl rfl (by decide) rfl rfl (TOp_pure (pur_ixT (T := tInt) sl33 rfl rfl hz_12 hv_13 rfl) rfl ?_)
          refine TO_on rfl rfl (by decide) rfl rfl (TOp_pure (pur_ldT (T := tInt) (i := n_11) (off := 0) rfl one3 rfl rfl hv_13 rfl) rfl ?_)
          refine TO_on rfl rfl (by decide) rfl rfl (TOp_pure (pur_move rfl) rfl ?_)
          refine TO_on rfl rfl (by decide) rfl rfl (TOp_pure (pur_geq rfl rfl rfl) rfl ?_)
          refine TO_on rfl rfl (by decide) rfl rfl (TOp_pure (pur_pick (t := true) rfl rfl rfl) rfl ?_)
          refine TO_cons rfl (TOp_pure (pur_pick (t := false) rfl rfl rfl) rfl ?_)
          refine TO_nil ?_
          exact joined (decide (x_t_1 ≤ v_9)) (WeakL.to 0 (Nat.le_of_ble_eq_true rfl) rfl rfl rfl rfl ⟨leR rfl, leR rfl, leR rfl, leR rfl, leR rfl, leR rfl, trivial⟩) (some_inj H).symm
        · replace H := cond_f g_8 H
          refine TO_off rfl rfl (by decide) rfl rfl rfl ?_
          refine TO_off rfl rfl (by decide) rfl rfl rfl ?_
          refine TO_off rfl rfl (by decide) rfl rfl rfl ?_
          refine TO_off rfl rfl (by decide) rfl rfl rfl ?_
          refine TO_off rfl rfl (by decide) rfl rfl rfl ?_
          refine TO_off rfl rfl (by decide) rfl rfl rfl ?_
          refine TO_off rfl rfl (by decide) rfl rfl rfl ?_
          refine TO_on rfl rfl (by decide) rfl rfl (TOp_pure (pur_pick (t := false) rfl rfl rfl) rfl ?_)
          refine TO_cons rfl (TOp_pure (pur_pick (t := false) rfl rfl rfl) rfl ?_)
          refine TO_nil ?_
          exact joined false (WeakL.to 0 (Nat.le_of_ble_eq_true rfl) rfl rfl rfl rfl ⟨leR rfl, leR rfl, leR rfl, leR rfl, leR rfl, leR rfl, trivial⟩) (some_inj H).symm
    · rintro _ rfl
      replace H := H_4
      refine T_env (E' := [(0, (sl tInt indices0)), (1, (intA n1)), (7, (sl tInt indices0)), (8, (intA (indices0.length : Int))), (9, (intA (t_1 : Int))), (31, (boolA t31))]) ⟨rfl, rfl, rfl, rfl, rfl, rfl, trivial⟩ ?_
      refine T_cond (t := t31) rfl (fun c_14 => ?_) (fun c_14 => ?_)
      · replace H := cond_t c_14 H
        refine T_seq ?_
        refine T_region ?_
        refine TO_cons rfl (TOp_pure (pur_assign rfl) rfl ?_)
        refine TO_nil ?_
        refine T_env (E' := [(4, (boolA false))]) ⟨rfl, trivial⟩ ?_
        refine T_ret ?_
        refine block_ret ?_
        refine then_ret ?_
        refine then_ret ?_
        refine block_ret ?_
        refine then_ret ?_
        obtain rfl := some_inj H
        obtain rfl := some_inj K2_
        replace H := onS_r N2_
        obtain rfl := some_inj H
        refine end_ret (.tmp .nil) rfl rfl ⟨?_, rfl⟩
        rfl
      · replace H := cond_f c_14 H
        refine T_skip ?_
        refine T_env (E' := [(0, (sl tInt indices0)), (1, (intA n1)), (7, (sl tInt indices0)), (8, (intA (indices0.length : Int))), (9, (intA (t_1 : Int)))]) ⟨rfl, rfl, rfl, rfl, rfl, trivial⟩ ?_
        refine T_region ?_
        refine TO_cons rfl (TOp_pure (pur_add rfl rfl rfl (fits64 (by omega) (by omega))) rfl ?_)
        refine TO_cons rfl (TOp_pure (pur_move rfl) rfl ?_)
        refine TO_nil ?_
        obtain rfl := some_inj H
        exact again (indices0.length - (t_1 + 1)) (t_1 + 1) (by omega) (WeakL.to 0 (Nat.le_of_ble_eq_true rfl) rfl rfl rfl rfl ⟨leR rfl, leR rfl, leR rfl, leR rfl, leR rfl, trivial⟩) ⟨rfl, K2_⟩
  · replace d2 := of_decide_eq_false d2
    obtain rfl := forL_end L2_ (by omega)
    refine T_exit ?_
    refine then_exit ?_
    refine then_exit ?_
    refine block_exit ?_
    replace H := onS_l N2_
    refine T_env (E' := []) trivial ?_
    refine T_seq ?_
    refine T_region ?_
    refine TO_cons rfl (TOp_pure (pur_assign rfl) rfl ?_)
    refine TO_nil ?_
    refine T_env (E' := [(4, (boolA true))]) ⟨rfl, trivial⟩ ?_
    refine T_ret ?_
    obtain rfl := some_inj H
    refine end_ret (.tmp .nil) rfl rfl ⟨?_, rfl⟩
    rfl

set_option maxHeartbeats 1000000 in
/-- impl.sumOf -/
theorem m_impl_sumOf_ok (values0 : (List Int)) (r : Int) (H : m_impl_sumOf values0 = some r) : FnV prg 57 [(sl tInt values0)] (intA r) := by
  unfold m_impl_sumOf at H
  refine fnV_of_T Try.func57 rfl rfl (Nat.le_of_ble_eq_true rfl) ?_
  refine T_env (E' := [(0, (sl tInt values0))]) ⟨rfl, trivial⟩ ?_
  refine T_seq ?_
  refine T_region ?_
  refine TO_cons rfl (TOp_pure (pur_assign rfl) rfl ?_)
  refine TO_nil ?_
  refine T_env (E' := [(0, (sl tInt values0))]) ⟨rfl, trivial⟩ ?_
  refine T_seq ?_
  refine T_region ?_
  refine TO_cons rfl (TOp_pure (pur_assign rfl) rfl ?_)
  refine TO_nil ?_
  refine T_env (E' := [(0, (sl tInt values0)), (3, (intA 0))]) ⟨rfl, rfl, trivial⟩ ?_
  refine T_seq ?_
  refine T_seq ?_
  refine T_region ?_
  refine TO_cons rfl (TOp_pure (pur_move rfl) rfl ?_)
  refine TO_cons rfl (TOp_pure (pur_lenT (T := tInt) sl33 rfl rfl) rfl ?_)
  refine TO_cons rfl (TOp_pure (pur_move rfl) rfl ?_)
  refine TO_nil ?_
  refine T_env (E' := [(3, (intA 0)), (6, (sl tInt values0)), (7, (intA (values0.length : Int))), (8, (intA 0))]) ⟨rfl, rfl, rfl, rfl, trivial⟩ ?_
  obtain ⟨O2_, L2_, N2_⟩ := bind_inv H
  clear H
  obtain ⟨B2_, hb2, L2_⟩ := gen_forS L2_
  refine T_block ?_
  refine T_loopX (fun k => fun (x_ : Nat × Int) => k = values0.length - x_.1 ∧ forS B2_ (values0.drop x_.1) (x_.1 : Int) x_.2 = some O2_) (fun (x_ : Nat × Int) => [(3, (intA x_.2)), (6, (sl tInt values0)), (7, (intA (values0.length : Int))), (8, (intA (x_.1 : Int)))]) (fun (x_ : Nat × Int) => []) _ (0, 0) (WeakL.to 0 (Nat.le_of_ble_eq_true rfl) rfl rfl rfl rfl ⟨leR rfl, leR rfl, leR rfl, leR rfl, trivial⟩) ⟨rfl, L2_⟩ ?_
  rintro _ ⟨t_1, sum3⟩ ⟨rfl, L2_⟩
  refine T_env (E' := [(3, (intA sum3)), (6, (sl tInt values0)), (7, (intA (values0.length : Int))), (8, (intA (t_1 : Int)))]) ⟨rfl, rfl, rfl, rfl, trivial⟩ ?_
  refine T_st (σ' := []) rfl ?_
  refine T_fact (len_sl (T := tInt) (.tmp 6) rfl) (fun hl2 => ?_)
  refine T_seq ?_
  refine T_region ?_
  refine TO_cons rfl (TOp_pure (pur_lss rfl rfl rfl) rfl ?_)
  refine TO_nil ?_
  refine T_env (E' := [(3, (intA sum3)), (6, (sl tInt values0)), (7, (intA (values0.length : Int))), (8, (intA (t_1 : Int))), (9, (boolA (decide ((t_1 : Int) < (values0.length : Int)))))]) ⟨rfl, rfl, rfl, rfl, rfl, trivial⟩ ?_
  refine T_seq ?_
  refine T_cond (t := decide ((t_1 : Int) < (values0.length : Int))) rfl (fun d2 => ?_) (fun d2 => ?_)
  · replace d2 := of_decide_eq_true d2
    obtain ⟨x_t_1, hx_t_1⟩ : ∃ v, (values0)[t_1]? = some v := ⟨_, List.getElem?_eq_getElem (by omega)⟩
    obtain ⟨C2_, H, K2_⟩ := forS_step L2_ hx_t_1
    rw [hb2] at H
    refine T_skip ?_
    refine T_env (E' := [(3, (intA sum3)), (6, (sl tInt values0)), (7, (intA (values0.length : Int))), (8, (intA (t_1 : Int)))]) ⟨rfl, rfl, rfl, rfl, trivial⟩ ?_
    refine T_seq ?_
    refine T_block ?_
    refine T_seq ?_
    refine T_region ?_
    refine TO_cons rfl (TOp_pure (pur_ixT (T := tInt) sl33 rfl rfl rfl hx_t_1 rfl) rfl ?_)
    refine TO_cons rfl (TOp_pure (pur_ldT (T := tInt) (i := t_1) (off := 0) rfl one3 rfl rfl hx_t_1 rfl) rfl ?_)
    refine TO_cons rfl (TOp_pure (pur_assign rfl) rfl ?_)
    refine TO_nil ?_
    refine T_env (E' := [(3, (intA sum3)), (5, (intA x_t_1)), (6, (sl tInt values0)), (7, (intA (values0.length : Int))), (8, (intA (t_1 : Int)))]) ⟨rfl, rfl, rfl, rfl, rfl, trivial⟩ ?_
    refine T_region ?_
    refine TO_cons rfl (TOp_pure (pur_move rfl) rfl ?_)
    refine TO_cons rfl (TOp_pure (pur_move rfl) rfl ?_)
    refine TO_cons rfl (TOp_pure (pur_wadd rfl rfl rfl) rfl ?_)
    refine TO_cons rfl (TOp_pure (pur_assign rfl) rfl ?_)
    refine TO_nil ?_
    refine T_env (E' := [(3, (intA (w64 (sum3 + x_t_1)))), (6, (sl tInt values0)), (7, (intA (values0.length : Int))), (8, (intA (t_1 : Int)))]) ⟨rfl, rfl, rfl, rfl, trivial⟩ ?_
    refine T_region ?_
    refine TO_cons rfl (TOp_pure (pur_add rfl rfl rfl (fits64 (by omega) (by omega))) rfl ?_)
    refine TO_cons rfl (TOp_pure (pur_move rfl) rfl ?_)
    refine TO_nil ?_
    obtain rfl := some_inj H
    exact again (values0.length - (t_1 + 1)) (t_1 + 1, (w64 (sum3 + x_t_1))) (by omega) (WeakL.to 0 (Nat.le_of_ble_eq_true rfl) rfl rfl rfl rfl ⟨leR rfl, leR rfl, leR rfl, leR rfl, trivial⟩) ⟨rfl, K2_⟩
  · replace d2 := of_decide_eq_false d2
    obtain rfl := forS_end L2_ (by omega)
    refine T_exit ?_
    refine then_exit ?_
    refine then_exit ?_
    refine block_exit ?_
    replace H := N2_
    refine T_env (E' := [(3, (intA sum3))]) ⟨rfl, trivial⟩ ?_
    refine T_seq ?_
    refine T_region ?_
    refine TO_cons rfl (TOp_pure (pur_move rfl) rfl ?_)
    refine TO_cons rfl (TOp_pure (pur_assign rfl) rfl ?_)
    refine TO_nil ?_
    refine T_env (E' := [(2, (intA sum3))]) ⟨rfl, trivial⟩ ?_
    refine T_ret ?_
    obtain rfl := some_inj H
    refine end_ret (.tmp .nil) rfl rfl ⟨?_, rfl⟩
    rfl

set_option maxHeartbeats 1000000 in
/-- impl.columnOf -/
theorem m_impl_columnOf_own (db0 : Database) (indices1 : (List Int)) (relation2 : Int) (column3 : Int) (r : (List Int)) (H : m_impl_columnOf db0 indices1 relation2 column3 = some r) : FnO prg 58 [(.g (tDatabase.enc db0)), (sl tInt indices1), (intA relation2), (intA column3)] (.m [0] 0 r.length tInt.k) [.row (flat tInt.own r)] := by
  unfold m_impl_columnOf at H
  refine fnO_of_T Try.func58 rfl rfl (Nat.le_of_ble_eq_true rfl) ?_
  refine T_env (E' := [(0, (.g (tDatabase.enc db0))), (1, (sl tInt indices1)), (2, (intA relation2)), (3, (intA column3))]) ⟨rfl, rfl, rfl, rfl, trivial⟩ ?_
  refine T_seq ?_
  refine T_region ?_
  refine TO_cons rfl (TOp_box rfl (boxAll rfl) rfl rfl ?_)
  refine TO_cons rfl (TOp_pure (pur_assign rfl) rfl ?_)
  refine TO_nil ?_
  refine T_env (E' := [(1, (sl tInt indices1)), (2, (intA relation2)), (3, (intA column3)), (4, (.b 0 0))]) ⟨rfl, rfl, rfl, rfl, trivial⟩ ?_
  refine T_seq ?_
  refine T_region ?_
  refine TO_cons rfl (TOp_lit (nn := 0) (k := 1) sl33 zero3 rfl rfl rfl rfl (by decide) ?_)
  refine TO_st (σ' := [.box [(sl tRelation db0.relations), (sl tFact db0.facts)], .row (flat tInt.enc ([] : (List Int)))]) rfl ?_
  refine TO_cons rfl (TOp_pure (pur_assign rfl) rfl ?_)
  refine TO_nil ?_
  refine T_env (E' := [(1, (sl tInt indices1)), (2, (intA relation2)), (3, (intA column3)), (4, (.b 0 0)), (9, (.m [1] 0 ([] : (List Int)).length tInt.k))]) ⟨rfl, rfl, rfl, rfl, rfl, trivial⟩ ?_
  refine T_seq ?_
  refine T_seq ?_
  refine T_region ?_
  refine TO_cons rfl (TOp_pure (pur_move rfl) rfl ?_)
  refine TO_cons rfl (TOp_pure (pur_lenT (T := tInt) sl33 rfl rfl) rfl ?_)
  refine TO_cons rfl (TOp_pure (pur_move rfl) rfl ?_)
  refine TO_nil ?_
  refine T_env (E' := [(2, (intA relation2)), (3, (intA column3)), (4, (.b 0 0)), (9, (.m [1] 0 ([] : (List Int)).length tInt.k)), (13, (sl tInt indices1)), (14, (intA (indices1.length : Int))), (15, (intA 0))]) ⟨rfl, rfl, rfl, rfl, rfl, rfl, rfl, trivial⟩ ?_
  obtain ⟨O2_, L2_, N2_⟩ := bind_inv H
  clear H
  obtain ⟨B2_, hb2, L2_⟩ := gen_forS L2_
  refine T_block ?_
  refine T_loopX (fun k => fun (x_ : Nat × (List Int)) => k = indices1.length - x_.1 ∧ forS B2_ (indices1.drop x_.1) (x_.1 : Int) x_.2 = some O2_) (fun (x_ : Nat × (List Int)) => [(2, (intA relation2)), (3, (intA column3)), (4, (.b 0 0)), (9, (.m [1] 0 x_.2.length tInt.k)), (13, (sl tInt indices1)), (14, (intA (indices1.length : Int))), (15, (intA (x_.1 : Int)))]) (fun (x_ : Nat × (List Int)) => [.box [(sl tRelation db0.relations), (sl tFact db0.facts)], .row (flat tInt.enc x_.2)]) _ (0, ([] : (List Int))) (WeakL.to 2 (Nat.le_of_ble_eq_true rfl) rfl rfl rfl rfl ⟨leR rfl, leR rfl, leR rfl, leR rfl, leR rfl, leR rfl, leR rfl, trivial⟩) ⟨rfl, L2_⟩ ?_
  rintro _ ⟨t_1, out9⟩ ⟨rfl, L2_⟩
  refine T_env (E' := [(2, (intA relation2)), (3, (intA column3)), (4, (.b 0 0)), (9, (.m [1] 0 out9.length tInt.k)), (13, (sl tInt indices1)), (14, (intA (indices1.length : Int))), (15, (intA (t_1 : Int)))]) ⟨rfl, rfl, rfl, rfl, rfl, rfl, rfl, trivial⟩ ?_
  refine T_st (σ' := [.box [(sl tRelation db0.relations), (sl tFact db0.facts)], .row (flat tInt.enc out9)]) rfl ?_
  refine T_fact (len_sl (T := tInt) (.tmp 13) rfl) (fun hl2 => ?_)
  refine T_seq ?_
  refine T_region ?_
  refine TO_cons rfl (TOp_pure (pur_lss rfl rfl rfl) rfl ?_)
  refine TO_nil ?_
  refine T_env (E' := [(2, (intA relation2)), (3, (intA column3)), (4, (.b 0 0)), (9, (.m [1] 0 out9.length tInt.k)), (13, (sl tInt indices1)), (14, (intA (indices1.length : Int))), (15, (intA (t_1 : Int))), (16, (boolA (decide ((t_1 : Int) < (indices1.length : Int)))))]) ⟨rfl, rfl, rfl, rfl, rfl, rfl, rfl, rfl, trivial⟩ ?_
  refine T_seq ?_
  refine T_cond (t := decide ((t_1 : Int) < (indices1.length : Int))) rfl (fun d2 => ?_) (fun d2 => ?_)
  · replace d2 := of_decide_eq_true d2
    obtain ⟨x_t_1, hx_t_1⟩ : ∃ v, (indices1)[t_1]? = some v := ⟨_, List.getElem?_eq_getElem (by omega)⟩
    obtain ⟨C2_, H, K2_⟩ := forS_step L2_ hx_t_1
    rw [hb2] at H
    refine T_skip ?_
    refine T_env (E' := [(2, (intA relation2)), (3, (intA column3)), (4, (.b 0 0)), (9, (.m [1] 0 out9.length tInt.k)), (13, (sl tInt indices1)), (14, (intA (indices1.length : Int))), (15, (intA (t_1 : Int)))]) ⟨rfl, rfl, rfl, rfl, rfl, rfl, rfl, trivial⟩ ?_
    refine T_seq ?_
    refine T_block ?_
    refine T_seq ?_
    refine T_region ?_
    refine TO_cons rfl (TOp_pure (pur_ixT (T := tInt) sl33 rfl rfl rfl hx_t_1 rfl) rfl ?_)
    refine TO_cons rfl (TOp_pure (pur_ldT (T := tInt) (i := t_1) (off := 0) rfl one3 rfl rfl hx_t_1 rfl) rfl ?_)
    refine TO_cons rfl (TOp_pure (pur_assign rfl) rfl ?_)
    refine TO_nil ?_
    refine T_env (E' := [(2, (intA relation2)), (3, (intA column3)), (4, (.b 0 0)), (9, (.m [1] 0 out9.length tInt.k)), (11, (intA x_t_1)), (13, (sl tInt indices1)), (14, (intA (indices1.length : Int))), (15, (intA (t_1 : Int)))]) ⟨rfl, rfl, rfl, rfl, rfl, rfl, rfl, rfl, trivial⟩ ?_
    refine T_seq ?_
    refine T_region ?_
    refine TO_cons rfl (TOp_pure (pur_fa_b fld32_1 rfl rfl) rfl ?_)
    refine TO_cons rfl (TOp_pure (pur_ld_b one30 rfl rfl rfl rfl) rfl ?_)
    refine TO_cons rfl (TOp_pure (pur_move rfl) rfl ?_)
    obtain ⟨v_3, h_4, H⟩ := bind_inv H
    obtain ⟨n_5, hz_6, hv_7⟩ := getI_inv h_4
    refine TO_cons rfl (TOp_pure (pur_ixT (T := tFact) sl30 rfl rfl hz_6 hv_7 rfl) rfl ?_)
    refine TO_cons rfl (TOp_pure (pur_fa_q fld60_0 rfl rfl) rfl ?_)
    refine TO_cons rfl (TOp_pure (pur_ldT (T := tFact) (i := n_5) (off := 0) rfl one3 rfl rfl hv_7 rfl) rfl ?_)
    refine TO_cons rfl (TOp_pure (pur_move rfl) rfl ?_)
    refine TO_cons rfl (TOp_pure (pur_eql rfl rfl rfl) rfl ?_)
    refine TO_nil ?_
    refine T_env (E' := [(2, (intA relation2)), (3, (intA column3)), (4, (.b 0 0)), (9, (.m [1] 0 out9.length tInt.k)), (11, (intA x_t_1)), (13, (sl tInt indices1)), (14, (intA (indices1.length : Int))), (15, (intA (t_1 : Int))), (26, (boolA (decide (v_3.relation = relation2))))]) ⟨rfl, rfl, rfl, rfl, rfl, rfl, rfl, rfl, rfl, trivial⟩ ?_
    refine T_cond (t := decide (v_3.relation = relation2)) rfl (fun c_8 => ?_) (fun c_8 => ?_)
    · replace H := cond_t c_8 H
      refine T_region ?_
      refine TO_cons rfl (TOp_pure (pur_move rfl) rfl ?_)
      refine TO_cons rfl (TOp_pure (pur_fa_b fld32_1 rfl rfl) rfl ?_)
      refine TO_cons rfl (TOp_pure (pur_ld_b one30 rfl rfl rfl rfl) rfl ?_)
      refine TO_cons rfl (TOp_pure (pur_move rfl) rfl ?_)
      refine TO_cons rfl (TOp_pure (pur_ixT (T := tFact) sl30 rfl rfl hz_6 hv_7 rfl) rfl ?_)
      refine TO_cons rfl (TOp_pure (pur_fa_q fld60_1 rfl rfl) rfl ?_)
      refine TO_cons rfl (TOp_pure (pur_ldT (T := tFact) (i := n_5) (off := 1) rfl one33 rfl rfl hv_7 rfl) rfl ?_)
      refine TO_cons rfl (TOp_pure (pur_move rfl) rfl ?_)
      refine TO_env (E' := [(2, (intA relation2)), (3, (intA column3)), (4, (.b 0 0)), (9, (.m [1] 0 out9.length tInt.k)), (13, (sl tInt indices1)), (14, (intA (indices1.length : Int))), (15, (intA (t_1 : Int))), (27, (.m [1] 0 out9.length tInt.k)), (33, (sl tInt v_3.values)), (34, (intA column3))]) ⟨rfl, rfl, rfl, rfl, rfl, rfl, rfl, rfl, rfl, rfl, trivial⟩ ?_
      obtain ⟨v_9, h_10, H⟩ := bind_inv H
      obtain ⟨n_11, hz_12, hv_13⟩ := getI_inv h_10
      refine TO_cons rfl (TOp_pure (pur_ixT (T := tInt) sl33 rfl rfl hz_12 hv_13 rfl) rfl ?_)
      refine TO_cons rfl (TOp_pure (pur_ldT (T := tInt) (i := n_11) (off := 0) rfl one3 rfl rfl hv_13 rfl) rfl ?_)
      refine TO_cons rfl (TOp_lit (nn := 1) (k := 1) sl33 zero3 rfl rfl rfl rfl (by decide) ?_)
      refine TO_st (σ' := [.box [(sl tRelation db0.relations), (sl tFact db0.facts)], .row (flat tInt.enc out9), .row (flat tInt.enc ([v_9] : (List Int)))]) rfl ?_
      obtain ⟨us_14, h_15, H⟩ := bind_inv H
      refine TO_cons rfl (TOp_appZ (T := tInt) (f := tInt.enc) (xs := out9) (ys := ([v_9] : (List Int))) tInt.len sl33 zero3 rfl bytes3 (by decide) rfl rfl rfl rfl (src_mT (f := tInt.enc) tInt.len rfl rfl (flat_cell tInt _)) (flat_cell tInt _) h_15 (Nat.le_of_ble_eq_true rfl) ?_)
      refine TO_env (E' := [(2, (intA relation2)), (3, (intA column3)), (4, (.b 0 0)), (13, (sl tInt indices1)), (14, (intA (indices1.length : Int))), (15, (intA (t_1 : Int))), (33, (sl tInt v_3.values)), (34, (intA column3)), (35, (.q (flat tInt.enc v_3.values) (n_11 * tInt.k))), (36, (intA v_9)), (37, (.m [2] 0 ([v_9] : (List Int)).length tInt.k)), (38, (.m [1] 0 us_14.length tInt.k))]) ⟨rfl, rfl, rfl, rfl, rfl, rfl, rfl, rfl, rfl, rfl, rfl, rfl, trivial⟩ ?_
      refine TO_st (σ' := [.box [(sl tRelation db0.relations), (sl tFact db0.facts)], .row (flat tInt.enc us_14), .row (flat tInt.enc ([v_9] : (List Int))), .dead]) rfl ?_
      refine TO_cons rfl (TOp_pure (pur_assign rfl) rfl ?_)
      refine TO_nil ?_
      refine T_env (E' := [(2, (intA relation2)), (3, (intA column3)), (4, (.b 0 0)), (9, (.m [1] 0 us_14.length tInt.k)), (13, (sl tInt indices1)), (14, (intA (indices1.length : Int))), (15, (intA (t_1 : Int)))]) ⟨rfl, rfl, rfl, rfl, rfl, rfl, rfl, trivial⟩ ?_
      refine T_region ?_
      refine TO_cons rfl (TOp_pure (pur_add rfl rfl rfl (fits64 (by omega) (by omega))) rfl ?_)
      refine TO_cons rfl (TOp_pure (pur_move rfl) rfl ?_)
      refine TO_nil ?_
      obtain rfl := some_inj H
      exact again (indices1.length - (t_1 + 1)) (t_1 + 1, us_14) (by omega) (WeakL.to 2 (Nat.le_of_ble_eq_true rfl) rfl rfl rfl rfl ⟨leR rfl, leR rfl, leR rfl, leR rfl, leR rfl, leR rfl, leR rfl, trivial⟩) ⟨rfl, K2_⟩
    · replace H := cond_f c_8 H
      refine T_skip ?_
      refine T_env (E' := [(2, (intA relation2)), (3, (intA column3)), (4, (.b 0 0)), (9, (.m [1] 0 out9.length tInt.k)), (13, (sl tInt indices1)), (14, (intA (indices1.length : Int))), (15, (intA (t_1 : Int)))]) ⟨rfl, rfl, rfl, rfl, rfl, rfl, rfl, trivial⟩ ?_
      refine T_region ?_
      refine TO_cons rfl (TOp_pure (pur_add rfl rfl rfl (fits64 (by omega) (by omega))) rfl ?_)
      refine TO_cons rfl (TOp_pure (pur_move rfl) rfl ?_)
      refine TO_nil ?_
      obtain rfl := some_inj H
      exact again (indices1.length - (t_1 + 1)) (t_1 + 1, out9) (by omega) (WeakL.to 2 (Nat.le_of_ble_eq_true rfl) rfl rfl rfl rfl ⟨leR rfl, leR rfl, leR rfl, leR rfl, leR rfl, leR rfl, leR rfl, trivial⟩) ⟨rfl, K2_⟩
  · replace d2 := of_decide_eq_false d2
    obtain rfl := forS_end L2_ (by omega)
    refine T_exit ?_
    refine then_exit ?_
    refine then_exit ?_
    refine block_exit ?_
    replace H := N2_
    refine T_env (E' := [(9, (.m [1] 0 out9.length tInt.k))]) ⟨rfl, trivial⟩ ?_
    refine T_seq ?_
    refine T_region ?_
    refine TO_cons rfl (TOp_pure (pur_move rfl) rfl ?_)
    refine TO_cons rfl (TOp_pure (pur_assign rfl) rfl ?_)
    refine TO_nil ?_
    refine T_env (E' := [(8, (.m [1] 0 out9.length tInt.k))]) ⟨rfl, trivial⟩ ?_
    refine T_ret ?_
    obtain rfl := some_inj H
    exact end_pick (.tmp .nil) rfl [1] (by decide) rfl rfl rfl rfl rfl rfl
theorem m_impl_columnOf_ok (db0 : Database) (indices1 : (List Int)) (relation2 : Int) (column3 : Int) (r : (List Int)) (H : m_impl_columnOf db0 indices1 relation2 column3 = some r) : FnV prg 58 [(.g (tDatabase.enc db0)), (sl tInt indices1), (intA relation2), (intA column3)] (sl tInt r) := (m_impl_columnOf_own db0 indices1 relation2 column3 r H).frz (frzT (T := tInt) rfl)

set_option maxHeartbeats 1000000 in
/-- impl.ColumnSum -/
theorem m_impl_ColumnSum_ok (db0 : Database) (indices1 : (List Int)) (relation2 : Int) (column3 : Int) (r : Int) (H : m_impl_ColumnSum db0 indices1 relation2 column3 = some r) : FnV prg 23 [(.g (tDatabase.enc db0)), (sl tInt indices1), (intA relation2), (intA column3)] (intA r) := by
  unfold m_impl_ColumnSum at H
  refine fnV_of_T Try.func23 rfl rfl (Nat.le_of_ble_eq_true rfl) ?_
  refine T_env (E' := [(0, (.g (tDatabase.enc db0))), (1, (sl tInt indices1)), (2, (intA relation2)), (3, (intA column3))]) ⟨rfl, rfl, rfl, rfl, trivial⟩ ?_
  refine T_seq ?_
  refine T_region ?_
  refine TO_cons rfl (TOp_box rfl (boxAll rfl) rfl rfl ?_)
  refine TO_cons rfl (TOp_pure (pur_assign rfl) rfl ?_)
  refine TO_nil ?_
  refine T_env (E' := [(1, (sl tInt indices1)), (2, (intA relation2)), (3, (intA column3)), (4, (.b 0 0))]) ⟨rfl, rfl, rfl, rfl, trivial⟩ ?_
  refine T_seq ?_
  obtain ⟨t21, J_1, H_2⟩ := bind_inv H
  refine T_cutX (fun x => t21 = x) (fun (t21 : Bool) => [(1, (sl tInt indices1)), (2, (intA relation2)), (3, (intA column3)), (4, (.b 0 0)), (21, (boolA t21))]) (fun (t21 : Bool) => [.box [(sl tRelation db0.relations), (sl tFact db0.facts)]]) ?_ ?_
  · replace H := J_1
    refine T_region ?_
    refine TO_cons rfl (TOp_pure (pur_ldK_b agg32 rfl rfl (Nat.le_of_ble_eq_true rfl) rfl) rfl ?_)
    refine TO_cons rfl (TOp_pure (pur_move rfl) rfl ?_)
    refine TO_cons rfl (TOp_pure (pur_move rfl) rfl ?_)
    obtain ⟨r_3, h_4, H⟩ := bind_inv H
    refine TO_cons rfl (TOp_callV (call_static ent55 rfl) (m_impl_isColumn_ok _ _ _ _ h_4) rfl rfl rfl ?_)
    refine TO_cons rfl (TOp_pure (pur_not rfl rfl) rfl ?_)
    refine TO_cons rfl (TOp_pure (pur_move rfl) rfl ?_)
    refine TO_split (t := (!r_3)) 14 rfl (fun g_5 => ?_) (fun g_5 => ?_)
    · replace H := cond_t g_5 H
      refine TO_off rfl rfl (by decide) rfl rfl rfl ?_
      refine TO_off rfl rfl (by decide) rfl rfl rfl ?_
      refine TO_off rfl rfl (by decide) rfl rfl rfl ?_
      refine TO_off rfl rfl (by decide) rfl rfl rfl ?_
      refine TO_off rfl rfl (by decide) rfl rfl rfl ?_
      refine TO_off rfl rfl (by decide) rfl rfl rfl ?_
      refine TO_cons rfl (TOp_pure (pur_pick (t := true) rfl rfl rfl) rfl ?_)
      refine TO_nil ?_
      exact joined true (WeakL.to 1 (Nat.le_of_ble_eq_true rfl) rfl rfl rfl rfl ⟨leR rfl, leR rfl, leR rfl, leR rfl, leR rfl, trivial⟩) (some_inj H).symm
    · replace H := cond_f g_5 H
      refine TO_on rfl rfl (by decide) rfl rfl (TOp_pure (pur_move rfl) rfl ?_)
      refine TO_on rfl rfl (by decide) rfl rfl (TOp_pure (pur_fa_b fld32_1 rfl rfl) rfl ?_)
      refine TO_on rfl rfl (by decide) rfl rfl (TOp_pure (pur_ld_b one30 rfl rfl rfl rfl) rfl ?_)
      refine TO_on rfl rfl (by decide) rfl rfl (TOp_pure (pur_lenT (T := tFact) sl30 rfl rfl) rfl ?_)
      obtain ⟨r_6, h_7, H⟩ := bind_inv H
      refine TO_on rfl rfl (by decide) rfl rfl (TOp_callV (call_static ent56 rfl) (m_impl_areIndices_ok _ _ _ h_7) rfl rfl rfl ?_)
      refine TO_on rfl rfl (by decide) rfl rfl (TOp_pure (pur_not rfl rfl) rfl ?_)
      refine TO_cons rfl (TOp_pure (pur_pick (t := false) rfl rfl rfl) rfl ?_)
      refine TO_nil ?_
      exact joined (!r_6) (WeakL.to 1 (Nat.le_of_ble_eq_true rfl) rfl rfl rfl rfl ⟨leR rfl, leR rfl, leR rfl, leR rfl, leR rfl, trivial⟩) (some_inj H).symm
  · rintro _ rfl
    replace H := H_2
    refine T_env (E' := [(1, (sl tInt indices1)), (2, (intA relation2)), (3, (intA column3)), (4, (.b 0 0)), (21, (boolA t21))]) ⟨rfl, rfl, rfl, rfl, rfl, trivial⟩ ?_
    refine T_cond (t := t21) rfl (fun c_8 => ?_) (fun c_8 => ?_)
    · replace H := cond_t c_8 H
      refine T_seq ?_
      refine T_region ?_
      refine TO_cons rfl (TOp_pure (pur_assign rfl) rfl ?_)
      refine TO_nil ?_
      refine T_env (E' := [(8, (intA 0))]) ⟨rfl, trivial⟩ ?_
      refine T_ret ?_
      refine then_ret ?_
      obtain rfl := some_inj H
      refine end_ret (.tmp .nil) rfl rfl ⟨?_, rfl⟩
      rfl
    · replace H := cond_f c_8 H
      refine T_skip ?_
      refine T_env (E' := [(1, (sl tInt indices1)), (2, (intA relation2)), (3, (intA column3)), (4, (.b 0 0))]) ⟨rfl, rfl, rfl, rfl, trivial⟩ ?_
      refine T_seq ?_
      refine T_region ?_
      refine TO_cons rfl (TOp_pure (pur_ldK_b agg32 rfl rfl (Nat.le_of_ble_eq_true rfl) rfl) rfl ?_)
      refine TO_cons rfl (TOp_pure (pur_move rfl) rfl ?_)
      refine TO_cons rfl (TOp_pure (pur_move rfl) rfl ?_)
      refine TO_cons rfl (TOp_pure (pur_move rfl) rfl ?_)
      obtain ⟨r_9, h_10, H⟩ := bind_inv H
      refine TO_cons rfl (TOp_callV (call_static ent58 rfl) (m_impl_columnOf_ok _ _ _ _ _ h_10) rfl rfl rfl ?_)
      obtain ⟨r_11, h_12, H⟩ := bind_inv H
      refine TO_cons rfl (TOp_callV (call_static ent57 rfl) (m_impl_sumOf_ok _ _ h_12) rfl rfl rfl ?_)
      refine TO_cons rfl (TOp_pure (pur_assign rfl) rfl ?_)
      refine TO_nil ?_
      refine T_env (E' := [(8, (intA r_11))]) ⟨rfl, trivial⟩ ?_
      refine T_ret ?_
      obtain rfl := some_inj H
      refine end_ret (.tmp .nil) rfl rfl ⟨?_, rfl⟩
      rfl
end Go.Proofs.Ytlcpdlngbofgcaa

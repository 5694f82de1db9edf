/- Walks. -/
import Derived.Test.YtlcpdlngbofgcaaM1
set_option linter.unusedVariables false
set_option linter.unusedSimpArgs false
set_option maxRecDepth 4000
namespace Go.Proofs.Ytlcpdlngbofgcaa
open Go Go.Proofs Go.Sep
set_option maxHeartbeats 1000000 in
/-- laws.szIntS -/
theorem m_laws_szIntS_ok (a0 : (List Int)) (left1 : Int) (r : Int) (H : m_laws_szIntS a0 left1 = some r) : FnV prg 46 [(sl tInt a0), (intA left1)] (intA r) := by
  unfold m_laws_szIntS at H
  refine fnV_of_T Try.func46 rfl rfl (Nat.le_of_ble_eq_true rfl) ?_
  refine T_env (E' := [(0, (sl tInt a0)), (1, (intA left1))]) ⟨rfl, rfl, trivial⟩ ?_
  refine T_seq ?_
  refine T_region ?_
  refine TO_cons rfl (TOp_pure (pur_assign rfl) rfl ?_)
  refine TO_nil ?_
  refine T_env (E' := [(0, (sl tInt a0)), (1, (intA left1))]) ⟨rfl, rfl, trivial⟩ ?_
  refine T_seq ?_
  refine T_region ?_
  refine TO_cons rfl (TOp_pure (pur_move rfl) rfl ?_)
  refine TO_cons rfl (TOp_pure (pur_move rfl) rfl ?_)
  refine TO_cons rfl (TOp_pure (pur_lenT (T := tInt) sl33 rfl rfl) rfl ?_)
  refine TO_cons rfl (TOp_pure (pur_wsub rfl rfl rfl) rfl ?_)
  refine TO_cons rfl (TOp_pure (pur_assign rfl) rfl ?_)
  refine TO_nil ?_
  refine T_env (E' := [(1, (intA (w64 (left1 - (a0.length : Int)))))]) ⟨rfl, trivial⟩ ?_
  refine T_seq ?_
  refine T_seq ?_
  refine T_region ?_
  refine TO_cons rfl (TOp_pure (pur_move rfl) rfl ?_)
  refine TO_cons rfl (TOp_pure (pur_lss rfl rfl rfl) rfl ?_)
  refine TO_nil ?_
  refine T_env (E' := [(1, (intA (w64 (left1 - (a0.length : Int))))), (10, (boolA (decide ((w64 (left1 - (a0.length : Int))) < 0))))]) ⟨rfl, rfl, trivial⟩ ?_
  refine T_cond (t := decide ((w64 (left1 - (a0.length : Int))) < 0)) rfl (fun c_1 => ?_) (fun c_1 => ?_)
  · replace H := cond_t c_1 H
    refine T_seq ?_
    refine T_region ?_
    refine TO_cons rfl (TOp_pure (pur_assign rfl) rfl ?_)
    refine TO_nil ?_
    refine T_env (E' := [(4, (intA (-1)))]) ⟨rfl, trivial⟩ ?_
    refine T_ret ?_
    refine then_ret ?_
    obtain rfl := some_inj H
    refine end_ret (.tmp .nil) rfl rfl ⟨?_, rfl⟩
    rfl
  · replace H := cond_f c_1 H
    refine T_skip ?_
    refine T_env (E' := [(1, (intA (w64 (left1 - (a0.length : Int)))))]) ⟨rfl, trivial⟩ ?_
    refine T_seq ?_
    refine T_region ?_
    refine TO_cons rfl (TOp_pure (pur_move rfl) rfl ?_)
    refine TO_cons rfl (TOp_pure (pur_assign rfl) rfl ?_)
    refine TO_nil ?_
    refine T_env (E' := [(4, (intA (w64 (left1 - (a0.length : Int)))))]) ⟨rfl, trivial⟩ ?_
    refine T_ret ?_
    obtain rfl := some_inj H
    refine end_ret (.tmp .nil) rfl rfl ⟨?_, rfl⟩
    rfl

set_option maxHeartbeats 1000000 in
/-- laws.szIntSS -/
theorem m_laws_szIntSS_ok (a0 : (List (List Int))) (left1 : Int) (r : Int) (H : m_laws_szIntSS a0 left1 = some r) : FnV prg 14 [(sl (tSl tInt) a0), (intA left1)] (intA r) := by
  unfold m_laws_szIntSS at H
  refine fnV_of_T Try.func14 rfl rfl (Nat.le_of_ble_eq_true rfl) ?_
  refine T_env (E' := [(0, (sl (tSl tInt) a0)), (1, (intA left1))]) ⟨rfl, rfl, trivial⟩ ?_
  refine T_seq ?_
  refine T_region ?_
  refine TO_cons rfl (TOp_pure (pur_assign rfl) rfl ?_)
  refine TO_nil ?_
  refine T_env (E' := [(0, (sl (tSl tInt) a0)), (1, (intA left1))]) ⟨rfl, rfl, trivial⟩ ?_
  refine T_seq ?_
  refine T_region ?_
  refine TO_cons rfl (TOp_pure (pur_move rfl) rfl ?_)
  refine TO_cons rfl (TOp_pure (pur_move rfl) rfl ?_)
  refine TO_cons rfl (TOp_pure (pur_lenT (T := (tSl tInt)) sl22 rfl rfl) rfl ?_)
  refine TO_cons rfl (TOp_pure (pur_wsub rfl rfl rfl) rfl ?_)
  refine TO_cons rfl (TOp_pure (pur_assign rfl) rfl ?_)
  refine TO_nil ?_
  refine T_env (E' := [(0, (sl (tSl tInt) a0)), (1, (intA (w64 (left1 - (a0.length : Int)))))]) ⟨rfl, rfl, trivial⟩ ?_
  refine T_seq ?_
  refine T_seq ?_
  refine T_region ?_
  refine TO_cons rfl (TOp_pure (pur_move rfl) rfl ?_)
  refine TO_cons rfl (TOp_pure (pur_lss rfl rfl rfl) rfl ?_)
  refine TO_nil ?_
  refine T_env (E' := [(0, (sl (tSl tInt) a0)), (1, (intA (w64 (left1 - (a0.length : Int))))), (11, (boolA (decide ((w64 (left1 - (a0.length : Int))) < 0))))]) ⟨rfl, rfl, rfl, trivial⟩ ?_
  refine T_cond (t := decide ((w64 (left1 - (a0.length : Int))) < 0)) rfl (fun c_1 => ?_) (fun c_1 => ?_)
  · replace H := cond_t c_1 H
    refine T_seq ?_
    refine T_region ?_
    refine TO_cons rfl (TOp_pure (pur_assign rfl) rfl ?_)
    refine TO_nil ?_
    refine T_env (E' := [(4, (intA (-1)))]) ⟨rfl, trivial⟩ ?_
    refine T_ret ?_
    refine then_ret ?_
    obtain rfl := some_inj H
    refine end_ret (.tmp .nil) rfl rfl ⟨?_, rfl⟩
    rfl
  · replace H := cond_f c_1 H
    refine T_skip ?_
    refine T_env (E' := [(0, (sl (tSl tInt) a0)), (1, (intA (w64 (left1 - (a0.length : Int)))))]) ⟨rfl, rfl, trivial⟩ ?_
    refine T_seq ?_
    refine T_seq ?_
    refine T_region ?_
    refine TO_cons rfl (TOp_pure (pur_assign rfl) rfl ?_)
    refine TO_nil ?_
    refine T_env (E' := [(0, (sl (tSl tInt) a0)), (1, (intA (w64 (left1 - (a0.length : Int))))), (5, (intA 0))]) ⟨rfl, rfl, rfl, trivial⟩ ?_
    obtain ⟨O3_, L3_, N3_⟩ := bind_inv H
    clear H
    obtain ⟨B3_, hb3, L3_⟩ := gen_forL L3_
    refine T_block ?_
    refine T_loopX (fun k => fun (x_ : Nat × Int) => k = a0.length - x_.1 ∧ forL B3_ (a0.drop x_.1) (x_.1 : Int) x_.2 = some O3_) (fun (x_ : Nat × Int) => [(0, (sl (tSl tInt) a0)), (1, (intA x_.2)), (5, (intA (x_.1 : Int)))]) (fun (x_ : Nat × Int) => []) _ (0, (w64 (left1 - (a0.length : Int)))) (WeakL.to 0 (Nat.le_of_ble_eq_true rfl) rfl rfl rfl rfl ⟨leR rfl, leR rfl, leR rfl, trivial⟩) ⟨rfl, L3_⟩ ?_
    rintro _ ⟨i_2, left1⟩ ⟨rfl, L3_⟩
    refine T_env (E' := [(0, (sl (tSl tInt) a0)), (1, (intA left1)), (5, (intA (i_2 : Int)))]) ⟨rfl, rfl, rfl, trivial⟩ ?_
    refine T_st (σ' := []) rfl ?_
    refine T_fact (len_sl (T := (tSl tInt)) (.tmp 0) rfl) (fun hl3 => ?_)
    refine T_seq ?_
    refine T_seq ?_
    refine T_region ?_
    refine TO_cons rfl (TOp_pure (pur_move rfl) rfl ?_)
    refine TO_cons rfl (TOp_pure (pur_move rfl) rfl ?_)
    refine TO_cons rfl (TOp_pure (pur_lenT (T := (tSl tInt)) sl22 rfl rfl) rfl ?_)
    refine TO_cons rfl (TOp_pure (pur_lss rfl rfl rfl) rfl ?_)
    refine TO_nil ?_
    refine T_env (E' := [(0, (sl (tSl tInt) a0)), (1, (intA left1)), (5, (intA (i_2 : Int))), (15, (boolA (decide ((i_2 : Int) < (a0.length : Int)))))]) ⟨rfl, rfl, rfl, rfl, trivial⟩ ?_
    refine T_cond (t := decide ((i_2 : Int) < (a0.length : Int))) rfl (fun d3 => ?_) (fun d3 => ?_)
    · replace d3 := of_decide_eq_true d3
      obtain ⟨x_i_2, hx_i_2⟩ : ∃ v, (a0)[i_2]? = some v := ⟨_, List.getElem?_eq_getElem (by omega)⟩
      obtain ⟨C3_, H, K3_⟩ := forL_step L3_ hx_i_2
      rw [hb3] at H
      refine T_skip ?_
      refine T_env (E' := [(0, (sl (tSl tInt) a0)), (1, (intA left1)), (5, (intA (i_2 : Int)))]) ⟨rfl, rfl, rfl, trivial⟩ ?_
      refine T_seq ?_
      refine T_block ?_
      refine T_seq ?_
      refine T_region ?_
      refine TO_cons rfl (TOp_pure (pur_move rfl) rfl ?_)
      refine TO_cons rfl (TOp_pure (pur_move rfl) rfl ?_)
      refine TO_cons rfl (TOp_pure (pur_ixT (T := (tSl tInt)) sl22 rfl rfl rfl hx_i_2 rfl) rfl ?_)
      refine TO_cons rfl (TOp_pure (pur_ldT (T := (tSl tInt)) (i := i_2) (off := 0) rfl one33 rfl rfl hx_i_2 rfl) rfl ?_)
      refine TO_cons rfl (TOp_pure (pur_move rfl) rfl ?_)
      obtain ⟨r_4, h_5, H⟩ := bind_inv H
      refine TO_cons rfl (TOp_callV (call_static ent46 rfl) (m_laws_szIntS_ok _ _ _ h_5) rfl rfl rfl ?_)
      refine TO_cons rfl (TOp_pure (pur_assign rfl) rfl ?_)
      refine TO_nil ?_
      refine T_env (E' := [(0, (sl (tSl tInt) a0)), (1, (intA r_4)), (5, (intA (i_2 : Int)))]) ⟨rfl, rfl, rfl, trivial⟩ ?_
      refine T_seq ?_
      refine T_region ?_
      refine TO_cons rfl (TOp_pure (pur_move rfl) rfl ?_)
      refine TO_cons rfl (TOp_pure (pur_lss rfl rfl rfl) rfl ?_)
      refine TO_nil ?_
      refine T_env (E' := [(0, (sl (tSl tInt) a0)), (1, (intA r_4)), (5, (intA (i_2 : Int))), (25, (boolA (decide (r_4 < 0))))]) ⟨rfl, rfl, rfl, rfl, trivial⟩ ?_
      refine T_cond (t := decide (r_4 < 0)) rfl (fun c_6 => ?_) (fun c_6 => ?_)
      · replace H := cond_t c_6 H
        refine T_seq ?_
        refine T_region ?_
        refine TO_cons rfl (TOp_pure (pur_assign rfl) rfl ?_)
        refine TO_nil ?_
        refine T_env (E' := [(4, (intA (-1)))]) ⟨rfl, trivial⟩ ?_
        refine T_ret ?_
        refine block_ret ?_
        refine then_ret ?_
        refine then_ret ?_
        refine block_ret ?_
        refine then_ret ?_
        obtain rfl := some_inj H
        obtain rfl := some_inj K3_
        replace H := onS_r N3_
        obtain rfl := some_inj H
        refine end_ret (.tmp .nil) rfl rfl ⟨?_, rfl⟩
        rfl
      · replace H := cond_f c_6 H
        refine T_skip ?_
        refine T_env (E' := [(0, (sl (tSl tInt) a0)), (1, (intA r_4)), (5, (intA (i_2 : Int)))]) ⟨rfl, rfl, rfl, trivial⟩ ?_
        refine T_region ?_
        refine TO_cons rfl (TOp_pure (pur_move rfl) rfl ?_)
        refine TO_cons rfl (TOp_pure (pur_add rfl rfl rfl (fits64 (by omega) (by omega))) rfl ?_)
        refine TO_cons rfl (TOp_pure (pur_assign rfl) rfl ?_)
        refine TO_nil ?_
        obtain rfl := some_inj H
        exact again (a0.length - (i_2 + 1)) (i_2 + 1, r_4) (by omega) (WeakL.to 0 (Nat.le_of_ble_eq_true rfl) rfl rfl rfl rfl ⟨leR rfl, leR rfl, leR rfl, trivial⟩) ⟨rfl, K3_⟩
    · replace d3 := of_decide_eq_false d3
      obtain rfl := forL_end L3_ (by omega)
      refine T_exit ?_
      refine then_exit ?_
      refine then_exit ?_
      refine block_exit ?_
      replace H := onS_l N3_
      refine T_env (E' := [(1, (intA left1))]) ⟨rfl, trivial⟩ ?_
      refine T_seq ?_
      refine T_region ?_
      refine TO_cons rfl (TOp_pure (pur_move rfl) rfl ?_)
      refine TO_cons rfl (TOp_pure (pur_assign rfl) rfl ?_)
      refine TO_nil ?_
      refine T_env (E' := [(4, (intA left1))]) ⟨rfl, trivial⟩ ?_
      refine T_ret ?_
      obtain rfl := some_inj H
      refine end_ret (.tmp .nil) rfl rfl ⟨?_, rfl⟩
      rfl

set_option maxHeartbeats 1000000 in
/-- spec.l3Ints -/
theorem m_spec_l3Ints_ok (u : Nat) (a0 : (List Int)) (b1 : (List Int)) (r : Int) (H : m_spec_l3Ints u a0 b1 = some r) : FnV prg 47 [(sl tInt a0), (sl tInt b1)] (intA r) := by
  unfold m_spec_l3Ints at H
  refine fnV_of_T Try.func47 rfl rfl (Nat.le_of_ble_eq_true rfl) ?_
  refine T_env (E' := [(0, (sl tInt a0)), (1, (sl tInt b1))]) ⟨rfl, rfl, trivial⟩ ?_
  refine T_seq ?_
  refine T_region ?_
  refine TO_cons rfl (TOp_pure (pur_assign rfl) rfl ?_)
  refine TO_nil ?_
  refine T_env (E' := [(0, (sl tInt a0)), (1, (sl tInt b1))]) ⟨rfl, rfl, trivial⟩ ?_
  refine T_seq ?_
  refine T_seq ?_
  refine T_region ?_
  refine TO_cons rfl (TOp_pure (pur_assign rfl) rfl ?_)
  refine TO_nil ?_
  refine T_env (E' := [(0, (sl tInt a0)), (1, (sl tInt b1)), (5, (intA 0))]) ⟨rfl, rfl, rfl, trivial⟩ ?_
  obtain ⟨O1_, L1_, N1_⟩ := bind_inv H
  clear H
  obtain ⟨B1_, hb1, L1_⟩ := gen_whileF L1_
  refine T_block ?_
  refine T_loopX (fun k => fun (i5 : Int) => whileF B1_ k i5 = some O1_) (fun (i5 : Int) => [(0, (sl tInt a0)), (1, (sl tInt b1)), (5, (intA i5))]) (fun (i5 : Int) => []) u 0 (WeakL.to 0 (Nat.le_of_ble_eq_true rfl) rfl rfl rfl rfl ⟨leR rfl, leR rfl, leR rfl, trivial⟩) L1_ ?_
  rintro _ i5 L1_
  obtain ⟨k1, rfl, C1_, H, K1_⟩ := while_step L1_
  rw [hb1] at H
  refine T_env (E' := [(0, (sl tInt a0)), (1, (sl tInt b1)), (5, (intA i5))]) ⟨rfl, rfl, rfl, trivial⟩ ?_
  refine T_st (σ' := []) rfl ?_
  refine T_seq ?_
  refine T_cutX (fun x => ((decide (i5 < (a0.length : Int))) && (decide (i5 < (b1.length : Int)))) = x) (fun (t15 : Bool) => [(0, (sl tInt a0)), (1, (sl tInt b1)), (5, (intA i5)), (15, (boolA t15))]) (fun (t15 : Bool) => []) ?_ ?_
  · skip
    refine T_region ?_
    refine TO_cons rfl (TOp_pure (pur_move rfl) rfl ?_)
    refine TO_cons rfl (TOp_pure (pur_move rfl) rfl ?_)
    refine TO_cons rfl (TOp_pure (pur_lenT (T := tInt) sl33 rfl rfl) rfl ?_)
    refine TO_cons rfl (TOp_pure (pur_lss rfl rfl rfl) rfl ?_)
    refine TO_cons rfl (TOp_pure (pur_move rfl) rfl ?_)
    refine TO_split (t := decide (i5 < (a0.length : Int))) 10 rfl (fun g_4 => ?_) (fun g_4 => ?_)
    · skip
      refine TO_on rfl rfl (by decide) rfl rfl (TOp_pure (pur_move rfl) rfl ?_)
      refine TO_on rfl rfl (by decide) rfl rfl (TOp_pure (pur_move rfl) rfl ?_)
      refine TO_on rfl rfl (by decide) rfl rfl (TOp_pure (pur_lenT (T := tInt) sl33 rfl rfl) rfl ?_)
      refine TO_on rfl rfl (by decide) rfl rfl (TOp_pure (pur_lss rfl rfl rfl) rfl ?_)
      refine TO_cons rfl (TOp_pure (pur_pick (t := true) rfl rfl rfl) rfl ?_)
      refine TO_nil ?_
      exact joined (decide (i5 < (b1.length : Int))) (WeakL.to 0 (Nat.le_of_ble_eq_true rfl) rfl rfl rfl rfl ⟨leR rfl, leR rfl, leR rfl, leR rfl, trivial⟩) (by first | exact Eq.symm ((and_T g_4 rfl)))
    · skip
      refine TO_off rfl rfl (by decide) rfl rfl rfl ?_
      refine TO_off rfl rfl (by decide) rfl rfl rfl ?_
      refine TO_off rfl rfl (by decide) rfl rfl rfl ?_
      refine TO_off rfl rfl (by decide) rfl rfl rfl ?_
      refine TO_cons rfl (TOp_pure (pur_pick (t := false) rfl rfl rfl) rfl ?_)
      refine TO_nil ?_
      exact joined false (WeakL.to 0 (Nat.le_of_ble_eq_true rfl) rfl rfl rfl rfl ⟨leR rfl, leR rfl, leR rfl, leR rfl, trivial⟩) (by first | exact Eq.symm ((and_F g_4 rfl)))
  · rintro _ rfl
    refine T_env (E' := [(0, (sl tInt a0)), (1, (sl tInt b1)), (5, (intA i5)), (15, (boolA ((decide (i5 < (a0.length : Int))) && (decide (i5 < (b1.length : Int))))))]) ⟨rfl, rfl, rfl, rfl, trivial⟩ ?_
    refine T_cond (t := ((decide (i5 < (a0.length : Int))) && (decide (i5 < (b1.length : Int))))) rfl (fun c_5 => ?_) (fun c_5 => ?_)
    · replace H := cond_t c_5 H
      refine T_skip ?_
      refine T_env (E' := [(0, (sl tInt a0)), (1, (sl tInt b1)), (5, (intA i5))]) ⟨rfl, rfl, rfl, trivial⟩ ?_
      refine T_seq ?_
      refine T_block ?_
      refine T_seq ?_
      refine T_seq ?_
      refine T_regionD mixed (by kernel_rfl) ?_
      refine TQ_pure rfl (pur_move rfl) rfl ?_
      refine TQ_pure rfl (pur_move rfl) rfl ?_
      obtain ⟨v_6, h_7, H⟩ := bind_inv H
      obtain ⟨n_8, hz_9, hv_10⟩ := getI_inv h_7
      refine TQ_pure rfl (pur_ixT (T := tInt) sl33 rfl rfl hz_9 hv_10 rfl) rfl ?_
      refine TQ_pure rfl (pur_ldT (T := tInt) (i := n_8) (off := 0) rfl one3 rfl rfl hv_10 rfl) rfl ?_
      refine TQ_pure rfl (pur_move rfl) rfl ?_
      refine TQ_pure rfl (pur_move rfl) rfl ?_
      obtain ⟨v_11, h_12, H⟩ := bind_inv H
      obtain ⟨n_13, hz_14, hv_15⟩ := getI_inv h_12
      refine TQ_pure rfl (pur_ixT (T := tInt) sl33 rfl rfl hz_14 hv_15 rfl) rfl ?_
      refine TQ_pure rfl (pur_ldT (T := tInt) (i := n_13) (off := 0) rfl one3 rfl rfl hv_15 rfl) rfl ?_
      refine TQ_pure rfl (pur_lss rfl rfl rfl) rfl ?_
      refine TQ_nil ?_
      refine T_env (E' := [(0, (sl tInt a0)), (1, (sl tInt b1)), (5, (intA i5)), (26, (boolA (decide (v_6 < v_11))))]) ⟨rfl, rfl, rfl, rfl, trivial⟩ ?_
      refine T_cond (t := decide (v_6 < v_11)) rfl (fun c_16 => ?_) (fun c_16 => ?_)
      · replace H := cond_t c_16 H
        refine T_seq ?_
        refine T_region ?_
        refine TO_cons rfl (TOp_pure (pur_assign rfl) rfl ?_)
        refine TO_nil ?_
        refine T_env (E' := [(4, (intA (-1)))]) ⟨rfl, trivial⟩ ?_
        refine T_ret ?_
        refine then_ret ?_
        refine block_ret ?_
        refine then_ret ?_
        refine then_ret ?_
        refine block_ret ?_
        refine then_ret ?_
        obtain rfl := some_inj H
        obtain rfl := some_inj K1_
        replace H := onS_r N1_
        obtain rfl := some_inj H
        refine end_ret (.tmp .nil) rfl rfl ⟨?_, rfl⟩
        rfl
      · replace H := cond_f c_16 H
        refine T_skip ?_
        refine T_env (E' := [(0, (sl tInt a0)), (1, (sl tInt b1)), (5, (intA i5))]) ⟨rfl, rfl, rfl, trivial⟩ ?_
        refine T_seq ?_
        refine T_regionD mixed (by kernel_rfl) ?_
        refine TQ_pure rfl (pur_move rfl) rfl ?_
        refine TQ_pure rfl (pur_move rfl) rfl ?_
        refine TQ_pure rfl (pur_ixT (T := tInt) sl33 rfl rfl hz_9 hv_10 rfl) rfl ?_
        refine TQ_pure rfl (pur_ldT (T := tInt) (i := n_8) (off := 0) rfl one3 rfl rfl hv_10 rfl) rfl ?_
        refine TQ_pure rfl (pur_move rfl) rfl ?_
        refine TQ_pure rfl (pur_move rfl) rfl ?_
        refine TQ_pure rfl (pur_ixT (T := tInt) sl33 rfl rfl hz_14 hv_15 rfl) rfl ?_
        refine TQ_pure rfl (pur_ldT (T := tInt) (i := n_13) (off := 0) rfl one3 rfl rfl hv_15 rfl) rfl ?_
        refine TQ_pure rfl (pur_gtr rfl rfl rfl) rfl ?_
        refine TQ_nil ?_
        refine T_env (E' := [(0, (sl tInt a0)), (1, (sl tInt b1)), (5, (intA i5)), (35, (boolA (decide (v_11 < v_6))))]) ⟨rfl, rfl, rfl, rfl, trivial⟩ ?_
        refine T_cond (t := decide (v_11 < v_6)) rfl (fun c_17 => ?_) (fun c_17 => ?_)
        · replace H := cond_t c_17 H
          refine T_seq ?_
          refine T_region ?_
          refine TO_cons rfl (TOp_pure (pur_assign rfl) rfl ?_)
          refine TO_nil ?_
          refine T_env (E' := [(4, (intA 1))]) ⟨rfl, trivial⟩ ?_
          refine T_ret ?_
          refine block_ret ?_
          refine then_ret ?_
          refine then_ret ?_
          refine block_ret ?_
          refine then_ret ?_
          obtain rfl := some_inj H
          obtain rfl := some_inj K1_
          replace H := onS_r N1_
          obtain rfl := some_inj H
          refine end_ret (.tmp .nil) rfl rfl ⟨?_, rfl⟩
          rfl
        · replace H := cond_f c_17 H
          refine T_skip ?_
          refine T_env (E' := [(0, (sl tInt a0)), (1, (sl tInt b1)), (5, (intA i5))]) ⟨rfl, rfl, rfl, trivial⟩ ?_
          refine T_region ?_
          refine TO_cons rfl (TOp_pure (pur_move rfl) rfl ?_)
          refine TO_cons rfl (TOp_pure (pur_wadd rfl rfl rfl) rfl ?_)
          refine TO_cons rfl (TOp_pure (pur_assign rfl) rfl ?_)
          refine TO_nil ?_
          obtain rfl := some_inj H
          exact again k1 (w64 (i5 + 1)) (Nat.lt_succ_self _) (WeakL.to 0 (Nat.le_of_ble_eq_true rfl) rfl rfl rfl rfl ⟨leR rfl, leR rfl, leR rfl, trivial⟩) K1_
    · replace H := cond_f c_5 H
      refine T_exit ?_
      refine then_exit ?_
      refine then_exit ?_
      refine block_exit ?_
      obtain rfl := some_inj H
      obtain rfl := some_inj K1_
      replace H := onS_l N1_
      refine T_env (E' := [(0, (sl tInt a0)), (1, (sl tInt b1))]) ⟨rfl, rfl, trivial⟩ ?_
      refine T_seq ?_
      refine T_seq ?_
      refine T_region ?_
      refine TO_cons rfl (TOp_pure (pur_move rfl) rfl ?_)
      refine TO_cons rfl (TOp_pure (pur_lenT (T := tInt) sl33 rfl rfl) rfl ?_)
      refine TO_cons rfl (TOp_pure (pur_move rfl) rfl ?_)
      refine TO_cons rfl (TOp_pure (pur_lenT (T := tInt) sl33 rfl rfl) rfl ?_)
      refine TO_cons rfl (TOp_pure (pur_lss rfl rfl rfl) rfl ?_)
      refine TO_nil ?_
      refine T_env (E' := [(0, (sl tInt a0)), (1, (sl tInt b1)), (40, (boolA (decide ((a0.length : Int) < (b1.length : Int)))))]) ⟨rfl, rfl, rfl, trivial⟩ ?_
      refine T_cond (t := decide ((a0.length : Int) < (b1.length : Int))) rfl (fun c_18 => ?_) (fun c_18 => ?_)
      · replace H := cond_t c_18 H
        refine T_seq ?_
        refine T_region ?_
        refine TO_cons rfl (TOp_pure (pur_assign rfl) rfl ?_)
        refine TO_nil ?_
        refine T_env (E' := [(4, (intA (-1)))]) ⟨rfl, trivial⟩ ?_
        refine T_ret ?_
        refine then_ret ?_
        obtain rfl := some_inj H
        refine end_ret (.tmp .nil) rfl rfl ⟨?_, rfl⟩
        rfl
      · replace H := cond_f c_18 H
        refine T_skip ?_
        refine T_env (E' := [(0, (sl tInt a0)), (1, (sl tInt b1))]) ⟨rfl, rfl, trivial⟩ ?_
        refine T_seq ?_
        refine T_seq ?_
        refine T_region ?_
        refine TO_cons rfl (TOp_pure (pur_move rfl) rfl ?_)
        refine TO_cons rfl (TOp_pure (pur_lenT (T := tInt) sl33 rfl rfl) rfl ?_)
        refine TO_cons rfl (TOp_pure (pur_move rfl) rfl ?_)
        refine TO_cons rfl (TOp_pure (pur_lenT (T := tInt) sl33 rfl rfl) rfl ?_)
        refine TO_cons rfl (TOp_pure (pur_gtr rfl rfl rfl) rfl ?_)
        refine TO_nil ?_
        refine T_env (E' := [(45, (boolA (decide ((b1.length : Int) < (a0.length : Int)))))]) ⟨rfl, trivial⟩ ?_
        refine T_cond (t := decide ((b1.length : Int) < (a0.length : Int))) rfl (fun c_19 => ?_) (fun c_19 => ?_)
        · replace H := cond_t c_19 H
          refine T_seq ?_
          refine T_region ?_
          refine TO_cons rfl (TOp_pure (pur_assign rfl) rfl ?_)
          refine TO_nil ?_
          refine T_env (E' := [(4, (intA 1))]) ⟨rfl, trivial⟩ ?_
          refine T_ret ?_
          refine then_ret ?_
          obtain rfl := some_inj H
          refine end_ret (.tmp .nil) rfl rfl ⟨?_, rfl⟩
          rfl
        · replace H := cond_f c_19 H
          refine T_skip ?_
          refine T_env (E' := []) trivial ?_
          refine T_seq ?_
          refine T_region ?_
          refine TO_cons rfl (TOp_pure (pur_assign rfl) rfl ?_)
          refine TO_nil ?_
          refine T_env (E' := [(4, (intA 0))]) ⟨rfl, trivial⟩ ?_
          refine T_ret ?_
          obtain rfl := some_inj H
          refine end_ret (.tmp .nil) rfl rfl ⟨?_, rfl⟩
          rfl

set_option maxHeartbeats 1000000 in
/-- spec.RowDifference -/
theorem m_spec_RowDifference_own (u : Nat) (a0 : (List (List Int))) (b1 : (List (List Int))) (r : (List (List Int))) (H : m_spec_RowDifference u a0 b1 = some r) : FnO prg 15 [(sl (tSl tInt) a0), (sl (tSl tInt) b1)] (.m [0] 0 r.length (tSl tInt).k) [.row (flat (tSl tInt).own r)] := by
  unfold m_spec_RowDifference at H
  refine fnO_of_T Try.func15 rfl rfl (Nat.le_of_ble_eq_true rfl) ?_
  refine T_env (E' := [(0, (sl (tSl tInt) a0)), (1, (sl (tSl tInt) b1))]) ⟨rfl, rfl, trivial⟩ ?_
  refine T_seq ?_
  refine T_region ?_
  refine TO_cons rfl (TOp_pure (pur_assign rfl) rfl ?_)
  refine TO_nil ?_
  refine T_env (E' := [(0, (sl (tSl tInt) a0)), (1, (sl (tSl tInt) b1))]) ⟨rfl, rfl, trivial⟩ ?_
  refine T_seq ?_
  refine T_region ?_
  refine TO_cons rfl (TOp_lit (nn := 0) (k := 1) sl22 zero33 rfl rfl rfl rfl (by decide) ?_)
  refine TO_st (σ' := [.row (flat (tSl tInt).own ([] : (List (List Int))))]) rfl ?_
  refine TO_cons rfl (TOp_pure (pur_assign rfl) rfl ?_)
  refine TO_nil ?_
  refine T_env (E' := [(0, (sl (tSl tInt) a0)), (1, (sl (tSl tInt) b1)), (5, (.m [0] 0 ([] : (List (List Int))).length (tSl tInt).k))]) ⟨rfl, rfl, rfl, trivial⟩ ?_
  refine T_seq ?_
  refine T_seq ?_
  refine T_region ?_
  refine TO_cons rfl (TOp_pure (pur_assign rfl) rfl ?_)
  refine TO_nil ?_
  refine T_env (E' := [(0, (sl (tSl tInt) a0)), (1, (sl (tSl tInt) b1)), (5, (.m [0] 0 ([] : (List (List Int))).length (tSl tInt).k)), (6, (intA 0))]) ⟨rfl, rfl, rfl, rfl, trivial⟩ ?_
  obtain ⟨O2_, L2_, N2_⟩ := bind_inv H
  clear H
  obtain ⟨B2_, hb2, L2_⟩ := gen_forS L2_
  refine T_block ?_
  refine T_loopX (fun k => fun (x_ : Nat × (List (List Int))) => k = a0.length - x_.1 ∧ forS B2_ (a0.drop x_.1) (x_.1 : Int) x_.2 = some O2_) (fun (x_ : Nat × (List (List Int))) => [(0, (sl (tSl tInt) a0)), (1, (sl (tSl tInt) b1)), (5, (.m [0] 0 x_.2.length (tSl tInt).k)), (6, (intA (x_.1 : Int)))]) (fun (x_ : Nat × (List (List Int))) => [.row (flat (tSl tInt).own x_.2)]) _ (0, ([] : (List (List Int)))) (WeakL.to 1 (Nat.le_of_ble_eq_true rfl) rfl rfl rfl rfl ⟨leR rfl, leR rfl, leR rfl, leR rfl, trivial⟩) ⟨rfl, L2_⟩ ?_
  rintro _ ⟨i_1, out5⟩ ⟨rfl, L2_⟩
  refine T_env (E' := [(0, (sl (tSl tInt) a0)), (1, (sl (tSl tInt) b1)), (5, (.m [0] 0 out5.length (tSl tInt).k)), (6, (intA (i_1 : Int)))]) ⟨rfl, rfl, rfl, rfl, trivial⟩ ?_
  refine T_st (σ' := [.row (flat (tSl tInt).own out5)]) rfl ?_
  refine T_fact (len_sl (T := (tSl tInt)) (.tmp 0) rfl) (fun hl2 => ?_)
  refine T_seq ?_
  refine T_seq ?_
  refine T_region ?_
  refine TO_cons rfl (TOp_pure (pur_move rfl) rfl ?_)
  refine TO_cons rfl (TOp_pure (pur_move rfl) rfl ?_)
  refine TO_cons rfl (TOp_pure (pur_lenT (T := (tSl tInt)) sl22 rfl rfl) rfl ?_)
  refine TO_cons rfl (TOp_pure (pur_lss rfl rfl rfl) rfl ?_)
  refine TO_nil ?_
  refine T_env (E' := [(0, (sl (tSl tInt) a0)), (1, (sl (tSl tInt) b1)), (5, (.m [0] 0 out5.length (tSl tInt).k)), (6, (intA (i_1 : Int))), (13, (boolA (decide ((i_1 : Int) < (a0.length : Int)))))]) ⟨rfl, rfl, rfl, rfl, rfl, trivial⟩ ?_
  refine T_cond (t := decide ((i_1 : Int) < (a0.length : Int))) rfl (fun d2 => ?_) (fun d2 => ?_)
  · replace d2 := of_decide_eq_true d2
    obtain ⟨x_i_1, hx_i_1⟩ : ∃ v, (a0)[i_1]? = some v := ⟨_, List.getElem?_eq_getElem (by omega)⟩
    obtain ⟨C2_, H, K2_⟩ := forS_step L2_ hx_i_1
    rw [hb2] at H
    refine T_skip ?_
    refine T_env (E' := [(0, (sl (tSl tInt) a0)), (1, (sl (tSl tInt) b1)), (5, (.m [0] 0 out5.length (tSl tInt).k)), (6, (intA (i_1 : Int)))]) ⟨rfl, rfl, rfl, rfl, trivial⟩ ?_
    refine T_seq ?_
    refine T_block ?_
    refine T_seq ?_
    refine T_region ?_
    refine TO_cons rfl (TOp_pure (pur_assign rfl) rfl ?_)
    refine TO_nil ?_
    refine T_env (E' := [(0, (sl (tSl tInt) a0)), (1, (sl (tSl tInt) b1)), (5, (.m [0] 0 out5.length (tSl tInt).k)), (6, (intA (i_1 : Int))), (7, (boolA false))]) ⟨rfl, rfl, rfl, rfl, rfl, trivial⟩ ?_
    refine T_seq ?_
    refine T_seq ?_
    refine T_region ?_
    refine TO_cons rfl (TOp_pure (pur_assign rfl) rfl ?_)
    refine TO_nil ?_
    refine T_env (E' := [(0, (sl (tSl tInt) a0)), (1, (sl (tSl tInt) b1)), (5, (.m [0] 0 out5.length (tSl tInt).k)), (6, (intA (i_1 : Int))), (7, (boolA false)), (8, (intA 0))]) ⟨rfl, rfl, rfl, rfl, rfl, rfl, trivial⟩ ?_
    obtain ⟨O4_, L4_, N4_⟩ := bind_inv H
    clear H
    obtain ⟨B4_, hb4, L4_⟩ := gen_forS L4_
    refine T_block ?_
    refine T_loopX (fun k => fun (x_ : Nat × Bool) => k = b1.length - x_.1 ∧ forS B4_ (b1.drop x_.1) (x_.1 : Int) x_.2 = some O4_) (fun (x_ : Nat × Bool) => [(0, (sl (tSl tInt) a0)), (1, (sl (tSl tInt) b1)), (5, (.m [0] 0 out5.length (tSl tInt).k)), (6, (intA (i_1 : Int))), (7, (boolA x_.2)), (8, (intA (x_.1 : Int)))]) (fun (x_ : Nat × Bool) => [.row (flat (tSl tInt).own out5)]) _ (0, false) (WeakL.to 1 (Nat.le_of_ble_eq_true rfl) rfl rfl rfl rfl ⟨leR rfl, leR rfl, leR rfl, leR rfl, leR rfl, leR rfl, trivial⟩) ⟨rfl, L4_⟩ ?_
    rintro _ ⟨k_3, met7⟩ ⟨rfl, L4_⟩
    refine T_env (E' := [(0, (sl (tSl tInt) a0)), (1, (sl (tSl tInt) b1)), (5, (.m [0] 0 out5.length (tSl tInt).k)), (6, (intA (i_1 : Int))), (7, (boolA met7)), (8, (intA (k_3 : Int)))]) ⟨rfl, rfl, rfl, rfl, rfl, rfl, trivial⟩ ?_
    refine T_st (σ' := [.row (flat (tSl tInt).own out5)]) rfl ?_
    refine T_fact (len_sl (T := (tSl tInt)) (.tmp 1) rfl) (fun hl4 => ?_)
    refine T_seq ?_
    refine T_seq ?_
    refine T_region ?_
    refine TO_cons rfl (TOp_pure (pur_move rfl) rfl ?_)
    refine TO_cons rfl (TOp_pure (pur_move rfl) rfl ?_)
    refine TO_cons rfl (TOp_pure (pur_lenT (T := (tSl tInt)) sl22 rfl rfl) rfl ?_)
    refine TO_cons rfl (TOp_pure (pur_lss rfl rfl rfl) rfl ?_)
    refine TO_nil ?_
    refine T_env (E' := [(0, (sl (tSl tInt) a0)), (1, (sl (tSl tInt) b1)), (5, (.m [0] 0 out5.length (tSl tInt).k)), (6, (intA (i_1 : Int))), (7, (boolA met7)), (8, (intA (k_3 : Int))), (19, (boolA (decide ((k_3 : Int) < (b1.length : Int)))))]) ⟨rfl, rfl, rfl, rfl, rfl, rfl, rfl, trivial⟩ ?_
    refine T_cond (t := decide ((k_3 : Int) < (b1.length : Int))) rfl (fun d4 => ?_) (fun d4 => ?_)
    · replace d4 := of_decide_eq_true d4
      obtain ⟨x_k_3, hx_k_3⟩ : ∃ v, (b1)[k_3]? = some v := ⟨_, List.getElem?_eq_getElem (by omega)⟩
      obtain ⟨C4_, H, K4_⟩ := forS_step L4_ hx_k_3
      rw [hb4] at H
      refine T_skip ?_
      refine T_env (E' := [(0, (sl (tSl tInt) a0)), (1, (sl (tSl tInt) b1)), (5, (.m [0] 0 out5.length (tSl tInt).k)), (6, (intA (i_1 : Int))), (7, (boolA met7)), (8, (intA (k_3 : Int)))]) ⟨rfl, rfl, rfl, rfl, rfl, rfl, trivial⟩ ?_
      refine T_seq ?_
      refine T_block ?_
      refine T_regionD mixed (by kernel_rfl) ?_
      refine TQ_pure rfl (pur_move rfl) rfl ?_
      refine TQ_pure rfl (pur_move rfl) rfl ?_
      refine TQ_split (t := met7) 23 rfl (fun g_5 => ?_) (fun g_5 => ?_)
      · replace H := cond_t g_5 H
        refine TQ_off rfl rfl (by decide) rfl rfl rfl ?_
        refine TQ_off rfl rfl (by decide) rfl rfl rfl ?_
        refine TQ_off rfl rfl (by decide) rfl rfl rfl ?_
        refine TQ_off rfl rfl (by decide) rfl rfl rfl ?_
        refine TQ_off rfl rfl (by decide) rfl rfl rfl ?_
        refine TQ_off rfl rfl (by decide) rfl rfl rfl ?_
        refine TQ_off rfl rfl (by decide) rfl rfl rfl ?_
        refine TQ_off rfl rfl (by decide) rfl rfl rfl ?_
        refine TQ_env (E' := [(0, (sl (tSl tInt) a0)), (1, (sl (tSl tInt) b1)), (5, (.m [0] 0 out5.length (tSl tInt).k)), (6, (intA (i_1 : Int))), (7, (boolA met7)), (8, (intA (k_3 : Int))), (23, (boolA true)), (27, (.v undef)), (31, (.v undef))]) ⟨rfl, rfl, rfl, rfl, rfl, rfl, rfl, rfl, rfl, trivial⟩ ?_
        refine TQ_off rfl rfl (by decide) rfl rfl rfl ?_
        refine TQ_off rfl rfl (by decide) rfl rfl rfl ?_
        refine TQ_pure rfl (pur_pick (t := true) rfl rfl rfl) rfl ?_
        refine TQ_pure rfl (pur_assign rfl) rfl ?_
        refine TQ_nil ?_
        refine T_env (E' := [(0, (sl (tSl tInt) a0)), (1, (sl (tSl tInt) b1)), (5, (.m [0] 0 out5.length (tSl tInt).k)), (6, (intA (i_1 : Int))), (7, (boolA true)), (8, (intA (k_3 : Int)))]) ⟨rfl, rfl, rfl, rfl, rfl, rfl, trivial⟩ ?_
        refine T_region ?_
        refine TO_cons rfl (TOp_pure (pur_move rfl) rfl ?_)
        refine TO_cons rfl (TOp_pure (pur_add rfl rfl rfl (fits64 (by omega) (by omega))) rfl ?_)
        refine TO_cons rfl (TOp_pure (pur_assign rfl) rfl ?_)
        refine TO_nil ?_
        obtain rfl := some_inj H
        exact again (b1.length - (k_3 + 1)) (k_3 + 1, true) (by omega) (WeakL.to 1 (Nat.le_of_ble_eq_true rfl) rfl rfl rfl rfl ⟨leR rfl, leR rfl, leR rfl, leR rfl, leR rfl, leR rfl, trivial⟩) ⟨rfl, K4_⟩
      · replace H := cond_f g_5 H
        refine TQ_on rfl rfl (by decide) rfl (pur_move rfl) rfl ?_
        refine TQ_on rfl rfl (by decide) rfl (pur_move rfl) rfl ?_
        refine TQ_on rfl rfl (by decide) rfl (pur_ixT (T := (tSl tInt)) sl22 rfl rfl rfl hx_i_1 rfl) rfl ?_
        refine TQ_on rfl rfl (by decide) rfl (pur_ldT (T := (tSl tInt)) (i := i_1) (off := 0) rfl one33 rfl rfl hx_i_1 rfl) rfl ?_
        refine TQ_on rfl rfl (by decide) rfl (pur_move rfl) rfl ?_
        refine TQ_on rfl rfl (by decide) rfl (pur_move rfl) rfl ?_
        refine TQ_on rfl rfl (by decide) rfl (pur_ixT (T := (tSl tInt)) sl22 rfl rfl rfl hx_k_3 rfl) rfl ?_
        refine TQ_on rfl rfl (by decide) rfl (pur_ldT (T := (tSl tInt)) (i := k_3) (off := 0) rfl one33 rfl rfl hx_k_3 rfl) rfl ?_
        refine TQ_env (E' := [(0, (sl (tSl tInt) a0)), (1, (sl (tSl tInt) b1)), (5, (.m [0] 0 out5.length (tSl tInt).k)), (6, (intA (i_1 : Int))), (7, (boolA met7)), (8, (intA (k_3 : Int))), (23, (boolA false)), (27, (sl tInt x_i_1)), (31, (sl tInt x_k_3))]) ⟨rfl, rfl, rfl, rfl, rfl, rfl, rfl, rfl, rfl, trivial⟩ ?_
        obtain ⟨r_6, h_7, H⟩ := bind_inv H
        refine TQ_onV rfl rfl (by decide) rfl (call_static ent47 rfl) (m_spec_l3Ints_ok u _ _ _ h_7) rfl rfl ?_
        refine TQ_on rfl rfl (by decide) rfl (pur_eql rfl rfl rfl) rfl ?_
        refine TQ_pure rfl (pur_pick (t := false) rfl rfl rfl) rfl ?_
        refine TQ_pure rfl (pur_assign rfl) rfl ?_
        refine TQ_nil ?_
        refine T_env (E' := [(0, (sl (tSl tInt) a0)), (1, (sl (tSl tInt) b1)), (5, (.m [0] 0 out5.length (tSl tInt).k)), (6, (intA (i_1 : Int))), (7, (boolA (decide (r_6 = 0)))), (8, (intA (k_3 : Int)))]) ⟨rfl, rfl, rfl, rfl, rfl, rfl, trivial⟩ ?_
        refine T_region ?_
        refine TO_cons rfl (TOp_pure (pur_move rfl) rfl ?_)
        refine TO_cons rfl (TOp_pure (pur_add rfl rfl rfl (fits64 (by omega) (by omega))) rfl ?_)
        refine TO_cons rfl (TOp_pure (pur_assign rfl) rfl ?_)
        refine TO_nil ?_
        obtain rfl := some_inj H
        exact again (b1.length - (k_3 + 1)) (k_3 + 1, decide (r_6 = 0)) (by omega) (WeakL.to 1 (Nat.le_of_ble_eq_true rfl) rfl rfl rfl rfl ⟨leR rfl, leR rfl, leR rfl, leR rfl, leR rfl, leR rfl, trivial⟩) ⟨rfl, K4_⟩
    · replace d4 := of_decide_eq_false d4
      obtain rfl := forS_end L4_ (by omega)
      refine T_exit ?_
      refine then_exit ?_
      refine then_exit ?_
      refine block_exit ?_
      replace H := N4_
      refine T_env (E' := [(0, (sl (tSl tInt) a0)), (1, (sl (tSl tInt) b1)), (5, (.m [0] 0 out5.length (tSl tInt).k)), (6, (intA (i_1 : Int))), (7, (boolA met7))]) ⟨rfl, rfl, rfl, rfl, rfl, trivial⟩ ?_
      refine T_seq ?_
      refine T_region ?_
      refine TO_cons rfl (TOp_pure (pur_move rfl) rfl ?_)
      refine TO_cons rfl (TOp_pure (pur_not rfl rfl) rfl ?_)
      refine TO_nil ?_
      refine T_env (E' := [(0, (sl (tSl tInt) a0)), (1, (sl (tSl tInt) b1)), (5, (.m [0] 0 out5.length (tSl tInt).k)), (6, (intA (i_1 : Int))), (36, (boolA (!met7)))]) ⟨rfl, rfl, rfl, rfl, rfl, trivial⟩ ?_
      refine T_cond (t := (!met7)) rfl (fun c_8 => ?_) (fun c_8 => ?_)
      · replace H := cond_t c_8 H
        refine T_region ?_
        refine TO_cons rfl (TOp_pure (pur_move rfl) rfl ?_)
        refine TO_cons rfl (TOp_lit (nn := 0) (k := 1) sl33 zero3 rfl rfl rfl rfl (by decide) ?_)
        refine TO_st (σ' := [.row (flat (tSl tInt).own out5), .row (flat tInt.enc ([] : (List Int)))]) rfl ?_
        refine TO_cons rfl (TOp_pure (pur_move rfl) rfl ?_)
        refine TO_cons rfl (TOp_pure (pur_move rfl) rfl ?_)
        refine TO_cons rfl (TOp_pure (pur_ixT (T := (tSl tInt)) sl22 rfl rfl rfl hx_i_1 rfl) rfl ?_)
        refine TO_cons rfl (TOp_pure (pur_ldT (T := (tSl tInt)) (i := i_1) (off := 0) rfl one33 rfl rfl hx_i_1 rfl) rfl ?_)
        obtain ⟨us_9, h_10, H⟩ := bind_inv H
        refine TO_cons rfl (TOp_appZ (T := tInt) (f := tInt.enc) (xs := ([] : (List Int))) (ys := x_i_1) tInt.len sl33 zero3 rfl bytes3 (by decide) rfl rfl rfl rfl (src_T (T := tInt) rfl) (flat_cell tInt _) h_10 (Nat.le_of_ble_eq_true rfl) ?_)
        refine TO_env (E' := [(0, (sl (tSl tInt) a0)), (1, (sl (tSl tInt) b1)), (5, (.m [0] 0 out5.length (tSl tInt).k)), (6, (intA (i_1 : Int))), (36, (boolA (!met7))), (37, (.m [0] 0 out5.length (tSl tInt).k)), (39, (sl (tSl tInt) a0)), (40, (intA (i_1 : Int))), (41, (.q (flat (tSl tInt).enc a0) (i_1 * (tSl tInt).k))), (42, (sl tInt x_i_1)), (43, (.m [1] 0 us_9.length tInt.k))]) ⟨rfl, rfl, rfl, rfl, rfl, rfl, rfl, rfl, rfl, rfl, rfl, trivial⟩ ?_
        refine TO_st (σ' := [.row (flat (tSl tInt).own out5), .row (flat tInt.enc us_9), .dead]) rfl ?_
        refine TO_cons rfl (TOp_litB (nn := 1) (k := 1) sl22 zero33 rfl rfl rfl rfl (by decide) ?_)
        refine TO_st (σ' := [.row (flat (tSl tInt).own out5), .row (flat tInt.enc us_9), .dead, .box [(.m [1] 0 us_9.length tInt.k)]]) rfl ?_
        refine TO_boxify 0 rfl (Nat.le_of_ble_eq_true rfl) ?_
        obtain ⟨us_11, h_12, H⟩ := bind_inv H
        refine TO_cons rfl (TOp_appB (T := (tSl tInt)) (xs := out5) (v := us_9) sl22 zero33 rfl bytes33 (by decide) rfl rfl rfl rfl rfl rfl rfl rfl h_12 (Nat.le_of_ble_eq_true rfl) ?_)
        refine TO_env (E' := [(0, (sl (tSl tInt) a0)), (1, (sl (tSl tInt) b1)), (6, (intA (i_1 : Int))), (36, (boolA (!met7))), (39, (sl (tSl tInt) a0)), (40, (intA (i_1 : Int))), (41, (.q (flat (tSl tInt).enc a0) (i_1 * (tSl tInt).k))), (42, (sl tInt x_i_1)), (45, .m [4] 0 (out5.length + 1) (tSl tInt).k)]) ⟨rfl, rfl, rfl, rfl, rfl, rfl, rfl, rfl, rfl, trivial⟩ ?_
        refine TO_st (σ' := [.dead, .row (flat tInt.enc us_9), .dead, .box [(.m [1] 0 us_9.length tInt.k)], .box (flat (tSl tInt).own out5 ++ [(.m [1] 0 us_9.length tInt.k)])]) rfl ?_
        refine TO_absorbA (pr := flat (tSl tInt).own out5) 4 0 1 rfl rfl rfl (by decide) tInt.pos (flat_len tInt.len _) (Nat.le_of_ble_eq_true rfl) (Nat.le_of_ble_eq_true rfl) rfl (nms_dead (nms_row (nms_dead (nms_box rfl (nms_box (namesA namesL_own rfl) nms_nil))))) ?_
        refine TO_st (σ' := [.dead, .dead, .dead, .box [(.m [1] 0 us_9.length tInt.k)], .box (flat (tSl tInt).own out5 ++ [.o tInt.k (flat tInt.enc us_9)])]) rfl ?_
        refine TO_rowifyT (T := (tSl tInt)) (xs := out5) (v := us_9) 4 rfl rfl h_12 (Nat.le_of_ble_eq_true rfl) ?_
        refine TO_st (σ' := [.dead, .dead, .dead, .box [(.m [1] 0 us_9.length tInt.k)], .row (flat (tSl tInt).own us_11)]) rfl ?_
        refine TO_move 0 4 (by decide) (Nat.le_of_ble_eq_true rfl) rfl rfl (Nat.le_of_ble_eq_true rfl) ?_
        refine TO_env (E' := [(0, (sl (tSl tInt) a0)), (1, (sl (tSl tInt) b1)), (6, (intA (i_1 : Int))), (36, (boolA (!met7))), (39, (sl (tSl tInt) a0)), (40, (intA (i_1 : Int))), (41, (.q (flat (tSl tInt).enc a0) (i_1 * (tSl tInt).k))), (42, (sl tInt x_i_1)), (45, (.m [0] 0 us_11.length (tSl tInt).k))]) ⟨rfl, rfl, rfl, rfl, rfl, rfl, rfl, rfl, (congrArg (fun q => A.m [0] 0 q (tSl tInt).k) (app_len h_12)), trivial⟩ ?_
        refine TO_kill 3 (Nat.le_of_ble_eq_true rfl) ?_
        refine TO_st (σ' := [.row (flat (tSl tInt).own us_11), .dead, .dead, .dead, .dead]) rfl ?_
        refine TO_cons rfl (TOp_pure (pur_assign rfl) rfl ?_)
        refine TO_nil ?_
        refine T_env (E' := [(0, (sl (tSl tInt) a0)), (1, (sl (tSl tInt) b1)), (5, (.m [0] 0 us_11.length (tSl tInt).k)), (6, (intA (i_1 : Int)))]) ⟨rfl, rfl, rfl, rfl, trivial⟩ ?_
        refine T_region ?_
        refine TO_cons rfl (TOp_pure (pur_move rfl) rfl ?_)
        refine TO_cons rfl (TOp_pure (pur_add rfl rfl rfl (fits64 (by omega) (by omega))) rfl ?_)
        refine TO_cons rfl (TOp_pure (pur_assign rfl) rfl ?_)
        refine TO_nil ?_
        obtain rfl := some_inj H
        exact again (a0.length - (i_1 + 1)) (i_1 + 1, us_11) (by omega) (WeakL.to 1 (Nat.le_of_ble_eq_true rfl) rfl rfl rfl rfl ⟨leR rfl, leR rfl, leR rfl, leR rfl, trivial⟩) ⟨rfl, K2_⟩
      · replace H := cond_f c_8 H
        refine T_skip ?_
        refine T_env (E' := [(0, (sl (tSl tInt) a0)), (1, (sl (tSl tInt) b1)), (5, (.m [0] 0 out5.length (tSl tInt).k)), (6, (intA (i_1 : Int)))]) ⟨rfl, rfl, rfl, rfl, trivial⟩ ?_
        refine T_region ?_
        refine TO_cons rfl (TOp_pure (pur_move rfl) rfl ?_)
        refine TO_cons rfl (TOp_pure (pur_add rfl rfl rfl (fits64 (by omega) (by omega))) rfl ?_)
        refine TO_cons rfl (TOp_pure (pur_assign rfl) rfl ?_)
        refine TO_nil ?_
        obtain rfl := some_inj H
        exact again (a0.length - (i_1 + 1)) (i_1 + 1, out5) (by omega) (WeakL.to 1 (Nat.le_of_ble_eq_true rfl) rfl rfl rfl rfl ⟨leR rfl, leR rfl, leR rfl, leR rfl, trivial⟩) ⟨rfl, K2_⟩
  · replace d2 := of_decide_eq_false d2
    obtain rfl := forS_end L2_ (by omega)
    refine T_exit ?_
    refine then_exit ?_
    refine then_exit ?_
    refine block_exit ?_
    replace H := N2_
    refine T_env (E' := [(5, (.m [0] 0 out5.length (tSl tInt).k))]) ⟨rfl, trivial⟩ ?_
    refine T_seq ?_
    refine T_region ?_
    refine TO_cons rfl (TOp_pure (pur_move rfl) rfl ?_)
    refine TO_cons rfl (TOp_pure (pur_assign rfl) rfl ?_)
    refine TO_nil ?_
    refine T_env (E' := [(4, (.m [0] 0 out5.length (tSl tInt).k))]) ⟨rfl, trivial⟩ ?_
    refine T_ret ?_
    obtain rfl := some_inj H
    exact end_pick (.tmp .nil) rfl [0] (by decide) rfl rfl rfl rfl rfl rfl
theorem m_spec_RowDifference_ok (u : Nat) (a0 : (List (List Int))) (b1 : (List (List Int))) (r : (List (List Int))) (H : m_spec_RowDifference u a0 b1 = some r) : FnV prg 15 [(sl (tSl tInt) a0), (sl (tSl tInt) b1)] (sl (tSl tInt) r) := (m_spec_RowDifference_own u a0 b1 r H).frz (frzT (T := (tSl tInt)) rfl)
end Go.Proofs.Ytlcpdlngbofgcaa

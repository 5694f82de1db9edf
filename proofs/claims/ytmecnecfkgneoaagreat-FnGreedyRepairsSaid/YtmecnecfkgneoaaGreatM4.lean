import Derived.Test.YtmecnecfkgneoaaGreatM1
import Derived.Test.YtmecnecfkgneoaaGreatM3
set_option linter.unusedVariables false
set_option linter.unusedSimpArgs false
set_option maxRecDepth 4000
namespace Go.Proofs.YtmecnecfkgneoaaGreat
open Go Go.Proofs Go.Sep
set_option maxHeartbeats 1000000 in
theorem m_spec_l28Edge_ok (l0 : (List ConflictEdge)) (a1 : Int) (b2 : Int) (r : Bool) (H : m_spec_l28Edge l0 a1 b2 = some r) : FnV prg 23 [(sl tConflictEdge l0), (intA a1), (intA b2)] (boolA r) := by
  unfold m_spec_l28Edge at H
  refine fnV_of_T Tryz.func23 rfl rfl (Nat.le_of_ble_eq_true rfl) ?_
  refine te [(0, (sl tConflictEdge l0)), (1, (intA a1)), (2, (intA b2))] rfl ?_
  refine sr ?_
  refine pv tb 1 rfl ?_
  refine TO_nil ?_
  refine T_seq ?_
  refine sr ?_
  refine pv tb 1 rfl ?_
  refine TO_nil ?_
  obtain ⟨O2_, L2_, N2_⟩ := bind_inv H
  clear H
  obtain ⟨B2_, hb2, L2_⟩ := gen_forL L2_
  refine T_block ?_
  refine T_loopX (fun k => fun (i_1 : Nat) => k = l0.length - i_1 ∧ forL B2_ (l0.drop i_1) (i_1 : Int) () = some O2_) (fun (i_1 : Nat) => [(0, (sl tConflictEdge l0)), (1, (intA a1)), (2, (intA b2)), (7, (intA (i_1 : Int)))]) (fun (i_1 : Nat) => []) _ (0 : Nat) (w0 0) ⟨rfl, L2_⟩ ?_
  rintro _ i_1 ⟨rfl, L2_⟩
  refine T_fact (len_sl (T := tConflictEdge) (.tmp 0) rfl) (fun hl2 => ?_)
  refine T_seq ?_
  refine sr ?_
  refine pv tb 2 rfl ?_
  refine Tp rfl rfl (pur_lenT (T := tConflictEdge) sl24 rfl rfl) rfl ?_
  refine pv tb 1 rfl ?_
  refine TO_nil ?_
  refine T_cond (t := decide ((i_1 : Int) < (l0.length : Int))) rfl (fun d2 => ?_) (fun d2 => ?_)
  ·replace d2 := of_decide_eq_true d2
   obtain ⟨x_i_1, hx_i_1⟩ : ∃ v, (l0)[i_1]? = some v := ⟨_, List.getElem?_eq_getElem (by omega)⟩
   obtain ⟨C2_, H, K2_⟩ := forL_step L2_ hx_i_1
   rw [hb2] at H
   refine T_skip ?_
   refine T_seq ?_
   refine T_block ?_
   refine T_cutX (fun x => ((decide (x_i_1.a = (if b2 < a1 then b2 else a1))) && (decide (x_i_1.b = (if a1 < b2 then b2 else a1)))) = x) (fun (t33_3 : Bool) => [(0, (sl tConflictEdge l0)), (1, (intA a1)), (2, (intA b2)), (7, (intA (i_1 : Int))), (33, (boolA t33_3))]) (fun (t33_3 : Bool) => []) ?_ ?_
   ·skip
    refine T_region ?_
    refine pv tb 2 rfl ?_
    refine Tp rfl rfl (pur_ixT (T := tConflictEdge) sl24 rfl rfl rfl hx_i_1 rfl) rfl ?_
    refine pv tb 1 rfl ?_
    refine Tp rfl rfl (pur_ldT (T := tConflictEdge) (i := i_1) (off := 0) rfl one3 rfl rfl hx_i_1 rfl) rfl ?_
    refine pv tb 2 rfl ?_
    refine Tp rfl rfl (pur_min rfl rfl rfl) rfl ?_
    refine pv tb 2 rfl ?_
    refine TO_split (t := decide (x_i_1.a = (if b2 < a1 then b2 else a1))) 23 rfl (fun g_5 => ?_) (fun g_5 => ?_)
    ·skip
     refine pv tb 2 rfl ?_
     refine TO_on rfl rfl (by decide) rfl rfl (TOp_pure (pur_ixT (T := tConflictEdge) sl24 rfl rfl rfl hx_i_1 rfl) rfl ?_)
     refine pv tb 1 rfl ?_
     refine TO_on rfl rfl (by decide) rfl rfl (TOp_pure (pur_ldT (T := tConflictEdge) (i := i_1) (off := 1) rfl one3 rfl rfl hx_i_1 rfl) rfl ?_)
     refine pv tb 2 rfl ?_
     refine TO_on rfl rfl (by decide) rfl rfl (TOp_pure (pur_max rfl rfl rfl) rfl ?_)
     refine pv tb 2 rfl ?_
     refine TO_nil ?_
     exact joined (decide (x_i_1.b = (if a1 < b2 then b2 else a1))) (w0 0) (by first | exact Eq.symm ((and_T g_5 rfl)))
    ·skip
     refine pv tb 10 rfl ?_
     refine TO_nil ?_
     exact joined false (w0 0) (by first | exact Eq.symm ((and_F g_5 rfl)))
   ·rintro _ rfl
    refine T_cond (t := ((decide (x_i_1.a = (if b2 < a1 then b2 else a1))) && (decide (x_i_1.b = (if a1 < b2 then b2 else a1))))) rfl (fun c_6 => ?_) (fun c_6 => ?_)
    ·replace H := cond_t c_6 H
     refine sr ?_
     refine pv tb 1 rfl ?_
     refine TO_nil ?_
     refine T_ret ?_
     refine block_ret ?_
     refine then_ret ?_
     refine then_ret ?_
     refine block_ret ?_
     refine then_ret ?_
     obtain rfl := some_inj H
     obtain rfl := some_inj K2_
     replace H := onS_r N2_
     obtain rfl := some_inj H
     refine end_ret (.tmp .nil) rfl rfl ⟨?_, rfl⟩
     rfl
    ·replace H := cond_f c_6 H
     refine T_skip ?_
     refine T_region ?_
     refine pv tb 1 rfl ?_
     refine Tp rfl rfl (pur_add rfl rfl rfl (fits64 (by omega) (by omega))) rfl ?_
     refine pv tb 1 rfl ?_
     refine TO_nil ?_
     obtain rfl := some_inj H
     exact again (l0.length - (i_1 + 1)) (i_1 + 1) (by omega) (w0 0) ⟨rfl, K2_⟩
  ·replace d2 := of_decide_eq_false d2
   obtain rfl := forL_end L2_ (by omega)
   refine T_exit ?_
   refine then_exit ?_
   refine then_exit ?_
   refine block_exit ?_
   replace H := onS_l N2_
   refine sr ?_
   refine pv tb 1 rfl ?_
   refine TO_nil ?_
   refine T_ret ?_
   obtain rfl := some_inj H
   refine end_ret (.tmp .nil) rfl rfl ⟨?_, rfl⟩
   rfl

set_option maxHeartbeats 1000000 in
theorem m_spec_IsValidPreference_ok (n0 : Int) (l1 : (List ConflictEdge)) (p2 : (List ConflictEdge)) (r : Bool) (H : m_spec_IsValidPreference n0 l1 p2 = some r) : FnV prg 9 [(intA n0), (sl tConflictEdge l1), (sl tConflictEdge p2)] (boolA r) := by
  unfold m_spec_IsValidPreference at H
  refine fnV_of_T Tryz.func9 rfl rfl (Nat.le_of_ble_eq_true rfl) ?_
  refine te [(0, (intA n0)), (1, (sl tConflictEdge l1)), (2, (sl tConflictEdge p2))] rfl ?_
  refine sr ?_
  refine pv tb 1 rfl ?_
  refine TO_nil ?_
  refine T_seq ?_
  refine sr ?_
  obtain ⟨r_1, h_2, H⟩ := bind_inv H
  refine pv tb 2 rfl ?_
  refine TO_cons rfl (TOp_callV (call_static ent22 rfl) (m_spec_AreValidEdges_ok _ _ _ h_2) rfl rfl rfl ?_)
  refine pv tb 1 rfl ?_
  refine TO_nil ?_
  refine T_cond (t := (!r_1)) rfl (fun c_3 => ?_) (fun c_3 => ?_)
  ·replace H := cond_t c_3 H
   refine sr ?_
   refine pv tb 1 rfl ?_
   refine TO_nil ?_
   refine T_ret ?_
   refine then_ret ?_
   obtain rfl := some_inj H
   refine end_ret (.tmp .nil) rfl rfl ⟨?_, rfl⟩
   rfl
  ·replace H := cond_f c_3 H
   refine T_skip ?_
   refine T_seq ?_
   refine sr ?_
   refine pv tb 1 rfl ?_
   refine TO_nil ?_
   obtain ⟨O5_, L5_, N5_⟩ := bind_inv H
   clear H
   obtain ⟨B5_, hb5, L5_⟩ := gen_forL L5_
   refine T_block ?_
   refine T_loopX (fun k => fun (i_4 : Nat) => k = p2.length - i_4 ∧ forL B5_ (p2.drop i_4) (i_4 : Int) () = some O5_) (fun (i_4 : Nat) => [(0, (intA n0)), (1, (sl tConflictEdge l1)), (2, (sl tConflictEdge p2)), (7, (intA (i_4 : Int)))]) (fun (i_4 : Nat) => []) _ (0 : Nat) (w0 0) ⟨rfl, L5_⟩ ?_
   rintro _ i_4 ⟨rfl, L5_⟩
   refine T_fact (len_sl (T := tConflictEdge) (.tmp 2) rfl) (fun hl5 => ?_)
   refine T_seq ?_
   refine sr ?_
   refine pv tb 2 rfl ?_
   refine Tp rfl rfl (pur_lenT (T := tConflictEdge) sl24 rfl rfl) rfl ?_
   refine pv tb 1 rfl ?_
   refine TO_nil ?_
   refine T_cond (t := decide ((i_4 : Int) < (p2.length : Int))) rfl (fun d5 => ?_) (fun d5 => ?_)
   ·replace d5 := of_decide_eq_true d5
    obtain ⟨x_i_4, hx_i_4⟩ : ∃ v, (p2)[i_4]? = some v := ⟨_, List.getElem?_eq_getElem (by omega)⟩
    obtain ⟨C5_, H, K5_⟩ := forL_step L5_ hx_i_4
    rw [hb5] at H
    refine T_skip ?_
    refine T_seq ?_
    refine T_block ?_
    obtain ⟨t49_6, J_6, H_7⟩ := bind_inv H
    refine T_cutX (fun x => t49_6 = x) (fun (t49_6 : Bool) => [(0, (intA n0)), (1, (sl tConflictEdge l1)), (2, (sl tConflictEdge p2)), (7, (intA (i_4 : Int))), (49, (boolA t49_6))]) (fun (t49_6 : Bool) => []) ?_ ?_
    ·replace H := J_6
     refine T_regionD mixed (by kernel_rfl) ?_
     refine pq tb 2 rfl ?_
     refine TQ_pure rfl (pur_ixT (T := tConflictEdge) sl24 rfl rfl rfl hx_i_4 rfl) rfl ?_
     refine pq tb 1 rfl ?_
     refine TQ_pure rfl (pur_ldT (T := tConflictEdge) (i := i_4) (off := 0) rfl one3 rfl rfl hx_i_4 rfl) rfl ?_
     refine pq tb 2 rfl ?_
     refine TQ_pure rfl (pur_ixT (T := tConflictEdge) sl24 rfl rfl rfl hx_i_4 rfl) rfl ?_
     refine pq tb 1 rfl ?_
     refine TQ_pure rfl (pur_ldT (T := tConflictEdge) (i := i_4) (off := 1) rfl one3 rfl rfl hx_i_4 rfl) rfl ?_
     refine pq tb 2 rfl ?_
     refine TQ_split (t := decide (x_i_4.a = x_i_4.b)) 35 rfl (fun g_8 => ?_) (fun g_8 => ?_)
     ·replace H := cond_t g_8 H
      refine pq tb 8 rfl ?_
      refine tqe [(0, (intA n0)), (1, (sl tConflictEdge l1)), (2, (sl tConflictEdge p2)), (7, (intA (i_4 : Int))), (35, (boolA true)), (36, (.v undef)), (41, (.v undef)), (42, (.v undef)), (43, (.v undef))] rfl ?_
      refine pq tb 6 rfl ?_
      refine TQ_nil ?_
      exact joined true (w0 0) (some_inj H).symm
     ·replace H := cond_f g_8 H
      refine pq tb 3 rfl ?_
      refine TQ_on rfl rfl (by decide) rfl (pur_ixT (T := tConflictEdge) sl24 rfl rfl rfl hx_i_4 rfl) rfl ?_
      refine pq tb 1 rfl ?_
      refine TQ_on rfl rfl (by decide) rfl (pur_ldT (T := tConflictEdge) (i := i_4) (off := 0) rfl one3 rfl rfl hx_i_4 rfl) rfl ?_
      refine pq tb 2 rfl ?_
      refine tqe [(0, (intA n0)), (1, (sl tConflictEdge l1)), (2, (sl tConflictEdge p2)), (7, (intA (i_4 : Int))), (35, (boolA false)), (36, (sl tConflictEdge l1)), (41, (intA x_i_4.a)), (42, (sl tConflictEdge p2)), (43, (intA (i_4 : Int)))] rfl ?_
      refine TQ_on rfl rfl (by decide) rfl (pur_ixT (T := tConflictEdge) sl24 rfl rfl rfl hx_i_4 rfl) rfl ?_
      refine pq tb 1 rfl ?_
      refine TQ_on rfl rfl (by decide) rfl (pur_ldT (T := tConflictEdge) (i := i_4) (off := 1) rfl one3 rfl rfl hx_i_4 rfl) rfl ?_
      obtain ⟨r_9, h_10, H⟩ := bind_inv H
      refine TQ_onV rfl rfl (by decide) rfl (call_static ent23 rfl) (m_spec_l28Edge_ok _ _ _ _ h_10) rfl rfl ?_
      refine pq tb 2 rfl ?_
      refine TQ_nil ?_
      exact joined (!r_9) (w0 0) (some_inj H).symm
    ·rintro _ rfl
     replace H := H_7
     refine T_cond (t := t49_6) rfl (fun c_11 => ?_) (fun c_11 => ?_)
     ·replace H := cond_t c_11 H
      refine sr ?_
      refine pv tb 1 rfl ?_
      refine TO_nil ?_
      refine T_ret ?_
      refine block_ret ?_
      refine then_ret ?_
      refine then_ret ?_
      refine block_ret ?_
      refine then_ret ?_
      obtain rfl := some_inj H
      obtain rfl := some_inj K5_
      replace H := onS_r N5_
      obtain rfl := some_inj H
      refine end_ret (.tmp .nil) rfl rfl ⟨?_, rfl⟩
      rfl
     ·replace H := cond_f c_11 H
      refine T_skip ?_
      refine T_region ?_
      refine pv tb 1 rfl ?_
      refine Tp rfl rfl (pur_add rfl rfl rfl (fits64 (by omega) (by omega))) rfl ?_
      refine pv tb 1 rfl ?_
      refine TO_nil ?_
      obtain rfl := some_inj H
      exact again (p2.length - (i_4 + 1)) (i_4 + 1) (by omega) (w0 0) ⟨rfl, K5_⟩
   ·replace d5 := of_decide_eq_false d5
    obtain rfl := forL_end L5_ (by omega)
    refine T_exit ?_
    refine then_exit ?_
    refine then_exit ?_
    refine block_exit ?_
    replace H := onS_l N5_
    refine sr ?_
    obtain ⟨us_12, h_13, H⟩ := bind_inv H
    refine pv tb 1 rfl ?_
    refine TO_cons rfl (TOp_makeT (T := tBool) (z := false) rfl sl47 zero4 rfl bytes4 rfl rfl rfl rfl h_13 ?_)
    refine pv tb 1 rfl ?_
    refine TO_nil ?_
    refine T_seq ?_
    refine sr ?_
    refine pv tb 1 rfl ?_
    refine TO_nil ?_
    obtain ⟨_, h_16, H⟩ := bind_inv H
    replace h_16 := gN_inv h_16
    obtain ⟨O15_, L15_, N15_⟩ := bind_inv H
    clear H
    obtain ⟨B15_, hb15, L15_⟩ := gen_forM L15_
    refine T_block ?_
    refine T_loopX (fun k => fun (⟨k_14, gone8⟩ : Int × (List Bool)) => k = (n0 - k_14).toNat ∧ 0 ≤ k_14 ∧ forM B15_ (n0 - k_14).toNat k_14 gone8 = some O15_) (fun (⟨k_14, gone8⟩ : Int × (List Bool)) => [(0, (intA n0)), (2, (sl tConflictEdge p2)), (8, (.m [0] 0 gone8.length tBool.k)), (9, (intA (k_14 : Int)))]) (fun (⟨k_14, gone8⟩ : Int × (List Bool)) => [.row (flat tBool.enc gone8)]) _ (0, us_12) (w0 1) ⟨rfl, Int.le_refl _, L15_⟩ ?_
    rintro _ ⟨k_14, gone8⟩ ⟨rfl, hi15, L15_⟩
    refine T_seq ?_
    refine sr ?_
    refine pv tb 3 rfl ?_
    refine TO_nil ?_
    refine T_cond (t := decide ((k_14 : Int) < n0)) rfl (fun d15 => ?_) (fun d15 => ?_)
    ·replace d15 := of_decide_eq_true d15
     obtain ⟨C15_, H, K15_⟩ := forM_step L15_ d15
     rw [hb15] at H
     refine T_skip ?_
     refine T_seq ?_
     refine T_block ?_
     refine sr ?_
     refine pv tb 1 rfl ?_
     refine TO_nil ?_
     obtain ⟨_, h_19, H⟩ := bind_inv H
     replace h_19 := gN_inv h_19
     obtain ⟨O18_, L18_, N18_⟩ := bind_inv H
     clear H
     obtain ⟨B18_, hb18, L18_⟩ := gen_forM L18_
     refine T_block ?_
     refine T_loopX (fun k => fun (⟨x_17, gone8⟩ : Int × (List Bool)) => k = (n0 - x_17).toNat ∧ 0 ≤ x_17 ∧ forM B18_ (n0 - x_17).toNat x_17 gone8 = some O18_) (fun (⟨x_17, gone8⟩ : Int × (List Bool)) => [(0, (intA n0)), (2, (sl tConflictEdge p2)), (8, (.m [0] 0 gone8.length tBool.k)), (9, (intA (k_14 : Int))), (10, (intA (x_17 : Int)))]) (fun (⟨x_17, gone8⟩ : Int × (List Bool)) => [.row (flat tBool.enc gone8)]) _ (0, gone8) (w0 1) ⟨rfl, Int.le_refl _, L18_⟩ ?_
     rintro _ ⟨x_17, gone8⟩ ⟨rfl, hi18, L18_⟩
     refine T_seq ?_
     refine sr ?_
     refine pv tb 3 rfl ?_
     refine TO_nil ?_
     refine T_cond (t := decide ((x_17 : Int) < n0)) rfl (fun d18 => ?_) (fun d18 => ?_)
     ·replace d18 := of_decide_eq_true d18
      obtain ⟨C18_, H, K18_⟩ := forM_step L18_ d18
      rw [hb18] at H
      refine T_skip ?_
      refine T_seq ?_
      refine T_block ?_
      refine sr ?_
      refine pv tb 1 rfl ?_
      refine TO_nil ?_
      refine T_seq ?_
      refine sr ?_
      refine pv tb 1 rfl ?_
      refine TO_nil ?_
      obtain ⟨O21_, L21_, N21_⟩ := bind_inv H
      clear H
      obtain ⟨B21_, hb21, L21_⟩ := gen_forS L21_
      refine T_block ?_
      refine T_loopX (fun k => fun (⟨i_20, free11⟩ : Nat × Bool) => k = p2.length - i_20 ∧ forS B21_ (p2.drop i_20) (i_20 : Int) free11 = some O21_) (fun (⟨i_20, free11⟩ : Nat × Bool) => [(0, (intA n0)), (2, (sl tConflictEdge p2)), (8, (.m [0] 0 gone8.length tBool.k)), (9, (intA (k_14 : Int))), (10, (intA (x_17 : Int))), (11, (boolA free11)), (12, (intA (i_20 : Int)))]) (fun (⟨i_20, free11⟩ : Nat × Bool) => [.row (flat tBool.enc gone8)]) _ (0, true) (w0 1) ⟨rfl, L21_⟩ ?_
      rintro _ ⟨i_20, free11⟩ ⟨rfl, L21_⟩
      refine T_fact (len_sl (T := tConflictEdge) (.tmp 2) rfl) (fun hl21 => ?_)
      refine T_seq ?_
      refine sr ?_
      refine pv tb 2 rfl ?_
      refine Tp rfl rfl (pur_lenT (T := tConflictEdge) sl24 rfl rfl) rfl ?_
      refine pv tb 1 rfl ?_
      refine TO_nil ?_
      refine T_cond (t := decide ((i_20 : Int) < (p2.length : Int))) rfl (fun d21 => ?_) (fun d21 => ?_)
      ·replace d21 := of_decide_eq_true d21
       obtain ⟨x_i_20, hx_i_20⟩ : ∃ v, (p2)[i_20]? = some v := ⟨_, List.getElem?_eq_getElem (by omega)⟩
       obtain ⟨C21_, H, K21_⟩ := forS_step L21_ hx_i_20
       rw [hb21] at H
       refine T_skip ?_
       refine T_seq ?_
       refine T_block ?_
       refine T_region ?_
       refine pv tb 2 rfl ?_
       refine TO_split (t := free11) 69 rfl (fun g_22 => ?_) (fun g_22 => ?_)
       ·replace H := cond_t g_22 H
        refine pv tb 2 rfl ?_
        refine TO_on rfl rfl (by decide) rfl rfl (TOp_pure (pur_ixT (T := tConflictEdge) sl24 rfl rfl rfl hx_i_20 rfl) rfl ?_)
        refine pv tb 1 rfl ?_
        refine TO_on rfl rfl (by decide) rfl rfl (TOp_pure (pur_ldT (T := tConflictEdge) (i := i_20) (off := 1) rfl one3 rfl rfl hx_i_20 rfl) rfl ?_)
        refine pv tb 3 rfl ?_
        refine TO_split (t := decide (x_i_20.b ≠ (x_17 : Int))) 77 rfl (fun g_23 => ?_) (fun g_23 => ?_)
        ·replace H := cond_t g_23 H
         refine pv tb 8 rfl ?_
         refine toe [(0, (intA n0)), (2, (sl tConflictEdge p2)), (8, (.m [0] 0 gone8.length tBool.k)), (9, (intA (k_14 : Int))), (10, (intA (x_17 : Int))), (11, (boolA free11)), (12, (intA (i_20 : Int))), (69, (boolA true)), (77, (boolA true)), (85, (.v undef))] rfl ?_
         refine pv tb 3 rfl ?_
         refine TO_nil ?_
         refine T_region ?_
         refine pv tb 1 rfl ?_
         refine Tp rfl rfl (pur_add rfl rfl rfl (fits64 (by omega) (by omega))) rfl ?_
         refine pv tb 1 rfl ?_
         refine TO_nil ?_
         obtain rfl := some_inj H
         exact again (p2.length - (i_20 + 1)) (i_20 + 1, true) (by omega) (w0 1) ⟨rfl, K21_⟩
        ·replace H := cond_f g_23 H
         refine pv tb 3 rfl ?_
         refine TO_on rfl rfl (by decide) rfl rfl (TOp_pure (pur_ixT (T := tConflictEdge) sl24 rfl rfl rfl hx_i_20 rfl) rfl ?_)
         refine pv tb 1 rfl ?_
         refine TO_on rfl rfl (by decide) rfl rfl (TOp_pure (pur_ldT (T := tConflictEdge) (i := i_20) (off := 0) rfl one3 rfl rfl hx_i_20 rfl) rfl ?_)
         obtain ⟨v_24, h_25, H⟩ := bind_inv H
         obtain ⟨n_26, hz_27, hv_28⟩ := getI_inv h_25
         refine TO_on rfl rfl (by decide) rfl rfl (TOp_pure (pur_ixM (T := tBool) sl47 rfl rfl hz_27 hv_28 rfl) rfl ?_)
         refine TO_on rfl rfl (by decide) rfl rfl (TOp_pure (pur_ldE (f := tBool.enc) (k := tBool.k) (i := n_26) (off := 0) tBool.len rfl one4 rfl rfl rfl hv_28 rfl rfl) rfl ?_)
         refine toe [(0, (intA n0)), (2, (sl tConflictEdge p2)), (8, (.m [0] 0 gone8.length tBool.k)), (9, (intA (k_14 : Int))), (10, (intA (x_17 : Int))), (11, (boolA free11)), (12, (intA (i_20 : Int))), (69, (boolA true)), (77, (boolA false)), (85, (boolA v_24))] rfl ?_
         refine pv tb 3 rfl ?_
         refine TO_nil ?_
         refine T_region ?_
         refine pv tb 1 rfl ?_
         refine Tp rfl rfl (pur_add rfl rfl rfl (fits64 (by omega) (by omega))) rfl ?_
         refine pv tb 1 rfl ?_
         refine TO_nil ?_
         obtain rfl := some_inj H
         exact again (p2.length - (i_20 + 1)) (i_20 + 1, v_24) (by omega) (w0 1) ⟨rfl, K21_⟩
       ·replace H := cond_f g_22 H
        refine pv tb 16 rfl ?_
        refine toe [(0, (intA n0)), (2, (sl tConflictEdge p2)), (8, (.m [0] 0 gone8.length tBool.k)), (9, (intA (k_14 : Int))), (10, (intA (x_17 : Int))), (11, (boolA free11)), (12, (intA (i_20 : Int))), (69, (boolA false)), (77, (.v undef)), (85, (.v undef))] rfl ?_
        refine pv tb 3 rfl ?_
        refine TO_nil ?_
        refine T_region ?_
        refine pv tb 1 rfl ?_
        refine Tp rfl rfl (pur_add rfl rfl rfl (fits64 (by omega) (by omega))) rfl ?_
        refine pv tb 1 rfl ?_
        refine TO_nil ?_
        obtain rfl := some_inj H
        exact again (p2.length - (i_20 + 1)) (i_20 + 1, false) (by omega) (w0 1) ⟨rfl, K21_⟩
      ·replace d21 := of_decide_eq_false d21
       obtain rfl := forS_end L21_ (by omega)
       refine T_exit ?_
       refine then_exit ?_
       refine then_exit ?_
       refine block_exit ?_
       replace H := N21_
       refine sr ?_
       refine pv tb 1 rfl ?_
       refine TO_nil ?_
       refine T_cond (t := free11) rfl (fun c_29 => ?_) (fun c_29 => ?_)
       ·replace H := cond_t c_29 H
        refine T_region ?_
        obtain ⟨v_30, h_31, H⟩ := bind_inv H
        obtain ⟨n_32, hz_33, hv_34⟩ := getI_inv h_31
        refine pv tb 2 rfl ?_
        refine Tp rfl rfl (pur_ixM (T := tBool) sl47 rfl rfl hz_33 hv_34 rfl) rfl ?_
        refine TO_cons rfl (TOp_setT (f := tBool.enc) (z := (x_17 : Int)) (y := true) tBool.len tBool.pos hz_33 sz4 rfl rfl rfl rfl rfl hv_34 rfl rfl ?_)
        refine TO_env (E' := [(0, (intA n0)), (2, (sl tConflictEdge p2)), (8, (.m [0] 0 (gone8.set ((x_17 : Int)).toNat true).length tBool.k)), (9, (intA (k_14 : Int))), (10, (intA (x_17 : Int))), (88, (boolA free11)), (89, (.m [0] 0 (gone8.set ((x_17 : Int)).toNat true).length tBool.k)), (90, (intA (x_17 : Int)))]) ⟨rfl, rfl, (congrArg (fun q => A.m [0] 0 q tBool.k) (List.length_set ..).symm), rfl, rfl, rfl, (congrArg (fun q => A.m [0] 0 q tBool.k) (List.length_set ..).symm), rfl, trivial⟩ ?_
        refine TO_st (σ' := [.row (flat tBool.enc (gone8.set ((x_17 : Int)).toNat true))]) rfl ?_
        refine TO_nil ?_
        refine T_region ?_
        refine pv tb 1 rfl ?_
        refine Tp rfl rfl (pur_add rfl rfl rfl (fits64 (by omega) (by omega))) rfl ?_
        refine pv tb 1 rfl ?_
        refine TO_nil ?_
        obtain rfl := some_inj H
        exact again (n0 - (x_17 + 1)).toNat (x_17 + 1, (gone8.set ((x_17 : Int)).toNat true)) (by omega) (w0 1) ⟨rfl, by omega, K18_⟩
       ·replace H := cond_f c_29 H
        refine T_skip ?_
        refine T_region ?_
        refine pv tb 1 rfl ?_
        refine Tp rfl rfl (pur_add rfl rfl rfl (fits64 (by omega) (by omega))) rfl ?_
        refine pv tb 1 rfl ?_
        refine TO_nil ?_
        obtain rfl := some_inj H
        exact again (n0 - (x_17 + 1)).toNat (x_17 + 1, gone8) (by omega) (w0 1) ⟨rfl, by omega, K18_⟩
     ·replace d18 := of_decide_eq_false d18
      obtain rfl := forM_end L18_ (by omega)
      refine T_exit ?_
      refine then_exit ?_
      refine then_exit ?_
      refine block_exit ?_
      replace H := N18_
      refine T_region ?_
      refine pv tb 1 rfl ?_
      refine Tp rfl rfl (pur_add rfl rfl rfl (fits64 (by omega) (by omega))) rfl ?_
      refine pv tb 1 rfl ?_
      refine TO_nil ?_
      obtain rfl := some_inj H
      exact again (n0 - (k_14 + 1)).toNat (k_14 + 1, gone8) (by omega) (w0 1) ⟨rfl, by omega, K15_⟩
    ·replace d15 := of_decide_eq_false d15
     obtain rfl := forM_end L15_ (by omega)
     refine T_exit ?_
     refine then_exit ?_
     refine then_exit ?_
     refine block_exit ?_
     replace H := N15_
     refine T_seq ?_
     refine sr ?_
     refine pv tb 1 rfl ?_
     refine TO_nil ?_
     obtain ⟨_, h_37, H⟩ := bind_inv H
     replace h_37 := gN_inv h_37
     obtain ⟨O36_, L36_, N36_⟩ := bind_inv H
     clear H
     obtain ⟨B36_, hb36, L36_⟩ := gen_forN L36_
     refine T_block ?_
     refine T_loopX (fun k => fun (x_35 : Int) => k = (n0 - x_35).toNat ∧ 0 ≤ x_35 ∧ forN B36_ (n0 - x_35).toNat x_35 () = some O36_) (fun (x_35 : Int) => [(0, (intA n0)), (8, (.m [0] 0 gone8.length tBool.k)), (13, (intA (x_35 : Int)))]) (fun (x_35 : Int) => [.row (flat tBool.enc gone8)]) _ (0 : Int) (w0 1) ⟨rfl, Int.le_refl _, L36_⟩ ?_
     rintro _ x_35 ⟨rfl, hi36, L36_⟩
     refine T_seq ?_
     refine sr ?_
     refine pv tb 3 rfl ?_
     refine TO_nil ?_
     refine T_cond (t := decide ((x_35 : Int) < n0)) rfl (fun d36 => ?_) (fun d36 => ?_)
     ·replace d36 := of_decide_eq_true d36
      obtain ⟨C36_, H, K36_⟩ := forN_step L36_ d36
      rw [hb36] at H
      refine T_skip ?_
      refine T_seq ?_
      refine T_block ?_
      refine sr ?_
      obtain ⟨v_38, h_39, H⟩ := bind_inv H
      obtain ⟨n_40, hz_41, hv_42⟩ := getI_inv h_39
      refine pv tb 2 rfl ?_
      refine Tp rfl rfl (pur_ixM (T := tBool) sl47 rfl rfl hz_41 hv_42 rfl) rfl ?_
      refine Tp rfl rfl (pur_ldE (f := tBool.enc) (k := tBool.k) (i := n_40) (off := 0) tBool.len rfl one4 rfl rfl rfl hv_42 rfl rfl) rfl ?_
      refine pv tb 1 rfl ?_
      refine TO_nil ?_
      refine T_cond (t := (!v_38)) rfl (fun c_43 => ?_) (fun c_43 => ?_)
      ·replace H := cond_t c_43 H
       refine sr ?_
       refine pv tb 1 rfl ?_
       refine TO_nil ?_
       refine T_ret ?_
       refine block_ret ?_
       refine then_ret ?_
       refine then_ret ?_
       refine block_ret ?_
       refine then_ret ?_
       obtain rfl := some_inj H
       obtain rfl := some_inj K36_
       replace H := onS_r N36_
       obtain rfl := some_inj H
       refine end_ret (.tmp .nil) rfl rfl ⟨?_, rfl⟩
       rfl
      ·replace H := cond_f c_43 H
       refine T_skip ?_
       refine T_region ?_
       refine pv tb 1 rfl ?_
       refine Tp rfl rfl (pur_add rfl rfl rfl (fits64 (by omega) (by omega))) rfl ?_
       refine pv tb 1 rfl ?_
       refine TO_nil ?_
       obtain rfl := some_inj H
       exact again (n0 - (x_35 + 1)).toNat (x_35 + 1) (by omega) (w0 1) ⟨rfl, by omega, K36_⟩
     ·replace d36 := of_decide_eq_false d36
      obtain rfl := forN_end L36_ (by omega)
      refine T_exit ?_
      refine then_exit ?_
      refine then_exit ?_
      refine block_exit ?_
      replace H := onS_l N36_
      refine sr ?_
      refine pv tb 1 rfl ?_
      refine TO_nil ?_
      refine T_ret ?_
      obtain rfl := some_inj H
      refine end_ret (.tmp .nil) rfl rfl ⟨?_, rfl⟩
      rfl

set_option maxHeartbeats 1000000 in
theorem m_spec_l3Ints_ok (u : Nat) (a0 : (List Int)) (b1 : (List Int)) (r : Int) (H : m_spec_l3Ints u a0 b1 = some r) : FnV prg 21 [(sl tInt a0), (sl tInt b1)] (intA r) := by
  unfold m_spec_l3Ints at H
  refine fnV_of_T Tryz.func21 rfl rfl (Nat.le_of_ble_eq_true rfl) ?_
  refine te [(0, (sl tInt a0)), (1, (sl tInt b1))] rfl ?_
  refine sr ?_
  refine pv tb 1 rfl ?_
  refine TO_nil ?_
  refine T_seq ?_
  refine sr ?_
  refine pv tb 1 rfl ?_
  refine TO_nil ?_
  obtain ⟨O1_, L1_, N1_⟩ := bind_inv H
  clear H
  obtain ⟨B1_, hb1, L1_⟩ := gen_whileF L1_
  refine T_block ?_
  refine T_loopX (fun k => fun (i5 : Int) => whileF B1_ k i5 = some O1_) (fun (i5 : Int) => [(0, (sl tInt a0)), (1, (sl tInt b1)), (5, (intA i5))]) (fun (i5 : Int) => []) u 0 (w0 0) L1_ ?_
  rintro _ i5 L1_
  obtain ⟨k1, rfl, C1_, H, K1_⟩ := while_step L1_
  rw [hb1] at H
  refine T_seq ?_
  refine T_cutX (fun x => ((decide (i5 < (a0.length : Int))) && (decide (i5 < (b1.length : Int)))) = x) (fun (t15_2 : Bool) => [(0, (sl tInt a0)), (1, (sl tInt b1)), (5, (intA i5)), (15, (boolA t15_2))]) (fun (t15_2 : Bool) => []) ?_ ?_
  ·skip
   refine T_region ?_
   refine pv tb 2 rfl ?_
   refine Tp rfl rfl (pur_lenT (T := tInt) sl31 rfl rfl) rfl ?_
   refine pv tb 2 rfl ?_
   refine TO_split (t := decide (i5 < (a0.length : Int))) 10 rfl (fun g_4 => ?_) (fun g_4 => ?_)
   ·skip
    refine pv tb 2 rfl ?_
    refine TO_on rfl rfl (by decide) rfl rfl (TOp_pure (pur_lenT (T := tInt) sl31 rfl rfl) rfl ?_)
    refine pv tb 2 rfl ?_
    refine TO_nil ?_
    exact joined (decide (i5 < (b1.length : Int))) (w0 0) (by first | exact Eq.symm ((and_T g_4 rfl)))
   ·skip
    refine pv tb 5 rfl ?_
    refine TO_nil ?_
    exact joined false (w0 0) (by first | exact Eq.symm ((and_F g_4 rfl)))
  ·rintro _ rfl
   refine T_cond (t := ((decide (i5 < (a0.length : Int))) && (decide (i5 < (b1.length : Int))))) rfl (fun c_5 => ?_) (fun c_5 => ?_)
   ·replace H := cond_t c_5 H
    refine T_skip ?_
    refine T_seq ?_
    refine T_block ?_
    refine T_seq ?_
    refine T_seq ?_
    refine T_regionD mixed (by kernel_rfl) ?_
    obtain ⟨v_6, h_7, H⟩ := bind_inv H
    obtain ⟨n_8, hz_9, hv_10⟩ := getI_inv h_7
    refine pq tb 2 rfl ?_
    refine TQ_pure rfl (pur_ixT (T := tInt) sl31 rfl rfl hz_9 hv_10 rfl) rfl ?_
    refine TQ_pure rfl (pur_ldT (T := tInt) (i := n_8) (off := 0) rfl one3 rfl rfl hv_10 rfl) rfl ?_
    obtain ⟨v_11, h_12, H⟩ := bind_inv H
    obtain ⟨n_13, hz_14, hv_15⟩ := getI_inv h_12
    refine pq tb 2 rfl ?_
    refine TQ_pure rfl (pur_ixT (T := tInt) sl31 rfl rfl hz_14 hv_15 rfl) rfl ?_
    refine TQ_pure rfl (pur_ldT (T := tInt) (i := n_13) (off := 0) rfl one3 rfl rfl hv_15 rfl) rfl ?_
    refine pq tb 1 rfl ?_
    refine TQ_nil ?_
    refine T_cond (t := decide (v_6 < v_11)) rfl (fun c_16 => ?_) (fun c_16 => ?_)
    ·replace H := cond_t c_16 H
     refine sr ?_
     refine pv tb 1 rfl ?_
     refine TO_nil ?_
     refine T_ret ?_
     refine then_ret ?_
     refine block_ret ?_
     refine then_ret ?_
     refine then_ret ?_
     refine block_ret ?_
     refine then_ret ?_
     obtain rfl := some_inj H
     obtain rfl := some_inj K1_
     replace H := onS_r N1_
     obtain rfl := some_inj H
     refine end_ret (.tmp .nil) rfl rfl ⟨?_, rfl⟩
     rfl
    ·replace H := cond_f c_16 H
     refine T_skip ?_
     refine T_seq ?_
     refine T_regionD mixed (by kernel_rfl) ?_
     refine pq tb 2 rfl ?_
     refine TQ_pure rfl (pur_ixT (T := tInt) sl31 rfl rfl hz_9 hv_10 rfl) rfl ?_
     refine TQ_pure rfl (pur_ldT (T := tInt) (i := n_8) (off := 0) rfl one3 rfl rfl hv_10 rfl) rfl ?_
     refine pq tb 2 rfl ?_
     refine TQ_pure rfl (pur_ixT (T := tInt) sl31 rfl rfl hz_14 hv_15 rfl) rfl ?_
     refine TQ_pure rfl (pur_ldT (T := tInt) (i := n_13) (off := 0) rfl one3 rfl rfl hv_15 rfl) rfl ?_
     refine pq tb 1 rfl ?_
     refine TQ_nil ?_
     refine te [(0, (sl tInt a0)), (1, (sl tInt b1)), (5, (intA i5)), (35, (boolA (decide (v_11 < v_6))))] rfl ?_
     refine T_cond (t := decide (v_11 < v_6)) rfl (fun c_17 => ?_) (fun c_17 => ?_)
     ·replace H := cond_t c_17 H
      refine sr ?_
      refine pv tb 1 rfl ?_
      refine TO_nil ?_
      refine T_ret ?_
      refine block_ret ?_
      refine then_ret ?_
      refine then_ret ?_
      refine block_ret ?_
      refine then_ret ?_
      obtain rfl := some_inj H
      obtain rfl := some_inj K1_
      replace H := onS_r N1_
      obtain rfl := some_inj H
      refine end_ret (.tmp .nil) rfl rfl ⟨?_, rfl⟩
      rfl
     ·replace H := cond_f c_17 H
      refine T_skip ?_
      refine T_region ?_
      refine pv tb 3 rfl ?_
      refine TO_nil ?_
      obtain rfl := some_inj H
      exact again k1 (w64 (i5 + 1)) (Nat.lt_succ_self _) (w0 0) K1_
   ·replace H := cond_f c_5 H
    refine T_exit ?_
    refine then_exit ?_
    refine then_exit ?_
    refine block_exit ?_
    obtain rfl := some_inj H
    obtain rfl := some_inj K1_
    replace H := onS_l N1_
    refine T_seq ?_
    refine sr ?_
    refine pv tb 1 rfl ?_
    refine Tp rfl rfl (pur_lenT (T := tInt) sl31 rfl rfl) rfl ?_
    refine pv tb 1 rfl ?_
    refine Tp rfl rfl (pur_lenT (T := tInt) sl31 rfl rfl) rfl ?_
    refine pv tb 1 rfl ?_
    refine TO_nil ?_
    refine T_cond (t := decide ((a0.length : Int) < (b1.length : Int))) rfl (fun c_18 => ?_) (fun c_18 => ?_)
    ·replace H := cond_t c_18 H
     refine sr ?_
     refine pv tb 1 rfl ?_
     refine TO_nil ?_
     refine T_ret ?_
     refine then_ret ?_
     obtain rfl := some_inj H
     refine end_ret (.tmp .nil) rfl rfl ⟨?_, rfl⟩
     rfl
    ·replace H := cond_f c_18 H
     refine T_skip ?_
     refine T_seq ?_
     refine sr ?_
     refine pv tb 1 rfl ?_
     refine Tp rfl rfl (pur_lenT (T := tInt) sl31 rfl rfl) rfl ?_
     refine pv tb 1 rfl ?_
     refine Tp rfl rfl (pur_lenT (T := tInt) sl31 rfl rfl) rfl ?_
     refine pv tb 1 rfl ?_
     refine TO_nil ?_
     refine T_cond (t := decide ((b1.length : Int) < (a0.length : Int))) rfl (fun c_19 => ?_) (fun c_19 => ?_)
     ·replace H := cond_t c_19 H
      refine sr ?_
      refine pv tb 1 rfl ?_
      refine TO_nil ?_
      refine T_ret ?_
      refine then_ret ?_
      obtain rfl := some_inj H
      refine end_ret (.tmp .nil) rfl rfl ⟨?_, rfl⟩
      rfl
     ·replace H := cond_f c_19 H
      refine T_skip ?_
      refine sr ?_
      refine pv tb 1 rfl ?_
      refine TO_nil ?_
      refine T_ret ?_
      obtain rfl := some_inj H
      refine end_ret (.tmp .nil) rfl rfl ⟨?_, rfl⟩
      rfl

set_option maxHeartbeats 1000000 in
theorem m_spec_l8Set_ok (n0 : Int) (s1 : (List Int)) (r : Bool) (H : m_spec_l8Set n0 s1 = some r) : FnV prg 51 [(intA n0), (sl tInt s1)] (boolA r) := by
  unfold m_spec_l8Set at H
  refine fnV_of_T Tryz.func51 rfl rfl (Nat.le_of_ble_eq_true rfl) ?_
  refine te [(0, (intA n0)), (1, (sl tInt s1))] rfl ?_
  refine sr ?_
  refine pv tb 1 rfl ?_
  refine TO_nil ?_
  refine T_seq ?_
  refine sr ?_
  refine pv tb 1 rfl ?_
  refine TO_nil ?_
  obtain ⟨O2_, L2_, N2_⟩ := bind_inv H
  clear H
  obtain ⟨B2_, hb2, L2_⟩ := gen_forL L2_
  refine T_block ?_
  refine T_loopX (fun k => fun (i_1 : Nat) => k = s1.length - i_1 ∧ forL B2_ (s1.drop i_1) (i_1 : Int) () = some O2_) (fun (i_1 : Nat) => [(0, (intA n0)), (1, (sl tInt s1)), (5, (intA (i_1 : Int)))]) (fun (i_1 : Nat) => []) _ (0 : Nat) (w0 0) ⟨rfl, L2_⟩ ?_
  rintro _ i_1 ⟨rfl, L2_⟩
  refine T_fact (len_sl (T := tInt) (.tmp 1) rfl) (fun hl2 => ?_)
  refine T_seq ?_
  refine sr ?_
  refine pv tb 2 rfl ?_
  refine Tp rfl rfl (pur_lenT (T := tInt) sl31 rfl rfl) rfl ?_
  refine pv tb 1 rfl ?_
  refine TO_nil ?_
  refine T_cond (t := decide ((i_1 : Int) < (s1.length : Int))) rfl (fun d2 => ?_) (fun d2 => ?_)
  ·replace d2 := of_decide_eq_true d2
   obtain ⟨x_i_1, hx_i_1⟩ : ∃ v, (s1)[i_1]? = some v := ⟨_, List.getElem?_eq_getElem (by omega)⟩
   obtain ⟨C2_, H, K2_⟩ := forL_step L2_ hx_i_1
   rw [hb2] at H
   refine T_skip ?_
   refine T_seq ?_
   refine T_block ?_
   obtain ⟨t35_3, J_3, H_4⟩ := bind_inv H
   refine T_cutX (fun x => t35_3 = x) (fun (t35_3 : Bool) => [(0, (intA n0)), (1, (sl tInt s1)), (5, (intA (i_1 : Int))), (35, (boolA t35_3))]) (fun (t35_3 : Bool) => []) ?_ ?_
   ·replace H := J_3
    refine T_regionD mixed (by kernel_rfl) ?_
    refine pq tb 2 rfl ?_
    refine TQ_pure rfl (pur_ixT (T := tInt) sl31 rfl rfl rfl hx_i_1 rfl) rfl ?_
    refine TQ_pure rfl (pur_ldT (T := tInt) (i := i_1) (off := 0) rfl one3 rfl rfl hx_i_1 rfl) rfl ?_
    obtain ⟨r_5, h_6, H⟩ := bind_inv H
    refine pq tb 2 rfl ?_
    refine TQ_callV rfl (call_static ent50 rfl) (m_spec_l1In_ok _ _ _ _ h_6) rfl rfl ?_
    refine pq tb 2 rfl ?_
    refine TQ_split (t := (!r_5)) 20 rfl (fun g_7 => ?_) (fun g_7 => ?_)
    ·replace H := cond_t g_7 H
     refine pq tb 8 rfl ?_
     refine tqe [(0, (intA n0)), (1, (sl tInt s1)), (5, (intA (i_1 : Int))), (20, (boolA true)), (23, (.v undef)), (27, (.v undef)), (28, (.v undef))] rfl ?_
     refine pq tb 7 rfl ?_
     refine TQ_nil ?_
     exact joined true (w0 0) (some_inj H).symm
    ·replace H := cond_f g_7 H
     refine pq tb 3 rfl ?_
     refine TQ_split (t := decide (0 < (i_1 : Int))) 23 rfl (fun g_8 => ?_) (fun g_8 => ?_)
     ·replace H := cond_t g_8 H
      refine pq tb 2 rfl ?_
      refine TQ_on rfl rfl (by decide) rfl (pur_ixT (T := tInt) sl31 rfl rfl rfl hx_i_1 rfl) rfl ?_
      refine TQ_on rfl rfl (by decide) rfl (pur_ldT (T := tInt) (i := i_1) (off := 0) rfl one3 rfl rfl hx_i_1 rfl) rfl ?_
      refine pq tb 2 rfl ?_
      refine TQ_on rfl rfl (by decide) rfl (pur_sub rfl rfl rfl (fits64 (by omega) (by omega))) rfl ?_
      obtain ⟨v_9, h_10, H⟩ := bind_inv H
      obtain ⟨n_11, hz_12, hv_13⟩ := getI_inv h_10
      refine TQ_on rfl rfl (by decide) rfl (pur_ixT (T := tInt) sl31 rfl rfl hz_12 hv_13 rfl) rfl ?_
      refine tqe [(0, (intA n0)), (1, (sl tInt s1)), (5, (intA (i_1 : Int))), (20, (boolA false)), (23, (boolA true)), (27, (intA x_i_1)), (31, (.q (flat tInt.enc s1) (n_11 * tInt.k)))] rfl ?_
      refine TQ_on rfl rfl (by decide) rfl (pur_ldT (T := tInt) (i := n_11) (off := 0) rfl one3 rfl rfl hv_13 rfl) rfl ?_
      refine pq tb 3 rfl ?_
      refine TQ_nil ?_
      exact joined (decide (x_i_1 ≤ v_9)) (w0 0) (some_inj H).symm
     ·replace H := cond_f g_8 H
      refine pq tb 8 rfl ?_
      refine tqe [(0, (intA n0)), (1, (sl tInt s1)), (5, (intA (i_1 : Int))), (20, (boolA false)), (23, (boolA false)), (27, (.v undef)), (31, (.v undef))] rfl ?_
      refine pq tb 4 rfl ?_
      refine TQ_nil ?_
      exact joined false (w0 0) (some_inj H).symm
   ·rintro _ rfl
    replace H := H_4
    refine T_cond (t := t35_3) rfl (fun c_14 => ?_) (fun c_14 => ?_)
    ·replace H := cond_t c_14 H
     refine sr ?_
     refine pv tb 1 rfl ?_
     refine TO_nil ?_
     refine T_ret ?_
     refine block_ret ?_
     refine then_ret ?_
     refine then_ret ?_
     refine block_ret ?_
     refine then_ret ?_
     obtain rfl := some_inj H
     obtain rfl := some_inj K2_
     replace H := onS_r N2_
     obtain rfl := some_inj H
     refine end_ret (.tmp .nil) rfl rfl ⟨?_, rfl⟩
     rfl
    ·replace H := cond_f c_14 H
     refine T_skip ?_
     refine T_region ?_
     refine pv tb 1 rfl ?_
     refine Tp rfl rfl (pur_add rfl rfl rfl (fits64 (by omega) (by omega))) rfl ?_
     refine pv tb 1 rfl ?_
     refine TO_nil ?_
     obtain rfl := some_inj H
     exact again (s1.length - (i_1 + 1)) (i_1 + 1) (by omega) (w0 0) ⟨rfl, K2_⟩
  ·replace d2 := of_decide_eq_false d2
   obtain rfl := forL_end L2_ (by omega)
   refine T_exit ?_
   refine then_exit ?_
   refine then_exit ?_
   refine block_exit ?_
   replace H := onS_l N2_
   refine sr ?_
   refine pv tb 1 rfl ?_
   refine TO_nil ?_
   refine T_ret ?_
   obtain rfl := some_inj H
   refine end_ret (.tmp .nil) rfl rfl ⟨?_, rfl⟩
   rfl

set_option maxHeartbeats 1000000 in
theorem m_spec_IsPreferred_ok (p0 : (List ConflictEdge)) (a1 : Int) (b2 : Int) (r : Bool) (H : m_spec_IsPreferred p0 a1 b2 = some r) : FnV prg 52 [(sl tConflictEdge p0), (intA a1), (intA b2)] (boolA r) := by
  unfold m_spec_IsPreferred at H
  refine fnV_of_T Tryz.func52 rfl rfl (Nat.le_of_ble_eq_true rfl) ?_
  refine te [(0, (sl tConflictEdge p0)), (1, (intA a1)), (2, (intA b2))] rfl ?_
  refine sr ?_
  refine pv tb 1 rfl ?_
  refine TO_nil ?_
  refine T_seq ?_
  refine sr ?_
  refine pv tb 1 rfl ?_
  refine TO_nil ?_
  obtain ⟨O2_, L2_, N2_⟩ := bind_inv H
  clear H
  obtain ⟨B2_, hb2, L2_⟩ := gen_forL L2_
  refine T_block ?_
  refine T_loopX (fun k => fun (i_1 : Nat) => k = p0.length - i_1 ∧ forL B2_ (p0.drop i_1) (i_1 : Int) () = some O2_) (fun (i_1 : Nat) => [(0, (sl tConflictEdge p0)), (1, (intA a1)), (2, (intA b2)), (7, (intA (i_1 : Int)))]) (fun (i_1 : Nat) => []) _ (0 : Nat) (w0 0) ⟨rfl, L2_⟩ ?_
  rintro _ i_1 ⟨rfl, L2_⟩
  refine T_fact (len_sl (T := tConflictEdge) (.tmp 0) rfl) (fun hl2 => ?_)
  refine T_seq ?_
  refine sr ?_
  refine pv tb 2 rfl ?_
  refine Tp rfl rfl (pur_lenT (T := tConflictEdge) sl24 rfl rfl) rfl ?_
  refine pv tb 1 rfl ?_
  refine TO_nil ?_
  refine T_cond (t := decide ((i_1 : Int) < (p0.length : Int))) rfl (fun d2 => ?_) (fun d2 => ?_)
  ·replace d2 := of_decide_eq_true d2
   obtain ⟨x_i_1, hx_i_1⟩ : ∃ v, (p0)[i_1]? = some v := ⟨_, List.getElem?_eq_getElem (by omega)⟩
   obtain ⟨C2_, H, K2_⟩ := forL_step L2_ hx_i_1
   rw [hb2] at H
   refine T_skip ?_
   refine T_seq ?_
   refine T_block ?_
   refine T_cutX (fun x => ((decide (x_i_1.a = a1)) && (decide (x_i_1.b = b2))) = x) (fun (t29_3 : Bool) => [(0, (sl tConflictEdge p0)), (1, (intA a1)), (2, (intA b2)), (7, (intA (i_1 : Int))), (29, (boolA t29_3))]) (fun (t29_3 : Bool) => []) ?_ ?_
   ·skip
    refine T_region ?_
    refine pv tb 2 rfl ?_
    refine Tp rfl rfl (pur_ixT (T := tConflictEdge) sl24 rfl rfl rfl hx_i_1 rfl) rfl ?_
    refine pv tb 1 rfl ?_
    refine Tp rfl rfl (pur_ldT (T := tConflictEdge) (i := i_1) (off := 0) rfl one3 rfl rfl hx_i_1 rfl) rfl ?_
    refine pv tb 3 rfl ?_
    refine TO_split (t := decide (x_i_1.a = a1)) 21 rfl (fun g_5 => ?_) (fun g_5 => ?_)
    ·skip
     refine pv tb 2 rfl ?_
     refine TO_on rfl rfl (by decide) rfl rfl (TOp_pure (pur_ixT (T := tConflictEdge) sl24 rfl rfl rfl hx_i_1 rfl) rfl ?_)
     refine pv tb 1 rfl ?_
     refine TO_on rfl rfl (by decide) rfl rfl (TOp_pure (pur_ldT (T := tConflictEdge) (i := i_1) (off := 1) rfl one3 rfl rfl hx_i_1 rfl) rfl ?_)
     refine pv tb 3 rfl ?_
     refine TO_nil ?_
     exact joined (decide (x_i_1.b = b2)) (w0 0) (by first | exact Eq.symm ((and_T g_5 rfl)))
    ·skip
     refine pv tb 8 rfl ?_
     refine TO_nil ?_
     exact joined false (w0 0) (by first | exact Eq.symm ((and_F g_5 rfl)))
   ·rintro _ rfl
    refine T_cond (t := ((decide (x_i_1.a = a1)) && (decide (x_i_1.b = b2)))) rfl (fun c_6 => ?_) (fun c_6 => ?_)
    ·replace H := cond_t c_6 H
     refine sr ?_
     refine pv tb 1 rfl ?_
     refine TO_nil ?_
     refine T_ret ?_
     refine block_ret ?_
     refine then_ret ?_
     refine then_ret ?_
     refine block_ret ?_
     refine then_ret ?_
     obtain rfl := some_inj H
     obtain rfl := some_inj K2_
     replace H := onS_r N2_
     obtain rfl := some_inj H
     refine end_ret (.tmp .nil) rfl rfl ⟨?_, rfl⟩
     rfl
    ·replace H := cond_f c_6 H
     refine T_skip ?_
     refine T_region ?_
     refine pv tb 1 rfl ?_
     refine Tp rfl rfl (pur_add rfl rfl rfl (fits64 (by omega) (by omega))) rfl ?_
     refine pv tb 1 rfl ?_
     refine TO_nil ?_
     obtain rfl := some_inj H
     exact again (p0.length - (i_1 + 1)) (i_1 + 1) (by omega) (w0 0) ⟨rfl, K2_⟩
  ·replace d2 := of_decide_eq_false d2
   obtain rfl := forL_end L2_ (by omega)
   refine T_exit ?_
   refine then_exit ?_
   refine then_exit ?_
   refine block_exit ?_
   replace H := onS_l N2_
   refine sr ?_
   refine pv tb 1 rfl ?_
   refine TO_nil ?_
   refine T_ret ?_
   obtain rfl := some_inj H
   refine end_ret (.tmp .nil) rfl rfl ⟨?_, rfl⟩
   rfl

set_option maxHeartbeats 1000000 in
theorem m_spec_UndominatedFacts_own (n0 : Int) (l1 : (List ConflictEdge)) (p2 : (List ConflictEdge)) (left3 : (List Int)) (r : (List Int)) (H : m_spec_UndominatedFacts n0 l1 p2 left3 = some r) : FnO prg 24 [(intA n0), (sl tConflictEdge l1), (sl tConflictEdge p2), (sl tInt left3)] (.m [0] 0 r.length tInt.k) [.row (flat tInt.own r)] := by
  unfold m_spec_UndominatedFacts at H
  refine fnO_of_T Tryz.func24 rfl rfl (Nat.le_of_ble_eq_true rfl) ?_
  refine te [(0, (intA n0)), (1, (sl tConflictEdge l1)), (2, (sl tConflictEdge p2)), (3, (sl tInt left3))] rfl ?_
  refine sr ?_
  refine pv tb 1 rfl ?_
  refine TO_nil ?_
  refine sr ?_
  refine TO_cons rfl (TOp_lit (nn := 0) (k := 1) sl31 zero3 rfl rfl rfl rfl (by decide) ?_)
  refine TO_st (σ' := [.row (flat tInt.enc ([] : (List Int)))]) rfl ?_
  refine pv tb 1 rfl ?_
  refine TO_nil ?_
  refine T_seq ?_
  obtain ⟨t24_1, J_1, H_2⟩ := bind_inv H
  refine T_cutX (fun x => t24_1 = x) (fun (t24_1 : Bool) => [(2, (sl tConflictEdge p2)), (3, (sl tInt left3)), (9, (.m [0] 0 ([] : (List Int)).length tInt.k)), (24, (boolA t24_1))]) (fun (t24_1 : Bool) => [.row (flat tInt.enc ([] : (List Int)))]) ?_ ?_
  ·replace H := J_1
   refine T_region ?_
   obtain ⟨r_3, h_4, H⟩ := bind_inv H
   refine pv tb 3 rfl ?_
   refine TO_cons rfl (TOp_callV (call_static ent9 rfl) (m_spec_IsValidPreference_ok _ _ _ _ h_4) rfl rfl rfl ?_)
   refine pv tb 2 rfl ?_
   refine TO_split (t := (!r_3)) 19 rfl (fun g_5 => ?_) (fun g_5 => ?_)
   ·replace H := cond_t g_5 H
    refine pv tb 5 rfl ?_
    refine TO_nil ?_
    exact joined true (w0 1) (some_inj H).symm
   ·replace H := cond_f g_5 H
    obtain ⟨r_6, h_7, H⟩ := bind_inv H
    refine pv tb 2 rfl ?_
    refine TO_on rfl rfl (by decide) rfl rfl (TOp_callV (call_static ent51 rfl) (m_spec_l8Set_ok _ _ _ h_7) rfl rfl rfl ?_)
    refine pv tb 2 rfl ?_
    refine TO_nil ?_
    exact joined (!r_6) (w0 1) (some_inj H).symm
  ·rintro _ rfl
   replace H := H_2
   refine T_cond (t := t24_1) rfl (fun c_8 => ?_) (fun c_8 => ?_)
   ·replace H := cond_t c_8 H
    refine sr ?_
    refine pv tb 2 rfl ?_
    refine TO_nil ?_
    refine T_ret ?_
    refine then_ret ?_
    obtain rfl := some_inj H
    exact end_pick (.tmp .nil) rfl [0] (by decide) rfl rfl rfl rfl rfl rfl
   ·replace H := cond_f c_8 H
    refine T_skip ?_
    refine T_seq ?_
    refine sr ?_
    refine pv tb 1 rfl ?_
    refine TO_nil ?_
    obtain ⟨O10_, L10_, N10_⟩ := bind_inv H
    clear H
    obtain ⟨B10_, hb10, L10_⟩ := gen_forS L10_
    refine T_block ?_
    refine T_loopX (fun k => fun (⟨i_9, out9⟩ : Nat × (List Int)) => k = left3.length - i_9 ∧ forS B10_ (left3.drop i_9) (i_9 : Int) out9 = some O10_) (fun (⟨i_9, out9⟩ : Nat × (List Int)) => [(2, (sl tConflictEdge p2)), (3, (sl tInt left3)), (9, (.m [0] 0 out9.length tInt.k)), (10, (intA (i_9 : Int)))]) (fun (⟨i_9, out9⟩ : Nat × (List Int)) => [.row (flat tInt.enc out9)]) _ (0, ([] : (List Int))) (w0 1) ⟨rfl, L10_⟩ ?_
    rintro _ ⟨i_9, out9⟩ ⟨rfl, L10_⟩
    refine T_fact (len_sl (T := tInt) (.tmp 3) rfl) (fun hl10 => ?_)
    refine T_seq ?_
    refine sr ?_
    refine pv tb 2 rfl ?_
    refine Tp rfl rfl (pur_lenT (T := tInt) sl31 rfl rfl) rfl ?_
    refine pv tb 1 rfl ?_
    refine TO_nil ?_
    refine T_cond (t := decide ((i_9 : Int) < (left3.length : Int))) rfl (fun d10 => ?_) (fun d10 => ?_)
    ·replace d10 := of_decide_eq_true d10
     obtain ⟨x_i_9, hx_i_9⟩ : ∃ v, (left3)[i_9]? = some v := ⟨_, List.getElem?_eq_getElem (by omega)⟩
     obtain ⟨C10_, H, K10_⟩ := forS_step L10_ hx_i_9
     rw [hb10] at H
     refine T_skip ?_
     refine T_seq ?_
     refine T_block ?_
     refine sr ?_
     refine pv tb 1 rfl ?_
     refine TO_nil ?_
     refine T_seq ?_
     refine sr ?_
     refine pv tb 1 rfl ?_
     refine TO_nil ?_
     obtain ⟨O12_, L12_, N12_⟩ := bind_inv H
     clear H
     obtain ⟨B12_, hb12, L12_⟩ := gen_forS L12_
     refine T_block ?_
     refine T_loopX (fun k => fun (⟨k_11, top11⟩ : Nat × Bool) => k = left3.length - k_11 ∧ forS B12_ (left3.drop k_11) (k_11 : Int) top11 = some O12_) (fun (⟨k_11, top11⟩ : Nat × Bool) => [(2, (sl tConflictEdge p2)), (3, (sl tInt left3)), (9, (.m [0] 0 out9.length tInt.k)), (10, (intA (i_9 : Int))), (11, (boolA top11)), (12, (intA (k_11 : Int)))]) (fun (⟨k_11, top11⟩ : Nat × Bool) => [.row (flat tInt.enc out9)]) _ (0, true) (w0 1) ⟨rfl, L12_⟩ ?_
     rintro _ ⟨k_11, top11⟩ ⟨rfl, L12_⟩
     refine T_fact (len_sl (T := tInt) (.tmp 3) rfl) (fun hl12 => ?_)
     refine T_seq ?_
     refine sr ?_
     refine pv tb 2 rfl ?_
     refine Tp rfl rfl (pur_lenT (T := tInt) sl31 rfl rfl) rfl ?_
     refine pv tb 1 rfl ?_
     refine TO_nil ?_
     refine T_cond (t := decide ((k_11 : Int) < (left3.length : Int))) rfl (fun d12 => ?_) (fun d12 => ?_)
     ·replace d12 := of_decide_eq_true d12
      obtain ⟨x_k_11, hx_k_11⟩ : ∃ v, (left3)[k_11]? = some v := ⟨_, List.getElem?_eq_getElem (by omega)⟩
      obtain ⟨C12_, H, K12_⟩ := forS_step L12_ hx_k_11
      rw [hb12] at H
      refine T_skip ?_
      refine T_seq ?_
      refine T_block ?_
      refine T_regionD mixed (by kernel_rfl) ?_
      refine pq tb 2 rfl ?_
      refine TQ_split (t := top11) 39 rfl (fun g_13 => ?_) (fun g_13 => ?_)
      ·replace H := cond_t g_13 H
       refine pq tb 3 rfl ?_
       refine TQ_on rfl rfl (by decide) rfl (pur_ixT (T := tInt) sl31 rfl rfl rfl hx_k_11 rfl) rfl ?_
       refine TQ_on rfl rfl (by decide) rfl (pur_ldT (T := tInt) (i := k_11) (off := 0) rfl one3 rfl rfl hx_k_11 rfl) rfl ?_
       refine pq tb 2 rfl ?_
       refine TQ_on rfl rfl (by decide) rfl (pur_ixT (T := tInt) sl31 rfl rfl rfl hx_i_9 rfl) rfl ?_
       refine TQ_on rfl rfl (by decide) rfl (pur_ldT (T := tInt) (i := i_9) (off := 0) rfl one3 rfl rfl hx_i_9 rfl) rfl ?_
       obtain ⟨r_14, h_15, H⟩ := bind_inv H
       refine TQ_onV rfl rfl (by decide) rfl (call_static ent52 rfl) (m_spec_IsPreferred_ok _ _ _ _ h_15) rfl rfl ?_
       refine pq tb 3 rfl ?_
       refine TQ_nil ?_
       refine te [(2, (sl tConflictEdge p2)), (3, (sl tInt left3)), (9, (.m [0] 0 out9.length tInt.k)), (10, (intA (i_9 : Int))), (11, (boolA (!r_14))), (12, (intA (k_11 : Int)))] rfl ?_
       refine T_region ?_
       refine pv tb 1 rfl ?_
       refine Tp rfl rfl (pur_add rfl rfl rfl (fits64 (by omega) (by omega))) rfl ?_
       refine pv tb 1 rfl ?_
       refine TO_nil ?_
       obtain rfl := some_inj H
       exact again (left3.length - (k_11 + 1)) (k_11 + 1, (!r_14)) (by omega) (w0 1) ⟨rfl, K12_⟩
      ·replace H := cond_f g_13 H
       refine pq tb 13 rfl ?_
       refine TQ_nil ?_
       refine te [(2, (sl tConflictEdge p2)), (3, (sl tInt left3)), (9, (.m [0] 0 out9.length tInt.k)), (10, (intA (i_9 : Int))), (11, (boolA false)), (12, (intA (k_11 : Int)))] rfl ?_
       refine T_region ?_
       refine pv tb 1 rfl ?_
       refine Tp rfl rfl (pur_add rfl rfl rfl (fits64 (by omega) (by omega))) rfl ?_
       refine pv tb 1 rfl ?_
       refine TO_nil ?_
       obtain rfl := some_inj H
       exact again (left3.length - (k_11 + 1)) (k_11 + 1, false) (by omega) (w0 1) ⟨rfl, K12_⟩
     ·replace d12 := of_decide_eq_false d12
      obtain rfl := forS_end L12_ (by omega)
      refine T_exit ?_
      refine then_exit ?_
      refine then_exit ?_
      refine block_exit ?_
      replace H := N12_
      refine sr ?_
      refine pv tb 1 rfl ?_
      refine TO_nil ?_
      refine T_cond (t := top11) rfl (fun c_16 => ?_) (fun c_16 => ?_)
      ·replace H := cond_t c_16 H
       refine T_region ?_
       refine pv tb 3 rfl ?_
       refine Tp rfl rfl (pur_ixT (T := tInt) sl31 rfl rfl rfl hx_i_9 rfl) rfl ?_
       refine Tp rfl rfl (pur_ldT (T := tInt) (i := i_9) (off := 0) rfl one3 rfl rfl hx_i_9 rfl) rfl ?_
       refine TO_cons rfl (TOp_lit (nn := 1) (k := 1) sl31 zero3 rfl rfl rfl rfl (by decide) ?_)
       refine TO_st (σ' := [.row (flat tInt.enc out9), .row (flat tInt.enc ([x_i_9] : (List Int)))]) rfl ?_
       obtain ⟨us_17, h_18, H⟩ := bind_inv H
       refine TO_cons rfl (TOp_appZ (T := tInt) (f := tInt.enc) (xs := out9) (ys := ([x_i_9] : (List Int))) tInt.len sl31 zero3 rfl bytes3 (by decide) rfl rfl rfl rfl (src_mT (f := tInt.enc) tInt.len rfl rfl (flat_cell tInt _)) (flat_cell tInt _) h_18 (lb rfl) ?_)
       refine toe [(2, (sl tConflictEdge p2)), (3, (sl tInt left3)), (10, (intA (i_9 : Int))), (52, (boolA top11)), (54, (sl tInt left3)), (55, (intA (i_9 : Int))), (56, (.q (flat tInt.enc left3) (i_9 * tInt.k))), (57, (intA x_i_9)), (58, (.m [1] 0 ([x_i_9] : (List Int)).length tInt.k)), (59, (.m [0] 0 us_17.length tInt.k))] rfl ?_
       refine TO_st (σ' := [.row (flat tInt.enc us_17), .row (flat tInt.enc ([x_i_9] : (List Int))), .dead]) rfl ?_
       refine pv tb 1 rfl ?_
       refine TO_nil ?_
       refine T_region ?_
       refine pv tb 1 rfl ?_
       refine Tp rfl rfl (pur_add rfl rfl rfl (fits64 (by omega) (by omega))) rfl ?_
       refine pv tb 1 rfl ?_
       refine TO_nil ?_
       obtain rfl := some_inj H
       exact again (left3.length - (i_9 + 1)) (i_9 + 1, us_17) (by omega) (w0 1) ⟨rfl, K10_⟩
      ·replace H := cond_f c_16 H
       refine T_skip ?_
       refine T_region ?_
       refine pv tb 1 rfl ?_
       refine Tp rfl rfl (pur_add rfl rfl rfl (fits64 (by omega) (by omega))) rfl ?_
       refine pv tb 1 rfl ?_
       refine TO_nil ?_
       obtain rfl := some_inj H
       exact again (left3.length - (i_9 + 1)) (i_9 + 1, out9) (by omega) (w0 1) ⟨rfl, K10_⟩
    ·replace d10 := of_decide_eq_false d10
     obtain rfl := forS_end L10_ (by omega)
     refine T_exit ?_
     refine then_exit ?_
     refine then_exit ?_
     refine block_exit ?_
     replace H := N10_
     refine sr ?_
     refine pv tb 2 rfl ?_
     refine TO_nil ?_
     refine T_ret ?_
     obtain rfl := some_inj H
     exact end_pick (.tmp .nil) rfl [0] (by decide) rfl rfl rfl rfl rfl rfl
theorem m_spec_UndominatedFacts_ok (n0 : Int) (l1 : (List ConflictEdge)) (p2 : (List ConflictEdge)) (left3 : (List Int)) (r : (List Int)) (H : m_spec_UndominatedFacts n0 l1 p2 left3 = some r) : FnV prg 24 [(intA n0), (sl tConflictEdge l1), (sl tConflictEdge p2), (sl tInt left3)] (sl tInt r) := (m_spec_UndominatedFacts_own n0 l1 p2 left3 r H).frz (frzT (T := tInt) rfl)

set_option maxHeartbeats 1000000 in
theorem m_spec_l28Rest_own (l0 : (List ConflictEdge)) (left1 : (List Int)) (x2 : Int) (r : (List Int)) (H : m_spec_l28Rest l0 left1 x2 = some r) : FnO prg 25 [(sl tConflictEdge l0), (sl tInt left1), (intA x2)] (.m [0] 0 r.length tInt.k) [.row (flat tInt.own r)] := by
  unfold m_spec_l28Rest at H
  refine fnO_of_T Tryz.func25 rfl rfl (Nat.le_of_ble_eq_true rfl) ?_
  refine te [(0, (sl tConflictEdge l0)), (1, (sl tInt left1)), (2, (intA x2))] rfl ?_
  refine sr ?_
  refine pv tb 1 rfl ?_
  refine TO_nil ?_
  refine sr ?_
  refine TO_cons rfl (TOp_lit (nn := 0) (k := 1) sl31 zero3 rfl rfl rfl rfl (by decide) ?_)
  refine TO_st (σ' := [.row (flat tInt.enc ([] : (List Int)))]) rfl ?_
  refine pv tb 1 rfl ?_
  refine TO_nil ?_
  refine T_seq ?_
  refine sr ?_
  refine pv tb 1 rfl ?_
  refine TO_nil ?_
  obtain ⟨O2_, L2_, N2_⟩ := bind_inv H
  clear H
  obtain ⟨B2_, hb2, L2_⟩ := gen_forS L2_
  refine T_block ?_
  refine T_loopX (fun k => fun (⟨i_1, out7⟩ : Nat × (List Int)) => k = left1.length - i_1 ∧ forS B2_ (left1.drop i_1) (i_1 : Int) out7 = some O2_) (fun (⟨i_1, out7⟩ : Nat × (List Int)) => [(0, (sl tConflictEdge l0)), (1, (sl tInt left1)), (2, (intA x2)), (7, (.m [0] 0 out7.length tInt.k)), (8, (intA (i_1 : Int)))]) (fun (⟨i_1, out7⟩ : Nat × (List Int)) => [.row (flat tInt.enc out7)]) _ (0, ([] : (List Int))) (w0 1) ⟨rfl, L2_⟩ ?_
  rintro _ ⟨i_1, out7⟩ ⟨rfl, L2_⟩
  refine T_fact (len_sl (T := tInt) (.tmp 1) rfl) (fun hl2 => ?_)
  refine T_seq ?_
  refine sr ?_
  refine pv tb 2 rfl ?_
  refine Tp rfl rfl (pur_lenT (T := tInt) sl31 rfl rfl) rfl ?_
  refine pv tb 1 rfl ?_
  refine TO_nil ?_
  refine T_cond (t := decide ((i_1 : Int) < (left1.length : Int))) rfl (fun d2 => ?_) (fun d2 => ?_)
  ·replace d2 := of_decide_eq_true d2
   obtain ⟨x_i_1, hx_i_1⟩ : ∃ v, (left1)[i_1]? = some v := ⟨_, List.getElem?_eq_getElem (by omega)⟩
   obtain ⟨C2_, H, K2_⟩ := forS_step L2_ hx_i_1
   rw [hb2] at H
   refine T_skip ?_
   refine T_seq ?_
   refine T_block ?_
   obtain ⟨t31_3, J_3, H_4⟩ := bind_inv H
   refine T_cutX (fun x => t31_3 = x) (fun (t31_3 : Bool) => [(0, (sl tConflictEdge l0)), (1, (sl tInt left1)), (2, (intA x2)), (7, (.m [0] 0 out7.length tInt.k)), (8, (intA (i_1 : Int))), (31, (boolA t31_3))]) (fun (t31_3 : Bool) => [.row (flat tInt.enc out7)]) ?_ ?_
   ·replace H := J_3
    refine T_region ?_
    refine pv tb 2 rfl ?_
    refine Tp rfl rfl (pur_ixT (T := tInt) sl31 rfl rfl rfl hx_i_1 rfl) rfl ?_
    refine Tp rfl rfl (pur_ldT (T := tInt) (i := i_1) (off := 0) rfl one3 rfl rfl hx_i_1 rfl) rfl ?_
    refine pv tb 3 rfl ?_
    refine TO_split (t := decide (x_i_1 ≠ x2)) 22 rfl (fun g_5 => ?_) (fun g_5 => ?_)
    ·replace H := cond_t g_5 H
     refine pv tb 3 rfl ?_
     refine TO_on rfl rfl (by decide) rfl rfl (TOp_pure (pur_ixT (T := tInt) sl31 rfl rfl rfl hx_i_1 rfl) rfl ?_)
     refine TO_on rfl rfl (by decide) rfl rfl (TOp_pure (pur_ldT (T := tInt) (i := i_1) (off := 0) rfl one3 rfl rfl hx_i_1 rfl) rfl ?_)
     obtain ⟨r_6, h_7, H⟩ := bind_inv H
     refine pv tb 1 rfl ?_
     refine TO_on rfl rfl (by decide) rfl rfl (TOp_callV (call_static ent23 rfl) (m_spec_l28Edge_ok _ _ _ _ h_7) rfl rfl rfl ?_)
     refine pv tb 2 rfl ?_
     refine TO_nil ?_
     exact joined (!r_6) (w0 1) (some_inj H).symm
    ·replace H := cond_f g_5 H
     refine pv tb 9 rfl ?_
     refine TO_nil ?_
     exact joined false (w0 1) (some_inj H).symm
   ·rintro _ rfl
    replace H := H_4
    refine T_cond (t := t31_3) rfl (fun c_8 => ?_) (fun c_8 => ?_)
    ·replace H := cond_t c_8 H
     refine T_region ?_
     refine pv tb 3 rfl ?_
     refine Tp rfl rfl (pur_ixT (T := tInt) sl31 rfl rfl rfl hx_i_1 rfl) rfl ?_
     refine Tp rfl rfl (pur_ldT (T := tInt) (i := i_1) (off := 0) rfl one3 rfl rfl hx_i_1 rfl) rfl ?_
     refine TO_cons rfl (TOp_lit (nn := 1) (k := 1) sl31 zero3 rfl rfl rfl rfl (by decide) ?_)
     refine TO_st (σ' := [.row (flat tInt.enc out7), .row (flat tInt.enc ([x_i_1] : (List Int)))]) rfl ?_
     obtain ⟨us_9, h_10, H⟩ := bind_inv H
     refine TO_cons rfl (TOp_appZ (T := tInt) (f := tInt.enc) (xs := out7) (ys := ([x_i_1] : (List Int))) tInt.len sl31 zero3 rfl bytes3 (by decide) rfl rfl rfl rfl (src_mT (f := tInt.enc) tInt.len rfl rfl (flat_cell tInt _)) (flat_cell tInt _) h_10 (lb rfl) ?_)
     refine toe [(0, (sl tConflictEdge l0)), (1, (sl tInt left1)), (2, (intA x2)), (8, (intA (i_1 : Int))), (31, (boolA t31_3)), (33, (sl tInt left1)), (34, (intA (i_1 : Int))), (35, (.q (flat tInt.enc left1) (i_1 * tInt.k))), (36, (intA x_i_1)), (37, (.m [1] 0 ([x_i_1] : (List Int)).length tInt.k)), (38, (.m [0] 0 us_9.length tInt.k))] rfl ?_
     refine TO_st (σ' := [.row (flat tInt.enc us_9), .row (flat tInt.enc ([x_i_1] : (List Int))), .dead]) rfl ?_
     refine pv tb 1 rfl ?_
     refine TO_nil ?_
     refine T_region ?_
     refine pv tb 1 rfl ?_
     refine Tp rfl rfl (pur_add rfl rfl rfl (fits64 (by omega) (by omega))) rfl ?_
     refine pv tb 1 rfl ?_
     refine TO_nil ?_
     obtain rfl := some_inj H
     exact again (left1.length - (i_1 + 1)) (i_1 + 1, us_9) (by omega) (w0 1) ⟨rfl, K2_⟩
    ·replace H := cond_f c_8 H
     refine T_skip ?_
     refine T_region ?_
     refine pv tb 1 rfl ?_
     refine Tp rfl rfl (pur_add rfl rfl rfl (fits64 (by omega) (by omega))) rfl ?_
     refine pv tb 1 rfl ?_
     refine TO_nil ?_
     obtain rfl := some_inj H
     exact again (left1.length - (i_1 + 1)) (i_1 + 1, out7) (by omega) (w0 1) ⟨rfl, K2_⟩
  ·replace d2 := of_decide_eq_false d2
   obtain rfl := forS_end L2_ (by omega)
   refine T_exit ?_
   refine then_exit ?_
   refine then_exit ?_
   refine block_exit ?_
   replace H := N2_
   refine sr ?_
   refine pv tb 2 rfl ?_
   refine TO_nil ?_
   refine T_ret ?_
   obtain rfl := some_inj H
   exact end_pick (.tmp .nil) rfl [0] (by decide) rfl rfl rfl rfl rfl rfl
theorem m_spec_l28Rest_ok (l0 : (List ConflictEdge)) (left1 : (List Int)) (x2 : Int) (r : (List Int)) (H : m_spec_l28Rest l0 left1 x2 = some r) : FnV prg 25 [(sl tConflictEdge l0), (sl tInt left1), (intA x2)] (sl tInt r) := (m_spec_l28Rest_own l0 left1 x2 r H).frz (frzT (T := tInt) rfl)

set_option maxHeartbeats 1000000 in
theorem m_spec_l7Sorted_own (u : Nat) (l0 : (List Int)) (r : (List Int)) (H : m_spec_l7Sorted u l0 = some r) : FnO prg 26 [(sl tInt l0)] (.m [0] 0 r.length tInt.k) [.row (flat tInt.own r)] := by
  unfold m_spec_l7Sorted at H
  refine fnO_of_T Tryz.func26 rfl rfl (Nat.le_of_ble_eq_true rfl) ?_
  refine te [(0, (sl tInt l0))] rfl ?_
  refine sr ?_
  refine pv tb 1 rfl ?_
  refine TO_nil ?_
  refine sr ?_
  refine TO_cons rfl (TOp_lit (nn := 0) (k := 1) sl31 zero3 rfl rfl rfl rfl (by decide) ?_)
  refine TO_st (σ' := [.row (flat tInt.enc ([] : (List Int)))]) rfl ?_
  refine pv tb 1 rfl ?_
  refine TO_nil ?_
  refine T_seq ?_
  refine sr ?_
  refine pv tb 1 rfl ?_
  refine TO_nil ?_
  obtain ⟨O2_, L2_, N2_⟩ := bind_inv H
  clear H
  obtain ⟨B2_, hb2, L2_⟩ := gen_forS L2_
  refine T_block ?_
  refine T_loopX (fun k => fun (⟨i_1, out3⟩ : Nat × (List Int)) => k = l0.length - i_1 ∧ forS B2_ (l0.drop i_1) (i_1 : Int) out3 = some O2_) (fun (⟨i_1, out3⟩ : Nat × (List Int)) => [(0, (sl tInt l0)), (3, (.m [0] 0 out3.length tInt.k)), (4, (intA (i_1 : Int)))]) (fun (⟨i_1, out3⟩ : Nat × (List Int)) => [.row (flat tInt.enc out3)]) _ (0, ([] : (List Int))) (w0 1) ⟨rfl, L2_⟩ ?_
  rintro _ ⟨i_1, out3⟩ ⟨rfl, L2_⟩
  refine T_fact (len_sl (T := tInt) (.tmp 0) rfl) (fun hl2 => ?_)
  refine T_seq ?_
  refine sr ?_
  refine pv tb 2 rfl ?_
  refine Tp rfl rfl (pur_lenT (T := tInt) sl31 rfl rfl) rfl ?_
  refine pv tb 1 rfl ?_
  refine TO_nil ?_
  refine T_cond (t := decide ((i_1 : Int) < (l0.length : Int))) rfl (fun d2 => ?_) (fun d2 => ?_)
  ·replace d2 := of_decide_eq_true d2
   obtain ⟨x_i_1, hx_i_1⟩ : ∃ v, (l0)[i_1]? = some v := ⟨_, List.getElem?_eq_getElem (by omega)⟩
   obtain ⟨C2_, H, K2_⟩ := forS_step L2_ hx_i_1
   rw [hb2] at H
   refine T_skip ?_
   refine T_seq ?_
   refine T_block ?_
   refine sr ?_
   refine pv tb 1 rfl ?_
   refine Tp rfl rfl (pur_len_m sl31 rfl rfl) rfl ?_
   refine pv tb 1 rfl ?_
   refine TO_nil ?_
   obtain ⟨O3_, L3_, N3_⟩ := bind_inv H
   clear H
   obtain ⟨B3_, hb3, L3_⟩ := gen_whileF L3_
   refine T_cutX (fun (x : Int) => O3_ = .inl x) (fun (k5 : Int) => [(0, (sl tInt l0)), (3, (.m [0] 0 out3.length tInt.k)), (4, (intA (i_1 : Int))), (5, (intA k5))]) (fun (k5 : Int) => [.row (flat tInt.enc out3)]) ?_ ?_
   ·skip
    refine T_block ?_
    refine T_loopX (fun k => fun (k5 : Int) => whileF B3_ k k5 = some O3_) (fun (k5 : Int) => [(0, (sl tInt l0)), (3, (.m [0] 0 out3.length tInt.k)), (4, (intA (i_1 : Int))), (5, (intA k5))]) (fun (k5 : Int) => [.row (flat tInt.enc out3)]) u (out3.length : Int) (w0 1) L3_ ?_
    rintro _ k5 L3_
    obtain ⟨k3, rfl, C3_, H, K3_⟩ := while_step L3_
    rw [hb3] at H
    refine T_seq ?_
    obtain ⟨t28_4, J_4, H_5⟩ := bind_inv H
    refine T_cutX (fun x => t28_4 = x) (fun (t28_4 : Bool) => [(0, (sl tInt l0)), (3, (.m [0] 0 out3.length tInt.k)), (4, (intA (i_1 : Int))), (5, (intA k5)), (28, (boolA t28_4))]) (fun (t28_4 : Bool) => [.row (flat tInt.enc out3)]) ?_ ?_
    ·replace H := J_4
     refine T_regionD mixed (by kernel_rfl) ?_
     refine pq tb 3 rfl ?_
     refine TQ_split (t := decide (0 < k5)) 17 rfl (fun g_6 => ?_) (fun g_6 => ?_)
     ·replace H := cond_t g_6 H
      obtain ⟨v_7, h_8, H⟩ := bind_inv H
      obtain ⟨n_9, hz_10, hv_11⟩ := getI_inv h_8
      refine pq tb 3 rfl ?_
      refine TQ_on rfl rfl (by decide) rfl (pur_ixM (T := tInt) sl31 rfl rfl hz_10 hv_11 rfl) rfl ?_
      refine TQ_on rfl rfl (by decide) rfl (pur_ldE (f := tInt.enc) (k := tInt.k) (i := n_9) (off := 0) tInt.len rfl one3 rfl rfl rfl hv_11 rfl rfl) rfl ?_
      refine pq tb 2 rfl ?_
      refine TQ_on rfl rfl (by decide) rfl (pur_ixT (T := tInt) sl31 rfl rfl rfl hx_i_1 rfl) rfl ?_
      refine TQ_on rfl rfl (by decide) rfl (pur_ldT (T := tInt) (i := i_1) (off := 0) rfl one3 rfl rfl hx_i_1 rfl) rfl ?_
      refine pq tb 2 rfl ?_
      refine TQ_nil ?_
      exact joined (decide (x_i_1 < v_7)) (w0 1) (some_inj H).symm
     ·replace H := cond_f g_6 H
      refine pq tb 11 rfl ?_
      refine TQ_nil ?_
      exact joined false (w0 1) (some_inj H).symm
    ·rintro _ rfl
     replace H := H_5
     refine T_cond (t := t28_4) rfl (fun c_12 => ?_) (fun c_12 => ?_)
     ·replace H := cond_t c_12 H
      refine T_skip ?_
      refine T_block ?_
      refine T_region ?_
      refine pv tb 3 rfl ?_
      refine TO_nil ?_
      obtain rfl := some_inj H
      exact again k3 (w64 (k5 - 1)) (Nat.lt_succ_self _) (w0 1) K3_
     ·replace H := cond_f c_12 H
      refine T_exit ?_
      refine then_exit ?_
      refine then_exit ?_
      refine block_exit ?_
      obtain rfl := some_inj H
      obtain rfl := some_inj K3_
      exact joined k5 (w0 1) rfl
   ·rintro k5 rfl
    replace H := onS_l N3_
    obtain ⟨ys_13, h_14, H⟩ := bind_inv H
    obtain ⟨i_15, j_16, hi_17, hj_18, hij_19, hjl_20, hys_21, _⟩ := cutI_inv h_14
    obtain ⟨us_22, h_23, H⟩ := bind_inv H
    obtain ⟨us_24, h_25, H⟩ := bind_inv H
    obtain ⟨ys_26, h_27, H⟩ := bind_inv H
    obtain ⟨i_28, j_29, hi_30, hj_31, hij_32, hjl_33, hys_34, _⟩ := cutI_inv h_27
    obtain ⟨us_35, h_36, H⟩ := bind_inv H
    refine T_pad ?_
    refine T_pad ?_
    refine T_pad ?_
    refine T_regionP 1 mixed rfl ?_
    refine TA_have 3 #[true, true, true, true, true, true, true, true, true, true, false, true, true, true, false, false] [(0, (sl tInt l0)), (3, (.m [0] 0 out3.length tInt.k)), (4, (intA (i_1 : Int))), (35, (.m [2] 0 us_22.length tInt.k)), (40, (.m [3] 0 ([x_i_1] : (List Int)).length tInt.k)), (44, (.m [0] (i_28 * tInt.k) (j_29 - i_28) tInt.k))] [.row (flat tInt.enc out3), .dead, .row (flat tInt.enc us_22), .row (flat tInt.enc ([x_i_1] : (List Int)))] ?_ (fun hj0_8 => ?_)
    ·skip
     refine t1 10 (by kernel_rfl) rfl rfl (TOp_appY (T := tInt) (f := tInt.enc) (xs := us_22) (ys := ([x_i_1] : (List Int))) tInt.len sl31 zero3 rfl bytes3 (by decide) rfl rfl rfl rfl (src_mT (f := tInt.enc) tInt.len rfl rfl (flat_cell tInt _)) (flat_cell tInt _) h_25 ?_)
     refine tmw 2 4 (by decide) (lb rfl) rfl rfl (lb rfl) rfl ?_
     refine t1 14 (by kernel_rfl) rfl rfl (TOp_appY (T := tInt) (f := tInt.enc) (xs := us_24) (ys := ys_26) tInt.len sl31 zero3 rfl bytes3 (by decide) rfl rfl rfl rfl (src_cut (T := tInt) (xs := out3) (i := i_28) (j := j_29) rfl rfl hij_32 hjl_33 hys_34) (flat_cell tInt _) h_36 ?_)
     refine tmw 2 5 (by decide) (lb rfl) rfl rfl (lb rfl) rfl ?_
     refine tae [(0, (sl tInt l0)), (3, (.m [0] 0 out3.length tInt.k)), (4, (intA (i_1 : Int))), (45, (.m [2] 0 us_35.length tInt.k))] rfl ?_
     refine TA_st (σ' := [.row (flat tInt.enc out3), .dead, .row (flat tInt.enc us_35), .row (flat tInt.enc ([x_i_1] : (List Int))), .dead, .dead]) rfl ?_
     refine pa tb [15] 0 rfl (by kernel_rfl) rfl ?_
     refine TA_ghost (E' := [(0, (sl tInt l0)), (3, (.m [1] 0 us_35.length tInt.k)), (4, (intA (i_1 : Int)))]) (σ' := [.row (flat tInt.enc out3), .row (flat tInt.enc us_35), .dead, .row (flat tInt.enc ([x_i_1] : (List Int))), .dead, .dead]) (Ghost.move 1 2 (by decide) (lb rfl) rfl rfl (lb rfl) (Ghost.weak (WeakL.to 6 (lb rfl) rfl rfl rfl rfl ⟨leR rfl, leR rfl, leR rfl, trivial⟩))) ?_
     refine TA_nil (by kernel_rfl) ?_
     refine T_move' 0 1 (by decide) (lb rfl) rfl rfl (lb rfl) ?_
     refine te [(0, (sl tInt l0)), (3, (.m [0] 0 us_35.length tInt.k)), (4, (intA (i_1 : Int)))] rfl ?_
     refine T_st (σ' := [.row (flat tInt.enc us_35), .dead, .dead, .row (flat tInt.enc ([x_i_1] : (List Int))), .dead, .dead]) rfl ?_
     refine T_region ?_
     refine pv tb 1 rfl ?_
     refine Tp rfl rfl (pur_add rfl rfl rfl (fits64 (by omega) (by omega))) rfl ?_
     refine pv tb 1 rfl ?_
     refine TO_nil ?_
     obtain rfl := some_inj H
     exact again (l0.length - (i_1 + 1)) (i_1 + 1, us_35) (by omega) (w0 1) ⟨rfl, K2_⟩
    refine TA_have 4 #[true, true, true, true, false, true, true, true, true, true, false, true, true, true, false, false] [(0, (sl tInt l0)), (3, (.m [0] 0 out3.length tInt.k)), (4, (intA (i_1 : Int))), (31, (.m [2] 0 ([] : (List Int)).length tInt.k)), (34, (.m [0] (i_15 * tInt.k) (j_16 - i_15) tInt.k)), (40, (.m [3] 0 ([x_i_1] : (List Int)).length tInt.k)), (44, (.m [0] (i_28 * tInt.k) (j_29 - i_28) tInt.k))] [.row (flat tInt.enc out3), .dead, .row (flat tInt.enc ([] : (List Int))), .row (flat tInt.enc ([x_i_1] : (List Int)))] ?_ (fun hj1_8 => ?_)
    ·skip
     refine t1 4 (by kernel_rfl) rfl rfl (TOp_appY (T := tInt) (f := tInt.enc) (xs := ([] : (List Int))) (ys := ys_13) tInt.len sl31 zero3 rfl bytes3 (by decide) rfl rfl rfl rfl (src_cut (T := tInt) (xs := out3) (i := i_15) (j := j_16) rfl rfl hij_19 hjl_20 hys_21) (flat_cell tInt _) h_23 ?_)
     refine tmw 2 4 (by decide) (lb rfl) rfl rfl (lb rfl) rfl ?_
     exact tj hj0_8 rfl (w0 4)
    refine pa tb [1, 2] 14 rfl (by kernel_rfl) rfl ?_
    refine tf 3 rfl (pur_cutM (lo := none) (hi := (some (.tmp 33))) sl31 rfl hi_17.symm ⟨_, congrArg (fun z => A.v (.int .i64 z)) hj_18⟩ hij_19 hjl_20 rfl) rfl rfl (by kernel_rfl) ?_
    refine pa tb [5, 6] 11 rfl (by kernel_rfl) rfl ?_
    refine tf 7 rfl (pur_ixT (T := tInt) sl31 rfl rfl rfl hx_i_1 rfl) rfl rfl (by kernel_rfl) ?_
    refine tf 8 rfl (pur_ldT (T := tInt) (i := i_1) (off := 0) rfl one3 rfl rfl hx_i_1 rfl) rfl rfl (by kernel_rfl) ?_
    refine pa tb [11, 12] 7 rfl (by kernel_rfl) rfl ?_
    refine tf 13 rfl (pur_cutM (lo := (some (.tmp 43))) (hi := none) sl31 rfl ⟨_, congrArg (fun z => A.v (.int .i64 z)) hi_30⟩ hj_31.symm hij_32 hjl_33 rfl) rfl rfl (by kernel_rfl) ?_
    refine TA_all [0, 9] (by kernel_rfl) (by decide) ⟨?_, ?_, trivial⟩
    ·skip
     refine ⟨_, rfl, rfl, (TOp_lit (nn := 0) (k := 1) sl31 zero3 rfl rfl rfl rfl (by decide) ?_)⟩
     refine tmw 2 4 (by decide) (lb rfl) rfl rfl (lb rfl) rfl ?_
     refine TA_all [4, 9] (by kernel_rfl) (by decide) ⟨?_, ?_, trivial⟩
     ·skip
      refine ⟨_, rfl, rfl, (TOp_appY (T := tInt) (f := tInt.enc) (xs := ([] : (List Int))) (ys := ys_13) tInt.len sl31 zero3 rfl bytes3 (by decide) rfl rfl rfl rfl (src_cut (T := tInt) (xs := out3) (i := i_15) (j := j_16) rfl rfl hij_19 hjl_20 hys_21) (flat_cell tInt _) h_23 ?_)⟩
      refine tmw 2 5 (by decide) (lb rfl) rfl rfl (lb rfl) rfl ?_
      refine tae [(0, (sl tInt l0)), (3, (.m [0] 0 out3.length tInt.k)), (4, (intA (i_1 : Int))), (35, (.m [2] 0 us_22.length tInt.k)), (39, (intA x_i_1)), (44, (.m [0] (i_28 * tInt.k) (j_29 - i_28) tInt.k))] rfl ?_
      refine TA_st (σ' := [.row (flat tInt.enc out3), .dead, .row (flat tInt.enc us_22), .dead, .dead, .dead]) rfl ?_
      refine t1 9 (by kernel_rfl) rfl rfl (TOp_lit (nn := 1) (k := 1) sl31 zero3 rfl rfl rfl rfl (by decide) ?_)
      refine tmw 3 6 (by decide) (lb rfl) rfl rfl (lb rfl) rfl ?_
      exact tj hj0_8 rfl (w0 4)
     ·skip
      refine ⟨_, rfl, rfl, (TOp_lit (nn := 1) (k := 1) sl31 zero3 rfl rfl rfl rfl (by decide) ?_)⟩
      refine tmw 3 5 (by decide) (lb rfl) rfl rfl (lb rfl) rfl ?_
      refine tae [(0, (sl tInt l0)), (3, (.m [0] 0 out3.length tInt.k)), (4, (intA (i_1 : Int))), (31, (.m [2] 0 ([] : (List Int)).length tInt.k)), (34, (.m [0] (i_15 * tInt.k) (j_16 - i_15) tInt.k)), (40, (.m [3] 0 ([x_i_1] : (List Int)).length tInt.k)), (44, (.m [0] (i_28 * tInt.k) (j_29 - i_28) tInt.k))] rfl ?_
      refine TA_st (σ' := [.row (flat tInt.enc out3), .dead, .row (flat tInt.enc ([] : (List Int))), .row (flat tInt.enc ([x_i_1] : (List Int))), .dead, .dead]) rfl ?_
      exact tj hj1_8 rfl (w0 4)
    ·skip
     refine ⟨_, rfl, rfl, (TOp_lit (nn := 1) (k := 1) sl31 zero3 rfl rfl rfl rfl (by decide) ?_)⟩
     refine tmw 3 4 (by decide) (lb rfl) rfl rfl (lb rfl) rfl ?_
     refine t1 0 (by kernel_rfl) rfl rfl (TOp_lit (nn := 0) (k := 1) sl31 zero3 rfl rfl rfl rfl (by decide) ?_)
     refine tmw 2 5 (by decide) (lb rfl) rfl rfl (lb rfl) rfl ?_
     refine tae [(0, (sl tInt l0)), (3, (.m [0] 0 out3.length tInt.k)), (4, (intA (i_1 : Int))), (31, (.m [2] 0 ([] : (List Int)).length tInt.k)), (34, (.m [0] (i_15 * tInt.k) (j_16 - i_15) tInt.k)), (40, (.m [3] 0 ([x_i_1] : (List Int)).length tInt.k)), (44, (.m [0] (i_28 * tInt.k) (j_29 - i_28) tInt.k))] rfl ?_
     refine TA_st (σ' := [.row (flat tInt.enc out3), .dead, .row (flat tInt.enc ([] : (List Int))), .row (flat tInt.enc ([x_i_1] : (List Int))), .dead, .dead]) rfl ?_
     exact tj hj1_8 rfl (w0 4)
  ·replace d2 := of_decide_eq_false d2
   obtain rfl := forS_end L2_ (by omega)
   refine T_exit ?_
   refine then_exit ?_
   refine then_exit ?_
   refine block_exit ?_
   replace H := N2_
   refine sr ?_
   refine pv tb 2 rfl ?_
   refine TO_nil ?_
   refine T_ret ?_
   obtain rfl := some_inj H
   exact end_pick (.tmp .nil) rfl [0] (by decide) rfl rfl rfl rfl rfl rfl
theorem m_spec_l7Sorted_ok (u : Nat) (l0 : (List Int)) (r : (List Int)) (H : m_spec_l7Sorted u l0 = some r) : FnV prg 26 [(sl tInt l0)] (sl tInt r) := (m_spec_l7Sorted_own u l0 r H).frz (frzT (T := tInt) rfl)

set_option maxHeartbeats 4000000 in
theorem m_spec_l28Walk_r (u : Nat) (n0 : Int) (l1 : (List ConflictEdge)) (p2 : (List ConflictEdge)) (left3 : (List Int)) (s4 : (List Int)) (known5 : (List (List Int))) (r : (List (List Int))) (H : m_spec_l28Walk u n0 l1 p2 left3 s4 known5 = some r) : FnS prg 19 [(intA n0), (sl tConflictEdge l1), (sl tConflictEdge p2), (sl tInt left3), (sl tInt s4), (.m [0] 0 known5.length (tSl tInt).k)] [.row (flat (tSl tInt).enc known5)] (.m [1] 0 r.length (tSl tInt).k) [.dead, .row (flat (tSl tInt).enc r)] := by
  induction u generalizing n0 l1 p2 left3 s4 known5 r with
  | zero => simp [m_spec_l28Walk] at H
  | succ u IH =>
   rw [m_spec_l28Walk] at H
   refine fnS_of_T Tryz.func19 rfl rfl (Nat.le_of_ble_eq_true rfl) ?_
   refine te [(0, (intA n0)), (1, (sl tConflictEdge l1)), (2, (sl tConflictEdge p2)), (3, (sl tInt left3)), (4, (sl tInt s4)), (5, (.m [0] 0 known5.length (tSl tInt).k))] rfl ?_
   refine T_st (σ' := [.row (flat (tSl tInt).enc known5)]) rfl ?_
   refine T_pad ?_
   refine T_move' 1 0 (by decide) (lb rfl) rfl rfl (lb rfl) ?_
   refine te [(0, (intA n0)), (1, (sl tConflictEdge l1)), (2, (sl tConflictEdge p2)), (3, (sl tInt left3)), (4, (sl tInt s4)), (5, (.m [1] 0 known5.length (tSl tInt).k))] rfl ?_
   refine T_st (σ' := [.dead, .row (flat (tSl tInt).enc known5)]) rfl ?_
   refine sr ?_
   refine pv tb 1 rfl ?_
   refine TO_nil ?_
   refine T_seq ?_
   refine sr ?_
   refine pv tb 1 rfl ?_
   refine Tp rfl rfl (pur_lenT (T := tInt) sl31 rfl rfl) rfl ?_
   refine pv tb 1 rfl ?_
   refine TO_nil ?_
   refine T_cond (t := decide ((left3.length : Int) = 0)) rfl (fun c_1 => ?_) (fun c_1 => ?_)
   ·replace H := cond_t c_1 H
    refine sr ?_
    obtain ⟨r_2, h_3, H⟩ := bind_inv H
    refine pv tb 1 rfl ?_
    refine TO_cons rfl (TOp_callO (call_static ent26 rfl) rfl (m_spec_l7Sorted_own u _ _ h_3) rfl rfl rfl ?_)
    refine toe [(0, (intA n0)), (1, (sl tConflictEdge l1)), (2, (sl tConflictEdge p2)), (3, (sl tInt left3)), (4, (sl tInt s4)), (5, (.m [1] 0 known5.length (tSl tInt).k)), (19, (boolA (decide ((left3.length : Int) = 0)))), (20, (sl tInt s4)), (21, (.m [2] 0 r_2.length tInt.k))] rfl ?_
    refine TO_st (σ' := [.dead, .row (flat (tSl tInt).enc known5), .row (flat tInt.own r_2)]) rfl ?_
    refine pv tb 1 rfl ?_
    refine TO_nil ?_
    refine T_seq ?_
    refine sr ?_
    refine pv tb 1 rfl ?_
    refine TO_nil ?_
    obtain ⟨O5_, L5_, N5_⟩ := bind_inv H
    clear H
    obtain ⟨B5_, hb5, L5_⟩ := gen_forL L5_
    refine T_block ?_
    refine T_loopX (fun k => fun (i_4 : Nat) => k = known5.length - i_4 ∧ forL B5_ (known5.drop i_4) (i_4 : Int) () = some O5_) (fun (i_4 : Nat) => [(5, (.m [1] 0 known5.length (tSl tInt).k)), (13, (.m [2] 0 r_2.length tInt.k)), (14, (intA (i_4 : Int)))]) (fun (i_4 : Nat) => [.dead, .row (flat (tSl tInt).enc known5), .row (flat tInt.own r_2)]) _ (0 : Nat) (w0 3) ⟨rfl, L5_⟩ ?_
    rintro _ i_4 ⟨rfl, L5_⟩
    refine T_fact (len_m (.tmp 5) rfl) (fun hl5 => ?_)
    refine T_seq ?_
    refine sr ?_
    refine pv tb 2 rfl ?_
    refine Tp rfl rfl (pur_len_m sl27 rfl rfl) rfl ?_
    refine pv tb 1 rfl ?_
    refine TO_nil ?_
    refine T_cond (t := decide ((i_4 : Int) < (known5.length : Int))) rfl (fun d5 => ?_) (fun d5 => ?_)
    ·replace d5 := of_decide_eq_true d5
     obtain ⟨x_i_4, hx_i_4⟩ : ∃ v, (known5)[i_4]? = some v := ⟨_, List.getElem?_eq_getElem (by omega)⟩
     obtain ⟨C5_, H, K5_⟩ := forL_step L5_ hx_i_4
     rw [hb5] at H
     refine T_skip ?_
     refine T_seq ?_
     refine T_block ?_
     refine sr ?_
     refine pv tb 2 rfl ?_
     refine Tp rfl rfl (pur_ixM (T := (tSl tInt)) sl27 rfl rfl rfl hx_i_4 rfl) rfl ?_
     refine Tp rfl rfl (pur_ldE (f := (tSl tInt).enc) (k := (tSl tInt).k) (i := i_4) (off := 0) (tSl tInt).len rfl one31 rfl rfl rfl hx_i_4 rfl rfl) rfl ?_
     obtain ⟨r_6, h_7, H⟩ := bind_inv H
     refine pv tb 1 rfl ?_
     refine TO_cons rfl (TOp_callB (call_static ent21 rfl) (frz_cons (frz_loose rfl) (frz_cons (frzT (T := tInt) rfl) frz_nil)).1 (frz_cons (frz_loose rfl) (frz_cons (frzT (T := tInt) rfl) frz_nil)).2 (m_spec_l3Ints_ok u _ _ _ h_7) rfl ?_)
     refine pv tb 1 rfl ?_
     refine TO_nil ?_
     refine T_cond (t := decide (r_6 = 0)) rfl (fun c_8 => ?_) (fun c_8 => ?_)
     ·replace H := cond_t c_8 H
      refine sr ?_
      refine pv tb 2 rfl ?_
      refine TO_nil ?_
      refine te [(12, (.m [1] 0 known5.length (tSl tInt).k))] rfl ?_
      refine T_ret ?_
      refine block_ret ?_
      refine then_ret ?_
      refine then_ret ?_
      refine block_ret ?_
      refine then_ret ?_
      refine then_ret ?_
      obtain rfl := some_inj H
      obtain rfl := some_inj K5_
      replace H := onS_r N5_
      obtain rfl := some_inj H
      exact end_pickX (.tmp .nil) rfl [0, 1] (by decide) (lb rfl) rfl (lb rfl) rfl rfl rfl rfl rfl rfl
     ·replace H := cond_f c_8 H
      refine T_skip ?_
      refine T_region ?_
      refine pv tb 1 rfl ?_
      refine Tp rfl rfl (pur_add rfl rfl rfl (fits64 (by omega) (by omega))) rfl ?_
      refine pv tb 1 rfl ?_
      refine TO_nil ?_
      obtain rfl := some_inj H
      exact again (known5.length - (i_4 + 1)) (i_4 + 1) (by omega) (w0 3) ⟨rfl, K5_⟩
    ·replace d5 := of_decide_eq_false d5
     obtain rfl := forL_end L5_ (by omega)
     refine T_exit ?_
     refine then_exit ?_
     refine then_exit ?_
     refine block_exit ?_
     replace H := onS_l N5_
     refine sr ?_
     refine pv tb 2 rfl ?_
     refine TO_frz1 2 (E' := [(5, (.m [1] 0 known5.length (tSl tInt).k)), (13, (sl tInt r_2)), (36, (.m [1] 0 known5.length (tSl tInt).k)), (37, (sl tInt r_2))]) rfl rfl (lb rfl) ⟨(.keep rfl), fz1T, (.keep rfl), fz1T, trivial⟩ ?_
     refine TO_st (σ' := [.dead, .row (flat (tSl tInt).enc known5), .dead]) rfl ?_
     refine TO_cons rfl (TOp_lit (nn := 1) (k := 1) sl27 zero31 rfl rfl rfl rfl (by decide) ?_)
     refine TO_st (σ' := [.dead, .row (flat (tSl tInt).enc known5), .dead, .row (flat (tSl tInt).enc ([r_2] : (List (List Int))))]) rfl ?_
     obtain ⟨us_9, h_10, H⟩ := bind_inv H
     refine TO_cons rfl (TOp_appZ (T := (tSl tInt)) (f := (tSl tInt).enc) (xs := known5) (ys := ([r_2] : (List (List Int)))) (tSl tInt).len sl27 zero31 rfl bytes31 (by decide) rfl rfl rfl rfl (src_mT (f := (tSl tInt).enc) (tSl tInt).len rfl rfl (flat_cell (tSl tInt) _)) (flat_cell (tSl tInt) _) h_10 (lb rfl) ?_)
     refine toe [(13, (sl tInt r_2)), (37, (sl tInt r_2)), (38, (.m [3] 0 ([r_2] : (List (List Int))).length (tSl tInt).k)), (39, (.m [1] 0 us_9.length (tSl tInt).k))] rfl ?_
     refine TO_st (σ' := [.dead, .row (flat (tSl tInt).enc us_9), .dead, .row (flat (tSl tInt).enc ([r_2] : (List (List Int)))), .dead]) rfl ?_
     refine pv tb 1 rfl ?_
     refine TO_nil ?_
     refine T_ret ?_
     refine then_ret ?_
     obtain rfl := some_inj H
     exact end_pickX (.tmp .nil) rfl [0, 1] (by decide) (lb rfl) rfl (lb rfl) rfl rfl rfl rfl rfl rfl
   ·replace H := cond_f c_1 H
    refine T_skip ?_
    refine sr ?_
    obtain ⟨r_11, h_12, H⟩ := bind_inv H
    refine pv tb 4 rfl ?_
    refine TO_cons rfl (TOp_callV (call_static ent24 rfl) (m_spec_UndominatedFacts_ok _ _ _ _ _ h_12) rfl rfl rfl ?_)
    refine pv tb 1 rfl ?_
    refine TO_nil ?_
    refine T_seq ?_
    refine sr ?_
    refine pv tb 1 rfl ?_
    refine TO_nil ?_
    obtain ⟨O14_, L14_, N14_⟩ := bind_inv H
    clear H
    obtain ⟨B14_, hb14, L14_⟩ := gen_forS L14_
    refine T_block ?_
    refine T_loopX (fun k => fun (⟨i_13, known5⟩ : Nat × (List (List Int))) => k = r_11.length - i_13 ∧ forS B14_ (r_11.drop i_13) (i_13 : Int) known5 = some O14_) (fun (⟨i_13, known5⟩ : Nat × (List (List Int))) => [(0, (intA n0)), (1, (sl tConflictEdge l1)), (2, (sl tConflictEdge p2)), (3, (sl tInt left3)), (4, (sl tInt s4)), (5, (.m [1] 0 known5.length (tSl tInt).k)), (15, (sl tInt r_11)), (16, (intA (i_13 : Int)))]) (fun (⟨i_13, known5⟩ : Nat × (List (List Int))) => [.dead, .row (flat (tSl tInt).enc known5)]) _ (0, known5) (w0 2) ⟨rfl, L14_⟩ ?_
    rintro _ ⟨i_13, known5⟩ ⟨rfl, L14_⟩
    refine T_fact (len_sl (T := tInt) (.tmp 15) rfl) (fun hl14 => ?_)
    refine T_seq ?_
    refine sr ?_
    refine pv tb 2 rfl ?_
    refine Tp rfl rfl (pur_lenT (T := tInt) sl31 rfl rfl) rfl ?_
    refine pv tb 1 rfl ?_
    refine TO_nil ?_
    refine T_cond (t := decide ((i_13 : Int) < (r_11.length : Int))) rfl (fun d14 => ?_) (fun d14 => ?_)
    ·replace d14 := of_decide_eq_true d14
     obtain ⟨x_i_13, hx_i_13⟩ : ∃ v, (r_11)[i_13]? = some v := ⟨_, List.getElem?_eq_getElem (by omega)⟩
     obtain ⟨C14_, H, K14_⟩ := forS_step L14_ hx_i_13
     rw [hb14] at H
     refine T_skip ?_
     refine T_seq ?_
     refine T_block ?_
     obtain ⟨r_15, h_16, H⟩ := bind_inv H
     obtain ⟨us_17, h_18, H⟩ := bind_inv H
     obtain ⟨us_19, h_20, H⟩ := bind_inv H
     obtain ⟨r_21, h_22, H⟩ := bind_inv H
     refine T_pad ?_
     refine T_pad ?_
     refine T_regionP 1 mixed rfl ?_
     refine TA_have 3 #[true, true, true, true, true, true, true, true, true, true, true, true, true, true, true, true, true, true, false, true, false, false] [(0, (intA n0)), (1, (sl tConflictEdge l1)), (2, (sl tConflictEdge p2)), (3, (sl tInt left3)), (4, (sl tInt s4)), (5, (.m [1] 0 known5.length (tSl tInt).k)), (15, (sl tInt r_11)), (16, (intA (i_13 : Int))), (51, (intA n0)), (52, (sl tConflictEdge l1)), (53, (sl tConflictEdge p2)), (60, (sl tInt r_15)), (63, (.m [2] 0 us_17.length tInt.k)), (68, (.m [3] 0 ([x_i_13] : (List Int)).length tInt.k)), (70, (.m [1] 0 known5.length (tSl tInt).k))] [.dead, .row (flat (tSl tInt).enc known5), .row (flat tInt.enc us_17), .row (flat tInt.enc ([x_i_13] : (List Int)))] ?_ (fun hj0_13 => ?_)
     ·skip
      refine t1 18 (by kernel_rfl) rfl rfl (TOp_appY (T := tInt) (f := tInt.enc) (xs := us_17) (ys := ([x_i_13] : (List Int))) tInt.len sl31 zero3 rfl bytes3 (by decide) rfl rfl rfl rfl (src_mT (f := tInt.enc) tInt.len rfl rfl (flat_cell tInt _)) (flat_cell tInt _) h_20 ?_)
      refine tmw 2 4 (by decide) (lb rfl) rfl rfl (lb rfl) rfl ?_
      refine TA_ghost (E' := [(0, (intA n0)), (1, (sl tConflictEdge l1)), (2, (sl tConflictEdge p2)), (3, (sl tInt left3)), (4, (sl tInt s4)), (5, (.m [1] 0 known5.length (tSl tInt).k)), (15, (sl tInt r_11)), (16, (intA (i_13 : Int))), (51, (intA n0)), (52, (sl tConflictEdge l1)), (53, (sl tConflictEdge p2)), (60, (sl tInt r_15)), (68, (.m [3] 0 ([x_i_13] : (List Int)).length tInt.k)), (69, (.m [2] 0 us_19.length tInt.k)), (70, (.m [1] 0 known5.length (tSl tInt).k))]) (σ' := [.dead, .row (flat (tSl tInt).enc known5), .row (flat tInt.enc us_19), .row (flat tInt.enc ([x_i_13] : (List Int))), .dead]) (Ghost.weak (WeakL.to 5 (lb rfl) rfl rfl rfl rfl ⟨leR rfl, leR rfl, leR rfl, leR rfl, leR rfl, leR rfl, leR rfl, leR rfl, leR rfl, leR rfl, leR rfl, leR rfl, leR rfl, leR rfl, leR rfl, trivial⟩)) ?_
      refine TA_frz1 2 (E' := [(0, (intA n0)), (1, (sl tConflictEdge l1)), (2, (sl tConflictEdge p2)), (3, (sl tInt left3)), (4, (sl tInt s4)), (5, (.m [1] 0 known5.length (tSl tInt).k)), (15, (sl tInt r_11)), (16, (intA (i_13 : Int))), (51, (intA n0)), (52, (sl tConflictEdge l1)), (53, (sl tConflictEdge p2)), (60, (sl tInt r_15)), (68, (.m [3] 0 ([x_i_13] : (List Int)).length tInt.k)), (69, (sl tInt us_19)), (70, (.m [1] 0 known5.length (tSl tInt).k))]) rfl rfl (lb rfl) ⟨(.keep rfl), (.keep rfl), (.keep rfl), (.keep rfl), (.keep rfl), (.keep rfl), (.keep rfl), (.keep rfl), (.keep rfl), (.keep rfl), (.keep rfl), (.keep rfl), (.keep rfl), fz1E, (.keep rfl), trivial⟩ ?_
      refine TA_st (σ' := [.dead, .row (flat (tSl tInt).enc known5), .dead, .row (flat tInt.enc ([x_i_13] : (List Int))), .dead]) rfl ?_
      refine t1 20 (by kernel_rfl) rfl rfl (TOp_callS [1] (call_static ent19 rfl) (by decide) rfl rfl rfl rfl rfl rfl (IH _ _ _ _ _ _ _ h_22) rfl rfl ?_)
      refine tmw 1 5 (by decide) (lb rfl) rfl rfl (lb rfl) rfl ?_
      refine tae [(0, (intA n0)), (1, (sl tConflictEdge l1)), (2, (sl tConflictEdge p2)), (3, (sl tInt left3)), (4, (sl tInt s4)), (15, (sl tInt r_11)), (16, (intA (i_13 : Int))), (51, (intA n0)), (52, (sl tConflictEdge l1)), (53, (sl tConflictEdge p2)), (60, (sl tInt r_15)), (68, (.m [3] 0 ([x_i_13] : (List Int)).length tInt.k)), (69, (sl tInt us_19)), (71, (.m [1] 0 r_21.length (tSl tInt).k))] rfl ?_
      refine TA_st (σ' := [.dead, .row (flat (tSl tInt).enc r_21), .dead, .row (flat tInt.enc ([x_i_13] : (List Int))), .dead, .dead]) rfl ?_
      refine pa tb [21] 0 rfl (by kernel_rfl) rfl ?_
      refine TA_nil (by kernel_rfl) ?_
      refine T_region ?_
      refine pv tb 1 rfl ?_
      refine Tp rfl rfl (pur_add rfl rfl rfl (fits64 (by omega) (by omega))) rfl ?_
      refine pv tb 1 rfl ?_
      refine TO_nil ?_
      obtain rfl := some_inj H
      exact again (r_11.length - (i_13 + 1)) (i_13 + 1, r_21) (by omega) (w0 2) ⟨rfl, K14_⟩
     refine TA_have 4 #[true, true, true, true, true, true, true, true, true, true, true, true, false, true, true, true, true, true, false, true, false, false] [(0, (intA n0)), (1, (sl tConflictEdge l1)), (2, (sl tConflictEdge p2)), (3, (sl tInt left3)), (4, (sl tInt s4)), (5, (.m [1] 0 known5.length (tSl tInt).k)), (15, (sl tInt r_11)), (16, (intA (i_13 : Int))), (51, (intA n0)), (52, (sl tConflictEdge l1)), (53, (sl tConflictEdge p2)), (60, (sl tInt r_15)), (61, (.m [2] 0 ([] : (List Int)).length tInt.k)), (62, (sl tInt s4)), (68, (.m [3] 0 ([x_i_13] : (List Int)).length tInt.k)), (70, (.m [1] 0 known5.length (tSl tInt).k))] [.dead, .row (flat (tSl tInt).enc known5), .row (flat tInt.enc ([] : (List Int))), .row (flat tInt.enc ([x_i_13] : (List Int)))] ?_ (fun hj1_13 => ?_)
     ·skip
      refine t1 12 (by kernel_rfl) rfl rfl (TOp_appY (T := tInt) (f := tInt.enc) (xs := ([] : (List Int))) (ys := s4) tInt.len sl31 zero3 rfl bytes3 (by decide) rfl rfl rfl rfl (src_T (T := tInt) rfl) (flat_cell tInt _) h_18 ?_)
      refine tmw 2 4 (by decide) (lb rfl) rfl rfl (lb rfl) rfl ?_
      exact tj hj0_13 rfl (w0 4)
     refine TA_have 5 #[true, true, true, true, true, true, true, true, true, false, true, true, false, true, true, true, true, true, false, true, false, false] [(0, (intA n0)), (1, (sl tConflictEdge l1)), (2, (sl tConflictEdge p2)), (3, (sl tInt left3)), (4, (sl tInt s4)), (5, (.m [1] 0 known5.length (tSl tInt).k)), (15, (sl tInt r_11)), (16, (intA (i_13 : Int))), (51, (intA n0)), (52, (sl tConflictEdge l1)), (53, (sl tConflictEdge p2)), (54, (sl tConflictEdge l1)), (55, (sl tInt left3)), (59, (intA x_i_13)), (61, (.m [2] 0 ([] : (List Int)).length tInt.k)), (62, (sl tInt s4)), (68, (.m [3] 0 ([x_i_13] : (List Int)).length tInt.k)), (70, (.m [1] 0 known5.length (tSl tInt).k))] [.dead, .row (flat (tSl tInt).enc known5), .row (flat tInt.enc ([] : (List Int))), .row (flat tInt.enc ([x_i_13] : (List Int)))] ?_ (fun hj2_13 => ?_)
     ·skip
      refine t1 9 (by kernel_rfl) rfl rfl (TOp_callV (call_static ent25 rfl) (m_spec_l28Rest_ok _ _ _ _ h_16) rfl rfl rfl ?_)
      exact tj hj1_13 rfl (w0 4)
     refine TA_have 5 #[true, true, true, true, true, true, true, true, true, true, false, true, false, true, true, true, true, true, false, true, false, false] [(0, (intA n0)), (1, (sl tConflictEdge l1)), (2, (sl tConflictEdge p2)), (3, (sl tInt left3)), (4, (sl tInt s4)), (5, (.m [1] 0 known5.length (tSl tInt).k)), (15, (sl tInt r_11)), (16, (intA (i_13 : Int))), (51, (intA n0)), (52, (sl tConflictEdge l1)), (53, (sl tConflictEdge p2)), (60, (sl tInt r_15)), (62, (sl tInt s4)), (68, (.m [3] 0 ([x_i_13] : (List Int)).length tInt.k)), (70, (.m [1] 0 known5.length (tSl tInt).k))] [.dead, .row (flat (tSl tInt).enc known5), .dead, .row (flat tInt.enc ([x_i_13] : (List Int)))] ?_ (fun hj3_13 => ?_)
     ·skip
      refine t1 10 (by kernel_rfl) rfl rfl (TOp_lit (nn := 0) (k := 1) sl31 zero3 rfl rfl rfl rfl (by decide) ?_)
      refine tmw 2 4 (by decide) (lb rfl) rfl rfl (lb rfl) rfl ?_
      exact tj hj1_13 rfl (w0 4)
     refine TA_have 5 #[true, true, true, true, true, true, true, true, true, true, true, true, false, true, true, true, true, false, false, true, false, false] [(0, (intA n0)), (1, (sl tConflictEdge l1)), (2, (sl tConflictEdge p2)), (3, (sl tInt left3)), (4, (sl tInt s4)), (5, (.m [1] 0 known5.length (tSl tInt).k)), (15, (sl tInt r_11)), (16, (intA (i_13 : Int))), (51, (intA n0)), (52, (sl tConflictEdge l1)), (53, (sl tConflictEdge p2)), (60, (sl tInt r_15)), (61, (.m [2] 0 ([] : (List Int)).length tInt.k)), (62, (sl tInt s4)), (67, (intA x_i_13)), (70, (.m [1] 0 known5.length (tSl tInt).k))] [.dead, .row (flat (tSl tInt).enc known5), .row (flat tInt.enc ([] : (List Int))), .dead] ?_ (fun hj4_13 => ?_)
     ·skip
      refine TA_all [12, 17] (by kernel_rfl) (by decide) ⟨?_, ?_, trivial⟩
      ·skip
       refine ⟨_, rfl, rfl, (TOp_appY (T := tInt) (f := tInt.enc) (xs := ([] : (List Int))) (ys := s4) tInt.len sl31 zero3 rfl bytes3 (by decide) rfl rfl rfl rfl (src_T (T := tInt) rfl) (flat_cell tInt _) h_18 ?_)⟩
       refine tmw 2 4 (by decide) (lb rfl) rfl rfl (lb rfl) rfl ?_
       refine t1 17 (by kernel_rfl) rfl rfl (TOp_lit (nn := 1) (k := 1) sl31 zero3 rfl rfl rfl rfl (by decide) ?_)
       refine tmw 3 5 (by decide) (lb rfl) rfl rfl (lb rfl) rfl ?_
       refine tae [(0, (intA n0)), (1, (sl tConflictEdge l1)), (2, (sl tConflictEdge p2)), (3, (sl tInt left3)), (4, (sl tInt s4)), (5, (.m [1] 0 known5.length (tSl tInt).k)), (15, (sl tInt r_11)), (16, (intA (i_13 : Int))), (51, (intA n0)), (52, (sl tConflictEdge l1)), (53, (sl tConflictEdge p2)), (60, (sl tInt r_15)), (63, (.m [2] 0 us_17.length tInt.k)), (68, (.m [3] 0 ([x_i_13] : (List Int)).length tInt.k)), (70, (.m [1] 0 known5.length (tSl tInt).k))] rfl ?_
       refine TA_st (σ' := [.dead, .row (flat (tSl tInt).enc known5), .row (flat tInt.enc us_17), .row (flat tInt.enc ([x_i_13] : (List Int))), .dead, .dead]) rfl ?_
       exact tj hj0_13 rfl (w0 4)
      ·skip
       refine ⟨_, rfl, rfl, (TOp_lit (nn := 1) (k := 1) sl31 zero3 rfl rfl rfl rfl (by decide) ?_)⟩
       refine tmw 3 4 (by decide) (lb rfl) rfl rfl (lb rfl) rfl ?_
       exact tj hj1_13 rfl (w0 4)
     refine pa tb [0, 1, 2, 3, 4, 5, 6] 15 rfl (by kernel_rfl) rfl ?_
     refine tf 7 rfl (pur_ixT (T := tInt) sl31 rfl rfl rfl hx_i_13 rfl) rfl rfl (by kernel_rfl) ?_
     refine tf 8 rfl (pur_ldT (T := tInt) (i := i_13) (off := 0) rfl one3 rfl rfl hx_i_13 rfl) rfl rfl (by kernel_rfl) ?_
     refine pa tb [11, 13, 14] 10 rfl (by kernel_rfl) rfl ?_
     refine tf 15 rfl (pur_ixT (T := tInt) sl31 rfl rfl rfl hx_i_13 rfl) rfl rfl (by kernel_rfl) ?_
     refine tf 16 rfl (pur_ldT (T := tInt) (i := i_13) (off := 0) rfl one3 rfl rfl hx_i_13 rfl) rfl rfl (by kernel_rfl) ?_
     refine pa tb [19] 7 rfl (by kernel_rfl) rfl ?_
     refine TA_all [9, 10, 17] (by kernel_rfl) (by decide) ⟨?_, ?_, ?_, trivial⟩
     ·skip
      refine ⟨_, rfl, rfl, (TOp_callV (call_static ent25 rfl) (m_spec_l28Rest_ok _ _ _ _ h_16) rfl rfl rfl ?_)⟩
      refine TA_all [10, 17] (by kernel_rfl) (by decide) ⟨?_, ?_, trivial⟩
      ·skip
       refine ⟨_, rfl, rfl, (TOp_lit (nn := 0) (k := 1) sl31 zero3 rfl rfl rfl rfl (by decide) ?_)⟩
       refine tmw 2 4 (by decide) (lb rfl) rfl rfl (lb rfl) rfl ?_
       refine tae [(0, (intA n0)), (1, (sl tConflictEdge l1)), (2, (sl tConflictEdge p2)), (3, (sl tInt left3)), (4, (sl tInt s4)), (5, (.m [1] 0 known5.length (tSl tInt).k)), (15, (sl tInt r_11)), (16, (intA (i_13 : Int))), (51, (intA n0)), (52, (sl tConflictEdge l1)), (53, (sl tConflictEdge p2)), (60, (sl tInt r_15)), (61, (.m [2] 0 ([] : (List Int)).length tInt.k)), (62, (sl tInt s4)), (67, (intA x_i_13)), (70, (.m [1] 0 known5.length (tSl tInt).k))] rfl ?_
       refine TA_st (σ' := [.dead, .row (flat (tSl tInt).enc known5), .row (flat tInt.enc ([] : (List Int))), .dead, .dead]) rfl ?_
       exact tj hj4_13 rfl (w0 4)
      ·skip
       refine ⟨_, rfl, rfl, (TOp_lit (nn := 1) (k := 1) sl31 zero3 rfl rfl rfl rfl (by decide) ?_)⟩
       refine tmw 3 4 (by decide) (lb rfl) rfl rfl (lb rfl) rfl ?_
       refine tae [(0, (intA n0)), (1, (sl tConflictEdge l1)), (2, (sl tConflictEdge p2)), (3, (sl tInt left3)), (4, (sl tInt s4)), (5, (.m [1] 0 known5.length (tSl tInt).k)), (15, (sl tInt r_11)), (16, (intA (i_13 : Int))), (51, (intA n0)), (52, (sl tConflictEdge l1)), (53, (sl tConflictEdge p2)), (60, (sl tInt r_15)), (62, (sl tInt s4)), (68, (.m [3] 0 ([x_i_13] : (List Int)).length tInt.k)), (70, (.m [1] 0 known5.length (tSl tInt).k))] rfl ?_
       refine TA_st (σ' := [.dead, .row (flat (tSl tInt).enc known5), .dead, .row (flat tInt.enc ([x_i_13] : (List Int))), .dead]) rfl ?_
       exact tj hj3_13 rfl (w0 4)
     ·skip
      refine ⟨_, rfl, rfl, (TOp_lit (nn := 0) (k := 1) sl31 zero3 rfl rfl rfl rfl (by decide) ?_)⟩
      refine tmw 2 4 (by decide) (lb rfl) rfl rfl (lb rfl) rfl ?_
      refine tae [(0, (intA n0)), (1, (sl tConflictEdge l1)), (2, (sl tConflictEdge p2)), (3, (sl tInt left3)), (4, (sl tInt s4)), (5, (.m [1] 0 known5.length (tSl tInt).k)), (15, (sl tInt r_11)), (16, (intA (i_13 : Int))), (51, (intA n0)), (52, (sl tConflictEdge l1)), (53, (sl tConflictEdge p2)), (54, (sl tConflictEdge l1)), (55, (sl tInt left3)), (59, (intA x_i_13)), (61, (.m [2] 0 ([] : (List Int)).length tInt.k)), (62, (sl tInt s4)), (67, (intA x_i_13)), (70, (.m [1] 0 known5.length (tSl tInt).k))] rfl ?_
      refine TA_st (σ' := [.dead, .row (flat (tSl tInt).enc known5), .row (flat tInt.enc ([] : (List Int))), .dead, .dead]) rfl ?_
      refine TA_all [9, 17] (by kernel_rfl) (by decide) ⟨?_, ?_, trivial⟩
      ·skip
       refine ⟨_, rfl, rfl, (TOp_callV (call_static ent25 rfl) (m_spec_l28Rest_ok _ _ _ _ h_16) rfl rfl rfl ?_)⟩
       exact tj hj4_13 rfl (w0 4)
      ·skip
       refine ⟨_, rfl, rfl, (TOp_lit (nn := 1) (k := 1) sl31 zero3 rfl rfl rfl rfl (by decide) ?_)⟩
       refine tmw 3 5 (by decide) (lb rfl) rfl rfl (lb rfl) rfl ?_
       refine tae [(0, (intA n0)), (1, (sl tConflictEdge l1)), (2, (sl tConflictEdge p2)), (3, (sl tInt left3)), (4, (sl tInt s4)), (5, (.m [1] 0 known5.length (tSl tInt).k)), (15, (sl tInt r_11)), (16, (intA (i_13 : Int))), (51, (intA n0)), (52, (sl tConflictEdge l1)), (53, (sl tConflictEdge p2)), (54, (sl tConflictEdge l1)), (55, (sl tInt left3)), (59, (intA x_i_13)), (61, (.m [2] 0 ([] : (List Int)).length tInt.k)), (62, (sl tInt s4)), (68, (.m [3] 0 ([x_i_13] : (List Int)).length tInt.k)), (70, (.m [1] 0 known5.length (tSl tInt).k))] rfl ?_
       refine TA_st (σ' := [.dead, .row (flat (tSl tInt).enc known5), .row (flat tInt.enc ([] : (List Int))), .row (flat tInt.enc ([x_i_13] : (List Int))), .dead, .dead]) rfl ?_
       exact tj hj2_13 rfl (w0 4)
     ·skip
      refine ⟨_, rfl, rfl, (TOp_lit (nn := 1) (k := 1) sl31 zero3 rfl rfl rfl rfl (by decide) ?_)⟩
      refine tmw 3 4 (by decide) (lb rfl) rfl rfl (lb rfl) rfl ?_
      refine tae [(0, (intA n0)), (1, (sl tConflictEdge l1)), (2, (sl tConflictEdge p2)), (3, (sl tInt left3)), (4, (sl tInt s4)), (5, (.m [1] 0 known5.length (tSl tInt).k)), (15, (sl tInt r_11)), (16, (intA (i_13 : Int))), (51, (intA n0)), (52, (sl tConflictEdge l1)), (53, (sl tConflictEdge p2)), (54, (sl tConflictEdge l1)), (55, (sl tInt left3)), (59, (intA x_i_13)), (62, (sl tInt s4)), (68, (.m [3] 0 ([x_i_13] : (List Int)).length tInt.k)), (70, (.m [1] 0 known5.length (tSl tInt).k))] rfl ?_
      refine TA_st (σ' := [.dead, .row (flat (tSl tInt).enc known5), .dead, .row (flat tInt.enc ([x_i_13] : (List Int))), .dead]) rfl ?_
      refine TA_all [9, 10] (by kernel_rfl) (by decide) ⟨?_, ?_, trivial⟩
      ·skip
       refine ⟨_, rfl, rfl, (TOp_callV (call_static ent25 rfl) (m_spec_l28Rest_ok _ _ _ _ h_16) rfl rfl rfl ?_)⟩
       exact tj hj3_13 rfl (w0 4)
      ·skip
       refine ⟨_, rfl, rfl, (TOp_lit (nn := 0) (k := 1) sl31 zero3 rfl rfl rfl rfl (by decide) ?_)⟩
       refine tmw 2 5 (by decide) (lb rfl) rfl rfl (lb rfl) rfl ?_
       refine tae [(0, (intA n0)), (1, (sl tConflictEdge l1)), (2, (sl tConflictEdge p2)), (3, (sl tInt left3)), (4, (sl tInt s4)), (5, (.m [1] 0 known5.length (tSl tInt).k)), (15, (sl tInt r_11)), (16, (intA (i_13 : Int))), (51, (intA n0)), (52, (sl tConflictEdge l1)), (53, (sl tConflictEdge p2)), (54, (sl tConflictEdge l1)), (55, (sl tInt left3)), (59, (intA x_i_13)), (61, (.m [2] 0 ([] : (List Int)).length tInt.k)), (62, (sl tInt s4)), (68, (.m [3] 0 ([x_i_13] : (List Int)).length tInt.k)), (70, (.m [1] 0 known5.length (tSl tInt).k))] rfl ?_
       refine TA_st (σ' := [.dead, .row (flat (tSl tInt).enc known5), .row (flat tInt.enc ([] : (List Int))), .row (flat tInt.enc ([x_i_13] : (List Int))), .dead, .dead]) rfl ?_
       exact tj hj2_13 rfl (w0 4)
    ·replace d14 := of_decide_eq_false d14
     obtain rfl := forS_end L14_ (by omega)
     refine T_exit ?_
     refine then_exit ?_
     refine then_exit ?_
     refine block_exit ?_
     replace H := N14_
     refine sr ?_
     refine pv tb 2 rfl ?_
     refine TO_nil ?_
     refine T_ret ?_
     obtain rfl := some_inj H
     exact end_pickX (.tmp .nil) rfl [0, 1] (by decide) (lb rfl) rfl (lb rfl) rfl rfl rfl rfl rfl rfl

set_option maxHeartbeats 1000000 in
theorem m_spec_l28All_own (u : Nat) (n0 : Int) (r : (List Int)) (H : m_spec_l28All u n0 = some r) : FnO prg 20 [(intA n0)] (.m [0] 0 r.length tInt.k) [.row (flat tInt.own r)] := by
  unfold m_spec_l28All at H
  refine fnO_of_T Tryz.func20 rfl rfl (Nat.le_of_ble_eq_true rfl) ?_
  refine te [(0, (intA n0))] rfl ?_
  refine sr ?_
  refine pv tb 1 rfl ?_
  refine TO_nil ?_
  refine sr ?_
  refine TO_cons rfl (TOp_lit (nn := 0) (k := 1) sl31 zero3 rfl rfl rfl rfl (by decide) ?_)
  refine TO_st (σ' := [.row (flat tInt.enc ([] : (List Int)))]) rfl ?_
  refine pv tb 1 rfl ?_
  refine TO_nil ?_
  obtain ⟨O1_, L1_, N1_⟩ := bind_inv H
  clear H
  obtain ⟨B1_, hb1, L1_⟩ := gen_whileF L1_
  refine T_cutX (fun (x : (List Int)) => O1_ = .inl x) (fun (l3 : (List Int)) => [(3, (.m [0] 0 l3.length tInt.k))]) (fun (l3 : (List Int)) => [.row (flat tInt.enc l3)]) ?_ ?_
  ·skip
   refine T_block ?_
   refine T_loopX (fun k => fun (l3 : (List Int)) => whileF B1_ k l3 = some O1_) (fun (l3 : (List Int)) => [(0, (intA n0)), (3, (.m [0] 0 l3.length tInt.k))]) (fun (l3 : (List Int)) => [.row (flat tInt.enc l3)]) u ([] : (List Int)) (w0 1) L1_ ?_
   rintro _ l3 L1_
   obtain ⟨k1, rfl, C1_, H, K1_⟩ := while_step L1_
   rw [hb1] at H
   refine T_seq ?_
   refine sr ?_
   refine pv tb 1 rfl ?_
   refine Tp rfl rfl (pur_len_m sl31 rfl rfl) rfl ?_
   refine pv tb 2 rfl ?_
   refine TO_nil ?_
   refine T_cond (t := decide ((l3.length : Int) < n0)) rfl (fun c_2 => ?_) (fun c_2 => ?_)
   ·replace H := cond_t c_2 H
    refine T_skip ?_
    refine T_block ?_
    refine T_region ?_
    refine pv tb 2 rfl ?_
    refine Tp rfl rfl (pur_len_m sl31 rfl rfl) rfl ?_
    refine TO_cons rfl (TOp_lit (nn := 1) (k := 1) sl31 zero3 rfl rfl rfl rfl (by decide) ?_)
    refine TO_st (σ' := [.row (flat tInt.enc l3), .row (flat tInt.enc ([(l3.length : Int)] : (List Int)))]) rfl ?_
    obtain ⟨us_3, h_4, H⟩ := bind_inv H
    refine TO_cons rfl (TOp_appZ (T := tInt) (f := tInt.enc) (xs := l3) (ys := ([(l3.length : Int)] : (List Int))) tInt.len sl31 zero3 rfl bytes3 (by decide) rfl rfl rfl rfl (src_mT (f := tInt.enc) tInt.len rfl rfl (flat_cell tInt _)) (flat_cell tInt _) h_4 (lb rfl) ?_)
    refine toe [(0, (intA n0)), (11, (intA (l3.length : Int))), (12, (.m [1] 0 ([(l3.length : Int)] : (List Int)).length tInt.k)), (13, (.m [0] 0 us_3.length tInt.k))] rfl ?_
    refine TO_st (σ' := [.row (flat tInt.enc us_3), .row (flat tInt.enc ([(l3.length : Int)] : (List Int))), .dead]) rfl ?_
    refine pv tb 1 rfl ?_
    refine TO_nil ?_
    obtain rfl := some_inj H
    exact again k1 us_3 (Nat.lt_succ_self _) (w0 1) K1_
   ·replace H := cond_f c_2 H
    refine T_exit ?_
    refine then_exit ?_
    refine then_exit ?_
    refine block_exit ?_
    obtain rfl := some_inj H
    obtain rfl := some_inj K1_
    exact joined l3 (w0 1) rfl
  ·rintro l3 rfl
   replace H := onS_l N1_
   refine sr ?_
   refine pv tb 2 rfl ?_
   refine TO_nil ?_
   refine T_ret ?_
   obtain rfl := some_inj H
   exact end_pick (.tmp .nil) rfl [0] (by decide) rfl rfl rfl rfl rfl rfl
theorem m_spec_l28All_ok (u : Nat) (n0 : Int) (r : (List Int)) (H : m_spec_l28All u n0 = some r) : FnV prg 20 [(intA n0)] (sl tInt r) := (m_spec_l28All_own u n0 r H).frz (frzT (T := tInt) rfl)

set_option maxHeartbeats 1000000 in
theorem m_spec_GreedyRepairs_own (u : Nat) (n0 : Int) (l1 : (List ConflictEdge)) (p2 : (List ConflictEdge)) (r : (List (List Int))) (H : m_spec_GreedyRepairs u n0 l1 p2 = some r) : FnO prg 8 [(intA n0), (sl tConflictEdge l1), (sl tConflictEdge p2)] (.m [0] 0 r.length (tSl tInt).k) [.row (flat (tSl tInt).enc r)] := by
  unfold m_spec_GreedyRepairs at H
  refine fnO_of_T Tryz.func8 rfl rfl (Nat.le_of_ble_eq_true rfl) ?_
  refine te [(0, (intA n0)), (1, (sl tConflictEdge l1)), (2, (sl tConflictEdge p2))] rfl ?_
  refine sr ?_
  refine pv tb 1 rfl ?_
  refine TO_nil ?_
  refine sr ?_
  refine TO_cons rfl (TOp_lit (nn := 0) (k := 1) sl27 zero31 rfl rfl rfl rfl (by decide) ?_)
  refine TO_st (σ' := [.row (flat (tSl tInt).enc ([] : (List (List Int))))]) rfl ?_
  refine pv tb 1 rfl ?_
  refine TO_nil ?_
  refine T_seq ?_
  obtain ⟨t21_1, J_1, H_2⟩ := bind_inv H
  refine T_cutX (fun x => t21_1 = x) (fun (t21_1 : Bool) => [(0, (intA n0)), (1, (sl tConflictEdge l1)), (2, (sl tConflictEdge p2)), (7, (.m [0] 0 ([] : (List (List Int))).length (tSl tInt).k)), (21, (boolA t21_1))]) (fun (t21_1 : Bool) => [.row (flat (tSl tInt).enc ([] : (List (List Int))))]) ?_ ?_
  ·replace H := J_1
   refine T_region ?_
   obtain ⟨r_3, h_4, H⟩ := bind_inv H
   refine pv tb 3 rfl ?_
   refine TO_cons rfl (TOp_callV (call_static ent9 rfl) (m_spec_IsValidPreference_ok _ _ _ _ h_4) rfl rfl rfl ?_)
   refine pv tb 2 rfl ?_
   refine TO_split (t := (!r_3)) 18 rfl (fun g_5 => ?_) (fun g_5 => ?_)
   ·replace H := cond_t g_5 H
    refine pv tb 3 rfl ?_
    refine TO_nil ?_
    exact joined true (w0 1) (some_inj H).symm
   ·replace H := cond_f g_5 H
    refine pv tb 3 rfl ?_
    refine TO_nil ?_
    exact joined (decide (7 < n0)) (w0 1) (some_inj H).symm
  ·rintro _ rfl
   replace H := H_2
   refine T_cond (t := t21_1) rfl (fun c_6 => ?_) (fun c_6 => ?_)
   ·replace H := cond_t c_6 H
    refine sr ?_
    refine pv tb 2 rfl ?_
    refine TO_nil ?_
    refine T_ret ?_
    refine then_ret ?_
    obtain rfl := some_inj H
    exact end_pick (.tmp .nil) rfl [0] (by decide) rfl rfl rfl rfl rfl rfl
   ·replace H := cond_f c_6 H
    refine T_skip ?_
    refine sr ?_
    obtain ⟨r_7, h_8, H⟩ := bind_inv H
    refine pv tb 4 rfl ?_
    refine TO_cons rfl (TOp_callV (call_static ent20 rfl) (m_spec_l28All_ok u _ _ h_8) rfl rfl rfl ?_)
    refine TO_cons rfl (TOp_lit (nn := 0) (k := 1) sl31 zero3 rfl rfl rfl rfl (by decide) ?_)
    refine TO_st (σ' := [.row (flat (tSl tInt).enc ([] : (List (List Int)))), .row (flat tInt.enc ([] : (List Int)))]) rfl ?_
    refine TO_cons rfl (TOp_lit (nn := 0) (k := 1) sl27 zero31 rfl rfl rfl rfl (by decide) ?_)
    refine TO_st (σ' := [.row (flat (tSl tInt).enc ([] : (List (List Int)))), .row (flat tInt.enc ([] : (List Int))), .row (flat (tSl tInt).enc ([] : (List (List Int))))]) rfl ?_
    refine TO_frz1 1 (E' := [(0, (intA n0)), (1, (sl tConflictEdge l1)), (2, (sl tConflictEdge p2)), (7, (.m [0] 0 ([] : (List (List Int))).length (tSl tInt).k)), (23, (intA n0)), (24, (sl tConflictEdge l1)), (25, (sl tConflictEdge p2)), (26, (intA n0)), (27, (sl tInt r_7)), (28, (sl tInt ([] : (List Int)))), (29, (.m [2] 0 ([] : (List (List Int))).length (tSl tInt).k))]) rfl rfl (lb rfl) ⟨(.keep rfl), (.keep rfl), (.keep rfl), (.keep rfl), (.keep rfl), (.keep rfl), (.keep rfl), (.keep rfl), (.keep rfl), fz1E, (.keep rfl), trivial⟩ ?_
    refine TO_st (σ' := [.row (flat (tSl tInt).enc ([] : (List (List Int)))), .dead, .row (flat (tSl tInt).enc ([] : (List (List Int))))]) rfl ?_
    obtain ⟨r_9, h_10, H⟩ := bind_inv H
    refine TO_cons rfl (TOp_callS [2] (call_static ent19 rfl) (by decide) rfl rfl rfl rfl rfl rfl (m_spec_l28Walk_r u _ _ _ _ _ _ _ h_10) rfl rfl ?_)
    refine toe [(0, (intA n0)), (1, (sl tConflictEdge l1)), (2, (sl tConflictEdge p2)), (7, (.m [0] 0 ([] : (List (List Int))).length (tSl tInt).k)), (23, (intA n0)), (24, (sl tConflictEdge l1)), (25, (sl tConflictEdge p2)), (26, (intA n0)), (27, (sl tInt r_7)), (28, (sl tInt ([] : (List Int)))), (30, (.m [3] 0 r_9.length (tSl tInt).k))] rfl ?_
    refine TO_st (σ' := [.row (flat (tSl tInt).enc ([] : (List (List Int)))), .dead, .dead, .row (flat (tSl tInt).enc r_9)]) rfl ?_
    refine pv tb 1 rfl ?_
    refine TO_nil ?_
    refine T_seq ?_
    refine sr ?_
    refine pv tb 1 rfl ?_
    refine TO_nil ?_
    obtain ⟨O12_, L12_, N12_⟩ := bind_inv H
    clear H
    obtain ⟨B12_, hb12, L12_⟩ := gen_forS L12_
    refine T_block ?_
    refine T_loopX (fun k => fun (⟨i_11, out7⟩ : Nat × (List (List Int))) => k = r_9.length - i_11 ∧ forS B12_ (r_9.drop i_11) (i_11 : Int) out7 = some O12_) (fun (⟨i_11, out7⟩ : Nat × (List (List Int))) => [(7, (.m [0] 0 out7.length (tSl tInt).k)), (8, (.m [3] 0 r_9.length (tSl tInt).k)), (9, (intA (i_11 : Int)))]) (fun (⟨i_11, out7⟩ : Nat × (List (List Int))) => [.row (flat (tSl tInt).enc out7), .dead, .dead, .row (flat (tSl tInt).enc r_9)]) _ (0, ([] : (List (List Int)))) (w0 4) ⟨rfl, L12_⟩ ?_
    rintro _ ⟨i_11, out7⟩ ⟨rfl, L12_⟩
    refine T_fact (len_m (.tmp 8) rfl) (fun hl12 => ?_)
    refine T_seq ?_
    refine sr ?_
    refine pv tb 2 rfl ?_
    refine Tp rfl rfl (pur_len_m sl27 rfl rfl) rfl ?_
    refine pv tb 1 rfl ?_
    refine TO_nil ?_
    refine T_cond (t := decide ((i_11 : Int) < (r_9.length : Int))) rfl (fun d12 => ?_) (fun d12 => ?_)
    ·replace d12 := of_decide_eq_true d12
     obtain ⟨x_i_11, hx_i_11⟩ : ∃ v, (r_9)[i_11]? = some v := ⟨_, List.getElem?_eq_getElem (by omega)⟩
     obtain ⟨C12_, H, K12_⟩ := forS_step L12_ hx_i_11
     rw [hb12] at H
     refine T_skip ?_
     refine T_seq ?_
     refine T_block ?_
     refine sr ?_
     refine pv tb 1 rfl ?_
     refine TO_nil ?_
     obtain ⟨O13_, L13_, N13_⟩ := bind_inv H
     clear H
     obtain ⟨B13_, hb13, L13_⟩ := gen_whileF L13_
     refine T_cutX (fun (x : Int) => O13_ = .inl x) (fun (k10 : Int) => [(7, (.m [0] 0 out7.length (tSl tInt).k)), (8, (.m [3] 0 r_9.length (tSl tInt).k)), (9, (intA (i_11 : Int))), (10, (intA k10))]) (fun (k10 : Int) => [.row (flat (tSl tInt).enc out7), .dead, .dead, .row (flat (tSl tInt).enc r_9)]) ?_ ?_
     ·skip
      refine T_block ?_
      refine T_loopX (fun k => fun (k10 : Int) => whileF B13_ k k10 = some O13_) (fun (k10 : Int) => [(7, (.m [0] 0 out7.length (tSl tInt).k)), (8, (.m [3] 0 r_9.length (tSl tInt).k)), (9, (intA (i_11 : Int))), (10, (intA k10))]) (fun (k10 : Int) => [.row (flat (tSl tInt).enc out7), .dead, .dead, .row (flat (tSl tInt).enc r_9)]) u 0 (w0 4) L13_ ?_
      rintro _ k10 L13_
      obtain ⟨k13, rfl, C13_, H, K13_⟩ := while_step L13_
      rw [hb13] at H
      refine T_seq ?_
      obtain ⟨t52_14, J_14, H_15⟩ := bind_inv H
      refine T_cutX (fun x => t52_14 = x) (fun (t52_14 : Bool) => [(7, (.m [0] 0 out7.length (tSl tInt).k)), (8, (.m [3] 0 r_9.length (tSl tInt).k)), (9, (intA (i_11 : Int))), (10, (intA k10)), (52, (boolA t52_14))]) (fun (t52_14 : Bool) => [.row (flat (tSl tInt).enc out7), .dead, .dead, .row (flat (tSl tInt).enc r_9)]) ?_ ?_
      ·replace H := J_14
       refine T_regionD mixed (by kernel_rfl) ?_
       refine pq tb 2 rfl ?_
       refine TQ_pure rfl (pur_len_m sl27 rfl rfl) rfl ?_
       refine pq tb 2 rfl ?_
       refine TQ_split (t := decide (k10 < (out7.length : Int))) 41 rfl (fun g_16 => ?_) (fun g_16 => ?_)
       ·replace H := cond_t g_16 H
        obtain ⟨v_17, h_18, H⟩ := bind_inv H
        obtain ⟨n_19, hz_20, hv_21⟩ := getI_inv h_18
        refine pq tb 2 rfl ?_
        refine TQ_on rfl rfl (by decide) rfl (pur_ixM (T := (tSl tInt)) sl27 rfl rfl hz_20 hv_21 rfl) rfl ?_
        refine TQ_on rfl rfl (by decide) rfl (pur_ldE (f := (tSl tInt).enc) (k := (tSl tInt).k) (i := n_19) (off := 0) (tSl tInt).len rfl one31 rfl rfl rfl hv_21 rfl rfl) rfl ?_
        refine pq tb 2 rfl ?_
        refine TQ_on rfl rfl (by decide) rfl (pur_ixM (T := (tSl tInt)) sl27 rfl rfl rfl hx_i_11 rfl) rfl ?_
        refine TQ_on rfl rfl (by decide) rfl (pur_ldE (f := (tSl tInt).enc) (k := (tSl tInt).k) (i := i_11) (off := 0) (tSl tInt).len rfl one31 rfl rfl rfl hx_i_11 rfl rfl) rfl ?_
        obtain ⟨r_22, h_23, H⟩ := bind_inv H
        refine TQ_onV rfl rfl (by decide) rfl (call_static ent21 rfl) (m_spec_l3Ints_ok u _ _ _ h_23) rfl rfl ?_
        refine pq tb 2 rfl ?_
        refine TQ_nil ?_
        exact joined (decide (r_22 < 0)) (w0 4) (some_inj H).symm
       ·replace H := cond_f g_16 H
        refine pq tb 11 rfl ?_
        refine TQ_nil ?_
        exact joined false (w0 4) (some_inj H).symm
      ·rintro _ rfl
       replace H := H_15
       refine T_cond (t := t52_14) rfl (fun c_24 => ?_) (fun c_24 => ?_)
       ·replace H := cond_t c_24 H
        refine T_skip ?_
        refine T_block ?_
        refine T_region ?_
        refine pv tb 3 rfl ?_
        refine TO_nil ?_
        obtain rfl := some_inj H
        exact again k13 (w64 (k10 + 1)) (Nat.lt_succ_self _) (w0 4) K13_
       ·replace H := cond_f c_24 H
        refine T_exit ?_
        refine then_exit ?_
        refine then_exit ?_
        refine block_exit ?_
        obtain rfl := some_inj H
        obtain rfl := some_inj K13_
        exact joined k10 (w0 4) rfl
     ·rintro k10 rfl
      replace H := onS_l N13_
      obtain ⟨ys_25, h_26, H⟩ := bind_inv H
      obtain ⟨i_27, j_28, hi_29, hj_30, hij_31, hjl_32, hys_33, _⟩ := cutI_inv h_26
      obtain ⟨us_34, h_35, H⟩ := bind_inv H
      refine T_pad ?_
      refine T_cutX (fun (_ : Unit) => True) (fun _ => [(7, (.m [0] 0 out7.length (tSl tInt).k)), (8, (.m [3] 0 r_9.length (tSl tInt).k)), (9, (intA (i_11 : Int))), (10, (intA k10)), (11, (.m [4] 0 us_34.length (tSl tInt).k))]) (fun _ => [.row (flat (tSl tInt).enc out7), .dead, .dead, .row (flat (tSl tInt).enc r_9), .row (flat (tSl tInt).enc us_34)]) ?_ ?_
      ·skip
       refine T_regionP 4 mixed rfl ?_
       refine pa tb [0, 1] 8 rfl (by kernel_rfl) rfl ?_
       refine tf 2 rfl (pur_ixM (T := (tSl tInt)) sl27 rfl rfl rfl hx_i_11 rfl) rfl rfl (by kernel_rfl) ?_
       refine pa tb [5, 6] 5 rfl (by kernel_rfl) rfl ?_
       refine tf 7 rfl (pur_cutM (lo := (some (.tmp 61))) (hi := none) sl27 rfl ⟨_, congrArg (fun z => A.v (.int .i64 z)) hi_29⟩ hj_30.symm hij_31 hjl_32 rfl) rfl rfl (by kernel_rfl) ?_
       refine t1 3 (by kernel_rfl) rfl rfl (TOp_pure (pur_ldE (f := (tSl tInt).enc) (k := (tSl tInt).k) (i := i_11) (off := 0) (tSl tInt).len rfl one31 rfl rfl rfl hx_i_11 rfl rfl) rfl ?_)
       refine t1 4 (by kernel_rfl) rfl rfl (TOp_lit (nn := 1) (k := 1) sl27 zero31 rfl rfl rfl rfl (by decide) ?_)
       refine t1 8 (by kernel_rfl) rfl rfl (TOp_appY (T := (tSl tInt)) (f := (tSl tInt).enc) (xs := ([x_i_11] : (List (List Int)))) (ys := ys_25) (tSl tInt).len sl27 zero31 rfl bytes31 (by decide) rfl rfl rfl rfl (src_cut (T := (tSl tInt)) (xs := out7) (i := i_27) (j := j_28) rfl rfl hij_31 hjl_32 hys_33) (flat_cell (tSl tInt) _) h_35 ?_)
       refine tmw 5 6 (by decide) (lb rfl) rfl rfl (lb rfl) rfl ?_
       refine pa tb [9] 0 rfl (by kernel_rfl) rfl ?_
       refine TA_ghost (E' := [(7, (.m [0] 0 out7.length (tSl tInt).k)), (8, (.m [3] 0 r_9.length (tSl tInt).k)), (9, (intA (i_11 : Int))), (10, (intA k10)), (11, (.m [4] 0 us_34.length (tSl tInt).k))]) (σ' := [.row (flat (tSl tInt).enc out7), .dead, .dead, .row (flat (tSl tInt).enc r_9), .row (flat (tSl tInt).enc us_34), .dead, .dead]) (Ghost.move 4 5 (by decide) (lb rfl) rfl rfl (lb rfl) (Ghost.weak (WeakL.to 7 (lb rfl) rfl rfl rfl rfl ⟨leR rfl, leR rfl, leR rfl, leR rfl, leR rfl, trivial⟩))) ?_
       exact TA_nil (by kernel_rfl) (joined () (w0 5) trivial)
      ·rintro _ _
       refine T_region ?_
       refine TO_cons rfl (TOp_lit (nn := 0) (k := 1) sl27 zero31 rfl rfl rfl rfl (by decide) ?_)
       refine TO_st (σ' := [.row (flat (tSl tInt).enc out7), .dead, .dead, .row (flat (tSl tInt).enc r_9), .row (flat (tSl tInt).enc us_34), .row (flat (tSl tInt).enc ([] : (List (List Int))))]) rfl ?_
       obtain ⟨ys_36, h_37, H⟩ := bind_inv H
       obtain ⟨i_38, j_39, hi_40, hj_41, hij_42, hjl_43, hys_44, _⟩ := cutI_inv h_37
       refine pv tb 2 rfl ?_
       refine Tp rfl rfl (pur_cutM (lo := none) (hi := (some (.tmp 66))) sl27 rfl hi_40.symm ⟨_, congrArg (fun z => A.v (.int .i64 z)) hj_41⟩ hij_42 hjl_43 rfl) rfl ?_
       obtain ⟨us_45, h_46, H⟩ := bind_inv H
       refine TO_cons rfl (TOp_appZ (T := (tSl tInt)) (f := (tSl tInt).enc) (xs := ([] : (List (List Int)))) (ys := ys_36) (tSl tInt).len sl27 zero31 rfl bytes31 (by decide) rfl rfl rfl rfl (src_cut (T := (tSl tInt)) (xs := out7) (i := i_38) (j := j_39) rfl rfl hij_42 hjl_43 hys_44) (flat_cell (tSl tInt) _) h_46 (lb rfl) ?_)
       refine toe [(7, (.m [0] 0 out7.length (tSl tInt).k)), (8, (.m [3] 0 r_9.length (tSl tInt).k)), (9, (intA (i_11 : Int))), (10, (intA k10)), (11, (.m [4] 0 us_34.length (tSl tInt).k)), (65, (.m [0] 0 out7.length (tSl tInt).k)), (66, (intA k10)), (67, (.m [0] (i_38 * (tSl tInt).k) (j_39 - i_38) (tSl tInt).k)), (68, (.m [5] 0 us_45.length (tSl tInt).k))] rfl ?_
       refine TO_st (σ' := [.row (flat (tSl tInt).enc out7), .dead, .dead, .row (flat (tSl tInt).enc r_9), .row (flat (tSl tInt).enc us_34), .row (flat (tSl tInt).enc us_45), .dead]) rfl ?_
       obtain ⟨us_47, h_48, H⟩ := bind_inv H
       refine pv tb 1 rfl ?_
       refine TO_cons rfl (TOp_appZ (T := (tSl tInt)) (f := (tSl tInt).enc) (xs := us_45) (ys := us_34) (tSl tInt).len sl27 zero31 rfl bytes31 (by decide) rfl rfl rfl rfl (src_mT (f := (tSl tInt).enc) (tSl tInt).len rfl rfl (flat_cell (tSl tInt) _)) (flat_cell (tSl tInt) _) h_48 (lb rfl) ?_)
       refine toe [(7, (.m [0] 0 out7.length (tSl tInt).k)), (8, (.m [3] 0 r_9.length (tSl tInt).k)), (9, (intA (i_11 : Int))), (10, (intA k10)), (11, (.m [4] 0 us_34.length (tSl tInt).k)), (65, (.m [0] 0 out7.length (tSl tInt).k)), (66, (intA k10)), (67, (.m [0] (i_38 * (tSl tInt).k) (j_39 - i_38) (tSl tInt).k)), (69, (.m [4] 0 us_34.length (tSl tInt).k)), (70, (.m [5] 0 us_47.length (tSl tInt).k))] rfl ?_
       refine TO_st (σ' := [.row (flat (tSl tInt).enc out7), .dead, .dead, .row (flat (tSl tInt).enc r_9), .row (flat (tSl tInt).enc us_34), .row (flat (tSl tInt).enc us_47), .dead, .dead]) rfl ?_
       refine pv tb 1 rfl ?_
       refine TO_nil ?_
       refine T_move' 0 5 (by decide) (lb rfl) rfl rfl (lb rfl) ?_
       refine te [(7, (.m [0] 0 us_47.length (tSl tInt).k)), (8, (.m [3] 0 r_9.length (tSl tInt).k)), (9, (intA (i_11 : Int)))] rfl ?_
       refine T_st (σ' := [.row (flat (tSl tInt).enc us_47), .dead, .dead, .row (flat (tSl tInt).enc r_9), .row (flat (tSl tInt).enc us_34), .dead, .dead, .dead]) rfl ?_
       refine T_region ?_
       refine pv tb 1 rfl ?_
       refine Tp rfl rfl (pur_add rfl rfl rfl (fits64 (by omega) (by omega))) rfl ?_
       refine pv tb 1 rfl ?_
       refine TO_nil ?_
       obtain rfl := some_inj H
       exact again (r_9.length - (i_11 + 1)) (i_11 + 1, us_47) (by omega) (w0 4) ⟨rfl, K12_⟩
    ·replace d12 := of_decide_eq_false d12
     obtain rfl := forS_end L12_ (by omega)
     refine T_exit ?_
     refine then_exit ?_
     refine then_exit ?_
     refine block_exit ?_
     replace H := N12_
     refine sr ?_
     refine pv tb 2 rfl ?_
     refine TO_nil ?_
     refine T_ret ?_
     obtain rfl := some_inj H
     exact end_pick (.tmp .nil) rfl [0] (by decide) rfl rfl rfl rfl rfl rfl
theorem m_spec_GreedyRepairs_ok (u : Nat) (n0 : Int) (l1 : (List ConflictEdge)) (p2 : (List ConflictEdge)) (r : (List (List Int))) (H : m_spec_GreedyRepairs u n0 l1 p2 = some r) : FnV prg 8 [(intA n0), (sl tConflictEdge l1), (sl tConflictEdge p2)] (sl (tSl tInt) r) := (m_spec_GreedyRepairs_own u n0 l1 p2 r H).frz (frzTE (T := (tSl tInt)) rfl)

set_option maxHeartbeats 1000000 in
theorem m_spec_GreedyRepair_own (u : Nat) (n0 : Int) (l1 : (List ConflictEdge)) (p2 : (List ConflictEdge)) (r : (List Int)) (H : m_spec_GreedyRepair u n0 l1 p2 = some r) : FnO prg 10 [(intA n0), (sl tConflictEdge l1), (sl tConflictEdge p2)] (.m [0] 0 r.length tInt.k) [.row (flat tInt.own r)] := by
  unfold m_spec_GreedyRepair at H
  refine fnO_of_T Tryz.func10 rfl rfl (Nat.le_of_ble_eq_true rfl) ?_
  refine te [(0, (intA n0)), (1, (sl tConflictEdge l1)), (2, (sl tConflictEdge p2))] rfl ?_
  refine sr ?_
  refine pv tb 1 rfl ?_
  refine TO_nil ?_
  refine sr ?_
  refine TO_cons rfl (TOp_lit (nn := 0) (k := 1) sl31 zero3 rfl rfl rfl rfl (by decide) ?_)
  refine TO_st (σ' := [.row (flat tInt.enc ([] : (List Int)))]) rfl ?_
  refine pv tb 1 rfl ?_
  refine TO_nil ?_
  refine T_seq ?_
  refine sr ?_
  obtain ⟨r_1, h_2, H⟩ := bind_inv H
  refine pv tb 3 rfl ?_
  refine TO_cons rfl (TOp_callV (call_static ent9 rfl) (m_spec_IsValidPreference_ok _ _ _ _ h_2) rfl rfl rfl ?_)
  refine pv tb 1 rfl ?_
  refine TO_nil ?_
  refine T_cond (t := (!r_1)) rfl (fun c_3 => ?_) (fun c_3 => ?_)
  ·replace H := cond_t c_3 H
   refine sr ?_
   refine pv tb 2 rfl ?_
   refine TO_nil ?_
   refine T_ret ?_
   refine then_ret ?_
   obtain rfl := some_inj H
   exact end_pick (.tmp .nil) rfl [0] (by decide) rfl rfl rfl rfl rfl rfl
  ·replace H := cond_f c_3 H
   refine T_skip ?_
   refine sr ?_
   obtain ⟨r_4, h_5, H⟩ := bind_inv H
   refine pv tb 1 rfl ?_
   refine TO_cons rfl (TOp_callV (call_static ent20 rfl) (m_spec_l28All_ok u _ _ h_5) rfl rfl rfl ?_)
   refine pv tb 1 rfl ?_
   refine TO_nil ?_
   obtain ⟨O6_, L6_, N6_⟩ := bind_inv H
   clear H
   obtain ⟨B6_, hb6, L6_⟩ := gen_whileF L6_
   refine T_cutX (fun (x : (List Int) × (List Int)) => O6_ = .inl x) (fun (⟨out7, left8⟩ : (List Int) × (List Int)) => [(7, (.m [0] 0 out7.length tInt.k))]) (fun (⟨out7, left8⟩ : (List Int) × (List Int)) => [.row (flat tInt.enc out7)]) ?_ ?_
   ·skip
    refine T_block ?_
    refine T_loopX (fun k => fun (⟨out7, left8⟩ : (List Int) × (List Int)) => whileF B6_ k (out7, left8) = some O6_) (fun (⟨out7, left8⟩ : (List Int) × (List Int)) => [(0, (intA n0)), (1, (sl tConflictEdge l1)), (2, (sl tConflictEdge p2)), (7, (.m [0] 0 out7.length tInt.k)), (8, (sl tInt left8))]) (fun (⟨out7, left8⟩ : (List Int) × (List Int)) => [.row (flat tInt.enc out7)]) u (([] : (List Int)), r_4) (w0 1) L6_ ?_
    rintro _ ⟨out7, left8⟩ L6_
    obtain ⟨k6, rfl, C6_, H, K6_⟩ := while_step L6_
    rw [hb6] at H
    refine T_seq ?_
    refine sr ?_
    refine pv tb 1 rfl ?_
    refine Tp rfl rfl (pur_lenT (T := tInt) sl31 rfl rfl) rfl ?_
    refine pv tb 1 rfl ?_
    refine TO_nil ?_
    refine T_cond (t := decide (0 < (left8.length : Int))) rfl (fun c_7 => ?_) (fun c_7 => ?_)
    ·replace H := cond_t c_7 H
     refine T_skip ?_
     refine T_block ?_
     refine sr ?_
     obtain ⟨r_8, h_9, H⟩ := bind_inv H
     refine pv tb 4 rfl ?_
     refine TO_cons rfl (TOp_callV (call_static ent24 rfl) (m_spec_UndominatedFacts_ok _ _ _ _ _ h_9) rfl rfl rfl ?_)
     refine pv tb 1 rfl ?_
     refine TO_nil ?_
     refine sr ?_
     obtain ⟨v_10, h_11, H⟩ := bind_inv H
     obtain ⟨n_12, hz_13, hv_14⟩ := getI_inv h_11
     refine pv tb 2 rfl ?_
     refine Tp rfl rfl (pur_ixT (T := tInt) sl31 rfl rfl hz_13 hv_14 rfl) rfl ?_
     refine Tp rfl rfl (pur_ldT (T := tInt) (i := n_12) (off := 0) rfl one3 rfl rfl hv_14 rfl) rfl ?_
     refine TO_cons rfl (TOp_lit (nn := 1) (k := 1) sl31 zero3 rfl rfl rfl rfl (by decide) ?_)
     refine TO_st (σ' := [.row (flat tInt.enc out7), .row (flat tInt.enc ([v_10] : (List Int)))]) rfl ?_
     obtain ⟨us_15, h_16, H⟩ := bind_inv H
     refine TO_cons rfl (TOp_appZ (T := tInt) (f := tInt.enc) (xs := out7) (ys := ([v_10] : (List Int))) tInt.len sl31 zero3 rfl bytes3 (by decide) rfl rfl rfl rfl (src_mT (f := tInt.enc) tInt.len rfl rfl (flat_cell tInt _)) (flat_cell tInt _) h_16 (lb rfl) ?_)
     refine toe [(0, (intA n0)), (1, (sl tConflictEdge l1)), (2, (sl tConflictEdge p2)), (8, (sl tInt left8)), (9, (sl tInt r_8)), (28, (sl tInt r_8)), (29, (.q (flat tInt.enc r_8) (n_12 * tInt.k))), (30, (intA v_10)), (31, (.m [1] 0 ([v_10] : (List Int)).length tInt.k)), (32, (.m [0] 0 us_15.length tInt.k))] rfl ?_
     refine TO_st (σ' := [.row (flat tInt.enc us_15), .row (flat tInt.enc ([v_10] : (List Int))), .dead]) rfl ?_
     refine pv tb 1 rfl ?_
     refine TO_nil ?_
     refine T_region ?_
     refine pv tb 3 rfl ?_
     refine Tp rfl rfl (pur_ixT (T := tInt) sl31 rfl rfl hz_13 hv_14 rfl) rfl ?_
     refine Tp rfl rfl (pur_ldT (T := tInt) (i := n_12) (off := 0) rfl one3 rfl rfl hv_14 rfl) rfl ?_
     obtain ⟨r_17, h_18, H⟩ := bind_inv H
     refine TO_cons rfl (TOp_callV (call_static ent25 rfl) (m_spec_l28Rest_ok _ _ _ _ h_18) rfl rfl rfl ?_)
     refine pv tb 1 rfl ?_
     refine TO_nil ?_
     obtain rfl := some_inj H
     exact again k6 (us_15, r_17) (Nat.lt_succ_self _) (w0 1) K6_
    ·replace H := cond_f c_7 H
     refine T_exit ?_
     refine then_exit ?_
     refine then_exit ?_
     refine block_exit ?_
     obtain rfl := some_inj H
     obtain rfl := some_inj K6_
     exact joined (out7, left8) (w0 1) rfl
   ·rintro ⟨out7, left8⟩ rfl
    replace H := onS_l N6_
    refine sr ?_
    obtain ⟨r_19, h_20, H⟩ := bind_inv H
    refine pv tb 1 rfl ?_
    refine TO_cons rfl (TOp_callOG (call_static ent26 rfl) (frz_cons (frzTE (T := tInt) rfl) frz_nil).1 (frz_cons (frzTE (T := tInt) rfl) frz_nil).2 (m_spec_l7Sorted_own u _ _ h_20) rfl (ownC_of (ownSB_cons (flat_ownR tInt _) ownSB_nil)) rfl rfl rfl ?_)
    refine toe [(7, (.m [0] 0 out7.length tInt.k)), (39, (.m [0] 0 out7.length tInt.k)), (40, (.m [1] 0 r_19.length tInt.k))] rfl ?_
    refine TO_st (σ' := [.row (flat tInt.enc out7), .row (flat tInt.own r_19)]) rfl ?_
    refine pv tb 1 rfl ?_
    refine TO_nil ?_
    refine T_ret ?_
    obtain rfl := some_inj H
    exact end_pick (.tmp .nil) rfl [1] (by decide) rfl rfl rfl rfl rfl rfl
theorem m_spec_GreedyRepair_ok (u : Nat) (n0 : Int) (l1 : (List ConflictEdge)) (p2 : (List ConflictEdge)) (r : (List Int)) (H : m_spec_GreedyRepair u n0 l1 p2 = some r) : FnV prg 10 [(intA n0), (sl tConflictEdge l1), (sl tConflictEdge p2)] (sl tInt r) := (m_spec_GreedyRepair_own u n0 l1 p2 r H).frz (frzT (T := tInt) rfl)
end Go.Proofs.YtmecnecfkgneoaaGreat

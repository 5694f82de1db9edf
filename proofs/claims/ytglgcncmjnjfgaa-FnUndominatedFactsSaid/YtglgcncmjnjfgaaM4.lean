/- Walks. -/
import Derived.Test.YtglgcncmjnjfgaaM1
import Derived.Test.YtglgcncmjnjfgaaM2
import Derived.Test.YtglgcncmjnjfgaaM3
set_option linter.unusedVariables false
set_option linter.unusedSimpArgs false
set_option maxRecDepth 4000
namespace Go.Proofs.Ytglgcncmjnjfgaa
open Go Go.Proofs Go.Sep
set_option maxHeartbeats 1000000 in
/-- spec.IsParetoOptimal -/
theorem m_spec_IsParetoOptimal_ok (n0 : Int) (l1 : (List ConflictEdge)) (p2 : (List ConflictEdge)) (s3 : (List Int)) (r : Bool) (H : m_spec_IsParetoOptimal n0 l1 p2 s3 = some r) : FnV prg 25 [(intA n0), (sl tConflictEdge l1), (sl tConflictEdge p2), (sl tInt s3)] (boolA r) := by
  unfold m_spec_IsParetoOptimal at H
  refine fnV_of_T Try.func25 rfl rfl (Nat.le_of_ble_eq_true rfl) ?_
  refine te [(0, (intA n0)), (1, (sl tConflictEdge l1)), (2, (sl tConflictEdge p2)), (3, (sl tInt s3))] rfl ?_
  refine sr ?_
  refine Tp rfl rfl (pur_assign rfl) rfl ?_
  refine TO_nil ?_
  refine te [(0, (intA n0)), (1, (sl tConflictEdge l1)), (2, (sl tConflictEdge p2)), (3, (sl tInt s3))] rfl ?_
  refine T_seq ?_
  obtain ⟨t23_1, J_1, H_2⟩ := bind_inv H
  refine T_cutX (fun x => t23_1 = x) (fun (t23_1 : Bool) => [(0, (intA n0)), (1, (sl tConflictEdge l1)), (2, (sl tConflictEdge p2)), (3, (sl tInt s3)), (23, (boolA t23_1))]) (fun (t23_1 : Bool) => []) ?_ ?_
  ·replace H := J_1
   refine T_region ?_
   refine Tp rfl rfl (pur_move rfl) rfl ?_
   refine Tp rfl rfl (pur_move rfl) rfl ?_
   refine Tp rfl rfl (pur_move rfl) rfl ?_
   obtain ⟨r_3, h_4, H⟩ := bind_inv H
   refine TO_cons rfl (TOp_callV (call_static ent16 rfl) (m_spec_IsValidPreference_ok _ _ _ _ h_4) rfl rfl rfl ?_)
   refine Tp rfl rfl (pur_not rfl rfl) rfl ?_
   refine Tp rfl rfl (pur_move rfl) rfl ?_
   refine TO_split (t := (!r_3)) 17 rfl (fun g_5 => ?_) (fun g_5 => ?_)
   ·replace H := cond_t g_5 H
    refine TO_off rfl rfl (by decide) rfl rfl rfl ?_
    refine TO_off rfl rfl (by decide) rfl rfl rfl ?_
    refine TO_off rfl rfl (by decide) rfl rfl rfl ?_
    refine TO_off rfl rfl (by decide) rfl rfl rfl ?_
    refine TO_off rfl rfl (by decide) rfl rfl rfl ?_
    refine Tp rfl rfl (pur_pick (t := true) rfl rfl rfl) rfl ?_
    refine TO_nil ?_
    exact joined true (wp 0 (lb rfl) rfl rfl rfl rfl rfl) (some_inj H).symm
   ·replace H := cond_f g_5 H
    refine TO_on rfl rfl (by decide) rfl rfl (TOp_pure (pur_move rfl) rfl ?_)
    refine TO_on rfl rfl (by decide) rfl rfl (TOp_pure (pur_move rfl) rfl ?_)
    refine TO_on rfl rfl (by decide) rfl rfl (TOp_pure (pur_move rfl) rfl ?_)
    obtain ⟨r_6, h_7, H⟩ := bind_inv H
    refine TO_on rfl rfl (by decide) rfl rfl (TOp_callV (call_static ent52 rfl) (m_spec_IsMaximalIndependent_ok _ _ _ _ h_7) rfl rfl rfl ?_)
    refine TO_on rfl rfl (by decide) rfl rfl (TOp_pure (pur_not rfl rfl) rfl ?_)
    refine Tp rfl rfl (pur_pick (t := false) rfl rfl rfl) rfl ?_
    refine TO_nil ?_
    exact joined (!r_6) (wp 0 (lb rfl) rfl rfl rfl rfl rfl) (some_inj H).symm
  ·rintro _ rfl
   replace H := H_2
   refine te [(0, (intA n0)), (1, (sl tConflictEdge l1)), (2, (sl tConflictEdge p2)), (3, (sl tInt s3)), (23, (boolA t23_1))] rfl ?_
   refine T_cond (t := t23_1) rfl (fun c_8 => ?_) (fun c_8 => ?_)
   ·replace H := cond_t c_8 H
    refine sr ?_
    refine Tp rfl rfl (pur_assign rfl) rfl ?_
    refine TO_nil ?_
    refine te [(8, (boolA false))] rfl ?_
    refine T_ret ?_
    refine then_ret ?_
    obtain rfl := some_inj H
    refine end_ret (.tmp .nil) rfl rfl ⟨?_, rfl⟩
    rfl
   ·replace H := cond_f c_8 H
    refine T_skip ?_
    refine te [(0, (intA n0)), (1, (sl tConflictEdge l1)), (2, (sl tConflictEdge p2)), (3, (sl tInt s3))] rfl ?_
    refine T_seq ?_
    refine sr ?_
    refine Tp rfl rfl (pur_assign rfl) rfl ?_
    refine TO_nil ?_
    refine te [(0, (intA n0)), (1, (sl tConflictEdge l1)), (2, (sl tConflictEdge p2)), (3, (sl tInt s3)), (9, (intA 0))] rfl ?_
    obtain ⟨_, h_11, H⟩ := bind_inv H
    replace h_11 := gN_inv h_11
    obtain ⟨O10_, L10_, N10_⟩ := bind_inv H
    clear H
    obtain ⟨B10_, hb10, L10_⟩ := gen_forN L10_
    refine T_block ?_
    refine T_loopX (fun k => fun (x_9 : Int) => k = (n0 - x_9).toNat ∧ 0 ≤ x_9 ∧ forN B10_ (n0 - x_9).toNat x_9 () = some O10_) (fun (x_9 : Int) => [(0, (intA n0)), (1, (sl tConflictEdge l1)), (2, (sl tConflictEdge p2)), (3, (sl tInt s3)), (9, (intA (x_9 : Int)))]) (fun (x_9 : Int) => []) _ (0 : Int) (wp 0 (lb rfl) rfl rfl rfl rfl rfl) ⟨rfl, Int.le_refl _, L10_⟩ ?_
    rintro _ x_9 ⟨rfl, hi10, L10_⟩
    refine te [(0, (intA n0)), (1, (sl tConflictEdge l1)), (2, (sl tConflictEdge p2)), (3, (sl tInt s3)), (9, (intA (x_9 : Int)))] rfl ?_
    refine T_st (σ' := []) rfl ?_
    refine T_seq ?_
    refine sr ?_
    refine Tp rfl rfl (pur_move rfl) rfl ?_
    refine Tp rfl rfl (pur_move rfl) rfl ?_
    refine Tp rfl rfl (pur_lss rfl rfl rfl) rfl ?_
    refine TO_nil ?_
    refine te [(0, (intA n0)), (1, (sl tConflictEdge l1)), (2, (sl tConflictEdge p2)), (3, (sl tInt s3)), (9, (intA (x_9 : Int))), (26, (boolA (decide ((x_9 : Int) < n0))))] rfl ?_
    refine T_cond (t := decide ((x_9 : Int) < n0)) rfl (fun d10 => ?_) (fun d10 => ?_)
    ·replace d10 := of_decide_eq_true d10
     obtain ⟨C10_, H, K10_⟩ := forN_step L10_ d10
     rw [hb10] at H
     refine T_skip ?_
     refine te [(0, (intA n0)), (1, (sl tConflictEdge l1)), (2, (sl tConflictEdge p2)), (3, (sl tInt s3)), (9, (intA (x_9 : Int)))] rfl ?_
     refine T_seq ?_
     refine T_block ?_
     refine T_seq ?_
     refine sr ?_
     refine Tp rfl rfl (pur_move rfl) rfl ?_
     refine Tp rfl rfl (pur_move rfl) rfl ?_
     obtain ⟨r_12, h_13, H⟩ := bind_inv H
     refine TO_cons rfl (TOp_callV (call_static ent53 rfl) (m_spec_l7Has_ok _ _ _ h_13) rfl rfl rfl ?_)
     refine TO_nil ?_
     refine te [(0, (intA n0)), (1, (sl tConflictEdge l1)), (2, (sl tConflictEdge p2)), (3, (sl tInt s3)), (9, (intA (x_9 : Int))), (31, (boolA r_12))] rfl ?_
     refine T_cond (t := r_12) rfl (fun c_14 => ?_) (fun c_14 => ?_)
     ·replace H := cond_t c_14 H
      refine T_exit ?_
      refine then_exit ?_
      refine block_exit ?_
      refine te [(0, (intA n0)), (1, (sl tConflictEdge l1)), (2, (sl tConflictEdge p2)), (3, (sl tInt s3)), (9, (intA (x_9 : Int)))] rfl ?_
      refine T_region ?_
      refine Tp rfl rfl (pur_move rfl) rfl ?_
      refine Tp rfl rfl (pur_add rfl rfl rfl (fits64 (by omega) (by omega))) rfl ?_
      refine Tp rfl rfl (pur_assign rfl) rfl ?_
      refine TO_nil ?_
      obtain rfl := some_inj H
      exact again (n0 - (x_9 + 1)).toNat (x_9 + 1) (by omega) (wp 0 (lb rfl) rfl rfl rfl rfl rfl) ⟨rfl, by omega, K10_⟩
     ·replace H := cond_f c_14 H
      refine T_skip ?_
      refine te [(0, (intA n0)), (1, (sl tConflictEdge l1)), (2, (sl tConflictEdge p2)), (3, (sl tInt s3)), (9, (intA (x_9 : Int)))] rfl ?_
      refine sr ?_
      refine Tp rfl rfl (pur_assign rfl) rfl ?_
      refine TO_nil ?_
      refine te [(0, (intA n0)), (1, (sl tConflictEdge l1)), (2, (sl tConflictEdge p2)), (3, (sl tInt s3)), (9, (intA (x_9 : Int))), (10, (boolA true))] rfl ?_
      refine T_seq ?_
      refine sr ?_
      refine Tp rfl rfl (pur_assign rfl) rfl ?_
      refine TO_nil ?_
      refine te [(0, (intA n0)), (1, (sl tConflictEdge l1)), (2, (sl tConflictEdge p2)), (3, (sl tInt s3)), (9, (intA (x_9 : Int))), (10, (boolA true)), (11, (intA 0))] rfl ?_
      obtain ⟨O16_, L16_, N16_⟩ := bind_inv H
      clear H
      obtain ⟨B16_, hb16, L16_⟩ := gen_forS L16_
      refine T_block ?_
      refine T_loopX (fun k => fun (x_ : Nat × Bool) => k = s3.length - x_.1 ∧ forS B16_ (s3.drop x_.1) (x_.1 : Int) x_.2 = some O16_) (fun (x_ : Nat × Bool) => [(0, (intA n0)), (1, (sl tConflictEdge l1)), (2, (sl tConflictEdge p2)), (3, (sl tInt s3)), (9, (intA (x_9 : Int))), (10, (boolA x_.2)), (11, (intA (x_.1 : Int)))]) (fun (x_ : Nat × Bool) => []) _ (0, true) (wp 0 (lb rfl) rfl rfl rfl rfl rfl) ⟨rfl, L16_⟩ ?_
      rintro _ ⟨i_15, all10⟩ ⟨rfl, L16_⟩
      refine te [(0, (intA n0)), (1, (sl tConflictEdge l1)), (2, (sl tConflictEdge p2)), (3, (sl tInt s3)), (9, (intA (x_9 : Int))), (10, (boolA all10)), (11, (intA (i_15 : Int)))] rfl ?_
      refine T_st (σ' := []) rfl ?_
      refine T_fact (len_sl (T := tInt) (.tmp 3) rfl) (fun hl16 => ?_)
      refine T_seq ?_
      refine sr ?_
      refine Tp rfl rfl (pur_move rfl) rfl ?_
      refine Tp rfl rfl (pur_move rfl) rfl ?_
      refine Tp rfl rfl (pur_lenT (T := tInt) sl31 rfl rfl) rfl ?_
      refine Tp rfl rfl (pur_lss rfl rfl rfl) rfl ?_
      refine TO_nil ?_
      refine te [(0, (intA n0)), (1, (sl tConflictEdge l1)), (2, (sl tConflictEdge p2)), (3, (sl tInt s3)), (9, (intA (x_9 : Int))), (10, (boolA all10)), (11, (intA (i_15 : Int))), (35, (boolA (decide ((i_15 : Int) < (s3.length : Int)))))] rfl ?_
      refine T_cond (t := decide ((i_15 : Int) < (s3.length : Int))) rfl (fun d16 => ?_) (fun d16 => ?_)
      ·replace d16 := of_decide_eq_true d16
       obtain ⟨x_i_15, hx_i_15⟩ : ∃ v, (s3)[i_15]? = some v := ⟨_, List.getElem?_eq_getElem (by omega)⟩
       obtain ⟨C16_, H, K16_⟩ := forS_step L16_ hx_i_15
       rw [hb16] at H
       refine T_skip ?_
       refine te [(0, (intA n0)), (1, (sl tConflictEdge l1)), (2, (sl tConflictEdge p2)), (3, (sl tInt s3)), (9, (intA (x_9 : Int))), (10, (boolA all10)), (11, (intA (i_15 : Int)))] rfl ?_
       refine T_seq ?_
       refine T_block ?_
       refine T_region ?_
       refine Tp rfl rfl (pur_move rfl) rfl ?_
       refine Tp rfl rfl (pur_move rfl) rfl ?_
       refine TO_split (t := all10) 39 rfl (fun g_17 => ?_) (fun g_17 => ?_)
       ·replace H := cond_t g_17 H
        refine TO_on rfl rfl (by decide) rfl rfl (TOp_pure (pur_move rfl) rfl ?_)
        refine TO_on rfl rfl (by decide) rfl rfl (TOp_pure (pur_move rfl) rfl ?_)
        refine TO_on rfl rfl (by decide) rfl rfl (TOp_pure (pur_move rfl) rfl ?_)
        refine TO_on rfl rfl (by decide) rfl rfl (TOp_pure (pur_move rfl) rfl ?_)
        refine TO_on rfl rfl (by decide) rfl rfl (TOp_pure (pur_ixT (T := tInt) sl31 rfl rfl rfl hx_i_15 rfl) rfl ?_)
        refine TO_on rfl rfl (by decide) rfl rfl (TOp_pure (pur_ldT (T := tInt) (i := i_15) (off := 0) rfl one3 rfl rfl hx_i_15 rfl) rfl ?_)
        obtain ⟨r_18, h_19, H⟩ := bind_inv H
        refine TO_on rfl rfl (by decide) rfl rfl (TOp_callV (call_static ent46 rfl) (m_spec_l28Edge_ok _ _ _ _ h_19) rfl rfl rfl ?_)
        refine TO_on rfl rfl (by decide) rfl rfl (TOp_pure (pur_not rfl rfl) rfl ?_)
        refine toe [(0, (intA n0)), (1, (sl tConflictEdge l1)), (2, (sl tConflictEdge p2)), (3, (sl tInt s3)), (9, (intA (x_9 : Int))), (10, (boolA all10)), (11, (intA (i_15 : Int))), (39, (boolA true)), (47, (boolA (!r_18)))] rfl ?_
        refine TO_on rfl rfl (by decide) rfl rfl (TOp_pure (pur_move rfl) rfl ?_)
        refine TO_split (t := (!r_18)) 48 rfl (fun g_20 => ?_) (fun g_20 => ?_)
        ·replace H := cond_t g_20 H
         refine TO_off rfl rfl (by decide) rfl rfl rfl ?_
         refine TO_off rfl rfl (by decide) rfl rfl rfl ?_
         refine TO_off rfl rfl (by decide) rfl rfl rfl ?_
         refine TO_off rfl rfl (by decide) rfl rfl rfl ?_
         refine TO_off rfl rfl (by decide) rfl rfl rfl ?_
         refine TO_off rfl rfl (by decide) rfl rfl rfl ?_
         refine TO_off rfl rfl (by decide) rfl rfl rfl ?_
         refine TO_on rfl rfl (by decide) rfl rfl (TOp_pure (pur_pick (t := true) rfl rfl rfl) rfl ?_)
         refine Tp rfl rfl (pur_pick (t := true) rfl rfl rfl) rfl ?_
         refine Tp rfl rfl (pur_assign rfl) rfl ?_
         refine TO_nil ?_
         refine te [(0, (intA n0)), (1, (sl tConflictEdge l1)), (2, (sl tConflictEdge p2)), (3, (sl tInt s3)), (9, (intA (x_9 : Int))), (10, (boolA true)), (11, (intA (i_15 : Int)))] rfl ?_
         refine T_region ?_
         refine Tp rfl rfl (pur_move rfl) rfl ?_
         refine Tp rfl rfl (pur_add rfl rfl rfl (fits64 (by omega) (by omega))) rfl ?_
         refine Tp rfl rfl (pur_assign rfl) rfl ?_
         refine TO_nil ?_
         obtain rfl := some_inj H
         exact again (s3.length - (i_15 + 1)) (i_15 + 1, true) (by omega) (wp 0 (lb rfl) rfl rfl rfl rfl rfl) ⟨rfl, K16_⟩
        ·replace H := cond_f g_20 H
         refine TO_on rfl rfl (by decide) rfl rfl (TOp_pure (pur_move rfl) rfl ?_)
         refine TO_on rfl rfl (by decide) rfl rfl (TOp_pure (pur_move rfl) rfl ?_)
         refine TO_on rfl rfl (by decide) rfl rfl (TOp_pure (pur_move rfl) rfl ?_)
         refine TO_on rfl rfl (by decide) rfl rfl (TOp_pure (pur_move rfl) rfl ?_)
         refine TO_on rfl rfl (by decide) rfl rfl (TOp_pure (pur_ixT (T := tInt) sl31 rfl rfl rfl hx_i_15 rfl) rfl ?_)
         refine TO_on rfl rfl (by decide) rfl rfl (TOp_pure (pur_ldT (T := tInt) (i := i_15) (off := 0) rfl one3 rfl rfl hx_i_15 rfl) rfl ?_)
         obtain ⟨r_21, h_22, H⟩ := bind_inv H
         refine TO_on rfl rfl (by decide) rfl rfl (TOp_callV (call_static ent12 rfl) (m_spec_IsPreferred_ok _ _ _ _ h_22) rfl rfl rfl ?_)
         refine TO_on rfl rfl (by decide) rfl rfl (TOp_pure (pur_pick (t := false) rfl rfl rfl) rfl ?_)
         refine Tp rfl rfl (pur_pick (t := true) rfl rfl rfl) rfl ?_
         refine Tp rfl rfl (pur_assign rfl) rfl ?_
         refine TO_nil ?_
         refine te [(0, (intA n0)), (1, (sl tConflictEdge l1)), (2, (sl tConflictEdge p2)), (3, (sl tInt s3)), (9, (intA (x_9 : Int))), (10, (boolA r_21)), (11, (intA (i_15 : Int)))] rfl ?_
         refine T_region ?_
         refine Tp rfl rfl (pur_move rfl) rfl ?_
         refine Tp rfl rfl (pur_add rfl rfl rfl (fits64 (by omega) (by omega))) rfl ?_
         refine Tp rfl rfl (pur_assign rfl) rfl ?_
         refine TO_nil ?_
         obtain rfl := some_inj H
         exact again (s3.length - (i_15 + 1)) (i_15 + 1, r_21) (by omega) (wp 0 (lb rfl) rfl rfl rfl rfl rfl) ⟨rfl, K16_⟩
       ·replace H := cond_f g_17 H
        refine TO_off rfl rfl (by decide) rfl rfl rfl ?_
        refine TO_off rfl rfl (by decide) rfl rfl rfl ?_
        refine TO_off rfl rfl (by decide) rfl rfl rfl ?_
        refine TO_off rfl rfl (by decide) rfl rfl rfl ?_
        refine TO_off rfl rfl (by decide) rfl rfl rfl ?_
        refine TO_off rfl rfl (by decide) rfl rfl rfl ?_
        refine TO_off rfl rfl (by decide) rfl rfl rfl ?_
        refine TO_off rfl rfl (by decide) rfl rfl rfl ?_
        refine toe [(0, (intA n0)), (1, (sl tConflictEdge l1)), (2, (sl tConflictEdge p2)), (3, (sl tInt s3)), (9, (intA (x_9 : Int))), (10, (boolA all10)), (11, (intA (i_15 : Int))), (39, (boolA false)), (47, (.v undef))] rfl ?_
        refine TO_off rfl rfl (by decide) rfl rfl rfl ?_
        refine TO_off rfl rfl (by decide) rfl rfl rfl ?_
        refine TO_off rfl rfl (by decide) rfl rfl rfl ?_
        refine TO_off rfl rfl (by decide) rfl rfl rfl ?_
        refine TO_off rfl rfl (by decide) rfl rfl rfl ?_
        refine TO_off rfl rfl (by decide) rfl rfl rfl ?_
        refine TO_off rfl rfl (by decide) rfl rfl rfl ?_
        refine TO_off rfl rfl (by decide) rfl rfl rfl ?_
        refine toe [(0, (intA n0)), (1, (sl tConflictEdge l1)), (2, (sl tConflictEdge p2)), (3, (sl tInt s3)), (9, (intA (x_9 : Int))), (10, (boolA all10)), (11, (intA (i_15 : Int))), (39, (boolA false)), (48, (.v undef)), (55, (.v undef))] rfl ?_
        refine TO_off rfl rfl (by decide) rfl rfl rfl ?_
        refine Tp rfl rfl (pur_pick (t := false) rfl rfl rfl) rfl ?_
        refine Tp rfl rfl (pur_assign rfl) rfl ?_
        refine TO_nil ?_
        refine te [(0, (intA n0)), (1, (sl tConflictEdge l1)), (2, (sl tConflictEdge p2)), (3, (sl tInt s3)), (9, (intA (x_9 : Int))), (10, (boolA false)), (11, (intA (i_15 : Int)))] rfl ?_
        refine T_region ?_
        refine Tp rfl rfl (pur_move rfl) rfl ?_
        refine Tp rfl rfl (pur_add rfl rfl rfl (fits64 (by omega) (by omega))) rfl ?_
        refine Tp rfl rfl (pur_assign rfl) rfl ?_
        refine TO_nil ?_
        obtain rfl := some_inj H
        exact again (s3.length - (i_15 + 1)) (i_15 + 1, false) (by omega) (wp 0 (lb rfl) rfl rfl rfl rfl rfl) ⟨rfl, K16_⟩
      ·replace d16 := of_decide_eq_false d16
       obtain rfl := forS_end L16_ (by omega)
       refine T_exit ?_
       refine then_exit ?_
       refine then_exit ?_
       refine block_exit ?_
       replace H := N16_
       refine te [(0, (intA n0)), (1, (sl tConflictEdge l1)), (2, (sl tConflictEdge p2)), (3, (sl tInt s3)), (9, (intA (x_9 : Int))), (10, (boolA all10))] rfl ?_
       refine sr ?_
       refine Tp rfl rfl (pur_move rfl) rfl ?_
       refine TO_nil ?_
       refine te [(0, (intA n0)), (1, (sl tConflictEdge l1)), (2, (sl tConflictEdge p2)), (3, (sl tInt s3)), (9, (intA (x_9 : Int))), (58, (boolA all10))] rfl ?_
       refine T_cond (t := all10) rfl (fun c_23 => ?_) (fun c_23 => ?_)
       ·replace H := cond_t c_23 H
        refine sr ?_
        refine Tp rfl rfl (pur_assign rfl) rfl ?_
        refine TO_nil ?_
        refine te [(8, (boolA false))] rfl ?_
        refine T_ret ?_
        refine block_ret ?_
        refine then_ret ?_
        refine then_ret ?_
        refine block_ret ?_
        refine then_ret ?_
        obtain rfl := some_inj H
        obtain rfl := some_inj K10_
        replace H := onS_r N10_
        obtain rfl := some_inj H
        refine end_ret (.tmp .nil) rfl rfl ⟨?_, rfl⟩
        rfl
       ·replace H := cond_f c_23 H
        refine T_skip ?_
        refine te [(0, (intA n0)), (1, (sl tConflictEdge l1)), (2, (sl tConflictEdge p2)), (3, (sl tInt s3)), (9, (intA (x_9 : Int)))] rfl ?_
        refine T_region ?_
        refine Tp rfl rfl (pur_move rfl) rfl ?_
        refine Tp rfl rfl (pur_add rfl rfl rfl (fits64 (by omega) (by omega))) rfl ?_
        refine Tp rfl rfl (pur_assign rfl) rfl ?_
        refine TO_nil ?_
        obtain rfl := some_inj H
        exact again (n0 - (x_9 + 1)).toNat (x_9 + 1) (by omega) (wp 0 (lb rfl) rfl rfl rfl rfl rfl) ⟨rfl, by omega, K10_⟩
    ·replace d10 := of_decide_eq_false d10
     obtain rfl := forN_end L10_ (by omega)
     refine T_exit ?_
     refine then_exit ?_
     refine then_exit ?_
     refine block_exit ?_
     replace H := onS_l N10_
     refine te [] rfl ?_
     refine sr ?_
     refine Tp rfl rfl (pur_assign rfl) rfl ?_
     refine TO_nil ?_
     refine te [(8, (boolA true))] rfl ?_
     refine T_ret ?_
     obtain rfl := some_inj H
     refine end_ret (.tmp .nil) rfl rfl ⟨?_, rfl⟩
     rfl

set_option maxHeartbeats 1000000 in
/-- impl.ConflictEdge] -/
theorem m_slices_IndexFunc_Simpl_ConflictEdge_impl_ConflictEdge_ok (s0 : (List ConflictEdge)) (f1 : (ConflictEdge → Option Bool)) (f1_g : Nat) (f1_c : List A) (f1_E : EnT prg f1_g) (f1_l : looseL f1_c = true) (f1_m : firmL f1_c = true ∧ fzL f1_c = f1_c) (f1_H : ∀ (x0 : ConflictEdge) r, f1 x0 = some r → FnV prg f1_g ([(.g (tConflictEdge.enc x0))] ++ f1_c) (boolA r)) (r : Int) (H : m_slices_IndexFunc_Simpl_ConflictEdge_impl_ConflictEdge s0 f1 = some r) : FnV prg 97 [(sl tConflictEdge s0), (.f f1_g f1_c)] (intA r) := by
  unfold m_slices_IndexFunc_Simpl_ConflictEdge_impl_ConflictEdge at H
  refine fnV_of_T Try.func97 rfl rfl (Nat.le_of_ble_eq_true rfl) ?_
  refine te [(0, (sl tConflictEdge s0)), (1, (.f f1_g f1_c))] rfl ?_
  refine sr ?_
  refine Tp rfl rfl (pur_assign rfl) rfl ?_
  refine TO_nil ?_
  refine te [(0, (sl tConflictEdge s0)), (1, (.f f1_g f1_c))] rfl ?_
  refine T_seq ?_
  refine sr ?_
  refine Tp rfl rfl (pur_move rfl) rfl ?_
  refine Tp rfl rfl (pur_lenT (T := tConflictEdge) sl25 rfl rfl) rfl ?_
  refine Tp rfl rfl (pur_move rfl) rfl ?_
  refine TO_nil ?_
  refine te [(0, (sl tConflictEdge s0)), (1, (.f f1_g f1_c)), (7, (intA (s0.length : Int))), (8, (intA 0))] rfl ?_
  obtain ⟨O2_, L2_, N2_⟩ := bind_inv H
  clear H
  obtain ⟨B2_, hb2, L2_⟩ := gen_forL L2_
  refine T_block ?_
  refine T_loopX (fun k => fun (t_1 : Nat) => k = s0.length - t_1 ∧ forL B2_ (s0.drop t_1) (t_1 : Int) () = some O2_) (fun (t_1 : Nat) => [(0, (sl tConflictEdge s0)), (1, (.f f1_g f1_c)), (7, (intA (s0.length : Int))), (8, (intA (t_1 : Int)))]) (fun (t_1 : Nat) => []) _ (0 : Nat) (wp 0 (lb rfl) rfl rfl (by simp only [namesE, A.names, namesL_enc, Bool.false_or, Bool.or_false, looseL_names f1_l]) rfl rfl) ⟨rfl, L2_⟩ ?_
  rintro _ t_1 ⟨rfl, L2_⟩
  refine te [(0, (sl tConflictEdge s0)), (1, (.f f1_g f1_c)), (7, (intA (s0.length : Int))), (8, (intA (t_1 : Int)))] rfl ?_
  refine T_st (σ' := []) rfl ?_
  refine T_fact (len_sl (T := tConflictEdge) (.tmp 0) rfl) (fun hl2 => ?_)
  refine sr ?_
  refine Tp rfl rfl (pur_lss rfl rfl rfl) rfl ?_
  refine TO_nil ?_
  refine te [(0, (sl tConflictEdge s0)), (1, (.f f1_g f1_c)), (7, (intA (s0.length : Int))), (8, (intA (t_1 : Int))), (9, (boolA (decide ((t_1 : Int) < (s0.length : Int)))))] rfl ?_
  refine T_seq ?_
  refine T_cond (t := decide ((t_1 : Int) < (s0.length : Int))) rfl (fun d2 => ?_) (fun d2 => ?_)
  ·replace d2 := of_decide_eq_true d2
   obtain ⟨x_t_1, hx_t_1⟩ : ∃ v, (s0)[t_1]? = some v := ⟨_, List.getElem?_eq_getElem (by omega)⟩
   obtain ⟨C2_, H, K2_⟩ := forL_step L2_ hx_t_1
   rw [hb2] at H
   refine T_skip ?_
   refine te [(0, (sl tConflictEdge s0)), (1, (.f f1_g f1_c)), (7, (intA (s0.length : Int))), (8, (intA (t_1 : Int)))] rfl ?_
   refine T_seq ?_
   refine T_block ?_
   refine sr ?_
   refine Tp rfl rfl (pur_move rfl) rfl ?_
   refine Tp rfl rfl (pur_assign rfl) rfl ?_
   refine TO_nil ?_
   refine te [(0, (sl tConflictEdge s0)), (1, (.f f1_g f1_c)), (5, (intA (t_1 : Int))), (7, (intA (s0.length : Int))), (8, (intA (t_1 : Int)))] rfl ?_
   refine sr ?_
   refine Tp rfl rfl (pur_move rfl) rfl ?_
   refine Tp rfl rfl (pur_move rfl) rfl ?_
   refine Tp rfl rfl (pur_move rfl) rfl ?_
   refine Tp rfl rfl (pur_ixT (T := tConflictEdge) sl25 rfl rfl rfl hx_t_1 rfl) rfl ?_
   refine Tp rfl rfl (pur_ldTK (T := tConflictEdge) (i := t_1) (off := 0) rfl agg52 rfl rfl hx_t_1 (by decide) rfl) rfl ?_
   obtain ⟨r_3, h_4, H⟩ := bind_inv H
   refine TO_cons rfl (TOp_callV (call_closure f1_E rfl rfl) (f1_H _  _ h_4) (looseL_app rfl f1_l) rfl rfl ?_)
   refine TO_nil ?_
   refine te [(0, (sl tConflictEdge s0)), (1, (.f f1_g f1_c)), (5, (intA (t_1 : Int))), (7, (intA (s0.length : Int))), (8, (intA (t_1 : Int))), (16, (boolA r_3))] rfl ?_
   refine T_cond (t := r_3) rfl (fun c_5 => ?_) (fun c_5 => ?_)
   ·replace H := cond_t c_5 H
    refine sr ?_
    refine Tp rfl rfl (pur_move rfl) rfl ?_
    refine Tp rfl rfl (pur_assign rfl) rfl ?_
    refine TO_nil ?_
    refine te [(4, (intA (t_1 : Int)))] rfl ?_
    refine T_ret ?_
    refine block_ret ?_
    refine then_ret ?_
    refine then_ret ?_
    refine block_ret ?_
    refine then_ret ?_
    obtain rfl := some_inj H
    obtain rfl := some_inj K2_
    replace H := onS_r N2_
    obtain rfl := some_inj H
    refine end_ret (.tmp .nil) rfl rfl ⟨?_, rfl⟩
    rfl
   ·replace H := cond_f c_5 H
    refine T_skip ?_
    refine te [(0, (sl tConflictEdge s0)), (1, (.f f1_g f1_c)), (7, (intA (s0.length : Int))), (8, (intA (t_1 : Int)))] rfl ?_
    refine T_region ?_
    refine Tp rfl rfl (pur_add rfl rfl rfl (fits64 (by omega) (by omega))) rfl ?_
    refine Tp rfl rfl (pur_move rfl) rfl ?_
    refine TO_nil ?_
    obtain rfl := some_inj H
    exact again (s0.length - (t_1 + 1)) (t_1 + 1) (by omega) (wp 0 (lb rfl) rfl rfl (by simp only [namesE, A.names, namesL_enc, Bool.false_or, Bool.or_false, looseL_names f1_l]) rfl rfl) ⟨rfl, K2_⟩
  ·replace d2 := of_decide_eq_false d2
   obtain rfl := forL_end L2_ (by omega)
   refine T_exit ?_
   refine then_exit ?_
   refine then_exit ?_
   refine block_exit ?_
   replace H := onS_l N2_
   refine te [] rfl ?_
   refine sr ?_
   refine Tp rfl rfl (pur_assign rfl) rfl ?_
   refine TO_nil ?_
   refine te [(4, (intA (-1)))] rfl ?_
   refine T_ret ?_
   obtain rfl := some_inj H
   refine end_ret (.tmp .nil) rfl rfl ⟨?_, rfl⟩
   rfl

set_option maxHeartbeats 1000000 in
/-- impl.ConflictEdge] -/
theorem m_slices_ContainsFunc_Simpl_ConflictEdge_impl_ConflictEdge_ok (s0 : (List ConflictEdge)) (f1 : (ConflictEdge → Option Bool)) (f1_g : Nat) (f1_c : List A) (f1_E : EnT prg f1_g) (f1_l : looseL f1_c = true) (f1_m : firmL f1_c = true ∧ fzL f1_c = f1_c) (f1_H : ∀ (x0 : ConflictEdge) r, f1 x0 = some r → FnV prg f1_g ([(.g (tConflictEdge.enc x0))] ++ f1_c) (boolA r)) (r : Bool) (H : m_slices_ContainsFunc_Simpl_ConflictEdge_impl_ConflictEdge s0 f1 = some r) : FnV prg 88 [(sl tConflictEdge s0), (.f f1_g f1_c)] (boolA r) := by
  unfold m_slices_ContainsFunc_Simpl_ConflictEdge_impl_ConflictEdge at H
  refine fnV_of_T Try.func88 rfl rfl (Nat.le_of_ble_eq_true rfl) ?_
  refine te [(0, (sl tConflictEdge s0)), (1, (.f f1_g f1_c))] rfl ?_
  refine sr ?_
  refine Tp rfl rfl (pur_assign rfl) rfl ?_
  refine TO_nil ?_
  refine te [(0, (sl tConflictEdge s0)), (1, (.f f1_g f1_c))] rfl ?_
  refine sr ?_
  refine Tp rfl rfl (pur_move rfl) rfl ?_
  refine Tp rfl rfl (pur_move rfl) rfl ?_
  obtain ⟨r_1, h_2, H⟩ := bind_inv H
  refine TO_cons rfl (TOp_callV (call_static ent97 rfl) (m_slices_IndexFunc_Simpl_ConflictEdge_impl_ConflictEdge_ok _ f1 f1_g f1_c f1_E f1_l f1_m f1_H _ h_2) (looseC rfl (looseC f1_l rfl)) rfl rfl ?_)
  refine Tp rfl rfl (pur_geq rfl rfl rfl) rfl ?_
  refine Tp rfl rfl (pur_assign rfl) rfl ?_
  refine TO_nil ?_
  refine te [(4, (boolA (decide (0 ≤ r_1))))] rfl ?_
  refine T_ret ?_
  obtain rfl := some_inj H
  refine end_ret (.tmp .nil) rfl rfl ⟨?_, rfl⟩
  rfl

set_option maxHeartbeats 1000000 in
/-- impl.IsIndependent$1 -/
theorem m_impl_IsIndependent_1_ok (e0 : ConflictEdge) (fv1 : (List Int)) (r : Bool) (H : m_impl_IsIndependent_1 e0 fv1 = some r) : FnV prg 89 [(.g (tConflictEdge.enc e0)), (.q [(sl tInt fv1)] 0)] (boolA r) := by
  unfold m_impl_IsIndependent_1 at H
  refine fnV_of_T Try.func89 rfl rfl (Nat.le_of_ble_eq_true rfl) ?_
  refine te [(0, (.g (tConflictEdge.enc e0))), (1, (.q [(sl tInt fv1)] 0))] rfl ?_
  refine sr ?_
  refine TO_cons rfl (TOp_box rfl (boxAll rfl) rfl rfl ?_)
  refine Tp rfl rfl (pur_assign rfl) rfl ?_
  refine TO_nil ?_
  refine te [(1, (.q [(sl tInt fv1)] 0)), (2, (.b 0 0))] rfl ?_
  obtain ⟨t3_1, J_1, H_2⟩ := bind_inv H
  refine T_cutX (fun x => t3_1 = x) (fun (t3_1 : Bool) => [(3, (boolA t3_1))]) (fun (t3_1 : Bool) => []) ?_ ?_
  ·replace H := J_1
   refine T_region ?_
   refine Tp rfl rfl (pur_ld_q one31 rfl rfl rfl) rfl ?_
   refine Tp rfl rfl (pur_fa_b fld52_0 rfl rfl) rfl ?_
   refine Tp rfl rfl (pur_ld_b one3 rfl rfl rfl rfl) rfl ?_
   obtain ⟨r_3, h_4, H⟩ := bind_inv H
   refine TO_cons rfl (TOp_callV (call_static ent54 rfl) (m_slices_Contains_Sint_int_ok _ _ _ h_4) rfl rfl rfl ?_)
   refine Tp rfl rfl (pur_move rfl) rfl ?_
   refine TO_split (t := r_3) 8 rfl (fun g_5 => ?_) (fun g_5 => ?_)
   ·replace H := cond_t g_5 H
    refine TO_on rfl rfl (by decide) rfl rfl (TOp_pure (pur_ld_q one31 rfl rfl rfl) rfl ?_)
    refine TO_on rfl rfl (by decide) rfl rfl (TOp_pure (pur_fa_b fld52_1 rfl rfl) rfl ?_)
    refine TO_on rfl rfl (by decide) rfl rfl (TOp_pure (pur_ld_b one3 rfl rfl rfl rfl) rfl ?_)
    obtain ⟨r_6, h_7, H⟩ := bind_inv H
    refine TO_on rfl rfl (by decide) rfl rfl (TOp_callV (call_static ent54 rfl) (m_slices_Contains_Sint_int_ok _ _ _ h_7) rfl rfl rfl ?_)
    refine Tp rfl rfl (pur_pick (t := true) rfl rfl rfl) rfl ?_
    refine Tp rfl rfl (pur_assign rfl) rfl ?_
    refine TO_nil ?_
    exact joined r_6 (wp 0 (lb rfl) rfl rfl rfl rfl rfl) (some_inj H).symm
   ·replace H := cond_f g_5 H
    refine TO_off rfl rfl (by decide) rfl rfl rfl ?_
    refine TO_off rfl rfl (by decide) rfl rfl rfl ?_
    refine TO_off rfl rfl (by decide) rfl rfl rfl ?_
    refine TO_off rfl rfl (by decide) rfl rfl rfl ?_
    refine Tp rfl rfl (pur_pick (t := false) rfl rfl rfl) rfl ?_
    refine Tp rfl rfl (pur_assign rfl) rfl ?_
    refine TO_nil ?_
    exact joined false (wp 0 (lb rfl) rfl rfl rfl rfl rfl) (some_inj H).symm
  ·rintro _ rfl
   replace H := H_2
   refine te [(3, (boolA t3_1))] rfl ?_
   refine T_ret ?_
   obtain rfl := some_inj H
   refine end_ret (.tmp .nil) rfl rfl ⟨?_, rfl⟩
   rfl

set_option maxHeartbeats 1000000 in
/-- impl.IsIndependent -/
theorem m_impl_IsIndependent_ok (edges0 : (List ConflictEdge)) (set1 : (List Int)) (r : Bool) (H : m_impl_IsIndependent edges0 set1 = some r) : FnV prg 67 [(sl tConflictEdge edges0), (sl tInt set1)] (boolA r) := by
  unfold m_impl_IsIndependent at H
  refine fnV_of_T Try.func67 rfl rfl (Nat.le_of_ble_eq_true rfl) ?_
  refine te [(0, (sl tConflictEdge edges0)), (1, (sl tInt set1))] rfl ?_
  refine sr ?_
  refine TO_cons rfl (TOp_box rfl (boxAll rfl) rfl rfl ?_)
  refine Tp rfl rfl (pur_assign rfl) rfl ?_
  refine TO_nil ?_
  refine te [(0, (sl tConflictEdge edges0)), (3, (.b 0 0))] rfl ?_
  refine sr ?_
  refine Tp rfl rfl (pur_move rfl) rfl ?_
  refine Tp rfl rfl (pur_makeFunc rfl) rfl ?_
  obtain ⟨r_1, h_2, H⟩ := bind_inv H
  refine TO_cons rfl (TOp_callB (call_static ent88 rfl) (frz_cons (frz_loose rfl) (frz_cons (frzOK_f (frz_cons (frzOK_b (xs := [(sl tInt set1)]) (ys := [(sl tInt set1)]) rfl rfl rfl) frz_nil).1 (frz_cons (frzOK_b (xs := [(sl tInt set1)]) (ys := [(sl tInt set1)]) rfl rfl rfl) frz_nil).2) frz_nil)).1 (frz_cons (frz_loose rfl) (frz_cons (frzOK_f (frz_cons (frzOK_b (xs := [(sl tInt set1)]) (ys := [(sl tInt set1)]) rfl rfl rfl) frz_nil).1 (frz_cons (frzOK_b (xs := [(sl tInt set1)]) (ys := [(sl tInt set1)]) rfl rfl rfl) frz_nil).2) frz_nil)).2 (m_slices_ContainsFunc_Simpl_ConflictEdge_impl_ConflictEdge_ok _ (fun x0 => m_impl_IsIndependent_1 x0 set1) 89 [(.q [(sl tInt set1)] 0)] ent89 rfl ⟨rfl, rfl⟩ (fun x0 r h => m_impl_IsIndependent_1_ok x0 set1 r h) _ h_2) rfl ?_)
  refine Tp rfl rfl (pur_not rfl rfl) rfl ?_
  refine Tp rfl rfl (pur_assign rfl) rfl ?_
  refine TO_nil ?_
  refine te [(4, (boolA (!r_1)))] rfl ?_
  refine T_ret ?_
  obtain rfl := some_inj H
  refine end_ret (.tmp .nil) rfl rfl ⟨?_, rfl⟩
  rfl

set_option maxHeartbeats 1000000 in
/-- impl.isIndependentSet -/
theorem m_impl_isIndependentSet_ok (n0 : Int) (edges1 : (List ConflictEdge)) (set2 : (List Int)) (r : Bool) (H : m_impl_isIndependentSet n0 edges1 set2 = some r) : FnV prg 66 [(intA n0), (sl tConflictEdge edges1), (sl tInt set2)] (boolA r) := by
  unfold m_impl_isIndependentSet at H
  refine fnV_of_T Try.func66 rfl rfl (Nat.le_of_ble_eq_true rfl) ?_
  refine te [(0, (intA n0)), (1, (sl tConflictEdge edges1)), (2, (sl tInt set2))] rfl ?_
  refine sr ?_
  refine Tp rfl rfl (pur_assign rfl) rfl ?_
  refine TO_nil ?_
  refine te [(0, (intA n0)), (1, (sl tConflictEdge edges1)), (2, (sl tInt set2))] rfl ?_
  obtain ⟨t6_1, J_1, H_2⟩ := bind_inv H
  refine T_cutX (fun x => t6_1 = x) (fun (t6_1 : Bool) => [(6, (boolA t6_1))]) (fun (t6_1 : Bool) => []) ?_ ?_
  ·replace H := J_1
   refine T_region ?_
   refine Tp rfl rfl (pur_move rfl) rfl ?_
   refine Tp rfl rfl (pur_move rfl) rfl ?_
   obtain ⟨r_3, h_4, H⟩ := bind_inv H
   refine TO_cons rfl (TOp_callV (call_static ent47 rfl) (m_impl_AreValidEdges_ok _ _ _ h_4) rfl rfl rfl ?_)
   refine Tp rfl rfl (pur_move rfl) rfl ?_
   refine TO_split (t := r_3) 10 rfl (fun g_5 => ?_) (fun g_5 => ?_)
   ·replace H := cond_t g_5 H
    refine TO_on rfl rfl (by decide) rfl rfl (TOp_pure (pur_move rfl) rfl ?_)
    refine TO_on rfl rfl (by decide) rfl rfl (TOp_pure (pur_move rfl) rfl ?_)
    obtain ⟨r_6, h_7, H⟩ := bind_inv H
    refine TO_on rfl rfl (by decide) rfl rfl (TOp_callV (call_static ent50 rfl) (m_impl_areIndices_ok _ _ _ h_7) rfl rfl rfl ?_)
    refine Tp rfl rfl (pur_pick (t := true) rfl rfl rfl) rfl ?_
    refine Tp rfl rfl (pur_move rfl) rfl ?_
    refine TO_split (t := r_6) 15 rfl (fun g_8 => ?_) (fun g_8 => ?_)
    ·replace H := cond_t g_8 H
     refine TO_on rfl rfl (by decide) rfl rfl (TOp_pure (pur_move rfl) rfl ?_)
     refine TO_on rfl rfl (by decide) rfl rfl (TOp_pure (pur_move rfl) rfl ?_)
     obtain ⟨r_9, h_10, H⟩ := bind_inv H
     refine TO_on rfl rfl (by decide) rfl rfl (TOp_callV (call_static ent67 rfl) (m_impl_IsIndependent_ok _ _ _ h_10) rfl rfl rfl ?_)
     refine Tp rfl rfl (pur_pick (t := true) rfl rfl rfl) rfl ?_
     refine Tp rfl rfl (pur_assign rfl) rfl ?_
     refine TO_nil ?_
     exact joined r_9 (wp 0 (lb rfl) rfl rfl rfl rfl rfl) (some_inj H).symm
    ·replace H := cond_f g_8 H
     refine TO_off rfl rfl (by decide) rfl rfl rfl ?_
     refine TO_off rfl rfl (by decide) rfl rfl rfl ?_
     refine TO_off rfl rfl (by decide) rfl rfl rfl ?_
     refine Tp rfl rfl (pur_pick (t := false) rfl rfl rfl) rfl ?_
     refine Tp rfl rfl (pur_assign rfl) rfl ?_
     refine TO_nil ?_
     exact joined false (wp 0 (lb rfl) rfl rfl rfl rfl rfl) (some_inj H).symm
   ·replace H := cond_f g_5 H
    refine TO_off rfl rfl (by decide) rfl rfl rfl ?_
    refine TO_off rfl rfl (by decide) rfl rfl rfl ?_
    refine TO_off rfl rfl (by decide) rfl rfl rfl ?_
    refine Tp rfl rfl (pur_pick (t := false) rfl rfl rfl) rfl ?_
    refine Tp rfl rfl (pur_move rfl) rfl ?_
    refine TO_off rfl rfl (by decide) rfl rfl rfl ?_
    refine TO_off rfl rfl (by decide) rfl rfl rfl ?_
    refine TO_off rfl rfl (by decide) rfl rfl rfl ?_
    refine Tp rfl rfl (pur_pick (t := false) rfl rfl rfl) rfl ?_
    refine Tp rfl rfl (pur_assign rfl) rfl ?_
    refine TO_nil ?_
    exact joined false (wp 0 (lb rfl) rfl rfl rfl rfl rfl) (some_inj H).symm
  ·rintro _ rfl
   replace H := H_2
   refine te [(6, (boolA t6_1))] rfl ?_
   refine T_ret ?_
   obtain rfl := some_inj H
   refine end_ret (.tmp .nil) rfl rfl ⟨?_, rfl⟩
   rfl

set_option maxHeartbeats 1000000 in
/-- slices.Clone[[]int,int] -/
theorem m_slices_Clone_Sint_int_own (s0 : (List Int)) (r : (List Int)) (H : m_slices_Clone_Sint_int s0 = some r) : FnO prg 68 [(sl tInt s0)] (.m [0] 0 r.length tInt.k) [.row (flat tInt.own r)] := by
  unfold m_slices_Clone_Sint_int at H
  refine fnO_of_T Try.func68 rfl rfl (Nat.le_of_ble_eq_true rfl) ?_
  refine te [(0, (sl tInt s0))] rfl ?_
  refine sr ?_
  refine Tp rfl rfl (pur_assign rfl) rfl ?_
  refine TO_nil ?_
  refine te [(0, (sl tInt s0))] rfl ?_
  refine T_seq ?_
  refine sr ?_
  refine Tp rfl rfl (pur_move rfl) rfl ?_
  refine TO_cons rfl (TOp_isnil_i Try.underlying31 rfl rfl rfl (fun b_1 hb_2 => ?_))
  replace hb_2 := fun h => flat_nil (T := tInt) (hb_2 h)
  refine TO_nil ?_
  refine te [(0, (sl tInt s0)), (4, (boolA b_1))] rfl ?_
  refine T_cond (t := b_1) rfl (fun c_3 => ?_) (fun c_3 => ?_)
  ·obtain rfl := hb_2 c_3
   refine sr ?_
   refine Tp rfl rfl (pur_assign rfl) rfl ?_
   refine TO_nil ?_
   refine te [(2, .n)] rfl ?_
   refine T_row0 ?_
   refine T_envL (E' := [(2, (.m [0] 0 ([] : (List Int)).length tInt.k))]) ⟨leM, trivial⟩ ?_
   refine T_st (σ' := [.row (flat tInt.own ([] : (List Int)))]) rfl ?_
   refine T_ret ?_
   refine then_ret ?_
   obtain rfl : ([] : (List Int)) = r := by simpa [app] using H
   exact end_pick (.tmp .nil) rfl [0] (by decide) rfl rfl rfl rfl rfl rfl
  ·skip
   refine T_skip ?_
   refine te [(0, (sl tInt s0))] rfl ?_
   refine sr ?_
   refine TO_cons rfl (TOp_lit (nn := 0) (k := 1) sl31 zero3 rfl rfl rfl rfl (by decide) ?_)
   refine TO_st (σ' := [.row (flat tInt.enc ([] : (List Int)))]) rfl ?_
   refine Tp rfl rfl (pur_move rfl) rfl ?_
   obtain ⟨us_4, h_5, H⟩ := bind_inv H
   refine TO_cons rfl (TOp_appZ (T := tInt) (f := tInt.enc) (xs := ([] : (List Int))) (ys := s0) tInt.len sl31 zero3 rfl bytes3 (by decide) rfl rfl rfl rfl (src_T (T := tInt) rfl) (flat_cell tInt _) h_5 (lb rfl) ?_)
   refine toe [(0, (sl tInt s0)), (6, (sl tInt s0)), (7, (.m [0] 0 us_4.length tInt.k))] rfl ?_
   refine TO_st (σ' := [.row (flat tInt.enc us_4), .dead]) rfl ?_
   refine Tp rfl rfl (pur_assign rfl) rfl ?_
   refine TO_nil ?_
   refine te [(2, (.m [0] 0 us_4.length tInt.k))] rfl ?_
   refine T_ret ?_
   obtain rfl := some_inj H
   exact end_pick (.tmp .nil) rfl [0] (by decide) rfl rfl rfl rfl rfl rfl
theorem m_slices_Clone_Sint_int_ok (s0 : (List Int)) (r : (List Int)) (H : m_slices_Clone_Sint_int s0 = some r) : FnV prg 68 [(sl tInt s0)] (sl tInt r) := (m_slices_Clone_Sint_int_own s0 r H).frz (frzT (T := tInt) rfl)

set_option maxHeartbeats 1000000 in
/-- impl.IsMaximalIndependent -/
theorem m_impl_IsMaximalIndependent_ok (n0 : Int) (edges1 : (List ConflictEdge)) (set2 : (List Int)) (r : Bool) (H : m_impl_IsMaximalIndependent n0 edges1 set2 = some r) : FnV prg 37 [(intA n0), (sl tConflictEdge edges1), (sl tInt set2)] (boolA r) := by
  unfold m_impl_IsMaximalIndependent at H
  refine fnV_of_T Try.func37 rfl rfl (Nat.le_of_ble_eq_true rfl) ?_
  refine te [(0, (intA n0)), (1, (sl tConflictEdge edges1)), (2, (sl tInt set2))] rfl ?_
  refine sr ?_
  refine Tp rfl rfl (pur_assign rfl) rfl ?_
  refine TO_nil ?_
  refine te [(0, (intA n0)), (1, (sl tConflictEdge edges1)), (2, (sl tInt set2))] rfl ?_
  refine T_seq ?_
  refine sr ?_
  refine Tp rfl rfl (pur_move rfl) rfl ?_
  refine Tp rfl rfl (pur_move rfl) rfl ?_
  refine Tp rfl rfl (pur_move rfl) rfl ?_
  obtain ⟨r_1, h_2, H⟩ := bind_inv H
  refine TO_cons rfl (TOp_callV (call_static ent66 rfl) (m_impl_isIndependentSet_ok _ _ _ _ h_2) rfl rfl rfl ?_)
  refine Tp rfl rfl (pur_not rfl rfl) rfl ?_
  refine TO_nil ?_
  refine te [(0, (intA n0)), (1, (sl tConflictEdge edges1)), (2, (sl tInt set2)), (12, (boolA (!r_1)))] rfl ?_
  refine T_cond (t := (!r_1)) rfl (fun c_3 => ?_) (fun c_3 => ?_)
  ·replace H := cond_t c_3 H
   refine sr ?_
   refine Tp rfl rfl (pur_assign rfl) rfl ?_
   refine TO_nil ?_
   refine te [(6, (boolA false))] rfl ?_
   refine T_ret ?_
   refine then_ret ?_
   obtain rfl := some_inj H
   refine end_ret (.tmp .nil) rfl rfl ⟨?_, rfl⟩
   rfl
  ·replace H := cond_f c_3 H
   refine T_skip ?_
   refine te [(0, (intA n0)), (1, (sl tConflictEdge edges1)), (2, (sl tInt set2))] rfl ?_
   refine T_seq ?_
   refine sr ?_
   refine Tp rfl rfl (pur_move rfl) rfl ?_
   refine Tp rfl rfl (pur_move rfl) rfl ?_
   refine TO_nil ?_
   refine te [(1, (sl tConflictEdge edges1)), (2, (sl tInt set2)), (13, (intA n0)), (14, (intA 0))] rfl ?_
   obtain ⟨_, h_6, H⟩ := bind_inv H
   replace h_6 := gN_inv h_6
   obtain ⟨O5_, L5_, N5_⟩ := bind_inv H
   clear H
   obtain ⟨B5_, hb5, L5_⟩ := gen_forN L5_
   refine T_block ?_
   refine T_loopX (fun k => fun (t_4 : Int) => k = (n0 - t_4).toNat ∧ 0 ≤ t_4 ∧ forN B5_ (n0 - t_4).toNat t_4 () = some O5_) (fun (t_4 : Int) => [(1, (sl tConflictEdge edges1)), (2, (sl tInt set2)), (13, (intA n0)), (14, (intA (t_4 : Int)))]) (fun (t_4 : Int) => []) _ (0 : Int) (wp 0 (lb rfl) rfl rfl rfl rfl rfl) ⟨rfl, Int.le_refl _, L5_⟩ ?_
   rintro _ t_4 ⟨rfl, hi5, L5_⟩
   refine te [(1, (sl tConflictEdge edges1)), (2, (sl tInt set2)), (13, (intA n0)), (14, (intA (t_4 : Int)))] rfl ?_
   refine T_st (σ' := []) rfl ?_
   refine sr ?_
   refine Tp rfl rfl (pur_lss rfl rfl rfl) rfl ?_
   refine TO_nil ?_
   refine te [(1, (sl tConflictEdge edges1)), (2, (sl tInt set2)), (13, (intA n0)), (14, (intA (t_4 : Int))), (15, (boolA (decide ((t_4 : Int) < n0))))] rfl ?_
   refine T_seq ?_
   refine T_cond (t := decide ((t_4 : Int) < n0)) rfl (fun d5 => ?_) (fun d5 => ?_)
   ·replace d5 := of_decide_eq_true d5
    obtain ⟨C5_, H, K5_⟩ := forN_step L5_ d5
    rw [hb5] at H
    refine T_skip ?_
    refine te [(1, (sl tConflictEdge edges1)), (2, (sl tInt set2)), (13, (intA n0)), (14, (intA (t_4 : Int)))] rfl ?_
    refine T_seq ?_
    refine T_block ?_
    refine sr ?_
    refine Tp rfl rfl (pur_move rfl) rfl ?_
    refine Tp rfl rfl (pur_assign rfl) rfl ?_
    refine TO_nil ?_
    refine te [(1, (sl tConflictEdge edges1)), (2, (sl tInt set2)), (7, (intA (t_4 : Int))), (13, (intA n0)), (14, (intA (t_4 : Int)))] rfl ?_
    obtain ⟨t29_7, J_7, H_8⟩ := bind_inv H
    refine T_cutX (fun x => t29_7 = x) (fun (t29_7 : Bool) => [(1, (sl tConflictEdge edges1)), (2, (sl tInt set2)), (13, (intA n0)), (14, (intA (t_4 : Int))), (29, (boolA t29_7))]) (fun (t29_7 : Bool) => []) ?_ ?_
    ·replace H := J_7
     refine T_region ?_
     refine Tp rfl rfl (pur_move rfl) rfl ?_
     refine Tp rfl rfl (pur_move rfl) rfl ?_
     obtain ⟨r_9, h_10, H⟩ := bind_inv H
     refine TO_cons rfl (TOp_callV (call_static ent54 rfl) (m_slices_Contains_Sint_int_ok _ _ _ h_10) rfl rfl rfl ?_)
     refine Tp rfl rfl (pur_not rfl rfl) rfl ?_
     refine Tp rfl rfl (pur_move rfl) rfl ?_
     refine TO_split (t := (!r_9)) 21 rfl (fun g_11 => ?_) (fun g_11 => ?_)
     ·replace H := cond_t g_11 H
      refine TO_on rfl rfl (by decide) rfl rfl (TOp_pure (pur_move rfl) rfl ?_)
      refine TO_on rfl rfl (by decide) rfl rfl (TOp_pure (pur_move rfl) rfl ?_)
      obtain ⟨r_12, h_13, H⟩ := bind_inv H
      refine TO_on rfl rfl (by decide) rfl rfl (TOp_callO (call_static ent68 rfl) rfl (m_slices_Clone_Sint_int_own _ _ h_13) rfl rfl rfl ?_)
      refine toe [(1, (sl tConflictEdge edges1)), (2, (sl tInt set2)), (7, (intA (t_4 : Int))), (13, (intA n0)), (14, (intA (t_4 : Int))), (17, (sl tInt set2)), (18, (intA (t_4 : Int))), (19, (boolA r_9)), (20, (boolA (!r_9))), (21, (boolA true)), (22, (sl tConflictEdge edges1)), (23, (sl tInt set2)), (24, (.m [0] 0 r_12.length tInt.k))] rfl ?_
      refine TO_st (σ' := [.row (flat tInt.own r_12)]) rfl ?_
      refine TO_on rfl rfl (by decide) rfl rfl (TOp_pure (pur_move rfl) rfl ?_)
      refine TO_on rfl rfl (by decide) rfl rfl (TOp_lit (nn := 1) (k := 1) sl31 zero3 rfl rfl rfl rfl (by decide) ?_)
      refine TO_st (σ' := [.row (flat tInt.own r_12), .row (flat tInt.enc ([(t_4 : Int)] : (List Int)))]) rfl ?_
      obtain ⟨us_14, h_15, H⟩ := bind_inv H
      refine TO_on rfl rfl (by decide) rfl rfl (TOp_appZ (T := tInt) (f := tInt.own) (xs := r_12) (ys := ([(t_4 : Int)] : (List Int))) tInt.lenO sl31 zero3 rfl bytes3 (by decide) rfl rfl rfl rfl (src_mT (f := tInt.own) tInt.lenO rfl rfl (flat_cell tInt _)) (flat_cell tInt _) h_15 (lb rfl) ?_)
      refine toe [(1, (sl tConflictEdge edges1)), (2, (sl tInt set2)), (7, (intA (t_4 : Int))), (13, (intA n0)), (14, (intA (t_4 : Int))), (17, (sl tInt set2)), (18, (intA (t_4 : Int))), (19, (boolA r_9)), (20, (boolA (!r_9))), (21, (boolA true)), (22, (sl tConflictEdge edges1)), (23, (sl tInt set2)), (25, (intA (t_4 : Int))), (26, (.m [1] 0 ([(t_4 : Int)] : (List Int)).length tInt.k)), (27, (.m [0] 0 us_14.length tInt.k))] rfl ?_
      refine TO_st (σ' := [.row (flat tInt.own us_14), .row (flat tInt.enc ([(t_4 : Int)] : (List Int))), .dead]) rfl ?_
      obtain ⟨r_16, h_17, H⟩ := bind_inv H
      refine TO_on rfl rfl (by decide) rfl rfl (TOp_callB (call_static ent67 rfl) (frz_cons (frz_loose rfl) (frz_cons (frzT (T := tInt) rfl) frz_nil)).1 (frz_cons (frz_loose rfl) (frz_cons (frzT (T := tInt) rfl) frz_nil)).2 (m_impl_IsIndependent_ok _ _ _ h_17) rfl ?_)
      refine Tp rfl rfl (pur_pick (t := true) rfl rfl rfl) rfl ?_
      refine TO_nil ?_
      exact joined r_16 (wp 0 (lb rfl) rfl rfl rfl rfl rfl) (some_inj H).symm
     ·replace H := cond_f g_11 H
      refine TO_off rfl rfl (by decide) rfl rfl rfl ?_
      refine TO_off rfl rfl (by decide) rfl rfl rfl ?_
      refine TO_off rfl rfl (by decide) rfl rfl rfl ?_
      refine TO_off rfl rfl (by decide) rfl rfl rfl ?_
      refine TO_off rfl rfl (by decide) rfl rfl rfl ?_
      refine TO_off rfl rfl (by decide) rfl rfl rfl ?_
      refine TO_off rfl rfl (by decide) rfl rfl rfl ?_
      refine Tp rfl rfl (pur_pick (t := false) rfl rfl rfl) rfl ?_
      refine TO_nil ?_
      exact joined false (wp 0 (lb rfl) rfl rfl rfl rfl rfl) (some_inj H).symm
    ·rintro _ rfl
     replace H := H_8
     refine te [(1, (sl tConflictEdge edges1)), (2, (sl tInt set2)), (13, (intA n0)), (14, (intA (t_4 : Int))), (29, (boolA t29_7))] rfl ?_
     refine T_cond (t := t29_7) rfl (fun c_18 => ?_) (fun c_18 => ?_)
     ·replace H := cond_t c_18 H
      refine sr ?_
      refine Tp rfl rfl (pur_assign rfl) rfl ?_
      refine TO_nil ?_
      refine te [(6, (boolA false))] rfl ?_
      refine T_ret ?_
      refine block_ret ?_
      refine then_ret ?_
      refine then_ret ?_
      refine block_ret ?_
      refine then_ret ?_
      obtain rfl := some_inj H
      obtain rfl := some_inj K5_
      replace H := onS_r N5_
      obtain rfl := some_inj H
      refine end_ret (.tmp .nil) rfl rfl ⟨?_, rfl⟩
      rfl
     ·replace H := cond_f c_18 H
      refine T_skip ?_
      refine te [(1, (sl tConflictEdge edges1)), (2, (sl tInt set2)), (13, (intA n0)), (14, (intA (t_4 : Int)))] rfl ?_
      refine T_region ?_
      refine Tp rfl rfl (pur_add rfl rfl rfl (fits64 (by omega) (by omega))) rfl ?_
      refine Tp rfl rfl (pur_move rfl) rfl ?_
      refine TO_nil ?_
      obtain rfl := some_inj H
      exact again (n0 - (t_4 + 1)).toNat (t_4 + 1) (by omega) (wp 0 (lb rfl) rfl rfl rfl rfl rfl) ⟨rfl, by omega, K5_⟩
   ·replace d5 := of_decide_eq_false d5
    obtain rfl := forN_end L5_ (by omega)
    refine T_exit ?_
    refine then_exit ?_
    refine then_exit ?_
    refine block_exit ?_
    replace H := onS_l N5_
    refine te [] rfl ?_
    refine sr ?_
    refine Tp rfl rfl (pur_assign rfl) rfl ?_
    refine TO_nil ?_
    refine te [(6, (boolA true))] rfl ?_
    refine T_ret ?_
    obtain rfl := some_inj H
    refine end_ret (.tmp .nil) rfl rfl ⟨?_, rfl⟩
    rfl

set_option maxHeartbeats 1000000 in
/-- impl.inConflict -/
theorem m_impl_inConflict_ok (edges0 : (List ConflictEdge)) (a1 : Int) (b2 : Int) (r : Bool) (H : m_impl_inConflict edges0 a1 b2 = some r) : FnV prg 57 [(sl tConflictEdge edges0), (intA a1), (intA b2)] (boolA r) := by
  unfold m_impl_inConflict at H
  refine fnV_of_T Try.func57 rfl rfl (Nat.le_of_ble_eq_true rfl) ?_
  refine te [(0, (sl tConflictEdge edges0)), (1, (intA a1)), (2, (intA b2))] rfl ?_
  refine sr ?_
  refine Tp rfl rfl (pur_assign rfl) rfl ?_
  refine TO_nil ?_
  refine te [(0, (sl tConflictEdge edges0)), (1, (intA a1)), (2, (intA b2))] rfl ?_
  obtain ⟨t6_1, J_1, H_2⟩ := bind_inv H
  refine T_cutX (fun x => t6_1 = x) (fun (t6_1 : Bool) => [(6, (boolA t6_1))]) (fun (t6_1 : Bool) => []) ?_ ?_
  ·replace H := J_1
   refine T_region ?_
   refine Tp rfl rfl (pur_move rfl) rfl ?_
   refine Tp rfl rfl (pur_move rfl) rfl ?_
   refine Tp rfl rfl (pur_move rfl) rfl ?_
   refine Tp rfl rfl (pur_build bld52 rfl rfl) rfl ?_
   obtain ⟨r_3, h_4, H⟩ := bind_inv H
   refine TO_cons rfl (TOp_callV (call_static ent43 rfl) (m_slices_Contains_Simpl_ConflictEdge_impl_ConflictEdge_ok _ _ _ h_4) rfl rfl rfl ?_)
   refine Tp rfl rfl (pur_move rfl) rfl ?_
   refine TO_split (t := r_3) 12 rfl (fun g_5 => ?_) (fun g_5 => ?_)
   ·replace H := cond_t g_5 H
    refine TO_off rfl rfl (by decide) rfl rfl rfl ?_
    refine TO_off rfl rfl (by decide) rfl rfl rfl ?_
    refine TO_off rfl rfl (by decide) rfl rfl rfl ?_
    refine TO_off rfl rfl (by decide) rfl rfl rfl ?_
    refine TO_off rfl rfl (by decide) rfl rfl rfl ?_
    refine Tp rfl rfl (pur_pick (t := true) rfl rfl rfl) rfl ?_
    refine Tp rfl rfl (pur_assign rfl) rfl ?_
    refine TO_nil ?_
    exact joined true (wp 0 (lb rfl) rfl rfl rfl rfl rfl) (some_inj H).symm
   ·replace H := cond_f g_5 H
    refine TO_on rfl rfl (by decide) rfl rfl (TOp_pure (pur_move rfl) rfl ?_)
    refine TO_on rfl rfl (by decide) rfl rfl (TOp_pure (pur_move rfl) rfl ?_)
    refine TO_on rfl rfl (by decide) rfl rfl (TOp_pure (pur_move rfl) rfl ?_)
    refine TO_on rfl rfl (by decide) rfl rfl (TOp_pure (pur_build bld52 rfl rfl) rfl ?_)
    obtain ⟨r_6, h_7, H⟩ := bind_inv H
    refine TO_on rfl rfl (by decide) rfl rfl (TOp_callV (call_static ent43 rfl) (m_slices_Contains_Simpl_ConflictEdge_impl_ConflictEdge_ok _ _ _ h_7) rfl rfl rfl ?_)
    refine Tp rfl rfl (pur_pick (t := false) rfl rfl rfl) rfl ?_
    refine Tp rfl rfl (pur_assign rfl) rfl ?_
    refine TO_nil ?_
    exact joined r_6 (wp 0 (lb rfl) rfl rfl rfl rfl rfl) (some_inj H).symm
  ·rintro _ rfl
   replace H := H_2
   refine te [(6, (boolA t6_1))] rfl ?_
   refine T_ret ?_
   obtain rfl := some_inj H
   refine end_ret (.tmp .nil) rfl rfl ⟨?_, rfl⟩
   rfl

set_option maxHeartbeats 1000000 in
/-- impl.IsParetoOptimal$1 -/
theorem m_impl_IsParetoOptimal_1_ok (own0 : Int) (fv1 : (List ConflictEdge)) (fv2 : Int) (fv3 : (List ConflictEdge)) (r : Bool) (H : m_impl_IsParetoOptimal_1 own0 fv1 fv2 fv3 = some r) : FnV prg 56 [(intA own0), (.q [(sl tConflictEdge fv1)] 0), (.q [(intA fv2)] 0), (.q [(sl tConflictEdge fv3)] 0)] (boolA r) := by
  unfold m_impl_IsParetoOptimal_1 at H
  refine fnV_of_T Try.func56 rfl rfl (Nat.le_of_ble_eq_true rfl) ?_
  refine te [(0, (intA own0)), (1, (.q [(sl tConflictEdge fv1)] 0)), (2, (.q [(intA fv2)] 0)), (3, (.q [(sl tConflictEdge fv3)] 0))] rfl ?_
  refine sr ?_
  refine Tp rfl rfl (pur_assign rfl) rfl ?_
  refine TO_nil ?_
  refine te [(0, (intA own0)), (1, (.q [(sl tConflictEdge fv1)] 0)), (2, (.q [(intA fv2)] 0)), (3, (.q [(sl tConflictEdge fv3)] 0))] rfl ?_
  obtain ⟨t5_1, J_1, H_2⟩ := bind_inv H
  refine T_cutX (fun x => t5_1 = x) (fun (t5_1 : Bool) => [(5, (boolA t5_1))]) (fun (t5_1 : Bool) => []) ?_ ?_
  ·replace H := J_1
   refine T_region ?_
   refine Tp rfl rfl (pur_ld_q one25 rfl rfl rfl) rfl ?_
   refine Tp rfl rfl (pur_ld_q one3 rfl rfl rfl) rfl ?_
   refine Tp rfl rfl (pur_move rfl) rfl ?_
   obtain ⟨r_3, h_4, H⟩ := bind_inv H
   refine TO_cons rfl (TOp_callV (call_static ent57 rfl) (m_impl_inConflict_ok _ _ _ _ h_4) rfl rfl rfl ?_)
   refine Tp rfl rfl (pur_move rfl) rfl ?_
   refine TO_split (t := r_3) 10 rfl (fun g_5 => ?_) (fun g_5 => ?_)
   ·replace H := cond_t g_5 H
    refine TO_on rfl rfl (by decide) rfl rfl (TOp_pure (pur_ld_q one25 rfl rfl rfl) rfl ?_)
    refine TO_on rfl rfl (by decide) rfl rfl (TOp_pure (pur_ld_q one3 rfl rfl rfl) rfl ?_)
    refine TO_on rfl rfl (by decide) rfl rfl (TOp_pure (pur_move rfl) rfl ?_)
    obtain ⟨r_6, h_7, H⟩ := bind_inv H
    refine TO_on rfl rfl (by decide) rfl rfl (TOp_callV (call_static ent14 rfl) (m_impl_IsPreferred_ok _ _ _ _ h_7) rfl rfl rfl ?_)
    refine TO_on rfl rfl (by decide) rfl rfl (TOp_pure (pur_not rfl rfl) rfl ?_)
    refine Tp rfl rfl (pur_pick (t := true) rfl rfl rfl) rfl ?_
    refine Tp rfl rfl (pur_assign rfl) rfl ?_
    refine TO_nil ?_
    exact joined (!r_6) (wp 0 (lb rfl) rfl rfl rfl rfl rfl) (some_inj H).symm
   ·replace H := cond_f g_5 H
    refine TO_off rfl rfl (by decide) rfl rfl rfl ?_
    refine TO_off rfl rfl (by decide) rfl rfl rfl ?_
    refine TO_off rfl rfl (by decide) rfl rfl rfl ?_
    refine TO_off rfl rfl (by decide) rfl rfl rfl ?_
    refine TO_off rfl rfl (by decide) rfl rfl rfl ?_
    refine Tp rfl rfl (pur_pick (t := false) rfl rfl rfl) rfl ?_
    refine Tp rfl rfl (pur_assign rfl) rfl ?_
    refine TO_nil ?_
    exact joined false (wp 0 (lb rfl) rfl rfl rfl rfl rfl) (some_inj H).symm
  ·rintro _ rfl
   replace H := H_2
   refine te [(5, (boolA t5_1))] rfl ?_
   refine T_ret ?_
   obtain rfl := some_inj H
   refine end_ret (.tmp .nil) rfl rfl ⟨?_, rfl⟩
   rfl

set_option maxHeartbeats 1000000 in
/-- impl.IsParetoOptimal -/
theorem m_impl_IsParetoOptimal_ok (u : Nat) (n0 : Int) (edges1 : (List ConflictEdge)) (preferences2 : (List ConflictEdge)) (set3 : (List Int)) (r : Bool) (H : m_impl_IsParetoOptimal u n0 edges1 preferences2 set3 = some r) : FnV prg 26 [(intA n0), (sl tConflictEdge edges1), (sl tConflictEdge preferences2), (sl tInt set3)] (boolA r) := by
  unfold m_impl_IsParetoOptimal at H
  refine fnV_of_T Try.func26 rfl rfl (Nat.le_of_ble_eq_true rfl) ?_
  refine te [(0, (intA n0)), (1, (sl tConflictEdge edges1)), (2, (sl tConflictEdge preferences2)), (3, (sl tInt set3))] rfl ?_
  refine sr ?_
  refine TO_cons rfl (TOp_box rfl (boxAll rfl) rfl rfl ?_)
  refine TO_cons rfl (TOp_box rfl (boxAll rfl) rfl rfl ?_)
  refine Tp rfl rfl (pur_assign rfl) rfl ?_
  refine TO_nil ?_
  refine te [(0, (intA n0)), (3, (sl tInt set3)), (5, (.b 0 0)), (6, (.b 1 0))] rfl ?_
  refine T_seq ?_
  obtain ⟨t21_1, J_1, H_2⟩ := bind_inv H
  refine T_cutX (fun x => t21_1 = x) (fun (t21_1 : Bool) => [(0, (intA n0)), (3, (sl tInt set3)), (5, (.b 0 0)), (6, (.b 1 0)), (21, (boolA t21_1))]) (fun (t21_1 : Bool) => [.box [(sl tConflictEdge edges1)], .box [(sl tConflictEdge preferences2)]]) ?_ ?_
  ·replace H := J_1
   refine T_region ?_
   refine Tp rfl rfl (pur_move rfl) rfl ?_
   refine Tp rfl rfl (pur_ld_b one25 rfl rfl rfl rfl) rfl ?_
   refine Tp rfl rfl (pur_ld_b one25 rfl rfl rfl rfl) rfl ?_
   obtain ⟨r_3, h_4, H⟩ := bind_inv H
   refine TO_cons rfl (TOp_callV (call_static ent17 rfl) (m_impl_IsValidPreference_ok u _ _ _ _ h_4) rfl rfl rfl ?_)
   refine Tp rfl rfl (pur_not rfl rfl) rfl ?_
   refine Tp rfl rfl (pur_move rfl) rfl ?_
   refine TO_split (t := (!r_3)) 15 rfl (fun g_5 => ?_) (fun g_5 => ?_)
   ·replace H := cond_t g_5 H
    refine TO_off rfl rfl (by decide) rfl rfl rfl ?_
    refine TO_off rfl rfl (by decide) rfl rfl rfl ?_
    refine TO_off rfl rfl (by decide) rfl rfl rfl ?_
    refine TO_off rfl rfl (by decide) rfl rfl rfl ?_
    refine TO_off rfl rfl (by decide) rfl rfl rfl ?_
    refine Tp rfl rfl (pur_pick (t := true) rfl rfl rfl) rfl ?_
    refine TO_nil ?_
    exact joined true (wp 2 (lb rfl) rfl rfl rfl rfl rfl) (some_inj H).symm
   ·replace H := cond_f g_5 H
    refine TO_on rfl rfl (by decide) rfl rfl (TOp_pure (pur_move rfl) rfl ?_)
    refine TO_on rfl rfl (by decide) rfl rfl (TOp_pure (pur_ld_b one25 rfl rfl rfl rfl) rfl ?_)
    refine TO_on rfl rfl (by decide) rfl rfl (TOp_pure (pur_move rfl) rfl ?_)
    obtain ⟨r_6, h_7, H⟩ := bind_inv H
    refine TO_on rfl rfl (by decide) rfl rfl (TOp_callV (call_static ent37 rfl) (m_impl_IsMaximalIndependent_ok _ _ _ _ h_7) rfl rfl rfl ?_)
    refine TO_on rfl rfl (by decide) rfl rfl (TOp_pure (pur_not rfl rfl) rfl ?_)
    refine Tp rfl rfl (pur_pick (t := false) rfl rfl rfl) rfl ?_
    refine TO_nil ?_
    exact joined (!r_6) (wp 2 (lb rfl) rfl rfl rfl rfl rfl) (some_inj H).symm
  ·rintro _ rfl
   replace H := H_2
   refine te [(0, (intA n0)), (3, (sl tInt set3)), (5, (.b 0 0)), (6, (.b 1 0)), (21, (boolA t21_1))] rfl ?_
   refine T_cond (t := t21_1) rfl (fun c_8 => ?_) (fun c_8 => ?_)
   ·replace H := cond_t c_8 H
    refine sr ?_
    refine Tp rfl rfl (pur_assign rfl) rfl ?_
    refine TO_nil ?_
    refine te [(8, (boolA false))] rfl ?_
    refine T_ret ?_
    refine then_ret ?_
    obtain rfl := some_inj H
    refine end_ret (.tmp .nil) rfl rfl ⟨?_, rfl⟩
    rfl
   ·replace H := cond_f c_8 H
    refine T_skip ?_
    refine te [(0, (intA n0)), (3, (sl tInt set3)), (5, (.b 0 0)), (6, (.b 1 0))] rfl ?_
    refine T_seq ?_
    refine sr ?_
    refine Tp rfl rfl (pur_move rfl) rfl ?_
    refine Tp rfl rfl (pur_move rfl) rfl ?_
    refine TO_nil ?_
    refine te [(3, (sl tInt set3)), (5, (.b 0 0)), (6, (.b 1 0)), (22, (intA n0)), (23, (intA 0))] rfl ?_
    obtain ⟨_, h_11, H⟩ := bind_inv H
    replace h_11 := gN_inv h_11
    obtain ⟨O10_, L10_, N10_⟩ := bind_inv H
    clear H
    obtain ⟨B10_, hb10, L10_⟩ := gen_forN L10_
    refine T_block ?_
    refine T_loopX (fun k => fun (t_9 : Int) => k = (n0 - t_9).toNat ∧ 0 ≤ t_9 ∧ forN B10_ (n0 - t_9).toNat t_9 () = some O10_) (fun (t_9 : Int) => [(3, (sl tInt set3)), (5, (.b 0 0)), (6, (.b 1 0)), (22, (intA n0)), (23, (intA (t_9 : Int)))]) (fun (t_9 : Int) => [.box [(sl tConflictEdge edges1)], .box [(sl tConflictEdge preferences2)]]) _ (0 : Int) (wp 2 (lb rfl) rfl rfl rfl rfl rfl) ⟨rfl, Int.le_refl _, L10_⟩ ?_
    rintro _ t_9 ⟨rfl, hi10, L10_⟩
    refine te [(3, (sl tInt set3)), (5, (.b 0 0)), (6, (.b 1 0)), (22, (intA n0)), (23, (intA (t_9 : Int)))] rfl ?_
    refine T_st (σ' := [.box [(sl tConflictEdge edges1)], .box [(sl tConflictEdge preferences2)]]) rfl ?_
    refine sr ?_
    refine Tp rfl rfl (pur_lss rfl rfl rfl) rfl ?_
    refine TO_nil ?_
    refine te [(3, (sl tInt set3)), (5, (.b 0 0)), (6, (.b 1 0)), (22, (intA n0)), (23, (intA (t_9 : Int))), (24, (boolA (decide ((t_9 : Int) < n0))))] rfl ?_
    refine T_seq ?_
    refine T_cond (t := decide ((t_9 : Int) < n0)) rfl (fun d10 => ?_) (fun d10 => ?_)
    ·replace d10 := of_decide_eq_true d10
     obtain ⟨C10_, H, K10_⟩ := forN_step L10_ d10
     rw [hb10] at H
     refine T_skip ?_
     refine te [(3, (sl tInt set3)), (5, (.b 0 0)), (6, (.b 1 0)), (22, (intA n0)), (23, (intA (t_9 : Int)))] rfl ?_
     refine T_seq ?_
     refine T_block ?_
     refine sr ?_
     refine Tp rfl rfl (pur_move rfl) rfl ?_
     refine TO_cons rfl (TOp_alloc zero3 rfl rfl ?_)
     refine TO_cons rfl (TOp_storeB sz3 rfl rfl rfl rfl rfl rfl rfl (by decide) (lb rfl) rfl ?_)
     refine TO_st (σ' := [.box [(sl tConflictEdge edges1)], .box [(sl tConflictEdge preferences2)], .box [(intA (t_9 : Int))]]) rfl ?_
     refine TO_nil ?_
     refine te [(3, (sl tInt set3)), (5, (.b 0 0)), (6, (.b 1 0)), (9, (.b 2 0)), (22, (intA n0)), (23, (intA (t_9 : Int)))] rfl ?_
     obtain ⟨t35_12, J_12, H_13⟩ := bind_inv H
     refine T_cutX (fun x => t35_12 = x) (fun (t35_12 : Bool) => [(3, (sl tInt set3)), (5, (.b 0 0)), (6, (.b 1 0)), (22, (intA n0)), (23, (intA (t_9 : Int))), (35, (boolA t35_12))]) (fun (t35_12 : Bool) => [.box [(sl tConflictEdge edges1)], .box [(sl tConflictEdge preferences2)]]) ?_ ?_
     ·replace H := J_12
      refine T_region ?_
      refine Tp rfl rfl (pur_move rfl) rfl ?_
      refine Tp rfl rfl (pur_ld_b one3 rfl rfl rfl rfl) rfl ?_
      obtain ⟨r_14, h_15, H⟩ := bind_inv H
      refine TO_cons rfl (TOp_callV (call_static ent54 rfl) (m_slices_Contains_Sint_int_ok _ _ _ h_15) rfl rfl rfl ?_)
      refine Tp rfl rfl (pur_not rfl rfl) rfl ?_
      refine Tp rfl rfl (pur_move rfl) rfl ?_
      refine TO_split (t := (!r_14)) 30 rfl (fun g_16 => ?_) (fun g_16 => ?_)
      ·replace H := cond_t g_16 H
       refine TO_on rfl rfl (by decide) rfl rfl (TOp_pure (pur_move rfl) rfl ?_)
       refine TO_on rfl rfl (by decide) rfl rfl (TOp_pure (pur_makeFunc rfl) rfl ?_)
       obtain ⟨r_17, h_18, H⟩ := bind_inv H
       refine TO_on rfl rfl (by decide) rfl rfl (TOp_callB (call_static ent55 rfl) (frz_cons (frz_loose rfl) (frz_cons (frzOK_f (frz_cons (frzOK_b (xs := [(sl tConflictEdge edges1)]) (ys := [(sl tConflictEdge edges1)]) rfl rfl rfl) (frz_cons (frzOK_b (xs := [(intA (t_9 : Int))]) (ys := [(intA (t_9 : Int))]) rfl rfl rfl) (frz_cons (frzOK_b (xs := [(sl tConflictEdge preferences2)]) (ys := [(sl tConflictEdge preferences2)]) rfl rfl rfl) frz_nil))).1 (frz_cons (frzOK_b (xs := [(sl tConflictEdge edges1)]) (ys := [(sl tConflictEdge edges1)]) rfl rfl rfl) (frz_cons (frzOK_b (xs := [(intA (t_9 : Int))]) (ys := [(intA (t_9 : Int))]) rfl rfl rfl) (frz_cons (frzOK_b (xs := [(sl tConflictEdge preferences2)]) (ys := [(sl tConflictEdge preferences2)]) rfl rfl rfl) frz_nil))).2) frz_nil)).1 (frz_cons (frz_loose rfl) (frz_cons (frzOK_f (frz_cons (frzOK_b (xs := [(sl tConflictEdge edges1)]) (ys := [(sl tConflictEdge edges1)]) rfl rfl rfl) (frz_cons (frzOK_b (xs := [(intA (t_9 : Int))]) (ys := [(intA (t_9 : Int))]) rfl rfl rfl) (frz_cons (frzOK_b (xs := [(sl tConflictEdge preferences2)]) (ys := [(sl tConflictEdge preferences2)]) rfl rfl rfl) frz_nil))).1 (frz_cons (frzOK_b (xs := [(sl tConflictEdge edges1)]) (ys := [(sl tConflictEdge edges1)]) rfl rfl rfl) (frz_cons (frzOK_b (xs := [(intA (t_9 : Int))]) (ys := [(intA (t_9 : Int))]) rfl rfl rfl) (frz_cons (frzOK_b (xs := [(sl tConflictEdge preferences2)]) (ys := [(sl tConflictEdge preferences2)]) rfl rfl rfl) frz_nil))).2) frz_nil)).2 (m_slices_ContainsFunc_Sint_int_ok _ (fun x0 => m_impl_IsParetoOptimal_1 x0 edges1 (t_9 : Int) preferences2) 56 [(.q [(sl tConflictEdge edges1)] 0), (.q [(intA (t_9 : Int))] 0), (.q [(sl tConflictEdge preferences2)] 0)] ent56 rfl ⟨rfl, rfl⟩ (fun x0 r h => m_impl_IsParetoOptimal_1_ok x0 edges1 (t_9 : Int) preferences2 r h) _ h_18) rfl ?_)
       refine TO_on rfl rfl (by decide) rfl rfl (TOp_pure (pur_not rfl rfl) rfl ?_)
       refine Tp rfl rfl (pur_pick (t := true) rfl rfl rfl) rfl ?_
       refine TO_nil ?_
       exact joined (!r_17) (wp 2 (lb rfl) rfl rfl rfl rfl rfl) (some_inj H).symm
      ·replace H := cond_f g_16 H
       refine TO_off rfl rfl (by decide) rfl rfl rfl ?_
       refine TO_off rfl rfl (by decide) rfl rfl rfl ?_
       refine TO_off rfl rfl (by decide) rfl rfl rfl ?_
       refine TO_off rfl rfl (by decide) rfl rfl rfl ?_
       refine Tp rfl rfl (pur_pick (t := false) rfl rfl rfl) rfl ?_
       refine TO_nil ?_
       exact joined false (wp 2 (lb rfl) rfl rfl rfl rfl rfl) (some_inj H).symm
     ·rintro _ rfl
      replace H := H_13
      refine te [(3, (sl tInt set3)), (5, (.b 0 0)), (6, (.b 1 0)), (22, (intA n0)), (23, (intA (t_9 : Int))), (35, (boolA t35_12))] rfl ?_
      refine T_cond (t := t35_12) rfl (fun c_19 => ?_) (fun c_19 => ?_)
      ·replace H := cond_t c_19 H
       refine sr ?_
       refine Tp rfl rfl (pur_assign rfl) rfl ?_
       refine TO_nil ?_
       refine te [(8, (boolA false))] rfl ?_
       refine T_ret ?_
       refine block_ret ?_
       refine then_ret ?_
       refine then_ret ?_
       refine block_ret ?_
       refine then_ret ?_
       obtain rfl := some_inj H
       obtain rfl := some_inj K10_
       replace H := onS_r N10_
       obtain rfl := some_inj H
       refine end_ret (.tmp .nil) rfl rfl ⟨?_, rfl⟩
       rfl
      ·replace H := cond_f c_19 H
       refine T_skip ?_
       refine te [(3, (sl tInt set3)), (5, (.b 0 0)), (6, (.b 1 0)), (22, (intA n0)), (23, (intA (t_9 : Int)))] rfl ?_
       refine T_region ?_
       refine Tp rfl rfl (pur_add rfl rfl rfl (fits64 (by omega) (by omega))) rfl ?_
       refine Tp rfl rfl (pur_move rfl) rfl ?_
       refine TO_nil ?_
       obtain rfl := some_inj H
       exact again (n0 - (t_9 + 1)).toNat (t_9 + 1) (by omega) (wp 2 (lb rfl) rfl rfl rfl rfl rfl) ⟨rfl, by omega, K10_⟩
    ·replace d10 := of_decide_eq_false d10
     obtain rfl := forN_end L10_ (by omega)
     refine T_exit ?_
     refine then_exit ?_
     refine then_exit ?_
     refine block_exit ?_
     replace H := onS_l N10_
     refine te [] rfl ?_
     refine sr ?_
     refine Tp rfl rfl (pur_assign rfl) rfl ?_
     refine TO_nil ?_
     refine te [(8, (boolA true))] rfl ?_
     refine T_ret ?_
     obtain rfl := some_inj H
     refine end_ret (.tmp .nil) rfl rfl ⟨?_, rfl⟩
     rfl

set_option maxHeartbeats 1000000 in
/-- laws.big -/
theorem m_laws_big_ok (code0 : (List Int)) (r : Bool) (H : m_laws_big code0 = some r) : FnV prg 32 [(sl (tI .u8) code0)] (boolA r) := by
  unfold m_laws_big at H
  refine fnV_of_T Try.func32 rfl rfl (Nat.le_of_ble_eq_true rfl) ?_
  refine te [(0, (sl (tI .u8) code0))] rfl ?_
  refine sr ?_
  refine Tp rfl rfl (pur_assign rfl) rfl ?_
  refine TO_nil ?_
  refine te [(0, (sl (tI .u8) code0))] rfl ?_
  refine sr ?_
  refine Tp rfl rfl (pur_move rfl) rfl ?_
  refine Tp rfl rfl (pur_lenT (T := (tI .u8)) sl43 rfl rfl) rfl ?_
  refine Tp rfl rfl (pur_gtr rfl rfl rfl) rfl ?_
  refine Tp rfl rfl (pur_assign rfl) rfl ?_
  refine TO_nil ?_
  refine te [(2, (boolA (decide (1048576 < (code0.length : Int)))))] rfl ?_
  refine T_ret ?_
  obtain rfl := some_inj H
  refine end_ret (.tmp .nil) rfl rfl ⟨?_, rfl⟩
  rfl

set_option maxHeartbeats 1000000 in
/-- spec.l1New -/
theorem m_spec_l1New_x (u : Nat) (code0 : (List Int)) (r : l1Cur) (H : m_spec_l1New u code0 = some r) : FnS prg 60 [(sl (tI .u8) code0)] [] (.b 0 0) [.box [(sl (tI .u8) r.b), (intA r.i), (intA r.h)]] := by
  unfold m_spec_l1New at H
  refine fnS_of_T Try.func60 rfl rfl (Nat.le_of_ble_eq_true rfl) ?_
  refine te [(0, (sl (tI .u8) code0))] rfl ?_
  refine T_st (σ' := []) rfl ?_
  refine sr ?_
  refine Tp rfl rfl (pur_assign rfl) rfl ?_
  refine TO_nil ?_
  refine te [(0, (sl (tI .u8) code0))] rfl ?_
  refine sr ?_
  refine Tp rfl rfl (pur_move rfl) rfl ?_
  refine Tp rfl rfl (pur_lenT (T := (tI .u8)) sl43 rfl rfl) rfl ?_
  refine Tp rfl rfl (pur_wadd rfl rfl rfl) rfl ?_
  refine Tp rfl rfl (pur_assign rfl) rfl ?_
  refine TO_nil ?_
  refine te [(0, (sl (tI .u8) code0)), (3, (intA (w64 (10101 + (code0.length : Int)))))] rfl ?_
  refine T_seq ?_
  refine sr ?_
  refine Tp rfl rfl (pur_assign rfl) rfl ?_
  refine TO_nil ?_
  refine te [(0, (sl (tI .u8) code0)), (3, (intA (w64 (10101 + (code0.length : Int))))), (4, (intA 0))] rfl ?_
  obtain ⟨O1_, L1_, N1_⟩ := bind_inv H
  clear H
  obtain ⟨B1_, hb1, L1_⟩ := gen_whileF L1_
  refine T_block ?_
  refine T_loopX (fun k => fun (x_ : Int × Int) => whileF B1_ k (x_.1, x_.2) = some O1_) (fun (x_ : Int × Int) => [(0, (sl (tI .u8) code0)), (3, (intA x_.1)), (4, (intA x_.2))]) (fun (x_ : Int × Int) => []) u ((w64 (10101 + (code0.length : Int))), 0) (wp 0 (lb rfl) rfl rfl rfl rfl rfl) L1_ ?_
  rintro _ ⟨h3, i4⟩ L1_
  obtain ⟨k1, rfl, C1_, H, K1_⟩ := while_step L1_
  rw [hb1] at H
  refine te [(0, (sl (tI .u8) code0)), (3, (intA h3)), (4, (intA i4))] rfl ?_
  refine T_st (σ' := []) rfl ?_
  refine T_seq ?_
  refine T_cutX (fun x => ((decide (i4 < (code0.length : Int))) && (decide (i4 < 4000))) = x) (fun (t15_2 : Bool) => [(0, (sl (tI .u8) code0)), (3, (intA h3)), (4, (intA i4)), (15, (boolA t15_2))]) (fun (t15_2 : Bool) => []) ?_ ?_
  ·skip
   refine T_region ?_
   refine Tp rfl rfl (pur_move rfl) rfl ?_
   refine Tp rfl rfl (pur_move rfl) rfl ?_
   refine Tp rfl rfl (pur_lenT (T := (tI .u8)) sl43 rfl rfl) rfl ?_
   refine Tp rfl rfl (pur_lss rfl rfl rfl) rfl ?_
   refine Tp rfl rfl (pur_move rfl) rfl ?_
   refine TO_split (t := decide (i4 < (code0.length : Int))) 12 rfl (fun g_4 => ?_) (fun g_4 => ?_)
   ·skip
    refine TO_on rfl rfl (by decide) rfl rfl (TOp_pure (pur_move rfl) rfl ?_)
    refine TO_on rfl rfl (by decide) rfl rfl (TOp_pure (pur_lss rfl rfl rfl) rfl ?_)
    refine Tp rfl rfl (pur_pick (t := true) rfl rfl rfl) rfl ?_
    refine TO_nil ?_
    exact joined (decide (i4 < 4000)) (wp 0 (lb rfl) rfl rfl rfl rfl rfl) (by first | exact Eq.symm ((and_T g_4 rfl)))
   ·skip
    refine TO_off rfl rfl (by decide) rfl rfl rfl ?_
    refine TO_off rfl rfl (by decide) rfl rfl rfl ?_
    refine Tp rfl rfl (pur_pick (t := false) rfl rfl rfl) rfl ?_
    refine TO_nil ?_
    exact joined false (wp 0 (lb rfl) rfl rfl rfl rfl rfl) (by first | exact Eq.symm ((and_F g_4 rfl)))
  ·rintro _ rfl
   refine te [(0, (sl (tI .u8) code0)), (3, (intA h3)), (4, (intA i4)), (15, (boolA ((decide (i4 < (code0.length : Int))) && (decide (i4 < 4000)))))] rfl ?_
   refine T_cond (t := ((decide (i4 < (code0.length : Int))) && (decide (i4 < 4000)))) rfl (fun c_5 => ?_) (fun c_5 => ?_)
   ·replace H := cond_t c_5 H
    refine T_skip ?_
    refine te [(0, (sl (tI .u8) code0)), (3, (intA h3)), (4, (intA i4))] rfl ?_
    refine T_seq ?_
    refine T_block ?_
    refine T_region ?_
    refine Tp rfl rfl (pur_move rfl) rfl ?_
    refine Tp rfl rfl (pur_wmul rfl rfl rfl) rfl ?_
    refine Tp rfl rfl (pur_move rfl) rfl ?_
    refine Tp rfl rfl (pur_move rfl) rfl ?_
    obtain ⟨v_6, h_7, H⟩ := bind_inv H
    obtain ⟨n_8, hz_9, hv_10⟩ := getI_inv h_7
    refine Tp rfl rfl (pur_ixT (T := (tI .u8)) sl43 rfl rfl hz_9 hv_10 rfl) rfl ?_
    refine Tp rfl rfl (pur_ldT (T := (tI .u8)) (i := n_8) (off := 0) rfl one5 rfl rfl hv_10 rfl) rfl ?_
    refine Tp rfl rfl (pur_convI (k := .i64) (k' := .u8) ⟨_, Try.underlying5⟩ Try.underlying3 rfl rfl) rfl ?_
    refine Tp rfl rfl (pur_wadd rfl rfl rfl) rfl ?_
    refine toe [(0, (sl (tI .u8) code0)), (3, (intA h3)), (4, (intA i4)), (25, (intA (w64 ((w64 (h3 * 131)) + (w64 v_6)))))] rfl ?_
    refine Tp rfl rfl (pur_wadd rfl rfl rfl) rfl ?_
    refine Tp rfl rfl (pur_and rfl rfl rfl) rfl ?_
    refine Tp rfl rfl (pur_assign rfl) rfl ?_
    refine TO_nil ?_
    refine te [(0, (sl (tI .u8) code0)), (3, (intA (bitI .and .i64 (w64 ((w64 ((w64 (h3 * 131)) + (w64 v_6))) + 7)) 1073741823))), (4, (intA i4))] rfl ?_
    refine T_region ?_
    refine Tp rfl rfl (pur_move rfl) rfl ?_
    refine Tp rfl rfl (pur_wadd rfl rfl rfl) rfl ?_
    refine Tp rfl rfl (pur_assign rfl) rfl ?_
    refine TO_nil ?_
    obtain rfl := some_inj H
    exact again k1 ((bitI .and .i64 (w64 ((w64 ((w64 (h3 * 131)) + (w64 v_6))) + 7)) 1073741823), (w64 (i4 + 1))) (Nat.lt_succ_self _) (wp 0 (lb rfl) rfl rfl rfl rfl rfl) K1_
   ·replace H := cond_f c_5 H
    refine T_exit ?_
    refine then_exit ?_
    refine then_exit ?_
    refine block_exit ?_
    obtain rfl := some_inj H
    obtain rfl := some_inj K1_
    replace H := onS_l N1_
    refine te [(0, (sl (tI .u8) code0)), (3, (intA h3))] rfl ?_
    refine sr ?_
    refine Tp rfl rfl (pur_move rfl) rfl ?_
    refine Tp rfl rfl (pur_move rfl) rfl ?_
    refine Tp rfl rfl (pur_build bld88 rfl rfl) rfl ?_
    refine TO_cons rfl (TOp_box rfl (boxAll rfl) rfl rfl ?_)
    refine Tp rfl rfl (pur_assign rfl) rfl ?_
    refine TO_nil ?_
    refine te [(2, (.b 0 0))] rfl ?_
    refine T_ret ?_
    obtain rfl := some_inj H
    exact end_pickX (.tmp .nil) rfl [0] (by decide) (lb rfl) rfl (lb rfl) rfl rfl rfl rfl rfl rfl

set_option maxHeartbeats 1000000 in
/-- spec.l1Byte -/
theorem m_spec_l1Byte_x (c0 : l1Cur) (r : (Int × l1Cur)) (H : m_spec_l1Byte c0 = some r) : FnS prg 87 [(.b 0 0)] [.box [(sl (tI .u8) c0.b), (intA c0.i), (intA c0.h)]] (intA r.1) [.box [(sl (tI .u8) r.2.b), (intA r.2.i), (intA r.2.h)]] := by
  unfold m_spec_l1Byte at H
  refine fnS_of_T Try.func87 rfl rfl (Nat.le_of_ble_eq_true rfl) ?_
  refine te [(0, (.b 0 0))] rfl ?_
  refine T_st (σ' := [.box [(sl (tI .u8) c0.b), (intA c0.i), (intA c0.h)]]) rfl ?_
  refine sr ?_
  refine Tp rfl rfl (pur_assign rfl) rfl ?_
  refine TO_nil ?_
  refine te [(0, (.b 0 0))] rfl ?_
  refine sr ?_
  refine Tp rfl rfl (pur_move rfl) rfl ?_
  refine Tp rfl rfl (pur_move rfl) rfl ?_
  refine Tp rfl rfl (pur_nil_b rfl rfl) rfl ?_
  refine Tp rfl rfl (pur_fa_b fld88_2 rfl rfl) rfl ?_
  refine Tp rfl rfl (pur_ld_b one3 rfl rfl rfl rfl) rfl ?_
  refine Tp rfl rfl (pur_wmul rfl rfl rfl) rfl ?_
  refine Tp rfl rfl (pur_wadd rfl rfl rfl) rfl ?_
  refine Tp rfl rfl (pur_nil_b rfl rfl) rfl ?_
  refine Tp rfl rfl (pur_fa_b fld88_2 rfl rfl) rfl ?_
  refine TO_cons rfl (TOp_storeB sz3 rfl rfl rfl rfl rfl rfl rfl (by decide) (lb rfl) rfl ?_)
  refine TO_st (σ' := [.box [(sl (tI .u8) c0.b), (intA c0.i), (intA (w64 ((w64 (c0.h * 6364136223846793005)) + 1442695040888963407)))]]) rfl ?_
  refine TO_nil ?_
  refine te [(0, (.b 0 0))] rfl ?_
  refine T_seq ?_
  refine T_regionD mixed (by kernel_rfl) ?_
  refine TQ_pure rfl (pur_move rfl) rfl ?_
  refine TQ_pure rfl (pur_nil_b rfl rfl) rfl ?_
  refine TQ_pure rfl (pur_fa_b fld88_2 rfl rfl) rfl ?_
  refine TQ_pure rfl (pur_ld_b one3 rfl rfl rfl rfl) rfl ?_
  refine TQ_pure rfl (pur_shr rfl rfl rfl (by decide)) rfl ?_
  refine TQ_pure rfl (pur_move rfl) rfl ?_
  refine TQ_pure rfl (pur_nil_b rfl rfl) rfl ?_
  refine TQ_pure rfl (pur_fa_b fld88_2 rfl rfl) rfl ?_
  refine tqe [(0, (.b 0 0)), (17, (intA (shrI .i64 (w64 ((w64 (c0.h * 6364136223846793005)) + 1442695040888963407)) 33))), (20, (.b 0 2))] rfl ?_
  refine TQ_pure rfl (pur_ld_b one3 rfl rfl rfl rfl) rfl ?_
  refine TQ_pure rfl (pur_shr rfl rfl rfl (by decide)) rfl ?_
  refine TQ_pure rfl (pur_xor rfl rfl rfl) rfl ?_
  refine TQ_pure rfl (pur_and rfl rfl rfl) rfl ?_
  refine TQ_pure rfl (pur_assign rfl) rfl ?_
  refine TQ_nil ?_
  refine te [(0, (.b 0 0)), (3, (intA (bitI .and .i64 (bitI .xor .i64 (shrI .i64 (w64 ((w64 (c0.h * 6364136223846793005)) + 1442695040888963407)) 33) (shrI .i64 (w64 ((w64 (c0.h * 6364136223846793005)) + 1442695040888963407)) 45)) 255)))] rfl ?_
  refine T_seq ?_
  refine T_seq ?_
  refine T_regionD mixed (by kernel_rfl) ?_
  refine TQ_pure rfl (pur_move rfl) rfl ?_
  refine TQ_pure rfl (pur_nil_b rfl rfl) rfl ?_
  refine TQ_pure rfl (pur_fa_b fld88_1 rfl rfl) rfl ?_
  refine TQ_pure rfl (pur_ld_b one3 rfl rfl rfl rfl) rfl ?_
  refine TQ_pure rfl (pur_move rfl) rfl ?_
  refine TQ_pure rfl (pur_nil_b rfl rfl) rfl ?_
  refine TQ_pure rfl (pur_fa_b fld88_0 rfl rfl) rfl ?_
  refine TQ_pure rfl (pur_ld_b one43 rfl rfl rfl rfl) rfl ?_
  refine TQ_pure rfl (pur_lenT (T := (tI .u8)) sl43 rfl rfl) rfl ?_
  refine TQ_pure rfl (pur_lss rfl rfl rfl) rfl ?_
  refine TQ_nil ?_
  refine te [(0, (.b 0 0)), (3, (intA (bitI .and .i64 (bitI .xor .i64 (shrI .i64 (w64 ((w64 (c0.h * 6364136223846793005)) + 1442695040888963407)) 33) (shrI .i64 (w64 ((w64 (c0.h * 6364136223846793005)) + 1442695040888963407)) 45)) 255))), (34, (boolA (decide (c0.i < (c0.b.length : Int)))))] rfl ?_
  refine T_cond (t := decide (c0.i < (c0.b.length : Int))) rfl (fun c_1 => ?_) (fun c_1 => ?_)
  ·replace H := cond_t c_1 H
   refine T_seq ?_
   refine T_regionD mixed (by kernel_rfl) ?_
   refine TQ_pure rfl (pur_move rfl) rfl ?_
   refine TQ_pure rfl (pur_move rfl) rfl ?_
   refine TQ_pure rfl (pur_nil_b rfl rfl) rfl ?_
   refine TQ_pure rfl (pur_fa_b fld88_0 rfl rfl) rfl ?_
   refine TQ_pure rfl (pur_ld_b one43 rfl rfl rfl rfl) rfl ?_
   refine TQ_pure rfl (pur_move rfl) rfl ?_
   refine TQ_pure rfl (pur_nil_b rfl rfl) rfl ?_
   refine TQ_pure rfl (pur_fa_b fld88_1 rfl rfl) rfl ?_
   refine tqe [(0, (.b 0 0)), (3, (intA (bitI .and .i64 (bitI .xor .i64 (shrI .i64 (w64 ((w64 (c0.h * 6364136223846793005)) + 1442695040888963407)) 33) (shrI .i64 (w64 ((w64 (c0.h * 6364136223846793005)) + 1442695040888963407)) 45)) 255))), (35, (intA (bitI .and .i64 (bitI .xor .i64 (shrI .i64 (w64 ((w64 (c0.h * 6364136223846793005)) + 1442695040888963407)) 33) (shrI .i64 (w64 ((w64 (c0.h * 6364136223846793005)) + 1442695040888963407)) 45)) 255))), (39, (sl (tI .u8) c0.b)), (42, (.b 0 1))] rfl ?_
   refine TQ_pure rfl (pur_ld_b one3 rfl rfl rfl rfl) rfl ?_
   obtain ⟨v_2, h_3, H⟩ := bind_inv H
   obtain ⟨n_4, hz_5, hv_6⟩ := getI_inv h_3
   refine TQ_pure rfl (pur_ixT (T := (tI .u8)) sl43 rfl rfl hz_5 hv_6 rfl) rfl ?_
   refine TQ_pure rfl (pur_ldT (T := (tI .u8)) (i := n_4) (off := 0) rfl one5 rfl rfl hv_6 rfl) rfl ?_
   refine TQ_pure rfl (pur_convI (k := .i64) (k' := .u8) ⟨_, Try.underlying5⟩ Try.underlying3 rfl rfl) rfl ?_
   refine TQ_pure rfl (pur_wadd rfl rfl rfl) rfl ?_
   refine TQ_pure rfl (pur_and rfl rfl rfl) rfl ?_
   refine TQ_pure rfl (pur_assign rfl) rfl ?_
   refine TQ_nil ?_
   refine te [(0, (.b 0 0)), (3, (intA (bitI .and .i64 (w64 ((bitI .and .i64 (bitI .xor .i64 (shrI .i64 (w64 ((w64 (c0.h * 6364136223846793005)) + 1442695040888963407)) 33) (shrI .i64 (w64 ((w64 (c0.h * 6364136223846793005)) + 1442695040888963407)) 45)) 255) + (w64 v_2))) 255)))] rfl ?_
   refine T_region ?_
   refine Tp rfl rfl (pur_move rfl) rfl ?_
   refine Tp rfl rfl (pur_move rfl) rfl ?_
   refine Tp rfl rfl (pur_nil_b rfl rfl) rfl ?_
   refine Tp rfl rfl (pur_fa_b fld88_1 rfl rfl) rfl ?_
   refine Tp rfl rfl (pur_ld_b one3 rfl rfl rfl rfl) rfl ?_
   refine Tp rfl rfl (pur_wadd rfl rfl rfl) rfl ?_
   refine Tp rfl rfl (pur_nil_b rfl rfl) rfl ?_
   refine Tp rfl rfl (pur_fa_b fld88_1 rfl rfl) rfl ?_
   refine TO_cons rfl (TOp_storeB sz3 rfl rfl rfl rfl rfl rfl rfl (by decide) (lb rfl) rfl ?_)
   refine TO_st (σ' := [.box [(sl (tI .u8) c0.b), (intA (w64 (c0.i + 1))), (intA (w64 ((w64 (c0.h * 6364136223846793005)) + 1442695040888963407)))]]) rfl ?_
   refine TO_nil ?_
   refine te [(3, (intA (bitI .and .i64 (w64 ((bitI .and .i64 (bitI .xor .i64 (shrI .i64 (w64 ((w64 (c0.h * 6364136223846793005)) + 1442695040888963407)) 33) (shrI .i64 (w64 ((w64 (c0.h * 6364136223846793005)) + 1442695040888963407)) 45)) 255) + (w64 v_2))) 255)))] rfl ?_
   refine sr ?_
   refine Tp rfl rfl (pur_move rfl) rfl ?_
   refine Tp rfl rfl (pur_assign rfl) rfl ?_
   refine TO_nil ?_
   refine te [(2, (intA (bitI .and .i64 (w64 ((bitI .and .i64 (bitI .xor .i64 (shrI .i64 (w64 ((w64 (c0.h * 6364136223846793005)) + 1442695040888963407)) 33) (shrI .i64 (w64 ((w64 (c0.h * 6364136223846793005)) + 1442695040888963407)) 45)) 255) + (w64 v_2))) 255)))] rfl ?_
   refine T_ret ?_
   obtain rfl := some_inj H
   exact end_pickX (.tmp .nil) rfl [0] (by decide) (lb rfl) rfl (lb rfl) rfl rfl rfl rfl rfl rfl
  ·replace H := cond_f c_1 H
   refine T_skip ?_
   refine te [(3, (intA (bitI .and .i64 (bitI .xor .i64 (shrI .i64 (w64 ((w64 (c0.h * 6364136223846793005)) + 1442695040888963407)) 33) (shrI .i64 (w64 ((w64 (c0.h * 6364136223846793005)) + 1442695040888963407)) 45)) 255)))] rfl ?_
   refine sr ?_
   refine Tp rfl rfl (pur_move rfl) rfl ?_
   refine Tp rfl rfl (pur_assign rfl) rfl ?_
   refine TO_nil ?_
   refine te [(2, (intA (bitI .and .i64 (bitI .xor .i64 (shrI .i64 (w64 ((w64 (c0.h * 6364136223846793005)) + 1442695040888963407)) 33) (shrI .i64 (w64 ((w64 (c0.h * 6364136223846793005)) + 1442695040888963407)) 45)) 255)))] rfl ?_
   refine T_ret ?_
   obtain rfl := some_inj H
   exact end_pickX (.tmp .nil) rfl [0] (by decide) (lb rfl) rfl (lb rfl) rfl rfl rfl rfl rfl rfl

set_option maxHeartbeats 1000000 in
/-- spec.l1Below -/
theorem m_spec_l1Below_x (c0 : l1Cur) (n1 : Int) (r : (Int × l1Cur)) (H : m_spec_l1Below c0 n1 = some r) : FnS prg 64 [(.b 0 0), (intA n1)] [.box [(sl (tI .u8) c0.b), (intA c0.i), (intA c0.h)]] (intA r.1) [.box [(sl (tI .u8) r.2.b), (intA r.2.i), (intA r.2.h)]] := by
  unfold m_spec_l1Below at H
  refine fnS_of_T Try.func64 rfl rfl (Nat.le_of_ble_eq_true rfl) ?_
  refine te [(0, (.b 0 0)), (1, (intA n1))] rfl ?_
  refine T_st (σ' := [.box [(sl (tI .u8) c0.b), (intA c0.i), (intA c0.h)]]) rfl ?_
  refine sr ?_
  refine Tp rfl rfl (pur_assign rfl) rfl ?_
  refine TO_nil ?_
  refine te [(0, (.b 0 0)), (1, (intA n1))] rfl ?_
  refine T_seq ?_
  refine sr ?_
  refine Tp rfl rfl (pur_move rfl) rfl ?_
  refine Tp rfl rfl (pur_leq rfl rfl rfl) rfl ?_
  refine TO_nil ?_
  refine te [(0, (.b 0 0)), (1, (intA n1)), (10, (boolA (decide (n1 ≤ 0))))] rfl ?_
  refine T_cond (t := decide (n1 ≤ 0)) rfl (fun c_1 => ?_) (fun c_1 => ?_)
  ·replace H := cond_t c_1 H
   refine sr ?_
   refine Tp rfl rfl (pur_assign rfl) rfl ?_
   refine TO_nil ?_
   refine te [(4, (intA 0))] rfl ?_
   refine T_ret ?_
   refine then_ret ?_
   obtain rfl := some_inj H
   exact end_pickX (.tmp .nil) rfl [0] (by decide) (lb rfl) rfl (lb rfl) rfl rfl rfl rfl rfl rfl
  ·replace H := cond_f c_1 H
   refine T_skip ?_
   refine te [(0, (.b 0 0)), (1, (intA n1))] rfl ?_
   refine T_seq ?_
   refine sr ?_
   refine Tp rfl rfl (pur_move rfl) rfl ?_
   refine Tp rfl rfl (pur_leq rfl rfl rfl) rfl ?_
   refine TO_nil ?_
   refine te [(0, (.b 0 0)), (1, (intA n1)), (12, (boolA (decide (n1 ≤ 256))))] rfl ?_
   refine T_cond (t := decide (n1 ≤ 256)) rfl (fun c_2 => ?_) (fun c_2 => ?_)
   ·replace H := cond_t c_2 H
    refine sr ?_
    refine Tp rfl rfl (pur_move rfl) rfl ?_
    obtain ⟨r_3, h_4, H⟩ := bind_inv H
    refine TO_cons rfl (TOp_callS [0] (call_static ent87 rfl) (by decide) rfl rfl rfl rfl rfl rfl (m_spec_l1Byte_x _ _ h_4) rfl rfl ?_)
    refine toe [(0, (.b 0 0)), (1, (intA n1)), (12, (boolA (decide (n1 ≤ 256)))), (13, (.b 0 0)), (14, (intA r_3.1))] rfl ?_
    refine TO_st (σ' := [.box [(sl (tI .u8) r_3.2.b), (intA r_3.2.i), (intA r_3.2.h)]]) rfl ?_
    refine Tp rfl rfl (pur_move rfl) rfl ?_
    obtain ⟨_u, h_5, H⟩ := bind_inv H
    refine Tp rfl rfl (pur_rem rfl rfl rfl (gD_inv h_5)) rfl ?_
    refine Tp rfl rfl (pur_assign rfl) rfl ?_
    refine TO_nil ?_
    refine te [(4, (intA (r_3.1.tmod n1)))] rfl ?_
    refine T_ret ?_
    refine then_ret ?_
    obtain rfl := some_inj H
    exact end_pickX (.tmp .nil) rfl [0] (by decide) (lb rfl) rfl (lb rfl) rfl rfl rfl rfl rfl rfl
   ·replace H := cond_f c_2 H
    refine T_skip ?_
    refine te [(0, (.b 0 0)), (1, (intA n1))] rfl ?_
    refine sr ?_
    refine Tp rfl rfl (pur_move rfl) rfl ?_
    obtain ⟨r_6, h_7, H⟩ := bind_inv H
    refine TO_cons rfl (TOp_callS [0] (call_static ent87 rfl) (by decide) rfl rfl rfl rfl rfl rfl (m_spec_l1Byte_x _ _ h_7) rfl rfl ?_)
    refine toe [(0, (.b 0 0)), (1, (intA n1)), (17, (.b 0 0)), (18, (intA r_6.1))] rfl ?_
    refine TO_st (σ' := [.box [(sl (tI .u8) r_6.2.b), (intA r_6.2.i), (intA r_6.2.h)]]) rfl ?_
    refine Tp rfl rfl (pur_assign rfl) rfl ?_
    refine TO_nil ?_
    refine te [(0, (.b 0 0)), (1, (intA n1)), (5, (intA r_6.1))] rfl ?_
    refine sr ?_
    refine Tp rfl rfl (pur_move rfl) rfl ?_
    obtain ⟨r_8, h_9, H⟩ := bind_inv H
    refine TO_cons rfl (TOp_callS [0] (call_static ent87 rfl) (by decide) rfl rfl rfl rfl rfl rfl (m_spec_l1Byte_x _ _ h_9) rfl rfl ?_)
    refine toe [(0, (.b 0 0)), (1, (intA n1)), (5, (intA r_6.1)), (19, (.b 0 0)), (20, (intA r_8.1))] rfl ?_
    refine TO_st (σ' := [.box [(sl (tI .u8) r_8.2.b), (intA r_8.2.i), (intA r_8.2.h)]]) rfl ?_
    refine Tp rfl rfl (pur_assign rfl) rfl ?_
    refine TO_nil ?_
    refine te [(0, (.b 0 0)), (1, (intA n1)), (5, (intA r_6.1)), (6, (intA r_8.1))] rfl ?_
    refine sr ?_
    refine Tp rfl rfl (pur_move rfl) rfl ?_
    obtain ⟨r_10, h_11, H⟩ := bind_inv H
    refine TO_cons rfl (TOp_callS [0] (call_static ent87 rfl) (by decide) rfl rfl rfl rfl rfl rfl (m_spec_l1Byte_x _ _ h_11) rfl rfl ?_)
    refine toe [(0, (.b 0 0)), (1, (intA n1)), (5, (intA r_6.1)), (6, (intA r_8.1)), (21, (.b 0 0)), (22, (intA r_10.1))] rfl ?_
    refine TO_st (σ' := [.box [(sl (tI .u8) r_10.2.b), (intA r_10.2.i), (intA r_10.2.h)]]) rfl ?_
    refine Tp rfl rfl (pur_assign rfl) rfl ?_
    refine TO_nil ?_
    refine te [(0, (.b 0 0)), (1, (intA n1)), (5, (intA r_6.1)), (6, (intA r_8.1)), (7, (intA r_10.1))] rfl ?_
    refine sr ?_
    refine Tp rfl rfl (pur_move rfl) rfl ?_
    obtain ⟨r_12, h_13, H⟩ := bind_inv H
    refine TO_cons rfl (TOp_callS [0] (call_static ent87 rfl) (by decide) rfl rfl rfl rfl rfl rfl (m_spec_l1Byte_x _ _ h_13) rfl rfl ?_)
    refine toe [(0, (.b 0 0)), (1, (intA n1)), (5, (intA r_6.1)), (6, (intA r_8.1)), (7, (intA r_10.1)), (23, (.b 0 0)), (24, (intA r_12.1))] rfl ?_
    refine TO_st (σ' := [.box [(sl (tI .u8) r_12.2.b), (intA r_12.2.i), (intA r_12.2.h)]]) rfl ?_
    refine Tp rfl rfl (pur_assign rfl) rfl ?_
    refine TO_nil ?_
    refine te [(1, (intA n1)), (5, (intA r_6.1)), (6, (intA r_8.1)), (7, (intA r_10.1)), (8, (intA r_12.1))] rfl ?_
    refine sr ?_
    refine Tp rfl rfl (pur_move rfl) rfl ?_
    refine Tp rfl rfl (pur_wmul rfl rfl rfl) rfl ?_
    refine Tp rfl rfl (pur_move rfl) rfl ?_
    refine Tp rfl rfl (pur_wmul rfl rfl rfl) rfl ?_
    refine Tp rfl rfl (pur_wadd rfl rfl rfl) rfl ?_
    refine Tp rfl rfl (pur_move rfl) rfl ?_
    refine Tp rfl rfl (pur_wmul rfl rfl rfl) rfl ?_
    refine Tp rfl rfl (pur_wadd rfl rfl rfl) rfl ?_
    refine toe [(1, (intA n1)), (8, (intA r_12.1)), (32, (intA (w64 ((w64 ((w64 (r_6.1 * 16777216)) + (w64 (r_8.1 * 65536)))) + (w64 (r_10.1 * 256))))))] rfl ?_
    refine Tp rfl rfl (pur_move rfl) rfl ?_
    refine Tp rfl rfl (pur_wadd rfl rfl rfl) rfl ?_
    refine Tp rfl rfl (pur_move rfl) rfl ?_
    obtain ⟨_u, h_14, H⟩ := bind_inv H
    refine Tp rfl rfl (pur_rem rfl rfl rfl (gD_inv h_14)) rfl ?_
    refine Tp rfl rfl (pur_assign rfl) rfl ?_
    refine TO_nil ?_
    refine te [(4, (intA ((w64 ((w64 ((w64 ((w64 (r_6.1 * 16777216)) + (w64 (r_8.1 * 65536)))) + (w64 (r_10.1 * 256)))) + r_12.1)).tmod n1)))] rfl ?_
    refine T_ret ?_
    obtain rfl := some_inj H
    exact end_pickX (.tmp .nil) rfl [0] (by decide) (lb rfl) rfl (lb rfl) rfl rfl rfl rfl rfl rfl

set_option maxHeartbeats 1000000 in
/-- spec.l1Once -/
theorem m_spec_l1Once_x (c0 : l1Cur) (n1 : Int) (r : (Bool × l1Cur)) (H : m_spec_l1Once c0 n1 = some r) : FnS prg 63 [(.b 0 0), (intA n1)] [.box [(sl (tI .u8) c0.b), (intA c0.i), (intA c0.h)]] (boolA r.1) [.box [(sl (tI .u8) r.2.b), (intA r.2.i), (intA r.2.h)]] := by
  unfold m_spec_l1Once at H
  refine fnS_of_T Try.func63 rfl rfl (Nat.le_of_ble_eq_true rfl) ?_
  refine te [(0, (.b 0 0)), (1, (intA n1))] rfl ?_
  refine T_st (σ' := [.box [(sl (tI .u8) c0.b), (intA c0.i), (intA c0.h)]]) rfl ?_
  refine sr ?_
  refine Tp rfl rfl (pur_assign rfl) rfl ?_
  refine TO_nil ?_
  refine te [(0, (.b 0 0)), (1, (intA n1))] rfl ?_
  refine sr ?_
  refine Tp rfl rfl (pur_move rfl) rfl ?_
  refine Tp rfl rfl (pur_move rfl) rfl ?_
  obtain ⟨r_1, h_2, H⟩ := bind_inv H
  refine TO_cons rfl (TOp_callS [0] (call_static ent64 rfl) (by decide) rfl rfl rfl rfl rfl rfl (m_spec_l1Below_x _ _ _ h_2) rfl rfl ?_)
  refine toe [(0, (.b 0 0)), (1, (intA n1)), (5, (.b 0 0)), (6, (intA n1)), (7, (intA r_1.1))] rfl ?_
  refine TO_st (σ' := [.box [(sl (tI .u8) r_1.2.b), (intA r_1.2.i), (intA r_1.2.h)]]) rfl ?_
  refine Tp rfl rfl (pur_eql rfl rfl rfl) rfl ?_
  refine Tp rfl rfl (pur_assign rfl) rfl ?_
  refine TO_nil ?_
  refine te [(4, (boolA (decide (r_1.1 = 0))))] rfl ?_
  refine T_ret ?_
  obtain rfl := some_inj H
  exact end_pickX (.tmp .nil) rfl [0] (by decide) (lb rfl) rfl (lb rfl) rfl rfl rfl rfl rfl rfl

set_option maxHeartbeats 1000000 in
/-- spec.l8Edges -/
theorem m_spec_l8Edges_x (c0 : l1Cur) (r : ((Int × (List ConflictEdge)) × l1Cur)) (H : m_spec_l8Edges c0 = some r) : FnS prg 86 [(.b 0 0)] [.box [(sl (tI .u8) c0.b), (intA c0.i), (intA c0.h)]] (.t [(intA r.1.1), (.m [1] 0 r.1.2.length tConflictEdge.k)]) [.box [(sl (tI .u8) r.2.b), (intA r.2.i), (intA r.2.h)], .row (flat tConflictEdge.enc r.1.2)] := by
  unfold m_spec_l8Edges at H
  refine fnS_of_T Try.func86 rfl rfl (Nat.le_of_ble_eq_true rfl) ?_
  refine te [(0, (.b 0 0))] rfl ?_
  refine T_st (σ' := [.box [(sl (tI .u8) c0.b), (intA c0.i), (intA c0.h)]]) rfl ?_
  refine sr ?_
  refine Tp rfl rfl (pur_assign rfl) rfl ?_
  refine Tp rfl rfl (pur_assign rfl) rfl ?_
  refine TO_nil ?_
  refine te [(0, (.b 0 0))] rfl ?_
  refine sr ?_
  refine Tp rfl rfl (pur_move rfl) rfl ?_
  obtain ⟨r_1, h_2, H⟩ := bind_inv H
  refine TO_cons rfl (TOp_callS [0] (call_static ent64 rfl) (by decide) rfl rfl rfl rfl rfl rfl (m_spec_l1Below_x _ _ _ h_2) rfl rfl ?_)
  refine toe [(0, (.b 0 0)), (9, (.b 0 0)), (10, (intA r_1.1))] rfl ?_
  refine TO_st (σ' := [.box [(sl (tI .u8) r_1.2.b), (intA r_1.2.i), (intA r_1.2.h)]]) rfl ?_
  refine Tp rfl rfl (pur_assign rfl) rfl ?_
  refine TO_nil ?_
  refine te [(0, (.b 0 0)), (4, (intA r_1.1))] rfl ?_
  refine sr ?_
  refine TO_cons rfl (TOp_lit (nn := 0) (k := 2) sl25 zero52 rfl rfl rfl rfl (by decide) ?_)
  refine TO_st (σ' := [.box [(sl (tI .u8) r_1.2.b), (intA r_1.2.i), (intA r_1.2.h)], .row (flat tConflictEdge.enc ([] : (List ConflictEdge)))]) rfl ?_
  refine Tp rfl rfl (pur_assign rfl) rfl ?_
  refine TO_nil ?_
  refine te [(0, (.b 0 0)), (4, (intA r_1.1)), (5, (.m [1] 0 ([] : (List ConflictEdge)).length tConflictEdge.k))] rfl ?_
  refine sr ?_
  refine Tp rfl rfl (pur_move rfl) rfl ?_
  obtain ⟨r_3, h_4, H⟩ := bind_inv H
  refine TO_cons rfl (TOp_callS [0] (call_static ent64 rfl) (by decide) rfl rfl rfl rfl rfl rfl (m_spec_l1Below_x _ _ _ h_4) rfl rfl ?_)
  refine toe [(0, (.b 0 0)), (4, (intA r_1.1)), (5, (.m [1] 0 ([] : (List ConflictEdge)).length tConflictEdge.k)), (12, (.b 0 0)), (13, (intA r_3.1))] rfl ?_
  refine TO_st (σ' := [.box [(sl (tI .u8) r_3.2.b), (intA r_3.2.i), (intA r_3.2.h)], .row (flat tConflictEdge.enc ([] : (List ConflictEdge)))]) rfl ?_
  refine Tp rfl rfl (pur_wadd rfl rfl rfl) rfl ?_
  refine Tp rfl rfl (pur_assign rfl) rfl ?_
  refine TO_nil ?_
  refine te [(0, (.b 0 0)), (4, (intA r_1.1)), (5, (.m [1] 0 ([] : (List ConflictEdge)).length tConflictEdge.k)), (6, (intA (w64 (2 + r_3.1))))] rfl ?_
  refine T_seq ?_
  refine sr ?_
  refine Tp rfl rfl (pur_assign rfl) rfl ?_
  refine TO_nil ?_
  refine te [(0, (.b 0 0)), (4, (intA r_1.1)), (5, (.m [1] 0 ([] : (List ConflictEdge)).length tConflictEdge.k)), (6, (intA (w64 (2 + r_3.1)))), (7, (intA 0))] rfl ?_
  obtain ⟨_, h_7, H⟩ := bind_inv H
  replace h_7 := gN_inv h_7
  obtain ⟨O6_, L6_, N6_⟩ := bind_inv H
  clear H
  obtain ⟨B6_, hb6, L6_⟩ := gen_forM L6_
  refine T_block ?_
  refine T_loopX (fun k => fun (x_ : Int × (List ConflictEdge) × l1Cur) => k = (r_1.1 - x_.1).toNat ∧ 0 ≤ x_.1 ∧ forM B6_ (r_1.1 - x_.1).toNat x_.1 (x_.2.1, x_.2.2) = some O6_) (fun (x_ : Int × (List ConflictEdge) × l1Cur) => [(0, (.b 0 0)), (4, (intA r_1.1)), (5, (.m [1] 0 x_.2.1.length tConflictEdge.k)), (6, (intA (w64 (2 + r_3.1)))), (7, (intA (x_.1 : Int)))]) (fun (x_ : Int × (List ConflictEdge) × l1Cur) => [.box [(sl (tI .u8) x_.2.2.b), (intA x_.2.2.i), (intA x_.2.2.h)], .row (flat tConflictEdge.enc x_.2.1)]) _ (0, (([] : (List ConflictEdge)), r_3.2)) (wp 2 (lb rfl) rfl rfl rfl rfl rfl) ⟨rfl, Int.le_refl _, L6_⟩ ?_
  rintro _ ⟨i_5, l5, box0⟩ ⟨rfl, hi6, L6_⟩
  refine te [(0, (.b 0 0)), (4, (intA r_1.1)), (5, (.m [1] 0 l5.length tConflictEdge.k)), (6, (intA (w64 (2 + r_3.1)))), (7, (intA (i_5 : Int)))] rfl ?_
  refine T_st (σ' := [.box [(sl (tI .u8) box0.b), (intA box0.i), (intA box0.h)], .row (flat tConflictEdge.enc l5)]) rfl ?_
  refine T_seq ?_
  refine sr ?_
  refine Tp rfl rfl (pur_move rfl) rfl ?_
  refine Tp rfl rfl (pur_move rfl) rfl ?_
  refine Tp rfl rfl (pur_lss rfl rfl rfl) rfl ?_
  refine TO_nil ?_
  refine te [(0, (.b 0 0)), (4, (intA r_1.1)), (5, (.m [1] 0 l5.length tConflictEdge.k)), (6, (intA (w64 (2 + r_3.1)))), (7, (intA (i_5 : Int))), (17, (boolA (decide ((i_5 : Int) < r_1.1))))] rfl ?_
  refine T_cond (t := decide ((i_5 : Int) < r_1.1)) rfl (fun d6 => ?_) (fun d6 => ?_)
  ·replace d6 := of_decide_eq_true d6
   obtain ⟨C6_, H, K6_⟩ := forM_step L6_ d6
   rw [hb6] at H
   refine T_skip ?_
   refine te [(0, (.b 0 0)), (4, (intA r_1.1)), (5, (.m [1] 0 l5.length tConflictEdge.k)), (6, (intA (w64 (2 + r_3.1)))), (7, (intA (i_5 : Int)))] rfl ?_
   refine T_seq ?_
   refine T_block ?_
   refine sr ?_
   refine Tp rfl rfl (pur_move rfl) rfl ?_
   refine Tp rfl rfl (pur_add rfl rfl rfl (fits64 (by omega) (by omega))) rfl ?_
   refine Tp rfl rfl (pur_assign rfl) rfl ?_
   refine TO_nil ?_
   refine te [(0, (.b 0 0)), (4, (intA r_1.1)), (5, (.m [1] 0 l5.length tConflictEdge.k)), (6, (intA (w64 (2 + r_3.1)))), (7, (intA (i_5 : Int))), (8, (intA ((i_5 : Int) + 1)))] rfl ?_
   obtain ⟨_, h_10, H⟩ := bind_inv H
   replace h_10 := gN_inv h_10
   obtain ⟨O9_, L9_, N9_⟩ := bind_inv H
   clear H
   obtain ⟨B9_, hb9, L9_⟩ := gen_forM L9_
   refine T_block ?_
   refine T_loopX (fun k => fun (x_ : Int × (List ConflictEdge) × l1Cur) => k = (r_1.1 - x_.1).toNat ∧ ((i_5 : Int) + 1) ≤ x_.1 ∧ forM B9_ (r_1.1 - x_.1).toNat x_.1 (x_.2.1, x_.2.2) = some O9_) (fun (x_ : Int × (List ConflictEdge) × l1Cur) => [(0, (.b 0 0)), (4, (intA r_1.1)), (5, (.m [1] 0 x_.2.1.length tConflictEdge.k)), (6, (intA (w64 (2 + r_3.1)))), (7, (intA (i_5 : Int))), (8, (intA (x_.1 : Int)))]) (fun (x_ : Int × (List ConflictEdge) × l1Cur) => [.box [(sl (tI .u8) x_.2.2.b), (intA x_.2.2.i), (intA x_.2.2.h)], .row (flat tConflictEdge.enc x_.2.1)]) _ (((i_5 : Int) + 1), (l5, box0)) (wp 2 (lb rfl) rfl rfl rfl rfl rfl) ⟨rfl, Int.le_refl _, L9_⟩ ?_
   rintro _ ⟨k_8, l5, box0⟩ ⟨rfl, hi9, L9_⟩
   refine te [(0, (.b 0 0)), (4, (intA r_1.1)), (5, (.m [1] 0 l5.length tConflictEdge.k)), (6, (intA (w64 (2 + r_3.1)))), (7, (intA (i_5 : Int))), (8, (intA (k_8 : Int)))] rfl ?_
   refine T_st (σ' := [.box [(sl (tI .u8) box0.b), (intA box0.i), (intA box0.h)], .row (flat tConflictEdge.enc l5)]) rfl ?_
   refine T_seq ?_
   refine sr ?_
   refine Tp rfl rfl (pur_move rfl) rfl ?_
   refine Tp rfl rfl (pur_move rfl) rfl ?_
   refine Tp rfl rfl (pur_lss rfl rfl rfl) rfl ?_
   refine TO_nil ?_
   refine te [(0, (.b 0 0)), (4, (intA r_1.1)), (5, (.m [1] 0 l5.length tConflictEdge.k)), (6, (intA (w64 (2 + r_3.1)))), (7, (intA (i_5 : Int))), (8, (intA (k_8 : Int))), (24, (boolA (decide ((k_8 : Int) < r_1.1))))] rfl ?_
   refine T_cond (t := decide ((k_8 : Int) < r_1.1)) rfl (fun d9 => ?_) (fun d9 => ?_)
   ·replace d9 := of_decide_eq_true d9
    obtain ⟨C9_, H, K9_⟩ := forM_step L9_ d9
    rw [hb9] at H
    refine T_skip ?_
    refine te [(0, (.b 0 0)), (4, (intA r_1.1)), (5, (.m [1] 0 l5.length tConflictEdge.k)), (6, (intA (w64 (2 + r_3.1)))), (7, (intA (i_5 : Int))), (8, (intA (k_8 : Int)))] rfl ?_
    refine T_seq ?_
    refine T_block ?_
    refine sr ?_
    refine Tp rfl rfl (pur_move rfl) rfl ?_
    refine Tp rfl rfl (pur_move rfl) rfl ?_
    obtain ⟨r_11, h_12, H⟩ := bind_inv H
    refine TO_cons rfl (TOp_callS [0] (call_static ent63 rfl) (by decide) rfl rfl rfl rfl rfl rfl (m_spec_l1Once_x _ _ _ h_12) rfl rfl ?_)
    refine toe [(0, (.b 0 0)), (4, (intA r_1.1)), (5, (.m [1] 0 l5.length tConflictEdge.k)), (6, (intA (w64 (2 + r_3.1)))), (7, (intA (i_5 : Int))), (8, (intA (k_8 : Int))), (27, (.b 0 0)), (28, (intA (w64 (2 + r_3.1)))), (29, (boolA r_11.1))] rfl ?_
    refine TO_st (σ' := [.box [(sl (tI .u8) r_11.2.b), (intA r_11.2.i), (intA r_11.2.h)], .row (flat tConflictEdge.enc l5)]) rfl ?_
    refine TO_nil ?_
    refine te [(0, (.b 0 0)), (4, (intA r_1.1)), (5, (.m [1] 0 l5.length tConflictEdge.k)), (6, (intA (w64 (2 + r_3.1)))), (7, (intA (i_5 : Int))), (8, (intA (k_8 : Int))), (29, (boolA r_11.1))] rfl ?_
    refine T_cond (t := r_11.1) rfl (fun c_13 => ?_) (fun c_13 => ?_)
    ·replace H := cond_t c_13 H
     refine T_region ?_
     refine Tp rfl rfl (pur_move rfl) rfl ?_
     refine Tp rfl rfl (pur_move rfl) rfl ?_
     refine Tp rfl rfl (pur_move rfl) rfl ?_
     refine Tp rfl rfl (pur_build bld52 rfl rfl) rfl ?_
     refine TO_cons rfl (TOp_lit (nn := 1) (k := 2) sl25 zero52 rfl rfl rfl rfl (by decide) ?_)
     refine TO_st (σ' := [.box [(sl (tI .u8) r_11.2.b), (intA r_11.2.i), (intA r_11.2.h)], .row (flat tConflictEdge.enc l5), .row (flat tConflictEdge.enc ([({ a := (i_5 : Int), b := (k_8 : Int) } : ConflictEdge)] : (List ConflictEdge)))]) rfl ?_
     obtain ⟨us_14, h_15, H⟩ := bind_inv H
     refine TO_cons rfl (TOp_appZ (T := tConflictEdge) (f := tConflictEdge.enc) (xs := l5) (ys := ([({ a := (i_5 : Int), b := (k_8 : Int) } : ConflictEdge)] : (List ConflictEdge))) tConflictEdge.len sl25 zero52 rfl bytes52 (by decide) rfl rfl rfl rfl (src_mT (f := tConflictEdge.enc) tConflictEdge.len rfl rfl (flat_cell tConflictEdge _)) (flat_cell tConflictEdge _) h_15 (lb rfl) ?_)
     refine toe [(0, (.b 0 0)), (4, (intA r_1.1)), (6, (intA (w64 (2 + r_3.1)))), (7, (intA (i_5 : Int))), (8, (intA (k_8 : Int))), (29, (boolA r_11.1)), (31, (intA (i_5 : Int))), (32, (intA (k_8 : Int))), (33, (.g [(intA (i_5 : Int)), (intA (k_8 : Int))])), (34, (.m [2] 0 ([({ a := (i_5 : Int), b := (k_8 : Int) } : ConflictEdge)] : (List ConflictEdge)).length tConflictEdge.k)), (35, (.m [1] 0 us_14.length tConflictEdge.k))] rfl ?_
     refine TO_st (σ' := [.box [(sl (tI .u8) r_11.2.b), (intA r_11.2.i), (intA r_11.2.h)], .row (flat tConflictEdge.enc us_14), .row (flat tConflictEdge.enc ([({ a := (i_5 : Int), b := (k_8 : Int) } : ConflictEdge)] : (List ConflictEdge))), .dead]) rfl ?_
     refine Tp rfl rfl (pur_assign rfl) rfl ?_
     refine TO_nil ?_
     refine te [(0, (.b 0 0)), (4, (intA r_1.1)), (5, (.m [1] 0 us_14.length tConflictEdge.k)), (6, (intA (w64 (2 + r_3.1)))), (7, (intA (i_5 : Int))), (8, (intA (k_8 : Int)))] rfl ?_
     refine T_region ?_
     refine Tp rfl rfl (pur_move rfl) rfl ?_
     refine Tp rfl rfl (pur_add rfl rfl rfl (fits64 (by omega) (by omega))) rfl ?_
     refine Tp rfl rfl (pur_assign rfl) rfl ?_
     refine TO_nil ?_
     obtain rfl := some_inj H
     exact again (r_1.1 - (k_8 + 1)).toNat (k_8 + 1, (us_14, r_11.2)) (by omega) (wp 2 (lb rfl) rfl rfl rfl rfl rfl) ⟨rfl, by omega, K9_⟩
    ·replace H := cond_f c_13 H
     refine T_skip ?_
     refine te [(0, (.b 0 0)), (4, (intA r_1.1)), (5, (.m [1] 0 l5.length tConflictEdge.k)), (6, (intA (w64 (2 + r_3.1)))), (7, (intA (i_5 : Int))), (8, (intA (k_8 : Int)))] rfl ?_
     refine T_region ?_
     refine Tp rfl rfl (pur_move rfl) rfl ?_
     refine Tp rfl rfl (pur_add rfl rfl rfl (fits64 (by omega) (by omega))) rfl ?_
     refine Tp rfl rfl (pur_assign rfl) rfl ?_
     refine TO_nil ?_
     obtain rfl := some_inj H
     exact again (r_1.1 - (k_8 + 1)).toNat (k_8 + 1, (l5, r_11.2)) (by omega) (wp 2 (lb rfl) rfl rfl rfl rfl rfl) ⟨rfl, by omega, K9_⟩
   ·replace d9 := of_decide_eq_false d9
    obtain rfl := forM_end L9_ (by omega)
    refine T_exit ?_
    refine then_exit ?_
    refine then_exit ?_
    refine block_exit ?_
    replace H := N9_
    refine te [(0, (.b 0 0)), (4, (intA r_1.1)), (5, (.m [1] 0 l5.length tConflictEdge.k)), (6, (intA (w64 (2 + r_3.1)))), (7, (intA (i_5 : Int)))] rfl ?_
    refine T_region ?_
    refine Tp rfl rfl (pur_move rfl) rfl ?_
    refine Tp rfl rfl (pur_add rfl rfl rfl (fits64 (by omega) (by omega))) rfl ?_
    refine Tp rfl rfl (pur_assign rfl) rfl ?_
    refine TO_nil ?_
    obtain rfl := some_inj H
    exact again (r_1.1 - (i_5 + 1)).toNat (i_5 + 1, (l5, box0)) (by omega) (wp 2 (lb rfl) rfl rfl rfl rfl rfl) ⟨rfl, by omega, K6_⟩
  ·replace d6 := of_decide_eq_false d6
   obtain rfl := forM_end L6_ (by omega)
   refine T_exit ?_
   refine then_exit ?_
   refine then_exit ?_
   refine block_exit ?_
   replace H := N6_
   refine te [(0, (.b 0 0)), (4, (intA r_1.1)), (5, (.m [1] 0 l5.length tConflictEdge.k))] rfl ?_
   refine T_seq ?_
   obtain ⟨⟨t42_16, box0_16⟩, J_16, H_17⟩ := bind_inv H
   refine T_cutX (fun x => (t42_16, box0_16) = x) (fun (x_ : Bool × l1Cur) => [(0, (.b 0 0)), (4, (intA r_1.1)), (5, (.m [1] 0 l5.length tConflictEdge.k)), (42, (boolA x_.1))]) (fun (x_ : Bool × l1Cur) => [.box [(sl (tI .u8) x_.2.b), (intA x_.2.i), (intA x_.2.h)], .row (flat tConflictEdge.enc l5)]) ?_ ?_
   ·replace H := J_16
    refine T_region ?_
    refine Tp rfl rfl (pur_move rfl) rfl ?_
    refine Tp rfl rfl (pur_len_m sl25 rfl rfl) rfl ?_
    refine Tp rfl rfl (pur_gtr rfl rfl rfl) rfl ?_
    refine Tp rfl rfl (pur_move rfl) rfl ?_
    refine TO_split (t := decide (0 < (l5.length : Int))) 39 rfl (fun g_18 => ?_) (fun g_18 => ?_)
    ·replace H := cond_t g_18 H
     refine TO_on rfl rfl (by decide) rfl rfl (TOp_pure (pur_move rfl) rfl ?_)
     obtain ⟨r_19, h_20, H⟩ := bind_inv H
     refine TO_on rfl rfl (by decide) rfl rfl (TOp_callS [0] (call_static ent63 rfl) (by decide) rfl rfl rfl rfl rfl rfl (m_spec_l1Once_x _ _ _ h_20) rfl rfl ?_)
     refine toe [(0, (.b 0 0)), (4, (intA r_1.1)), (5, (.m [1] 0 l5.length tConflictEdge.k)), (36, (.m [1] 0 l5.length tConflictEdge.k)), (37, (intA (l5.length : Int))), (38, (boolA (decide (0 < (l5.length : Int))))), (39, (boolA true)), (40, (.b 0 0)), (41, (boolA r_19.1))] rfl ?_
     refine TO_st (σ' := [.box [(sl (tI .u8) r_19.2.b), (intA r_19.2.i), (intA r_19.2.h)], .row (flat tConflictEdge.enc l5)]) rfl ?_
     refine Tp rfl rfl (pur_pick (t := true) rfl rfl rfl) rfl ?_
     refine TO_nil ?_
     exact joined (r_19.1, r_19.2) (wp 2 (lb rfl) rfl rfl rfl rfl rfl) (some_inj H).symm
    ·replace H := cond_f g_18 H
     refine TO_off rfl rfl (by decide) rfl rfl rfl ?_
     refine TO_off rfl rfl (by decide) rfl rfl rfl ?_
     refine Tp rfl rfl (pur_pick (t := false) rfl rfl rfl) rfl ?_
     refine TO_nil ?_
     exact joined (false, box0) (wp 2 (lb rfl) rfl rfl rfl rfl rfl) (some_inj H).symm
   ·rintro _ rfl
    replace H := H_17
    refine te [(0, (.b 0 0)), (4, (intA r_1.1)), (5, (.m [1] 0 l5.length tConflictEdge.k)), (42, (boolA t42_16))] rfl ?_
    refine T_cond (t := t42_16) rfl (fun c_21 => ?_) (fun c_21 => ?_)
    ·replace H := cond_t c_21 H
     refine T_region ?_
     refine Tp rfl rfl (pur_move rfl) rfl ?_
     refine Tp rfl rfl (pur_move rfl) rfl ?_
     refine Tp rfl rfl (pur_move rfl) rfl ?_
     refine Tp rfl rfl (pur_len_m sl25 rfl rfl) rfl ?_
     obtain ⟨r_22, h_23, H⟩ := bind_inv H
     refine TO_cons rfl (TOp_callS [0] (call_static ent64 rfl) (by decide) rfl rfl rfl rfl rfl rfl (m_spec_l1Below_x _ _ _ h_23) rfl rfl ?_)
     refine toe [(0, (.b 0 0)), (4, (intA r_1.1)), (5, (.m [1] 0 l5.length tConflictEdge.k)), (42, (boolA t42_16)), (43, (.m [1] 0 l5.length tConflictEdge.k)), (44, (.b 0 0)), (45, (.m [1] 0 l5.length tConflictEdge.k)), (46, (intA (l5.length : Int))), (47, (intA r_22.1))] rfl ?_
     refine TO_st (σ' := [.box [(sl (tI .u8) r_22.2.b), (intA r_22.2.i), (intA r_22.2.h)], .row (flat tConflictEdge.enc l5)]) rfl ?_
     refine Tp rfl rfl (pur_move rfl) rfl ?_
     refine Tp rfl rfl (pur_move rfl) rfl ?_
     refine Tp rfl rfl (pur_wadd rfl rfl rfl) rfl ?_
     refine toe [(4, (intA r_1.1)), (5, (.m [1] 0 l5.length tConflictEdge.k)), (43, (.m [1] 0 l5.length tConflictEdge.k)), (47, (intA r_22.1)), (48, (.b 0 0)), (50, (intA (w64 (r_1.1 + 2))))] rfl ?_
     obtain ⟨r_24, h_25, H⟩ := bind_inv H
     refine TO_cons rfl (TOp_callS [0] (call_static ent64 rfl) (by decide) rfl rfl rfl rfl rfl rfl (m_spec_l1Below_x _ _ _ h_25) rfl rfl ?_)
     refine toe [(4, (intA r_1.1)), (5, (.m [1] 0 l5.length tConflictEdge.k)), (43, (.m [1] 0 l5.length tConflictEdge.k)), (47, (intA r_22.1)), (48, (.b 0 0)), (50, (intA (w64 (r_1.1 + 2)))), (51, (intA r_24.1))] rfl ?_
     refine TO_st (σ' := [.box [(sl (tI .u8) r_24.2.b), (intA r_24.2.i), (intA r_24.2.h)], .row (flat tConflictEdge.enc l5)]) rfl ?_
     refine Tp rfl rfl (pur_wsub rfl rfl rfl) rfl ?_
     obtain ⟨v_26, h_27, H⟩ := bind_inv H
     obtain ⟨n_28, hz_29, hv_30⟩ := getI_inv h_27
     refine Tp rfl rfl (pur_ixM (T := tConflictEdge) sl25 rfl rfl hz_29 hv_30 rfl) rfl ?_
     refine Tp rfl rfl (pur_fa_e fld52_1 rfl rfl) rfl ?_
     refine TO_cons rfl (TOp_setP (f := tConflictEdge.enc) (k := tConflictEdge.k) (off := 1) (z := r_22.1) tConflictEdge.len ({ a := v_26.a, b := (w64 (r_24.1 - 1)) } : ConflictEdge) hz_29 sz3 (by decide) rfl rfl rfl rfl rfl hv_30 rfl rfl (by decide) rfl rfl ?_)
     refine TO_env (E' := [(4, (intA r_1.1)), (5, (.m [1] 0 (l5.set (r_22.1).toNat ({ a := v_26.a, b := (w64 (r_24.1 - 1)) } : ConflictEdge)).length tConflictEdge.k)), (43, (.m [1] 0 (l5.set (r_22.1).toNat ({ a := v_26.a, b := (w64 (r_24.1 - 1)) } : ConflictEdge)).length tConflictEdge.k)), (47, (intA r_22.1)), (48, (.b 0 0)), (50, (intA (w64 (r_1.1 + 2)))), (51, (intA r_24.1)), (52, (intA (w64 (r_24.1 - 1))))]) ⟨rfl, (congrArg (fun q => A.m [1] 0 q tConflictEdge.k) (List.length_set ..).symm), (congrArg (fun q => A.m [1] 0 q tConflictEdge.k) (List.length_set ..).symm), rfl, rfl, rfl, rfl, rfl, trivial⟩ ?_
     refine TO_st (σ' := [.box [(sl (tI .u8) r_24.2.b), (intA r_24.2.i), (intA r_24.2.h)], .row (flat tConflictEdge.enc (l5.set (r_22.1).toNat ({ a := v_26.a, b := (w64 (r_24.1 - 1)) } : ConflictEdge)))]) rfl ?_
     refine TO_nil ?_
     refine te [(4, (intA r_1.1)), (5, (.m [1] 0 (l5.set (r_22.1).toNat ({ a := v_26.a, b := (w64 (r_24.1 - 1)) } : ConflictEdge)).length tConflictEdge.k))] rfl ?_
     refine sr ?_
     refine Tp rfl rfl (pur_move rfl) rfl ?_
     refine Tp rfl rfl (pur_move rfl) rfl ?_
     refine Tp rfl rfl (pur_assign rfl) rfl ?_
     refine Tp rfl rfl (pur_assign rfl) rfl ?_
     refine TO_nil ?_
     refine te [(2, (intA r_1.1)), (3, (.m [1] 0 (l5.set (r_22.1).toNat ({ a := v_26.a, b := (w64 (r_24.1 - 1)) } : ConflictEdge)).length tConflictEdge.k))] rfl ?_
     refine T_ret ?_
     obtain rfl := some_inj H
     exact end_pickX (.tmp (.tmp .nil)) rfl [0, 1] (by decide) (lb rfl) rfl (lb rfl) rfl rfl rfl rfl rfl rfl
    ·replace H := cond_f c_21 H
     refine T_skip ?_
     refine te [(4, (intA r_1.1)), (5, (.m [1] 0 l5.length tConflictEdge.k))] rfl ?_
     refine sr ?_
     refine Tp rfl rfl (pur_move rfl) rfl ?_
     refine Tp rfl rfl (pur_move rfl) rfl ?_
     refine Tp rfl rfl (pur_assign rfl) rfl ?_
     refine Tp rfl rfl (pur_assign rfl) rfl ?_
     refine TO_nil ?_
     refine te [(2, (intA r_1.1)), (3, (.m [1] 0 l5.length tConflictEdge.k))] rfl ?_
     refine T_ret ?_
     obtain rfl := some_inj H
     exact end_pickX (.tmp (.tmp .nil)) rfl [0, 1] (by decide) (lb rfl) rfl (lb rfl) rfl rfl rfl rfl rfl rfl
end Go.Proofs.Ytglgcncmjnjfgaa

/- Walks. -/
import Derived.Test.YtglgcncmjnjfgaaM1
import Derived.Test.YtglgcncmjnjfgaaM2
import Derived.Test.YtglgcncmjnjfgaaM3
import Derived.Test.YtglgcncmjnjfgaaM4
import Derived.Test.YtglgcncmjnjfgaaM5
set_option linter.unusedVariables false
set_option linter.unusedSimpArgs false
set_option maxRecDepth 4000
namespace Go.Proofs.Ytglgcncmjnjfgaa
open Go Go.Proofs Go.Sep
set_option maxHeartbeats 1000000 in
/-- spec.ExtendToMaximal -/
theorem m_spec_ExtendToMaximal_own (u : Nat) (n0 : Int) (l1 : (List ConflictEdge)) (s2 : (List Int)) (r : ((List Int) × Bool)) (H : m_spec_ExtendToMaximal u n0 l1 s2 = some r) : FnO prg 65 [(intA n0), (sl tConflictEdge l1), (sl tInt s2)] (.t [(.m [0] 0 r.1.length tInt.k), (boolA r.2)]) [.row (flat tInt.own r.1)] := by
  unfold m_spec_ExtendToMaximal at H
  refine fnO_of_T Try.func65 rfl rfl (Nat.le_of_ble_eq_true rfl) ?_
  refine te [(0, (intA n0)), (1, (sl tConflictEdge l1)), (2, (sl tInt s2))] rfl ?_
  refine sr ?_
  refine Tp rfl rfl (pur_assign rfl) rfl ?_
  refine Tp rfl rfl (pur_assign rfl) rfl ?_
  refine TO_nil ?_
  refine te [(0, (intA n0)), (1, (sl tConflictEdge l1)), (2, (sl tInt s2))] rfl ?_
  refine T_seq ?_
  obtain ⟨t25_1, J_1, H_2⟩ := bind_inv H
  refine T_cutX (fun x => t25_1 = x) (fun (t25_1 : Bool) => [(0, (intA n0)), (1, (sl tConflictEdge l1)), (2, (sl tInt s2)), (25, (boolA t25_1))]) (fun (t25_1 : Bool) => []) ?_ ?_
  ·replace H := J_1
   refine T_region ?_
   refine Tp rfl rfl (pur_move rfl) rfl ?_
   refine Tp rfl rfl (pur_move rfl) rfl ?_
   obtain ⟨r_3, h_4, H⟩ := bind_inv H
   refine TO_cons rfl (TOp_callV (call_static ent45 rfl) (m_spec_AreValidEdges_ok _ _ _ h_4) rfl rfl rfl ?_)
   refine Tp rfl rfl (pur_not rfl rfl) rfl ?_
   refine Tp rfl rfl (pur_move rfl) rfl ?_
   refine TO_split (t := (!r_3)) 14 rfl (fun g_5 => ?_) (fun g_5 => ?_)
   ·replace H := cond_t g_5 H
    refine TO_off rfl rfl (by decide) rfl rfl rfl ?_
    refine TO_off rfl rfl (by decide) rfl rfl rfl ?_
    refine TO_off rfl rfl (by decide) rfl rfl rfl ?_
    refine TO_off rfl rfl (by decide) rfl rfl rfl ?_
    refine Tp rfl rfl (pur_pick (t := true) rfl rfl rfl) rfl ?_
    refine Tp rfl rfl (pur_move rfl) rfl ?_
    refine TO_off rfl rfl (by decide) rfl rfl rfl ?_
    refine TO_off rfl rfl (by decide) rfl rfl rfl ?_
    refine toe [(0, (intA n0)), (1, (sl tConflictEdge l1)), (2, (sl tInt s2)), (20, (boolA true)), (21, (.v undef)), (22, (.v undef))] rfl ?_
    refine TO_off rfl rfl (by decide) rfl rfl rfl ?_
    refine TO_off rfl rfl (by decide) rfl rfl rfl ?_
    refine Tp rfl rfl (pur_pick (t := true) rfl rfl rfl) rfl ?_
    refine TO_nil ?_
    exact joined true (wp 0 (lb rfl) rfl rfl rfl rfl rfl) (some_inj H).symm
   ·replace H := cond_f g_5 H
    refine TO_on rfl rfl (by decide) rfl rfl (TOp_pure (pur_move rfl) rfl ?_)
    refine TO_on rfl rfl (by decide) rfl rfl (TOp_pure (pur_move rfl) rfl ?_)
    obtain ⟨r_6, h_7, H⟩ := bind_inv H
    refine TO_on rfl rfl (by decide) rfl rfl (TOp_callV (call_static ent49 rfl) (m_spec_l8Set_ok _ _ _ h_7) rfl rfl rfl ?_)
    refine TO_on rfl rfl (by decide) rfl rfl (TOp_pure (pur_not rfl rfl) rfl ?_)
    refine Tp rfl rfl (pur_pick (t := false) rfl rfl rfl) rfl ?_
    refine Tp rfl rfl (pur_move rfl) rfl ?_
    refine TO_split (t := (!r_6)) 20 rfl (fun g_8 => ?_) (fun g_8 => ?_)
    ·replace H := cond_t g_8 H
     refine TO_off rfl rfl (by decide) rfl rfl rfl ?_
     refine TO_off rfl rfl (by decide) rfl rfl rfl ?_
     refine TO_off rfl rfl (by decide) rfl rfl rfl ?_
     refine TO_off rfl rfl (by decide) rfl rfl rfl ?_
     refine Tp rfl rfl (pur_pick (t := true) rfl rfl rfl) rfl ?_
     refine TO_nil ?_
     exact joined true (wp 0 (lb rfl) rfl rfl rfl rfl rfl) (some_inj H).symm
    ·replace H := cond_f g_8 H
     refine TO_on rfl rfl (by decide) rfl rfl (TOp_pure (pur_move rfl) rfl ?_)
     refine TO_on rfl rfl (by decide) rfl rfl (TOp_pure (pur_move rfl) rfl ?_)
     obtain ⟨r_9, h_10, H⟩ := bind_inv H
     refine TO_on rfl rfl (by decide) rfl rfl (TOp_callV (call_static ent80 rfl) (m_spec_IsIndependent_ok _ _ _ h_10) rfl rfl rfl ?_)
     refine TO_on rfl rfl (by decide) rfl rfl (TOp_pure (pur_not rfl rfl) rfl ?_)
     refine Tp rfl rfl (pur_pick (t := false) rfl rfl rfl) rfl ?_
     refine TO_nil ?_
     exact joined (!r_9) (wp 0 (lb rfl) rfl rfl rfl rfl rfl) (some_inj H).symm
  ·rintro _ rfl
   replace H := H_2
   refine te [(0, (intA n0)), (1, (sl tConflictEdge l1)), (2, (sl tInt s2)), (25, (boolA t25_1))] rfl ?_
   refine T_cond (t := t25_1) rfl (fun c_11 => ?_) (fun c_11 => ?_)
   ·replace H := cond_t c_11 H
    refine sr ?_
    refine TO_cons rfl (TOp_lit (nn := 0) (k := 1) sl31 zero3 rfl rfl rfl rfl (by decide) ?_)
    refine TO_st (σ' := [.row (flat tInt.enc ([] : (List Int)))]) rfl ?_
    refine Tp rfl rfl (pur_assign rfl) rfl ?_
    refine Tp rfl rfl (pur_assign rfl) rfl ?_
    refine TO_nil ?_
    refine te [(6, (.m [0] 0 ([] : (List Int)).length tInt.k)), (7, (boolA false))] rfl ?_
    refine T_ret ?_
    refine then_ret ?_
    obtain rfl := some_inj H
    exact end_pick (.tmp (.tmp .nil)) rfl [0] (by decide) rfl rfl rfl rfl rfl rfl
   ·replace H := cond_f c_11 H
    refine T_skip ?_
    refine te [(0, (intA n0)), (1, (sl tConflictEdge l1)), (2, (sl tInt s2))] rfl ?_
    refine sr ?_
    refine TO_cons rfl (TOp_lit (nn := 0) (k := 1) sl31 zero3 rfl rfl rfl rfl (by decide) ?_)
    refine TO_st (σ' := [.row (flat tInt.enc ([] : (List Int)))]) rfl ?_
    refine Tp rfl rfl (pur_move rfl) rfl ?_
    obtain ⟨us_12, h_13, H⟩ := bind_inv H
    refine TO_cons rfl (TOp_appZ (T := tInt) (f := tInt.enc) (xs := ([] : (List Int))) (ys := s2) tInt.len sl31 zero3 rfl bytes3 (by decide) rfl rfl rfl rfl (src_T (T := tInt) rfl) (flat_cell tInt _) h_13 (lb rfl) ?_)
    refine toe [(0, (intA n0)), (1, (sl tConflictEdge l1)), (2, (sl tInt s2)), (28, (sl tInt s2)), (29, (.m [0] 0 us_12.length tInt.k))] rfl ?_
    refine TO_st (σ' := [.row (flat tInt.enc us_12), .dead]) rfl ?_
    refine Tp rfl rfl (pur_assign rfl) rfl ?_
    refine TO_nil ?_
    refine te [(0, (intA n0)), (1, (sl tConflictEdge l1)), (8, (.m [0] 0 us_12.length tInt.k))] rfl ?_
    refine T_seq ?_
    refine sr ?_
    refine Tp rfl rfl (pur_assign rfl) rfl ?_
    refine TO_nil ?_
    refine te [(0, (intA n0)), (1, (sl tConflictEdge l1)), (8, (.m [0] 0 us_12.length tInt.k)), (9, (intA 0))] rfl ?_
    obtain ⟨_, h_16, H⟩ := bind_inv H
    replace h_16 := gN_inv h_16
    obtain ⟨O15_, L15_, N15_⟩ := bind_inv H
    clear H
    obtain ⟨B15_, hb15, L15_⟩ := gen_forM L15_
    refine T_block ?_
    refine T_loopX (fun k => fun (x_ : Int × (List Int)) => k = (n0 - x_.1).toNat ∧ 0 ≤ x_.1 ∧ forM B15_ (n0 - x_.1).toNat x_.1 x_.2 = some O15_) (fun (x_ : Int × (List Int)) => [(0, (intA n0)), (1, (sl tConflictEdge l1)), (8, (.m [0] 0 x_.2.length tInt.k)), (9, (intA (x_.1 : Int)))]) (fun (x_ : Int × (List Int)) => [.row (flat tInt.enc x_.2), .dead]) _ (0, us_12) (wp 2 (lb rfl) rfl rfl rfl rfl rfl) ⟨rfl, Int.le_refl _, L15_⟩ ?_
    rintro _ ⟨x_14, out8⟩ ⟨rfl, hi15, L15_⟩
    refine te [(0, (intA n0)), (1, (sl tConflictEdge l1)), (8, (.m [0] 0 out8.length tInt.k)), (9, (intA (x_14 : Int)))] rfl ?_
    refine T_st (σ' := [.row (flat tInt.enc out8), .dead]) rfl ?_
    refine T_seq ?_
    refine sr ?_
    refine Tp rfl rfl (pur_move rfl) rfl ?_
    refine Tp rfl rfl (pur_move rfl) rfl ?_
    refine Tp rfl rfl (pur_lss rfl rfl rfl) rfl ?_
    refine TO_nil ?_
    refine te [(0, (intA n0)), (1, (sl tConflictEdge l1)), (8, (.m [0] 0 out8.length tInt.k)), (9, (intA (x_14 : Int))), (32, (boolA (decide ((x_14 : Int) < n0))))] rfl ?_
    refine T_cond (t := decide ((x_14 : Int) < n0)) rfl (fun d15 => ?_) (fun d15 => ?_)
    ·replace d15 := of_decide_eq_true d15
     obtain ⟨C15_, H, K15_⟩ := forM_step L15_ d15
     rw [hb15] at H
     refine T_skip ?_
     refine te [(0, (intA n0)), (1, (sl tConflictEdge l1)), (8, (.m [0] 0 out8.length tInt.k)), (9, (intA (x_14 : Int)))] rfl ?_
     refine T_seq ?_
     refine T_block ?_
     refine sr ?_
     refine Tp rfl rfl (pur_move rfl) rfl ?_
     refine Tp rfl rfl (pur_move rfl) rfl ?_
     refine Tp rfl rfl (pur_move rfl) rfl ?_
     obtain ⟨r_17, h_18, H⟩ := bind_inv H
     refine TO_cons rfl (TOp_callB (call_static ent81 rfl) (frz_cons (frz_loose rfl) (frz_cons (frzTE (T := tInt) rfl) (frz_cons (frz_loose rfl) frz_nil))).1 (frz_cons (frz_loose rfl) (frz_cons (frzTE (T := tInt) rfl) (frz_cons (frz_loose rfl) frz_nil))).2 (m_spec_l8Fits_ok _ _ _ _ h_18) rfl ?_)
     refine TO_nil ?_
     refine te [(0, (intA n0)), (1, (sl tConflictEdge l1)), (8, (.m [0] 0 out8.length tInt.k)), (9, (intA (x_14 : Int))), (38, (boolA r_17))] rfl ?_
     refine T_cond (t := r_17) rfl (fun c_19 => ?_) (fun c_19 => ?_)
     ·replace H := cond_t c_19 H
      refine T_region ?_
      refine Tp rfl rfl (pur_move rfl) rfl ?_
      refine Tp rfl rfl (pur_move rfl) rfl ?_
      refine TO_cons rfl (TOp_lit (nn := 1) (k := 1) sl31 zero3 rfl rfl rfl rfl (by decide) ?_)
      refine TO_st (σ' := [.row (flat tInt.enc out8), .dead, .row (flat tInt.enc ([(x_14 : Int)] : (List Int)))]) rfl ?_
      obtain ⟨us_20, h_21, H⟩ := bind_inv H
      refine TO_cons rfl (TOp_appZ (T := tInt) (f := tInt.enc) (xs := out8) (ys := ([(x_14 : Int)] : (List Int))) tInt.len sl31 zero3 rfl bytes3 (by decide) rfl rfl rfl rfl (src_mT (f := tInt.enc) tInt.len rfl rfl (flat_cell tInt _)) (flat_cell tInt _) h_21 (lb rfl) ?_)
      refine toe [(0, (intA n0)), (1, (sl tConflictEdge l1)), (9, (intA (x_14 : Int))), (38, (boolA r_17)), (40, (intA (x_14 : Int))), (41, (.m [2] 0 ([(x_14 : Int)] : (List Int)).length tInt.k)), (42, (.m [0] 0 us_20.length tInt.k))] rfl ?_
      refine TO_st (σ' := [.row (flat tInt.enc us_20), .dead, .row (flat tInt.enc ([(x_14 : Int)] : (List Int))), .dead]) rfl ?_
      refine Tp rfl rfl (pur_assign rfl) rfl ?_
      refine TO_nil ?_
      refine te [(0, (intA n0)), (1, (sl tConflictEdge l1)), (8, (.m [0] 0 us_20.length tInt.k)), (9, (intA (x_14 : Int)))] rfl ?_
      refine T_region ?_
      refine Tp rfl rfl (pur_move rfl) rfl ?_
      refine Tp rfl rfl (pur_add rfl rfl rfl (fits64 (by omega) (by omega))) rfl ?_
      refine Tp rfl rfl (pur_assign rfl) rfl ?_
      refine TO_nil ?_
      obtain rfl := some_inj H
      exact again (n0 - (x_14 + 1)).toNat (x_14 + 1, us_20) (by omega) (wp 2 (lb rfl) rfl rfl rfl rfl rfl) ⟨rfl, by omega, K15_⟩
     ·replace H := cond_f c_19 H
      refine T_skip ?_
      refine te [(0, (intA n0)), (1, (sl tConflictEdge l1)), (8, (.m [0] 0 out8.length tInt.k)), (9, (intA (x_14 : Int)))] rfl ?_
      refine T_region ?_
      refine Tp rfl rfl (pur_move rfl) rfl ?_
      refine Tp rfl rfl (pur_add rfl rfl rfl (fits64 (by omega) (by omega))) rfl ?_
      refine Tp rfl rfl (pur_assign rfl) rfl ?_
      refine TO_nil ?_
      obtain rfl := some_inj H
      exact again (n0 - (x_14 + 1)).toNat (x_14 + 1, out8) (by omega) (wp 2 (lb rfl) rfl rfl rfl rfl rfl) ⟨rfl, by omega, K15_⟩
    ·replace d15 := of_decide_eq_false d15
     obtain rfl := forM_end L15_ (by omega)
     refine T_exit ?_
     refine then_exit ?_
     refine then_exit ?_
     refine block_exit ?_
     replace H := N15_
     refine te [(8, (.m [0] 0 out8.length tInt.k))] rfl ?_
     refine sr ?_
     refine Tp rfl rfl (pur_move rfl) rfl ?_
     obtain ⟨r_22, h_23, H⟩ := bind_inv H
     refine TO_cons rfl (TOp_callOG (call_static ent71 rfl) (frz_cons (frzTE (T := tInt) rfl) frz_nil).1 (frz_cons (frzTE (T := tInt) rfl) frz_nil).2 (m_spec_l7Sorted_own u _ _ h_23) rfl (ownC_of (ownSB_cons (flat_ownR tInt _) ownSB_nil)) rfl rfl rfl ?_)
     refine toe [(8, (.m [0] 0 out8.length tInt.k)), (43, (.m [0] 0 out8.length tInt.k)), (44, (.m [2] 0 r_22.length tInt.k))] rfl ?_
     refine TO_st (σ' := [.row (flat tInt.enc out8), .dead, .row (flat tInt.own r_22)]) rfl ?_
     refine Tp rfl rfl (pur_assign rfl) rfl ?_
     refine Tp rfl rfl (pur_assign rfl) rfl ?_
     refine TO_nil ?_
     refine te [(6, (.m [2] 0 r_22.length tInt.k)), (7, (boolA true))] rfl ?_
     refine T_ret ?_
     obtain rfl := some_inj H
     exact end_pick (.tmp (.tmp .nil)) rfl [2] (by decide) rfl rfl rfl rfl rfl rfl
theorem m_spec_ExtendToMaximal_ok (u : Nat) (n0 : Int) (l1 : (List ConflictEdge)) (s2 : (List Int)) (r : ((List Int) × Bool)) (H : m_spec_ExtendToMaximal u n0 l1 s2 = some r) : FnV prg 65 [(intA n0), (sl tConflictEdge l1), (sl tInt s2)] (.t [(sl tInt r.1), (boolA r.2)]) := (m_spec_ExtendToMaximal_own u n0 l1 s2 r H).frz (frzOK_t (frz_cons (frzT (T := tInt) rfl) (frz_cons (frz_loose rfl) frz_nil)).1 (frz_cons (frzT (T := tInt) rfl) (frz_cons (frz_loose rfl) frz_nil)).2)

set_option maxHeartbeats 1000000 in
/-- spec.DrawIsParetoOptimal -/
theorem m_spec_DrawIsParetoOptimal_ok (u : Nat) (code0 : (List Int)) (r : (Int × (List ConflictEdge) × (List ConflictEdge) × (List Int))) (H : m_spec_DrawIsParetoOptimal u code0 = some r) : FnV prg 35 [(sl (tI .u8) code0)] (.t [(intA r.1), (sl tConflictEdge r.2.1), (sl tConflictEdge r.2.2.1), (sl tInt r.2.2.2)]) := by
  unfold m_spec_DrawIsParetoOptimal at H
  refine fnV_of_T Try.func35 rfl rfl (Nat.le_of_ble_eq_true rfl) ?_
  refine te [(0, (sl (tI .u8) code0))] rfl ?_
  refine sr ?_
  refine Tp rfl rfl (pur_assign rfl) rfl ?_
  refine Tp rfl rfl (pur_assign rfl) rfl ?_
  refine Tp rfl rfl (pur_assign rfl) rfl ?_
  refine Tp rfl rfl (pur_assign rfl) rfl ?_
  refine TO_nil ?_
  refine te [(0, (sl (tI .u8) code0))] rfl ?_
  refine sr ?_
  refine Tp rfl rfl (pur_move rfl) rfl ?_
  obtain ⟨r_1, h_2, H⟩ := bind_inv H
  refine TO_cons rfl (TOp_callS [] (call_static ent60 rfl) (by decide) rfl rfl rfl rfl rfl rfl (m_spec_l1New_x u _ _ h_2) rfl rfl ?_)
  refine toe [(0, (sl (tI .u8) code0)), (12, (sl (tI .u8) code0)), (13, (.b 0 0))] rfl ?_
  refine TO_st (σ' := [.box [(sl (tI .u8) r_1.b), (intA r_1.i), (intA r_1.h)]]) rfl ?_
  refine Tp rfl rfl (pur_assign rfl) rfl ?_
  refine TO_nil ?_
  refine te [(6, (.b 0 0))] rfl ?_
  refine sr ?_
  refine Tp rfl rfl (pur_move rfl) rfl ?_
  obtain ⟨r_3, h_4, H⟩ := bind_inv H
  refine TO_cons rfl (TOp_callS [0] (call_static ent61 rfl) (by decide) rfl rfl rfl rfl rfl rfl (m_spec_l28Draw_x _ _ _ h_4) rfl rfl ?_)
  refine toe [(6, (.b 0 0)), (15, (.b 0 0)), (16, (.t [(intA r_3.1.1), (.m [1] 0 r_3.1.2.1.length tConflictEdge.k), (.m [2] 0 r_3.1.2.2.length tConflictEdge.k)]))] rfl ?_
  refine TO_st (σ' := [.box [(sl (tI .u8) r_3.2.b), (intA r_3.2.i), (intA r_3.2.h)], .row (flat tConflictEdge.enc r_3.1.2.1), .row (flat tConflictEdge.enc r_3.1.2.2)]) rfl ?_
  refine Tp rfl rfl (pur_move rfl) rfl ?_
  refine Tp rfl rfl (pur_extract rfl rfl rfl) rfl ?_
  refine Tp rfl rfl (pur_extract rfl rfl rfl) rfl ?_
  refine Tp rfl rfl (pur_extract rfl rfl rfl) rfl ?_
  refine Tp rfl rfl (pur_assign rfl) rfl ?_
  refine Tp rfl rfl (pur_assign rfl) rfl ?_
  refine Tp rfl rfl (pur_assign rfl) rfl ?_
  refine TO_nil ?_
  refine te [(6, (.b 0 0)), (7, (intA r_3.1.1)), (8, (.m [1] 0 r_3.1.2.1.length tConflictEdge.k)), (9, (.m [2] 0 r_3.1.2.2.length tConflictEdge.k))] rfl ?_
  refine T_seq ?_
  refine sr ?_
  refine Tp rfl rfl (pur_move rfl) rfl ?_
  obtain ⟨r_5, h_6, H⟩ := bind_inv H
  refine TO_cons rfl (TOp_callS [0] (call_static ent63 rfl) (by decide) rfl rfl rfl rfl rfl rfl (m_spec_l1Once_x _ _ _ h_6) rfl rfl ?_)
  refine toe [(6, (.b 0 0)), (7, (intA r_3.1.1)), (8, (.m [1] 0 r_3.1.2.1.length tConflictEdge.k)), (9, (.m [2] 0 r_3.1.2.2.length tConflictEdge.k)), (20, (.b 0 0)), (21, (boolA r_5.1))] rfl ?_
  refine TO_st (σ' := [.box [(sl (tI .u8) r_5.2.b), (intA r_5.2.i), (intA r_5.2.h)], .row (flat tConflictEdge.enc r_3.1.2.1), .row (flat tConflictEdge.enc r_3.1.2.2)]) rfl ?_
  refine TO_nil ?_
  refine te [(6, (.b 0 0)), (7, (intA r_3.1.1)), (8, (.m [1] 0 r_3.1.2.1.length tConflictEdge.k)), (9, (.m [2] 0 r_3.1.2.2.length tConflictEdge.k)), (21, (boolA r_5.1))] rfl ?_
  refine T_cond (t := r_5.1) rfl (fun c_7 => ?_) (fun c_7 => ?_)
  ·replace H := cond_t c_7 H
   refine sr ?_
   refine Tp rfl rfl (pur_move rfl) rfl ?_
   refine Tp rfl rfl (pur_move rfl) rfl ?_
   refine Tp rfl rfl (pur_move rfl) rfl ?_
   refine Tp rfl rfl (pur_move rfl) rfl ?_
   refine Tp rfl rfl (pur_move rfl) rfl ?_
   refine Tp rfl rfl (pur_move rfl) rfl ?_
   refine TO_frz1 1 (E' := [(6, (.b 0 0)), (7, (intA r_3.1.1)), (8, (sl tConflictEdge r_3.1.2.1)), (9, (.m [2] 0 r_3.1.2.2.length tConflictEdge.k)), (21, (boolA r_5.1)), (22, (intA r_3.1.1)), (23, (sl tConflictEdge r_3.1.2.1)), (24, (.m [2] 0 r_3.1.2.2.length tConflictEdge.k)), (25, (intA r_3.1.1)), (26, (sl tConflictEdge r_3.1.2.1)), (27, (.m [2] 0 r_3.1.2.2.length tConflictEdge.k))]) rfl rfl (lb rfl) ⟨(.keep rfl), (.keep rfl), fz1E, (.keep rfl), (.keep rfl), (.keep rfl), fz1E, (.keep rfl), (.keep rfl), fz1E, (.keep rfl), trivial⟩ ?_
   refine TO_st (σ' := [.box [(sl (tI .u8) r_5.2.b), (intA r_5.2.i), (intA r_5.2.h)], .dead, .row (flat tConflictEdge.enc r_3.1.2.2)]) rfl ?_
   refine TO_frz1 2 (E' := [(6, (.b 0 0)), (7, (intA r_3.1.1)), (8, (sl tConflictEdge r_3.1.2.1)), (9, (sl tConflictEdge r_3.1.2.2)), (21, (boolA r_5.1)), (22, (intA r_3.1.1)), (23, (sl tConflictEdge r_3.1.2.1)), (24, (sl tConflictEdge r_3.1.2.2)), (25, (intA r_3.1.1)), (26, (sl tConflictEdge r_3.1.2.1)), (27, (sl tConflictEdge r_3.1.2.2))]) rfl rfl (lb rfl) ⟨(.keep rfl), (.keep rfl), (.keep rfl), fz1E, (.keep rfl), (.keep rfl), (.keep rfl), fz1E, (.keep rfl), (.keep rfl), fz1E, trivial⟩ ?_
   refine TO_st (σ' := [.box [(sl (tI .u8) r_5.2.b), (intA r_5.2.i), (intA r_5.2.h)], .dead, .dead]) rfl ?_
   obtain ⟨r_8, h_9, H⟩ := bind_inv H
   refine TO_cons rfl (TOp_callV (call_static ent38 rfl) (m_spec_GreedyRepair_ok u _ _ _ _ h_9) rfl rfl rfl ?_)
   refine Tp rfl rfl (pur_assign rfl) rfl ?_
   refine toe [(2, (intA r_3.1.1)), (23, (sl tConflictEdge r_3.1.2.1)), (24, (sl tConflictEdge r_3.1.2.2)), (28, (sl tInt r_8))] rfl ?_
   refine Tp rfl rfl (pur_assign rfl) rfl ?_
   refine Tp rfl rfl (pur_assign rfl) rfl ?_
   refine Tp rfl rfl (pur_assign rfl) rfl ?_
   refine TO_nil ?_
   refine te [(2, (intA r_3.1.1)), (3, (sl tConflictEdge r_3.1.2.1)), (4, (sl tConflictEdge r_3.1.2.2)), (5, (sl tInt r_8))] rfl ?_
   refine T_ret ?_
   refine then_ret ?_
   obtain rfl := some_inj H
   refine end_ret (.tmp (.tmp (.tmp (.tmp .nil)))) rfl rfl ⟨?_, rfl⟩
   rfl
  ·replace H := cond_f c_7 H
   refine T_skip ?_
   refine te [(6, (.b 0 0)), (7, (intA r_3.1.1)), (8, (.m [1] 0 r_3.1.2.1.length tConflictEdge.k)), (9, (.m [2] 0 r_3.1.2.2.length tConflictEdge.k))] rfl ?_
   refine sr ?_
   refine Tp rfl rfl (pur_move rfl) rfl ?_
   refine Tp rfl rfl (pur_move rfl) rfl ?_
   refine TO_cons rfl (TOp_lit (nn := 0) (k := 1) sl31 zero3 rfl rfl rfl rfl (by decide) ?_)
   refine TO_st (σ' := [.box [(sl (tI .u8) r_5.2.b), (intA r_5.2.i), (intA r_5.2.h)], .row (flat tConflictEdge.enc r_3.1.2.1), .row (flat tConflictEdge.enc r_3.1.2.2), .row (flat tInt.enc ([] : (List Int)))]) rfl ?_
   refine TO_frz1 1 (E' := [(6, (.b 0 0)), (7, (intA r_3.1.1)), (8, (sl tConflictEdge r_3.1.2.1)), (9, (.m [2] 0 r_3.1.2.2.length tConflictEdge.k)), (30, (intA r_3.1.1)), (31, (sl tConflictEdge r_3.1.2.1)), (32, (.m [3] 0 ([] : (List Int)).length tInt.k))]) rfl rfl (lb rfl) ⟨(.keep rfl), (.keep rfl), fz1E, (.keep rfl), (.keep rfl), fz1E, (.keep rfl), trivial⟩ ?_
   refine TO_st (σ' := [.box [(sl (tI .u8) r_5.2.b), (intA r_5.2.i), (intA r_5.2.h)], .dead, .row (flat tConflictEdge.enc r_3.1.2.2), .row (flat tInt.enc ([] : (List Int)))]) rfl ?_
   refine TO_frz1 3 (E' := [(6, (.b 0 0)), (7, (intA r_3.1.1)), (8, (sl tConflictEdge r_3.1.2.1)), (9, (.m [2] 0 r_3.1.2.2.length tConflictEdge.k)), (30, (intA r_3.1.1)), (31, (sl tConflictEdge r_3.1.2.1)), (32, (sl tInt ([] : (List Int))))]) rfl rfl (lb rfl) ⟨(.keep rfl), (.keep rfl), (.keep rfl), (.keep rfl), (.keep rfl), (.keep rfl), fz1E, trivial⟩ ?_
   refine TO_st (σ' := [.box [(sl (tI .u8) r_5.2.b), (intA r_5.2.i), (intA r_5.2.h)], .dead, .row (flat tConflictEdge.enc r_3.1.2.2), .dead]) rfl ?_
   obtain ⟨r_10, h_11, H⟩ := bind_inv H
   refine TO_cons rfl (TOp_callV (call_static ent65 rfl) (m_spec_ExtendToMaximal_ok u _ _ _ _ h_11) rfl rfl rfl ?_)
   refine Tp rfl rfl (pur_move rfl) rfl ?_
   refine Tp rfl rfl (pur_extract rfl rfl rfl) rfl ?_
   refine Tp rfl rfl (pur_extract rfl rfl rfl) rfl ?_
   refine Tp rfl rfl (pur_assign rfl) rfl ?_
   refine Tp rfl rfl (pur_assign rfl) rfl ?_
   refine TO_nil ?_
   refine te [(6, (.b 0 0)), (7, (intA r_3.1.1)), (8, (sl tConflictEdge r_3.1.2.1)), (9, (.m [2] 0 r_3.1.2.2.length tConflictEdge.k)), (10, (sl tInt r_10.1)), (11, (boolA r_10.2))] rfl ?_
   refine T_seq ?_
   obtain ⟨⟨t41_12, box0_12⟩, J_12, H_13⟩ := bind_inv H
   refine T_cutX (fun x => (t41_12, box0_12) = x) (fun (x_ : Bool × l1Cur) => [(6, (.b 0 0)), (7, (intA r_3.1.1)), (8, (sl tConflictEdge r_3.1.2.1)), (9, (.m [2] 0 r_3.1.2.2.length tConflictEdge.k)), (10, (sl tInt r_10.1)), (41, (boolA x_.1))]) (fun (x_ : Bool × l1Cur) => [.box [(sl (tI .u8) x_.2.b), (intA x_.2.i), (intA x_.2.h)], .dead, .row (flat tConflictEdge.enc r_3.1.2.2)]) ?_ ?_
   ·replace H := J_12
    refine T_region ?_
    refine Tp rfl rfl (pur_move rfl) rfl ?_
    refine Tp rfl rfl (pur_not rfl rfl) rfl ?_
    refine Tp rfl rfl (pur_move rfl) rfl ?_
    refine TO_split (t := (!r_10.2)) 38 rfl (fun g_14 => ?_) (fun g_14 => ?_)
    ·replace H := cond_t g_14 H
     refine TO_off rfl rfl (by decide) rfl rfl rfl ?_
     refine TO_off rfl rfl (by decide) rfl rfl rfl ?_
     refine Tp rfl rfl (pur_pick (t := true) rfl rfl rfl) rfl ?_
     refine TO_nil ?_
     exact joined (true, r_5.2) (wp 3 (lb rfl) rfl rfl rfl rfl rfl) (some_inj H).symm
    ·replace H := cond_f g_14 H
     refine TO_on rfl rfl (by decide) rfl rfl (TOp_pure (pur_move rfl) rfl ?_)
     obtain ⟨r_15, h_16, H⟩ := bind_inv H
     refine TO_on rfl rfl (by decide) rfl rfl (TOp_callS [0] (call_static ent63 rfl) (by decide) rfl rfl rfl rfl rfl rfl (m_spec_l1Once_x _ _ _ h_16) rfl rfl ?_)
     refine toe [(6, (.b 0 0)), (7, (intA r_3.1.1)), (8, (sl tConflictEdge r_3.1.2.1)), (9, (.m [2] 0 r_3.1.2.2.length tConflictEdge.k)), (10, (sl tInt r_10.1)), (11, (boolA r_10.2)), (36, (boolA r_10.2)), (37, (boolA (!r_10.2))), (38, (boolA false)), (39, (.b 0 0)), (40, (boolA r_15.1))] rfl ?_
     refine TO_st (σ' := [.box [(sl (tI .u8) r_15.2.b), (intA r_15.2.i), (intA r_15.2.h)], .dead, .row (flat tConflictEdge.enc r_3.1.2.2), .dead]) rfl ?_
     refine Tp rfl rfl (pur_pick (t := false) rfl rfl rfl) rfl ?_
     refine TO_nil ?_
     exact joined (r_15.1, r_15.2) (wp 3 (lb rfl) rfl rfl rfl rfl rfl) (some_inj H).symm
   ·rintro _ rfl
    replace H := H_13
    refine te [(6, (.b 0 0)), (7, (intA r_3.1.1)), (8, (sl tConflictEdge r_3.1.2.1)), (9, (.m [2] 0 r_3.1.2.2.length tConflictEdge.k)), (10, (sl tInt r_10.1)), (41, (boolA t41_12))] rfl ?_
    refine T_cond (t := t41_12) rfl (fun c_17 => ?_) (fun c_17 => ?_)
    ·replace H := cond_t c_17 H
     refine T_region ?_
     refine Tp rfl rfl (pur_move rfl) rfl ?_
     refine Tp rfl rfl (pur_move rfl) rfl ?_
     refine Tp rfl rfl (pur_move rfl) rfl ?_
     obtain ⟨r_18, h_19, H⟩ := bind_inv H
     refine TO_cons rfl (TOp_callS [0] (call_static ent62 rfl) (by decide) rfl rfl rfl rfl rfl rfl (m_spec_l8Some_x _ _ _ _ h_19) rfl rfl ?_)
     refine toe [(6, (.b 0 0)), (7, (intA r_3.1.1)), (8, (sl tConflictEdge r_3.1.2.1)), (9, (.m [2] 0 r_3.1.2.2.length tConflictEdge.k)), (10, (sl tInt r_10.1)), (41, (boolA t41_12)), (42, (.b 0 0)), (43, (intA r_3.1.1)), (44, (sl tConflictEdge r_3.1.2.1)), (45, (.m [3] 0 r_18.1.length tInt.k))] rfl ?_
     refine TO_st (σ' := [.box [(sl (tI .u8) r_18.2.b), (intA r_18.2.i), (intA r_18.2.h)], .dead, .row (flat tConflictEdge.enc r_3.1.2.2), .row (flat tInt.enc r_18.1)]) rfl ?_
     refine Tp rfl rfl (pur_assign rfl) rfl ?_
     refine TO_nil ?_
     refine te [(7, (intA r_3.1.1)), (8, (sl tConflictEdge r_3.1.2.1)), (9, (.m [2] 0 r_3.1.2.2.length tConflictEdge.k)), (10, (.m [3] 0 r_18.1.length tInt.k))] rfl ?_
     refine sr ?_
     refine Tp rfl rfl (pur_move rfl) rfl ?_
     refine Tp rfl rfl (pur_move rfl) rfl ?_
     refine Tp rfl rfl (pur_move rfl) rfl ?_
     refine Tp rfl rfl (pur_move rfl) rfl ?_
     refine Tp rfl rfl (pur_assign rfl) rfl ?_
     refine Tp rfl rfl (pur_assign rfl) rfl ?_
     refine Tp rfl rfl (pur_assign rfl) rfl ?_
     refine Tp rfl rfl (pur_assign rfl) rfl ?_
     refine TO_nil ?_
     refine te [(2, (intA r_3.1.1)), (3, (sl tConflictEdge r_3.1.2.1)), (4, (.m [2] 0 r_3.1.2.2.length tConflictEdge.k)), (5, (.m [3] 0 r_18.1.length tInt.k))] rfl ?_
     refine T_frz1 2 (E' := [(2, (intA r_3.1.1)), (3, (sl tConflictEdge r_3.1.2.1)), (4, (sl tConflictEdge r_3.1.2.2)), (5, (.m [3] 0 r_18.1.length tInt.k))]) rfl rfl (lb rfl) ⟨(.keep rfl), (.keep rfl), fz1E, (.keep rfl), trivial⟩ ?_
     refine T_st (σ' := [.box [(sl (tI .u8) r_18.2.b), (intA r_18.2.i), (intA r_18.2.h)], .dead, .dead, .row (flat tInt.enc r_18.1)]) rfl ?_
     refine T_frz1 3 (E' := [(2, (intA r_3.1.1)), (3, (sl tConflictEdge r_3.1.2.1)), (4, (sl tConflictEdge r_3.1.2.2)), (5, (sl tInt r_18.1))]) rfl rfl (lb rfl) ⟨(.keep rfl), (.keep rfl), (.keep rfl), fz1E, trivial⟩ ?_
     refine T_st (σ' := [.box [(sl (tI .u8) r_18.2.b), (intA r_18.2.i), (intA r_18.2.h)], .dead, .dead, .dead]) rfl ?_
     refine T_ret ?_
     obtain rfl := some_inj H
     refine end_ret (.tmp (.tmp (.tmp (.tmp .nil)))) rfl rfl ⟨?_, rfl⟩
     rfl
    ·replace H := cond_f c_17 H
     refine T_skip ?_
     refine te [(7, (intA r_3.1.1)), (8, (sl tConflictEdge r_3.1.2.1)), (9, (.m [2] 0 r_3.1.2.2.length tConflictEdge.k)), (10, (sl tInt r_10.1))] rfl ?_
     refine sr ?_
     refine Tp rfl rfl (pur_move rfl) rfl ?_
     refine Tp rfl rfl (pur_move rfl) rfl ?_
     refine Tp rfl rfl (pur_move rfl) rfl ?_
     refine Tp rfl rfl (pur_move rfl) rfl ?_
     refine Tp rfl rfl (pur_assign rfl) rfl ?_
     refine Tp rfl rfl (pur_assign rfl) rfl ?_
     refine Tp rfl rfl (pur_assign rfl) rfl ?_
     refine Tp rfl rfl (pur_assign rfl) rfl ?_
     refine TO_nil ?_
     refine te [(2, (intA r_3.1.1)), (3, (sl tConflictEdge r_3.1.2.1)), (4, (.m [2] 0 r_3.1.2.2.length tConflictEdge.k)), (5, (sl tInt r_10.1))] rfl ?_
     refine T_frz1 2 (E' := [(2, (intA r_3.1.1)), (3, (sl tConflictEdge r_3.1.2.1)), (4, (sl tConflictEdge r_3.1.2.2)), (5, (sl tInt r_10.1))]) rfl rfl (lb rfl) ⟨(.keep rfl), (.keep rfl), fz1E, (.keep rfl), trivial⟩ ?_
     refine T_st (σ' := [.box [(sl (tI .u8) box0_12.b), (intA box0_12.i), (intA box0_12.h)], .dead, .dead]) rfl ?_
     refine T_ret ?_
     obtain rfl := some_inj H
     refine end_ret (.tmp (.tmp (.tmp (.tmp .nil)))) rfl rfl ⟨?_, rfl⟩
     rfl

set_option maxHeartbeats 1000000 in
/-- laws.sameInts -/
theorem m_laws_sameInts_ok (a0 : (List Int)) (b1 : (List Int)) (r : Bool) (H : m_laws_sameInts a0 b1 = some r) : FnV prg 36 [(sl tInt a0), (sl tInt b1)] (boolA r) := by
  unfold m_laws_sameInts at H
  refine fnV_of_T Try.func36 rfl rfl (Nat.le_of_ble_eq_true rfl) ?_
  refine te [(0, (sl tInt a0)), (1, (sl tInt b1))] rfl ?_
  refine sr ?_
  refine Tp rfl rfl (pur_assign rfl) rfl ?_
  refine TO_nil ?_
  refine te [(0, (sl tInt a0)), (1, (sl tInt b1))] rfl ?_
  refine T_seq ?_
  refine sr ?_
  refine Tp rfl rfl (pur_move rfl) rfl ?_
  refine Tp rfl rfl (pur_lenT (T := tInt) sl31 rfl rfl) rfl ?_
  refine Tp rfl rfl (pur_move rfl) rfl ?_
  refine Tp rfl rfl (pur_lenT (T := tInt) sl31 rfl rfl) rfl ?_
  refine Tp rfl rfl (pur_neq rfl rfl rfl) rfl ?_
  refine TO_nil ?_
  refine te [(0, (sl tInt a0)), (1, (sl tInt b1)), (10, (boolA (decide ((a0.length : Int) ≠ (b1.length : Int)))))] rfl ?_
  refine T_cond (t := decide ((a0.length : Int) ≠ (b1.length : Int))) rfl (fun c_1 => ?_) (fun c_1 => ?_)
  ·replace H := cond_t c_1 H
   refine sr ?_
   refine Tp rfl rfl (pur_assign rfl) rfl ?_
   refine TO_nil ?_
   refine te [(4, (boolA false))] rfl ?_
   refine T_ret ?_
   refine then_ret ?_
   obtain rfl := some_inj H
   refine end_ret (.tmp .nil) rfl rfl ⟨?_, rfl⟩
   rfl
  ·replace H := cond_f c_1 H
   refine T_skip ?_
   refine te [(0, (sl tInt a0)), (1, (sl tInt b1))] rfl ?_
   refine T_seq ?_
   refine sr ?_
   refine Tp rfl rfl (pur_assign rfl) rfl ?_
   refine TO_nil ?_
   refine te [(0, (sl tInt a0)), (1, (sl tInt b1)), (5, (intA 0))] rfl ?_
   obtain ⟨O3_, L3_, N3_⟩ := bind_inv H
   clear H
   obtain ⟨B3_, hb3, L3_⟩ := gen_forL L3_
   refine T_block ?_
   refine T_loopX (fun k => fun (i_2 : Nat) => k = a0.length - i_2 ∧ forL B3_ (a0.drop i_2) (i_2 : Int) () = some O3_) (fun (i_2 : Nat) => [(0, (sl tInt a0)), (1, (sl tInt b1)), (5, (intA (i_2 : Int)))]) (fun (i_2 : Nat) => []) _ (0 : Nat) (wp 0 (lb rfl) rfl rfl rfl rfl rfl) ⟨rfl, L3_⟩ ?_
   rintro _ i_2 ⟨rfl, L3_⟩
   refine te [(0, (sl tInt a0)), (1, (sl tInt b1)), (5, (intA (i_2 : Int)))] rfl ?_
   refine T_st (σ' := []) rfl ?_
   refine T_fact (len_sl (T := tInt) (.tmp 0) rfl) (fun hl3 => ?_)
   refine T_seq ?_
   refine sr ?_
   refine Tp rfl rfl (pur_move rfl) rfl ?_
   refine Tp rfl rfl (pur_move rfl) rfl ?_
   refine Tp rfl rfl (pur_lenT (T := tInt) sl31 rfl rfl) rfl ?_
   refine Tp rfl rfl (pur_lss rfl rfl rfl) rfl ?_
   refine TO_nil ?_
   refine te [(0, (sl tInt a0)), (1, (sl tInt b1)), (5, (intA (i_2 : Int))), (14, (boolA (decide ((i_2 : Int) < (a0.length : Int)))))] rfl ?_
   refine T_cond (t := decide ((i_2 : Int) < (a0.length : Int))) rfl (fun d3 => ?_) (fun d3 => ?_)
   ·replace d3 := of_decide_eq_true d3
    obtain ⟨x_i_2, hx_i_2⟩ : ∃ v, (a0)[i_2]? = some v := ⟨_, List.getElem?_eq_getElem (by omega)⟩
    obtain ⟨C3_, H, K3_⟩ := forL_step L3_ hx_i_2
    rw [hb3] at H
    refine T_skip ?_
    refine te [(0, (sl tInt a0)), (1, (sl tInt b1)), (5, (intA (i_2 : Int)))] rfl ?_
    refine T_seq ?_
    refine T_block ?_
    refine T_seq ?_
    refine T_regionD mixed (by kernel_rfl) ?_
    refine TQ_pure rfl (pur_move rfl) rfl ?_
    refine TQ_pure rfl (pur_move rfl) rfl ?_
    refine TQ_pure rfl (pur_ixT (T := tInt) sl31 rfl rfl rfl hx_i_2 rfl) rfl ?_
    refine TQ_pure rfl (pur_ldT (T := tInt) (i := i_2) (off := 0) rfl one3 rfl rfl hx_i_2 rfl) rfl ?_
    refine TQ_pure rfl (pur_move rfl) rfl ?_
    refine TQ_pure rfl (pur_move rfl) rfl ?_
    obtain ⟨v_4, h_5, H⟩ := bind_inv H
    obtain ⟨n_6, hz_7, hv_8⟩ := getI_inv h_5
    refine TQ_pure rfl (pur_ixT (T := tInt) sl31 rfl rfl hz_7 hv_8 rfl) rfl ?_
    refine TQ_pure rfl (pur_ldT (T := tInt) (i := n_6) (off := 0) rfl one3 rfl rfl hv_8 rfl) rfl ?_
    refine TQ_pure rfl (pur_neq rfl rfl rfl) rfl ?_
    refine TQ_nil ?_
    refine te [(0, (sl tInt a0)), (1, (sl tInt b1)), (5, (intA (i_2 : Int))), (25, (boolA (decide (x_i_2 ≠ v_4))))] rfl ?_
    refine T_cond (t := decide (x_i_2 ≠ v_4)) rfl (fun c_9 => ?_) (fun c_9 => ?_)
    ·replace H := cond_t c_9 H
     refine sr ?_
     refine Tp rfl rfl (pur_assign rfl) rfl ?_
     refine TO_nil ?_
     refine te [(4, (boolA false))] rfl ?_
     refine T_ret ?_
     refine block_ret ?_
     refine then_ret ?_
     refine then_ret ?_
     refine block_ret ?_
     refine then_ret ?_
     obtain rfl := some_inj H
     obtain rfl := some_inj K3_
     replace H := onS_r N3_
     obtain rfl := some_inj H
     refine end_ret (.tmp .nil) rfl rfl ⟨?_, rfl⟩
     rfl
    ·replace H := cond_f c_9 H
     refine T_skip ?_
     refine te [(0, (sl tInt a0)), (1, (sl tInt b1)), (5, (intA (i_2 : Int)))] rfl ?_
     refine T_region ?_
     refine Tp rfl rfl (pur_move rfl) rfl ?_
     refine Tp rfl rfl (pur_add rfl rfl rfl (fits64 (by omega) (by omega))) rfl ?_
     refine Tp rfl rfl (pur_assign rfl) rfl ?_
     refine TO_nil ?_
     obtain rfl := some_inj H
     exact again (a0.length - (i_2 + 1)) (i_2 + 1) (by omega) (wp 0 (lb rfl) rfl rfl rfl rfl rfl) ⟨rfl, K3_⟩
   ·replace d3 := of_decide_eq_false d3
    obtain rfl := forL_end L3_ (by omega)
    refine T_exit ?_
    refine then_exit ?_
    refine then_exit ?_
    refine block_exit ?_
    replace H := onS_l N3_
    refine te [] rfl ?_
    refine sr ?_
    refine Tp rfl rfl (pur_assign rfl) rfl ?_
    refine TO_nil ?_
    refine te [(4, (boolA true))] rfl ?_
    refine T_ret ?_
    obtain rfl := some_inj H
    refine end_ret (.tmp .nil) rfl rfl ⟨?_, rfl⟩
    rfl

set_option maxHeartbeats 1000000 in
/-- laws.FnUndominatedFacts -/
theorem m_laws_FnUndominatedFacts_ok (u : Nat) (code0 : (List Int)) (r : Bool) (H : m_laws_FnUndominatedFacts u code0 = some r) : FnV prg 8 [(sl (tI .u8) code0)] (boolA r) := by
  unfold m_laws_FnUndominatedFacts at H
  refine fnV_of_T Try.func8 rfl rfl (Nat.le_of_ble_eq_true rfl) ?_
  refine te [(0, (sl (tI .u8) code0))] rfl ?_
  refine sr ?_
  refine Tp rfl rfl (pur_assign rfl) rfl ?_
  refine TO_nil ?_
  refine te [(0, (sl (tI .u8) code0))] rfl ?_
  refine T_seq ?_
  refine sr ?_
  refine Tp rfl rfl (pur_move rfl) rfl ?_
  obtain ⟨r_1, h_2, H⟩ := bind_inv H
  refine TO_cons rfl (TOp_callV (call_static ent32 rfl) (m_laws_big_ok _ _ h_2) rfl rfl rfl ?_)
  refine TO_nil ?_
  refine te [(0, (sl (tI .u8) code0)), (18, (boolA r_1))] rfl ?_
  refine T_cond (t := r_1) rfl (fun c_3 => ?_) (fun c_3 => ?_)
  ·replace H := cond_t c_3 H
   refine sr ?_
   refine Tp rfl rfl (pur_assign rfl) rfl ?_
   refine TO_nil ?_
   refine te [(2, (boolA true))] rfl ?_
   refine T_ret ?_
   refine then_ret ?_
   obtain rfl := some_inj H
   refine end_ret (.tmp .nil) rfl rfl ⟨?_, rfl⟩
   rfl
  ·replace H := cond_f c_3 H
   refine T_skip ?_
   refine te [(0, (sl (tI .u8) code0))] rfl ?_
   refine sr ?_
   refine Tp rfl rfl (pur_move rfl) rfl ?_
   obtain ⟨r_4, h_5, H⟩ := bind_inv H
   refine TO_cons rfl (TOp_callV (call_static ent33 rfl) (m_spec_DrawUndominatedFacts_ok u _ _ h_5) rfl rfl rfl ?_)
   refine Tp rfl rfl (pur_move rfl) rfl ?_
   refine Tp rfl rfl (pur_extract rfl rfl rfl) rfl ?_
   refine Tp rfl rfl (pur_extract rfl rfl rfl) rfl ?_
   refine Tp rfl rfl (pur_extract rfl rfl rfl) rfl ?_
   refine Tp rfl rfl (pur_extract rfl rfl rfl) rfl ?_
   refine Tp rfl rfl (pur_assign rfl) rfl ?_
   refine toe [(0, (sl (tI .u8) code0)), (3, (intA r_4.1)), (23, (sl tConflictEdge r_4.2.1)), (24, (sl tConflictEdge r_4.2.2.1)), (25, (sl tInt r_4.2.2.2))] rfl ?_
   refine Tp rfl rfl (pur_assign rfl) rfl ?_
   refine Tp rfl rfl (pur_assign rfl) rfl ?_
   refine Tp rfl rfl (pur_assign rfl) rfl ?_
   refine TO_nil ?_
   refine te [(0, (sl (tI .u8) code0)), (3, (intA r_4.1)), (4, (sl tConflictEdge r_4.2.1)), (5, (sl tConflictEdge r_4.2.2.1)), (6, (sl tInt r_4.2.2.2))] rfl ?_
   refine sr ?_
   refine Tp rfl rfl (pur_move rfl) rfl ?_
   refine Tp rfl rfl (pur_move rfl) rfl ?_
   refine Tp rfl rfl (pur_move rfl) rfl ?_
   refine Tp rfl rfl (pur_move rfl) rfl ?_
   obtain ⟨r_6, h_7, H⟩ := bind_inv H
   refine TO_cons rfl (TOp_callV (call_static ent20 rfl) (m_impl_UndominatedFacts_ok u _ _ _ _ _ h_7) rfl rfl rfl ?_)
   refine Tp rfl rfl (pur_assign rfl) rfl ?_
   refine TO_nil ?_
   refine te [(0, (sl (tI .u8) code0)), (3, (intA r_4.1)), (4, (sl tConflictEdge r_4.2.1)), (5, (sl tConflictEdge r_4.2.2.1)), (6, (sl tInt r_4.2.2.2)), (7, (sl tInt r_6))] rfl ?_
   refine sr ?_
   refine Tp rfl rfl (pur_move rfl) rfl ?_
   obtain ⟨r_8, h_9, H⟩ := bind_inv H
   refine TO_cons rfl (TOp_callV (call_static ent34 rfl) (m_spec_DrawIsPreferred_ok u _ _ h_9) rfl rfl rfl ?_)
   refine Tp rfl rfl (pur_move rfl) rfl ?_
   refine Tp rfl rfl (pur_extract rfl rfl rfl) rfl ?_
   refine Tp rfl rfl (pur_extract rfl rfl rfl) rfl ?_
   refine Tp rfl rfl (pur_extract rfl rfl rfl) rfl ?_
   refine Tp rfl rfl (pur_assign rfl) rfl ?_
   refine Tp rfl rfl (pur_assign rfl) rfl ?_
   refine Tp rfl rfl (pur_assign rfl) rfl ?_
   refine TO_nil ?_
   refine te [(0, (sl (tI .u8) code0)), (3, (intA r_4.1)), (4, (sl tConflictEdge r_4.2.1)), (5, (sl tConflictEdge r_4.2.2.1)), (6, (sl tInt r_4.2.2.2)), (7, (sl tInt r_6)), (8, (sl tConflictEdge r_8.1)), (9, (intA r_8.2.1)), (10, (intA r_8.2.2))] rfl ?_
   refine sr ?_
   refine Tp rfl rfl (pur_move rfl) rfl ?_
   obtain ⟨r_10, h_11, H⟩ := bind_inv H
   refine TO_cons rfl (TOp_callV (call_static ent35 rfl) (m_spec_DrawIsParetoOptimal_ok u _ _ h_11) rfl rfl rfl ?_)
   refine Tp rfl rfl (pur_move rfl) rfl ?_
   refine Tp rfl rfl (pur_extract rfl rfl rfl) rfl ?_
   refine Tp rfl rfl (pur_extract rfl rfl rfl) rfl ?_
   refine Tp rfl rfl (pur_extract rfl rfl rfl) rfl ?_
   refine Tp rfl rfl (pur_extract rfl rfl rfl) rfl ?_
   refine Tp rfl rfl (pur_assign rfl) rfl ?_
   refine toe [(3, (intA r_4.1)), (4, (sl tConflictEdge r_4.2.1)), (5, (sl tConflictEdge r_4.2.2.1)), (6, (sl tInt r_4.2.2.2)), (7, (sl tInt r_6)), (8, (sl tConflictEdge r_8.1)), (9, (intA r_8.2.1)), (10, (intA r_8.2.2)), (11, (intA r_10.1)), (41, (sl tConflictEdge r_10.2.1)), (42, (sl tConflictEdge r_10.2.2.1)), (43, (sl tInt r_10.2.2.2))] rfl ?_
   refine Tp rfl rfl (pur_assign rfl) rfl ?_
   refine Tp rfl rfl (pur_assign rfl) rfl ?_
   refine Tp rfl rfl (pur_assign rfl) rfl ?_
   refine TO_nil ?_
   refine te [(3, (intA r_4.1)), (4, (sl tConflictEdge r_4.2.1)), (5, (sl tConflictEdge r_4.2.2.1)), (6, (sl tInt r_4.2.2.2)), (7, (sl tInt r_6)), (8, (sl tConflictEdge r_8.1)), (9, (intA r_8.2.1)), (10, (intA r_8.2.2)), (11, (intA r_10.1)), (12, (sl tConflictEdge r_10.2.1)), (13, (sl tConflictEdge r_10.2.2.1)), (14, (sl tInt r_10.2.2.2))] rfl ?_
   refine T_seq ?_
   obtain ⟨t75_12, J_12, H_13⟩ := bind_inv H
   refine T_cutX (fun x => t75_12 = x) (fun (t75_12 : Bool) => [(5, (sl tConflictEdge r_4.2.2.1)), (6, (sl tInt r_4.2.2.2)), (7, (sl tInt r_6)), (11, (intA r_10.1)), (12, (sl tConflictEdge r_10.2.1)), (13, (sl tConflictEdge r_10.2.2.1)), (14, (sl tInt r_10.2.2.2)), (75, (boolA t75_12))]) (fun (t75_12 : Bool) => []) ?_ ?_
   ·replace H := J_12
    refine T_region ?_
    refine Tp rfl rfl (pur_move rfl) rfl ?_
    refine Tp rfl rfl (pur_move rfl) rfl ?_
    refine Tp rfl rfl (pur_move rfl) rfl ?_
    refine Tp rfl rfl (pur_move rfl) rfl ?_
    refine Tp rfl rfl (pur_move rfl) rfl ?_
    obtain ⟨r_14, h_15, H⟩ := bind_inv H
    refine TO_cons rfl (TOp_callV (call_static ent18 rfl) (m_spec_UndominatedFacts_ok _ _ _ _ _ h_15) rfl rfl rfl ?_)
    obtain ⟨r_16, h_17, H⟩ := bind_inv H
    refine TO_cons rfl (TOp_callV (call_static ent36 rfl) (m_laws_sameInts_ok _ _ _ h_17) rfl rfl rfl ?_)
    refine Tp rfl rfl (pur_not rfl rfl) rfl ?_
    refine toe [(5, (sl tConflictEdge r_4.2.2.1)), (6, (sl tInt r_4.2.2.2)), (7, (sl tInt r_6)), (8, (sl tConflictEdge r_8.1)), (9, (intA r_8.2.1)), (10, (intA r_8.2.2)), (11, (intA r_10.1)), (12, (sl tConflictEdge r_10.2.1)), (13, (sl tConflictEdge r_10.2.2.1)), (14, (sl tInt r_10.2.2.2)), (51, (boolA (!r_16)))] rfl ?_
    refine Tp rfl rfl (pur_move rfl) rfl ?_
    refine TO_split (t := (!r_16)) 52 rfl (fun g_18 => ?_) (fun g_18 => ?_)
    ·replace H := cond_t g_18 H
     refine TO_off rfl rfl (by decide) rfl rfl rfl ?_
     refine TO_off rfl rfl (by decide) rfl rfl rfl ?_
     refine TO_off rfl rfl (by decide) rfl rfl rfl ?_
     refine TO_off rfl rfl (by decide) rfl rfl rfl ?_
     refine TO_off rfl rfl (by decide) rfl rfl rfl ?_
     refine TO_off rfl rfl (by decide) rfl rfl rfl ?_
     refine TO_off rfl rfl (by decide) rfl rfl rfl ?_
     refine TO_off rfl rfl (by decide) rfl rfl rfl ?_
     refine toe [(5, (sl tConflictEdge r_4.2.2.1)), (6, (sl tInt r_4.2.2.2)), (7, (sl tInt r_6)), (11, (intA r_10.1)), (12, (sl tConflictEdge r_10.2.1)), (13, (sl tConflictEdge r_10.2.2.1)), (14, (sl tInt r_10.2.2.2)), (52, (boolA true)), (56, (.v undef)), (60, (.v undef))] rfl ?_
     refine TO_off rfl rfl (by decide) rfl rfl rfl ?_
     refine Tp rfl rfl (pur_pick (t := true) rfl rfl rfl) rfl ?_
     refine Tp rfl rfl (pur_move rfl) rfl ?_
     refine TO_off rfl rfl (by decide) rfl rfl rfl ?_
     refine TO_off rfl rfl (by decide) rfl rfl rfl ?_
     refine TO_off rfl rfl (by decide) rfl rfl rfl ?_
     refine TO_off rfl rfl (by decide) rfl rfl rfl ?_
     refine TO_off rfl rfl (by decide) rfl rfl rfl ?_
     refine toe [(5, (sl tConflictEdge r_4.2.2.1)), (6, (sl tInt r_4.2.2.2)), (7, (sl tInt r_6)), (11, (intA r_10.1)), (12, (sl tConflictEdge r_10.2.1)), (13, (sl tConflictEdge r_10.2.2.1)), (14, (sl tInt r_10.2.2.2)), (63, (boolA true)), (68, (.v undef))] rfl ?_
     refine TO_off rfl rfl (by decide) rfl rfl rfl ?_
     refine TO_off rfl rfl (by decide) rfl rfl rfl ?_
     refine TO_off rfl rfl (by decide) rfl rfl rfl ?_
     refine TO_off rfl rfl (by decide) rfl rfl rfl ?_
     refine TO_off rfl rfl (by decide) rfl rfl rfl ?_
     refine TO_off rfl rfl (by decide) rfl rfl rfl ?_
     refine Tp rfl rfl (pur_pick (t := true) rfl rfl rfl) rfl ?_
     refine TO_nil ?_
     exact joined true (wp 0 (lb rfl) rfl rfl rfl rfl rfl) (some_inj H).symm
    ·replace H := cond_f g_18 H
     refine TO_on rfl rfl (by decide) rfl rfl (TOp_pure (pur_move rfl) rfl ?_)
     refine TO_on rfl rfl (by decide) rfl rfl (TOp_pure (pur_move rfl) rfl ?_)
     refine TO_on rfl rfl (by decide) rfl rfl (TOp_pure (pur_move rfl) rfl ?_)
     obtain ⟨r_19, h_20, H⟩ := bind_inv H
     refine TO_on rfl rfl (by decide) rfl rfl (TOp_callV (call_static ent14 rfl) (m_impl_IsPreferred_ok _ _ _ _ h_20) rfl rfl rfl ?_)
     refine TO_on rfl rfl (by decide) rfl rfl (TOp_pure (pur_move rfl) rfl ?_)
     refine TO_on rfl rfl (by decide) rfl rfl (TOp_pure (pur_move rfl) rfl ?_)
     refine TO_on rfl rfl (by decide) rfl rfl (TOp_pure (pur_move rfl) rfl ?_)
     obtain ⟨r_21, h_22, H⟩ := bind_inv H
     refine TO_on rfl rfl (by decide) rfl rfl (TOp_callV (call_static ent12 rfl) (m_spec_IsPreferred_ok _ _ _ _ h_22) rfl rfl rfl ?_)
     refine toe [(5, (sl tConflictEdge r_4.2.2.1)), (6, (sl tInt r_4.2.2.2)), (7, (sl tInt r_6)), (11, (intA r_10.1)), (12, (sl tConflictEdge r_10.2.1)), (13, (sl tConflictEdge r_10.2.2.1)), (14, (sl tInt r_10.2.2.2)), (52, (boolA false)), (56, (boolA r_19)), (60, (boolA r_21))] rfl ?_
     refine TO_on rfl rfl (by decide) rfl rfl (TOp_pure (pur_neqB (by kernel_rfl) rfl rfl rfl) rfl ?_)
     refine Tp rfl rfl (pur_pick (t := false) rfl rfl rfl) rfl ?_
     refine Tp rfl rfl (pur_move rfl) rfl ?_
     refine TO_split (t := (r_19 != r_21)) 63 rfl (fun g_23 => ?_) (fun g_23 => ?_)
     ·replace H := cond_t g_23 H
      refine TO_off rfl rfl (by decide) rfl rfl rfl ?_
      refine TO_off rfl rfl (by decide) rfl rfl rfl ?_
      refine TO_off rfl rfl (by decide) rfl rfl rfl ?_
      refine TO_off rfl rfl (by decide) rfl rfl rfl ?_
      refine TO_off rfl rfl (by decide) rfl rfl rfl ?_
      refine TO_off rfl rfl (by decide) rfl rfl rfl ?_
      refine TO_off rfl rfl (by decide) rfl rfl rfl ?_
      refine TO_off rfl rfl (by decide) rfl rfl rfl ?_
      refine toe [(5, (sl tConflictEdge r_4.2.2.1)), (6, (sl tInt r_4.2.2.2)), (7, (sl tInt r_6)), (11, (intA r_10.1)), (12, (sl tConflictEdge r_10.2.1)), (13, (sl tConflictEdge r_10.2.2.1)), (14, (sl tInt r_10.2.2.2)), (63, (boolA true)), (68, (.v undef)), (69, (.v undef)), (70, (.v undef)), (71, (.v undef))] rfl ?_
      refine TO_off rfl rfl (by decide) rfl rfl rfl ?_
      refine TO_off rfl rfl (by decide) rfl rfl rfl ?_
      refine TO_off rfl rfl (by decide) rfl rfl rfl ?_
      refine Tp rfl rfl (pur_pick (t := true) rfl rfl rfl) rfl ?_
      refine TO_nil ?_
      exact joined true (wp 0 (lb rfl) rfl rfl rfl rfl rfl) (some_inj H).symm
     ·replace H := cond_f g_23 H
      refine TO_on rfl rfl (by decide) rfl rfl (TOp_pure (pur_move rfl) rfl ?_)
      refine TO_on rfl rfl (by decide) rfl rfl (TOp_pure (pur_move rfl) rfl ?_)
      refine TO_on rfl rfl (by decide) rfl rfl (TOp_pure (pur_move rfl) rfl ?_)
      refine TO_on rfl rfl (by decide) rfl rfl (TOp_pure (pur_move rfl) rfl ?_)
      obtain ⟨r_24, h_25, H⟩ := bind_inv H
      refine TO_on rfl rfl (by decide) rfl rfl (TOp_callV (call_static ent26 rfl) (m_impl_IsParetoOptimal_ok u _ _ _ _ _ h_25) rfl rfl rfl ?_)
      refine TO_on rfl rfl (by decide) rfl rfl (TOp_pure (pur_move rfl) rfl ?_)
      refine TO_on rfl rfl (by decide) rfl rfl (TOp_pure (pur_move rfl) rfl ?_)
      refine TO_on rfl rfl (by decide) rfl rfl (TOp_pure (pur_move rfl) rfl ?_)
      refine toe [(5, (sl tConflictEdge r_4.2.2.1)), (6, (sl tInt r_4.2.2.2)), (7, (sl tInt r_6)), (11, (intA r_10.1)), (12, (sl tConflictEdge r_10.2.1)), (13, (sl tConflictEdge r_10.2.2.1)), (14, (sl tInt r_10.2.2.2)), (63, (boolA false)), (68, (boolA r_24)), (69, (intA r_10.1)), (70, (sl tConflictEdge r_10.2.1)), (71, (sl tConflictEdge r_10.2.2.1))] rfl ?_
      refine TO_on rfl rfl (by decide) rfl rfl (TOp_pure (pur_move rfl) rfl ?_)
      obtain ⟨r_26, h_27, H⟩ := bind_inv H
      refine TO_on rfl rfl (by decide) rfl rfl (TOp_callV (call_static ent25 rfl) (m_spec_IsParetoOptimal_ok _ _ _ _ _ h_27) rfl rfl rfl ?_)
      refine TO_on rfl rfl (by decide) rfl rfl (TOp_pure (pur_neqB (by kernel_rfl) rfl rfl rfl) rfl ?_)
      refine Tp rfl rfl (pur_pick (t := false) rfl rfl rfl) rfl ?_
      refine TO_nil ?_
      exact joined (r_24 != r_26) (wp 0 (lb rfl) rfl rfl rfl rfl rfl) (some_inj H).symm
   ·rintro _ rfl
    replace H := H_13
    refine te [(5, (sl tConflictEdge r_4.2.2.1)), (6, (sl tInt r_4.2.2.2)), (7, (sl tInt r_6)), (11, (intA r_10.1)), (12, (sl tConflictEdge r_10.2.1)), (13, (sl tConflictEdge r_10.2.2.1)), (14, (sl tInt r_10.2.2.2)), (75, (boolA t75_12))] rfl ?_
    refine T_cond (t := t75_12) rfl (fun c_28 => ?_) (fun c_28 => ?_)
    ·replace H := cond_t c_28 H
     refine sr ?_
     refine Tp rfl rfl (pur_assign rfl) rfl ?_
     refine TO_nil ?_
     refine te [(2, (boolA false))] rfl ?_
     refine T_ret ?_
     refine then_ret ?_
     obtain rfl := some_inj H
     refine end_ret (.tmp .nil) rfl rfl ⟨?_, rfl⟩
     rfl
    ·replace H := cond_f c_28 H
     refine T_skip ?_
     refine te [(5, (sl tConflictEdge r_4.2.2.1)), (6, (sl tInt r_4.2.2.2)), (7, (sl tInt r_6)), (11, (intA r_10.1)), (12, (sl tConflictEdge r_10.2.1)), (13, (sl tConflictEdge r_10.2.2.1)), (14, (sl tInt r_10.2.2.2))] rfl ?_
     refine T_seq ?_
     refine sr ?_
     refine Tp rfl rfl (pur_assign rfl) rfl ?_
     refine TO_nil ?_
     refine te [(5, (sl tConflictEdge r_4.2.2.1)), (6, (sl tInt r_4.2.2.2)), (7, (sl tInt r_6)), (11, (intA r_10.1)), (12, (sl tConflictEdge r_10.2.1)), (13, (sl tConflictEdge r_10.2.2.1)), (14, (sl tInt r_10.2.2.2)), (15, (intA 0))] rfl ?_
     obtain ⟨O30_, L30_, N30_⟩ := bind_inv H
     clear H
     obtain ⟨B30_, hb30, L30_⟩ := gen_forL L30_
     refine T_block ?_
     refine T_loopX (fun k => fun (i_29 : Nat) => k = r_6.length - i_29 ∧ forL B30_ (r_6.drop i_29) (i_29 : Int) () = some O30_) (fun (i_29 : Nat) => [(5, (sl tConflictEdge r_4.2.2.1)), (6, (sl tInt r_4.2.2.2)), (7, (sl tInt r_6)), (11, (intA r_10.1)), (12, (sl tConflictEdge r_10.2.1)), (13, (sl tConflictEdge r_10.2.2.1)), (14, (sl tInt r_10.2.2.2)), (15, (intA (i_29 : Int)))]) (fun (i_29 : Nat) => []) _ (0 : Nat) (wp 0 (lb rfl) rfl rfl rfl rfl rfl) ⟨rfl, L30_⟩ ?_
     rintro _ i_29 ⟨rfl, L30_⟩
     refine te [(5, (sl tConflictEdge r_4.2.2.1)), (6, (sl tInt r_4.2.2.2)), (7, (sl tInt r_6)), (11, (intA r_10.1)), (12, (sl tConflictEdge r_10.2.1)), (13, (sl tConflictEdge r_10.2.2.1)), (14, (sl tInt r_10.2.2.2)), (15, (intA (i_29 : Int)))] rfl ?_
     refine T_st (σ' := []) rfl ?_
     refine T_fact (len_sl (T := tInt) (.tmp 7) rfl) (fun hl30 => ?_)
     refine T_seq ?_
     refine sr ?_
     refine Tp rfl rfl (pur_move rfl) rfl ?_
     refine Tp rfl rfl (pur_move rfl) rfl ?_
     refine Tp rfl rfl (pur_lenT (T := tInt) sl31 rfl rfl) rfl ?_
     refine Tp rfl rfl (pur_lss rfl rfl rfl) rfl ?_
     refine TO_nil ?_
     refine te [(5, (sl tConflictEdge r_4.2.2.1)), (6, (sl tInt r_4.2.2.2)), (7, (sl tInt r_6)), (11, (intA r_10.1)), (12, (sl tConflictEdge r_10.2.1)), (13, (sl tConflictEdge r_10.2.2.1)), (14, (sl tInt r_10.2.2.2)), (15, (intA (i_29 : Int))), (79, (boolA (decide ((i_29 : Int) < (r_6.length : Int)))))] rfl ?_
     refine T_cond (t := decide ((i_29 : Int) < (r_6.length : Int))) rfl (fun d30 => ?_) (fun d30 => ?_)
     ·replace d30 := of_decide_eq_true d30
      obtain ⟨x_i_29, hx_i_29⟩ : ∃ v, (r_6)[i_29]? = some v := ⟨_, List.getElem?_eq_getElem (by omega)⟩
      obtain ⟨C30_, H, K30_⟩ := forL_step L30_ hx_i_29
      rw [hb30] at H
      refine T_skip ?_
      refine te [(5, (sl tConflictEdge r_4.2.2.1)), (6, (sl tInt r_4.2.2.2)), (7, (sl tInt r_6)), (11, (intA r_10.1)), (12, (sl tConflictEdge r_10.2.1)), (13, (sl tConflictEdge r_10.2.2.1)), (14, (sl tInt r_10.2.2.2)), (15, (intA (i_29 : Int)))] rfl ?_
      refine T_seq ?_
      refine T_block ?_
      refine sr ?_
      refine Tp rfl rfl (pur_assign rfl) rfl ?_
      refine TO_nil ?_
      refine te [(5, (sl tConflictEdge r_4.2.2.1)), (6, (sl tInt r_4.2.2.2)), (7, (sl tInt r_6)), (11, (intA r_10.1)), (12, (sl tConflictEdge r_10.2.1)), (13, (sl tConflictEdge r_10.2.2.1)), (14, (sl tInt r_10.2.2.2)), (15, (intA (i_29 : Int))), (16, (intA 0))] rfl ?_
      obtain ⟨O32_, L32_, N32_⟩ := bind_inv H
      clear H
      obtain ⟨B32_, hb32, L32_⟩ := gen_forL L32_
      refine T_block ?_
      refine T_loopX (fun k => fun (k_31 : Nat) => k = r_4.2.2.2.length - k_31 ∧ forL B32_ (r_4.2.2.2.drop k_31) (k_31 : Int) () = some O32_) (fun (k_31 : Nat) => [(5, (sl tConflictEdge r_4.2.2.1)), (6, (sl tInt r_4.2.2.2)), (7, (sl tInt r_6)), (11, (intA r_10.1)), (12, (sl tConflictEdge r_10.2.1)), (13, (sl tConflictEdge r_10.2.2.1)), (14, (sl tInt r_10.2.2.2)), (15, (intA (i_29 : Int))), (16, (intA (k_31 : Int)))]) (fun (k_31 : Nat) => []) _ (0 : Nat) (wp 0 (lb rfl) rfl rfl rfl rfl rfl) ⟨rfl, L32_⟩ ?_
      rintro _ k_31 ⟨rfl, L32_⟩
      refine te [(5, (sl tConflictEdge r_4.2.2.1)), (6, (sl tInt r_4.2.2.2)), (7, (sl tInt r_6)), (11, (intA r_10.1)), (12, (sl tConflictEdge r_10.2.1)), (13, (sl tConflictEdge r_10.2.2.1)), (14, (sl tInt r_10.2.2.2)), (15, (intA (i_29 : Int))), (16, (intA (k_31 : Int)))] rfl ?_
      refine T_st (σ' := []) rfl ?_
      refine T_fact (len_sl (T := tInt) (.tmp 6) rfl) (fun hl32 => ?_)
      refine T_seq ?_
      refine sr ?_
      refine Tp rfl rfl (pur_move rfl) rfl ?_
      refine Tp rfl rfl (pur_move rfl) rfl ?_
      refine Tp rfl rfl (pur_lenT (T := tInt) sl31 rfl rfl) rfl ?_
      refine Tp rfl rfl (pur_lss rfl rfl rfl) rfl ?_
      refine TO_nil ?_
      refine te [(5, (sl tConflictEdge r_4.2.2.1)), (6, (sl tInt r_4.2.2.2)), (7, (sl tInt r_6)), (11, (intA r_10.1)), (12, (sl tConflictEdge r_10.2.1)), (13, (sl tConflictEdge r_10.2.2.1)), (14, (sl tInt r_10.2.2.2)), (15, (intA (i_29 : Int))), (16, (intA (k_31 : Int))), (85, (boolA (decide ((k_31 : Int) < (r_4.2.2.2.length : Int)))))] rfl ?_
      refine T_cond (t := decide ((k_31 : Int) < (r_4.2.2.2.length : Int))) rfl (fun d32 => ?_) (fun d32 => ?_)
      ·replace d32 := of_decide_eq_true d32
       obtain ⟨x_k_31, hx_k_31⟩ : ∃ v, (r_4.2.2.2)[k_31]? = some v := ⟨_, List.getElem?_eq_getElem (by omega)⟩
       obtain ⟨C32_, H, K32_⟩ := forL_step L32_ hx_k_31
       rw [hb32] at H
       refine T_skip ?_
       refine te [(5, (sl tConflictEdge r_4.2.2.1)), (6, (sl tInt r_4.2.2.2)), (7, (sl tInt r_6)), (11, (intA r_10.1)), (12, (sl tConflictEdge r_10.2.1)), (13, (sl tConflictEdge r_10.2.2.1)), (14, (sl tInt r_10.2.2.2)), (15, (intA (i_29 : Int))), (16, (intA (k_31 : Int)))] rfl ?_
       refine T_seq ?_
       refine T_block ?_
       refine T_seq ?_
       refine T_regionD mixed (by kernel_rfl) ?_
       refine TQ_pure rfl (pur_move rfl) rfl ?_
       refine TQ_pure rfl (pur_move rfl) rfl ?_
       refine TQ_pure rfl (pur_move rfl) rfl ?_
       refine TQ_pure rfl (pur_ixT (T := tInt) sl31 rfl rfl rfl hx_k_31 rfl) rfl ?_
       refine TQ_pure rfl (pur_ldT (T := tInt) (i := k_31) (off := 0) rfl one3 rfl rfl hx_k_31 rfl) rfl ?_
       refine TQ_pure rfl (pur_move rfl) rfl ?_
       refine TQ_pure rfl (pur_move rfl) rfl ?_
       refine TQ_pure rfl (pur_ixT (T := tInt) sl31 rfl rfl rfl hx_i_29 rfl) rfl ?_
       refine TQ_pure rfl (pur_ldT (T := tInt) (i := i_29) (off := 0) rfl one3 rfl rfl hx_i_29 rfl) rfl ?_
       obtain ⟨r_33, h_34, H⟩ := bind_inv H
       refine TQ_callV rfl (call_static ent14 rfl) (m_impl_IsPreferred_ok _ _ _ _ h_34) rfl rfl ?_
       refine TQ_nil ?_
       refine te [(5, (sl tConflictEdge r_4.2.2.1)), (6, (sl tInt r_4.2.2.2)), (7, (sl tInt r_6)), (11, (intA r_10.1)), (12, (sl tConflictEdge r_10.2.1)), (13, (sl tConflictEdge r_10.2.2.1)), (14, (sl tInt r_10.2.2.2)), (15, (intA (i_29 : Int))), (16, (intA (k_31 : Int))), (97, (boolA r_33))] rfl ?_
       refine T_cond (t := r_33) rfl (fun c_35 => ?_) (fun c_35 => ?_)
       ·replace H := cond_t c_35 H
        refine sr ?_
        refine Tp rfl rfl (pur_assign rfl) rfl ?_
        refine TO_nil ?_
        refine te [(2, (boolA false))] rfl ?_
        refine T_ret ?_
        refine block_ret ?_
        refine then_ret ?_
        refine then_ret ?_
        refine block_ret ?_
        refine block_ret ?_
        refine then_ret ?_
        refine then_ret ?_
        refine block_ret ?_
        refine then_ret ?_
        obtain rfl := some_inj H
        obtain rfl := some_inj K32_
        replace H := onS_r N32_
        obtain rfl := some_inj H
        obtain rfl := some_inj K30_
        replace H := onS_r N30_
        obtain rfl := some_inj H
        refine end_ret (.tmp .nil) rfl rfl ⟨?_, rfl⟩
        rfl
       ·replace H := cond_f c_35 H
        refine T_skip ?_
        refine te [(5, (sl tConflictEdge r_4.2.2.1)), (6, (sl tInt r_4.2.2.2)), (7, (sl tInt r_6)), (11, (intA r_10.1)), (12, (sl tConflictEdge r_10.2.1)), (13, (sl tConflictEdge r_10.2.2.1)), (14, (sl tInt r_10.2.2.2)), (15, (intA (i_29 : Int))), (16, (intA (k_31 : Int)))] rfl ?_
        refine T_region ?_
        refine Tp rfl rfl (pur_move rfl) rfl ?_
        refine Tp rfl rfl (pur_add rfl rfl rfl (fits64 (by omega) (by omega))) rfl ?_
        refine Tp rfl rfl (pur_assign rfl) rfl ?_
        refine TO_nil ?_
        obtain rfl := some_inj H
        exact again (r_4.2.2.2.length - (k_31 + 1)) (k_31 + 1) (by omega) (wp 0 (lb rfl) rfl rfl rfl rfl rfl) ⟨rfl, K32_⟩
      ·replace d32 := of_decide_eq_false d32
       obtain rfl := forL_end L32_ (by omega)
       refine T_exit ?_
       refine then_exit ?_
       refine then_exit ?_
       refine block_exit ?_
       replace H := onS_l N32_
       refine te [(5, (sl tConflictEdge r_4.2.2.1)), (6, (sl tInt r_4.2.2.2)), (7, (sl tInt r_6)), (11, (intA r_10.1)), (12, (sl tConflictEdge r_10.2.1)), (13, (sl tConflictEdge r_10.2.2.1)), (14, (sl tInt r_10.2.2.2)), (15, (intA (i_29 : Int)))] rfl ?_
       refine T_region ?_
       refine Tp rfl rfl (pur_move rfl) rfl ?_
       refine Tp rfl rfl (pur_add rfl rfl rfl (fits64 (by omega) (by omega))) rfl ?_
       refine Tp rfl rfl (pur_assign rfl) rfl ?_
       refine TO_nil ?_
       obtain rfl := some_inj H
       exact again (r_6.length - (i_29 + 1)) (i_29 + 1) (by omega) (wp 0 (lb rfl) rfl rfl rfl rfl rfl) ⟨rfl, K30_⟩
     ·replace d30 := of_decide_eq_false d30
      obtain rfl := forL_end L30_ (by omega)
      refine T_exit ?_
      refine then_exit ?_
      refine then_exit ?_
      refine block_exit ?_
      replace H := onS_l N30_
      refine te [(11, (intA r_10.1)), (12, (sl tConflictEdge r_10.2.1)), (13, (sl tConflictEdge r_10.2.2.1)), (14, (sl tInt r_10.2.2.2))] rfl ?_
      obtain ⟨t2_36, J_36, H_37⟩ := bind_inv H
      refine T_cutX (fun x => t2_36 = x) (fun (t2_36 : Bool) => [(2, (boolA t2_36))]) (fun (t2_36 : Bool) => []) ?_ ?_
      ·replace H := J_36
       refine T_region ?_
       refine Tp rfl rfl (pur_move rfl) rfl ?_
       refine Tp rfl rfl (pur_move rfl) rfl ?_
       refine Tp rfl rfl (pur_move rfl) rfl ?_
       refine Tp rfl rfl (pur_move rfl) rfl ?_
       obtain ⟨r_38, h_39, H⟩ := bind_inv H
       refine TO_cons rfl (TOp_callV (call_static ent26 rfl) (m_impl_IsParetoOptimal_ok u _ _ _ _ _ h_39) rfl rfl rfl ?_)
       refine Tp rfl rfl (pur_not rfl rfl) rfl ?_
       refine Tp rfl rfl (pur_move rfl) rfl ?_
       refine TO_split (t := (!r_38)) 104 rfl (fun g_40 => ?_) (fun g_40 => ?_)
       ·replace H := cond_t g_40 H
        refine TO_off rfl rfl (by decide) rfl rfl rfl ?_
        refine TO_off rfl rfl (by decide) rfl rfl rfl ?_
        refine TO_off rfl rfl (by decide) rfl rfl rfl ?_
        refine TO_off rfl rfl (by decide) rfl rfl rfl ?_
        refine Tp rfl rfl (pur_pick (t := true) rfl rfl rfl) rfl ?_
        refine Tp rfl rfl (pur_assign rfl) rfl ?_
        refine TO_nil ?_
        exact joined true (wp 0 (lb rfl) rfl rfl rfl rfl rfl) (some_inj H).symm
       ·replace H := cond_f g_40 H
        refine TO_on rfl rfl (by decide) rfl rfl (TOp_pure (pur_move rfl) rfl ?_)
        refine TO_on rfl rfl (by decide) rfl rfl (TOp_pure (pur_move rfl) rfl ?_)
        refine TO_on rfl rfl (by decide) rfl rfl (TOp_pure (pur_move rfl) rfl ?_)
        obtain ⟨r_41, h_42, H⟩ := bind_inv H
        refine TO_on rfl rfl (by decide) rfl rfl (TOp_callV (call_static ent37 rfl) (m_impl_IsMaximalIndependent_ok _ _ _ _ h_42) rfl rfl rfl ?_)
        refine Tp rfl rfl (pur_pick (t := false) rfl rfl rfl) rfl ?_
        refine Tp rfl rfl (pur_assign rfl) rfl ?_
        refine TO_nil ?_
        exact joined r_41 (wp 0 (lb rfl) rfl rfl rfl rfl rfl) (some_inj H).symm
      ·rintro _ rfl
       replace H := H_37
       refine te [(2, (boolA t2_36))] rfl ?_
       refine T_ret ?_
       obtain rfl := some_inj H
       refine end_ret (.tmp .nil) rfl rfl ⟨?_, rfl⟩
       rfl
end Go.Proofs.Ytglgcncmjnjfgaa

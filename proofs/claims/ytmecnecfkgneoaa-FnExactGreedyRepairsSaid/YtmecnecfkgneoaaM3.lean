import Derived.Test.YtmecnecfkgneoaaM1
import Derived.Test.YtmecnecfkgneoaaM2
set_option linter.unusedVariables false
set_option linter.unusedSimpArgs false
set_option maxRecDepth 4000
namespace Go.Proofs.Ytmecnecfkgneoaa
open Go Go.Proofs Go.Sep
set_option maxHeartbeats 1000000 in
theorem m_spec_GreedyRepairs_own (u : Nat) (n0 : Int) (l1 : (List ConflictEdge)) (p2 : (List ConflictEdge)) (r : (List (List Int))) (H : m_spec_GreedyRepairs u n0 l1 p2 = some r) : FnO prg 7 [(intA n0), (sl tConflictEdge l1), (sl tConflictEdge p2)] (.m [0] 0 r.length (tSl tInt).k) [.row (flat (tSl tInt).enc r)] := by
  unfold m_spec_GreedyRepairs at H
  refine fnO_of_T Try.func7 rfl rfl (Nat.le_of_ble_eq_true rfl) ?_
  refine te [(0, (intA n0)), (1, (sl tConflictEdge l1)), (2, (sl tConflictEdge p2))] rfl ?_
  refine sr ?_
  refine pv tb 1 rfl ?_
  refine TO_nil ?_
  refine sr ?_
  refine TO_cons rfl (TOp_lit (nn := 0) (k := 1) sl24 zero53 rfl rfl rfl rfl (by decide) ?_)
  refine TO_st (σ' := [.row (flat (tSl tInt).enc ([] : (List (List Int))))]) rfl ?_
  refine pv tb 1 rfl ?_
  refine TO_nil ?_
  refine T_seq ?_
  obtain ⟨t21_1, J_1, H_2⟩ := bind_inv H
  refine T_cutX (fun x => t21_1 = x) (fun (t21_1 : Bool) => [(0, (intA n0)), (1, (sl tConflictEdge l1)), (2, (sl tConflictEdge p2)), (7, (.m [0] 0 ([] : (List (List Int))).length (tSl tInt).k)), (21, (boolA t21_1))]) (fun (t21_1 : Bool) => [.row (flat (tSl tInt).enc ([] : (List (List Int))))]) ?_ ?_
  ·replace H := J_1
   refine T_region ?_
   obtain ⟨r_3, h_4, H⟩ := bind_inv H
   refine pv tb 3 rfl ?_
   refine TO_cons rfl (TOp_callV (call_static ent27 rfl) (m_spec_IsValidPreference_ok _ _ _ _ h_4) rfl rfl rfl ?_)
   refine pv tb 2 rfl ?_
   refine TO_split (t := (!r_3)) 18 rfl (fun g_5 => ?_) (fun g_5 => ?_)
   ·replace H := cond_t g_5 H
    refine pv tb 3 rfl ?_
    refine TO_nil ?_
    exact joined true (w0 1) (some_inj H).symm
   ·replace H := cond_f g_5 H
    refine pv tb 3 rfl ?_
    refine TO_nil ?_
    exact joined (decide (7 < n0)) (w0 1) (some_inj H).symm
  ·rintro _ rfl
   replace H := H_2
   refine T_cond (t := t21_1) rfl (fun c_6 => ?_) (fun c_6 => ?_)
   ·replace H := cond_t c_6 H
    refine sr ?_
    refine pv tb 2 rfl ?_
    refine TO_nil ?_
    refine T_ret ?_
    refine then_ret ?_
    obtain rfl := some_inj H
    exact end_pick (.tmp .nil) rfl [0] (by decide) rfl rfl rfl rfl rfl rfl
   ·replace H := cond_f c_6 H
    refine T_skip ?_
    refine sr ?_
    obtain ⟨r_7, h_8, H⟩ := bind_inv H
    refine pv tb 4 rfl ?_
    refine TO_cons rfl (TOp_callV (call_static ent29 rfl) (m_spec_l28All_ok u _ _ h_8) rfl rfl rfl ?_)
    refine TO_cons rfl (TOp_lit (nn := 0) (k := 1) sl53 zero3 rfl rfl rfl rfl (by decide) ?_)
    refine TO_st (σ' := [.row (flat (tSl tInt).enc ([] : (List (List Int)))), .row (flat tInt.enc ([] : (List Int)))]) rfl ?_
    refine TO_cons rfl (TOp_lit (nn := 0) (k := 1) sl24 zero53 rfl rfl rfl rfl (by decide) ?_)
    refine TO_st (σ' := [.row (flat (tSl tInt).enc ([] : (List (List Int)))), .row (flat tInt.enc ([] : (List Int))), .row (flat (tSl tInt).enc ([] : (List (List Int))))]) rfl ?_
    refine TO_frz1 1 (E' := [(0, (intA n0)), (1, (sl tConflictEdge l1)), (2, (sl tConflictEdge p2)), (7, (.m [0] 0 ([] : (List (List Int))).length (tSl tInt).k)), (23, (intA n0)), (24, (sl tConflictEdge l1)), (25, (sl tConflictEdge p2)), (26, (intA n0)), (27, (sl tInt r_7)), (28, (sl tInt ([] : (List Int)))), (29, (.m [2] 0 ([] : (List (List Int))).length (tSl tInt).k))]) rfl rfl (lb rfl) ⟨(.keep rfl), (.keep rfl), (.keep rfl), (.keep rfl), (.keep rfl), (.keep rfl), (.keep rfl), (.keep rfl), (.keep rfl), fz1E, (.keep rfl), trivial⟩ ?_
    refine TO_st (σ' := [.row (flat (tSl tInt).enc ([] : (List (List Int)))), .dead, .row (flat (tSl tInt).enc ([] : (List (List Int))))]) rfl ?_
    obtain ⟨r_9, h_10, H⟩ := bind_inv H
    refine TO_cons rfl (TOp_callS [2] (call_static ent28 rfl) (by decide) rfl rfl rfl rfl rfl rfl (m_spec_l28Walk_r u _ _ _ _ _ _ _ h_10) rfl rfl ?_)
    refine toe [(0, (intA n0)), (1, (sl tConflictEdge l1)), (2, (sl tConflictEdge p2)), (7, (.m [0] 0 ([] : (List (List Int))).length (tSl tInt).k)), (23, (intA n0)), (24, (sl tConflictEdge l1)), (25, (sl tConflictEdge p2)), (26, (intA n0)), (27, (sl tInt r_7)), (28, (sl tInt ([] : (List Int)))), (30, (.m [3] 0 r_9.length (tSl tInt).k))] rfl ?_
    refine TO_st (σ' := [.row (flat (tSl tInt).enc ([] : (List (List Int)))), .dead, .dead, .row (flat (tSl tInt).enc r_9)]) rfl ?_
    refine pv tb 1 rfl ?_
    refine TO_nil ?_
    refine T_seq ?_
    refine sr ?_
    refine pv tb 1 rfl ?_
    refine TO_nil ?_
    obtain ⟨O12_, L12_, N12_⟩ := bind_inv H
    clear H
    obtain ⟨B12_, hb12, L12_⟩ := gen_forS L12_
    refine T_block ?_
    refine T_loopX (fun k => fun (⟨i_11, out7⟩ : Nat × (List (List Int))) => k = r_9.length - i_11 ∧ forS B12_ (r_9.drop i_11) (i_11 : Int) out7 = some O12_) (fun (⟨i_11, out7⟩ : Nat × (List (List Int))) => [(7, (.m [0] 0 out7.length (tSl tInt).k)), (8, (.m [3] 0 r_9.length (tSl tInt).k)), (9, (intA (i_11 : Int)))]) (fun (⟨i_11, out7⟩ : Nat × (List (List Int))) => [.row (flat (tSl tInt).enc out7), .dead, .dead, .row (flat (tSl tInt).enc r_9)]) _ (0, ([] : (List (List Int)))) (w0 4) ⟨rfl, L12_⟩ ?_
    rintro _ ⟨i_11, out7⟩ ⟨rfl, L12_⟩
    refine T_fact (len_m (.tmp 8) rfl) (fun hl12 => ?_)
    refine T_seq ?_
    refine sr ?_
    refine pv tb 2 rfl ?_
    refine Tp rfl rfl (pur_len_m sl24 rfl rfl) rfl ?_
    refine pv tb 1 rfl ?_
    refine TO_nil ?_
    refine T_cond (t := decide ((i_11 : Int) < (r_9.length : Int))) rfl (fun d12 => ?_) (fun d12 => ?_)
    ·replace d12 := of_decide_eq_true d12
     obtain ⟨x_i_11, hx_i_11⟩ : ∃ v, (r_9)[i_11]? = some v := ⟨_, List.getElem?_eq_getElem (by omega)⟩
     obtain ⟨C12_, H, K12_⟩ := forS_step L12_ hx_i_11
     rw [hb12] at H
     refine T_skip ?_
     refine T_seq ?_
     refine T_block ?_
     refine sr ?_
     refine pv tb 1 rfl ?_
     refine TO_nil ?_
     obtain ⟨O13_, L13_, N13_⟩ := bind_inv H
     clear H
     obtain ⟨B13_, hb13, L13_⟩ := gen_whileF L13_
     refine T_cutX (fun (x : Int) => O13_ = .inl x) (fun (k10 : Int) => [(7, (.m [0] 0 out7.length (tSl tInt).k)), (8, (.m [3] 0 r_9.length (tSl tInt).k)), (9, (intA (i_11 : Int))), (10, (intA k10))]) (fun (k10 : Int) => [.row (flat (tSl tInt).enc out7), .dead, .dead, .row (flat (tSl tInt).enc r_9)]) ?_ ?_
     ·skip
      refine T_block ?_
      refine T_loopX (fun k => fun (k10 : Int) => whileF B13_ k k10 = some O13_) (fun (k10 : Int) => [(7, (.m [0] 0 out7.length (tSl tInt).k)), (8, (.m [3] 0 r_9.length (tSl tInt).k)), (9, (intA (i_11 : Int))), (10, (intA k10))]) (fun (k10 : Int) => [.row (flat (tSl tInt).enc out7), .dead, .dead, .row (flat (tSl tInt).enc r_9)]) u 0 (w0 4) L13_ ?_
      rintro _ k10 L13_
      obtain ⟨k13, rfl, C13_, H, K13_⟩ := while_step L13_
      rw [hb13] at H
      refine T_seq ?_
      obtain ⟨t52_14, J_14, H_15⟩ := bind_inv H
      refine T_cutX (fun x => t52_14 = x) (fun (t52_14 : Bool) => [(7, (.m [0] 0 out7.length (tSl tInt).k)), (8, (.m [3] 0 r_9.length (tSl tInt).k)), (9, (intA (i_11 : Int))), (10, (intA k10)), (52, (boolA t52_14))]) (fun (t52_14 : Bool) => [.row (flat (tSl tInt).enc out7), .dead, .dead, .row (flat (tSl tInt).enc r_9)]) ?_ ?_
      ·replace H := J_14
       refine T_regionD mixed (by kernel_rfl) ?_
       refine pq tb 2 rfl ?_
       refine TQ_pure rfl (pur_len_m sl24 rfl rfl) rfl ?_
       refine pq tb 2 rfl ?_
       refine TQ_split (t := decide (k10 < (out7.length : Int))) 41 rfl (fun g_16 => ?_) (fun g_16 => ?_)
       ·replace H := cond_t g_16 H
        obtain ⟨v_17, h_18, H⟩ := bind_inv H
        obtain ⟨n_19, hz_20, hv_21⟩ := getI_inv h_18
        refine pq tb 2 rfl ?_
        refine TQ_on rfl rfl (by decide) rfl (pur_ixM (T := (tSl tInt)) sl24 rfl rfl hz_20 hv_21 rfl) rfl ?_
        refine TQ_on rfl rfl (by decide) rfl (pur_ldE (f := (tSl tInt).enc) (k := (tSl tInt).k) (i := n_19) (off := 0) (tSl tInt).len rfl one53 rfl rfl rfl hv_21 rfl rfl) rfl ?_
        refine pq tb 2 rfl ?_
        refine TQ_on rfl rfl (by decide) rfl (pur_ixM (T := (tSl tInt)) sl24 rfl rfl rfl hx_i_11 rfl) rfl ?_
        refine TQ_on rfl rfl (by decide) rfl (pur_ldE (f := (tSl tInt).enc) (k := (tSl tInt).k) (i := i_11) (off := 0) (tSl tInt).len rfl one53 rfl rfl rfl hx_i_11 rfl rfl) rfl ?_
        obtain ⟨r_22, h_23, H⟩ := bind_inv H
        refine TQ_onV rfl rfl (by decide) rfl (call_static ent30 rfl) (m_spec_l3Ints_ok u _ _ _ h_23) rfl rfl ?_
        refine pq tb 2 rfl ?_
        refine TQ_nil ?_
        exact joined (decide (r_22 < 0)) (w0 4) (some_inj H).symm
       ·replace H := cond_f g_16 H
        refine pq tb 11 rfl ?_
        refine TQ_nil ?_
        exact joined false (w0 4) (some_inj H).symm
      ·rintro _ rfl
       replace H := H_15
       refine T_cond (t := t52_14) rfl (fun c_24 => ?_) (fun c_24 => ?_)
       ·replace H := cond_t c_24 H
        refine T_skip ?_
        refine T_block ?_
        refine T_region ?_
        refine pv tb 3 rfl ?_
        refine TO_nil ?_
        obtain rfl := some_inj H
        exact again k13 (w64 (k10 + 1)) (Nat.lt_succ_self _) (w0 4) K13_
       ·replace H := cond_f c_24 H
        refine T_exit ?_
        refine then_exit ?_
        refine then_exit ?_
        refine block_exit ?_
        obtain rfl := some_inj H
        obtain rfl := some_inj K13_
        exact joined k10 (w0 4) rfl
     ·rintro k10 rfl
      replace H := onS_l N13_
      obtain ⟨ys_25, h_26, H⟩ := bind_inv H
      obtain ⟨i_27, j_28, hi_29, hj_30, hij_31, hjl_32, hys_33, _⟩ := cutI_inv h_26
      obtain ⟨us_34, h_35, H⟩ := bind_inv H
      refine T_pad ?_
      refine T_cutX (fun (_ : Unit) => True) (fun _ => [(7, (.m [0] 0 out7.length (tSl tInt).k)), (8, (.m [3] 0 r_9.length (tSl tInt).k)), (9, (intA (i_11 : Int))), (10, (intA k10)), (11, (.m [4] 0 us_34.length (tSl tInt).k))]) (fun _ => [.row (flat (tSl tInt).enc out7), .dead, .dead, .row (flat (tSl tInt).enc r_9), .row (flat (tSl tInt).enc us_34)]) ?_ ?_
      ·skip
       refine T_regionP 4 mixed rfl ?_
       refine pa tb [0, 1] 8 rfl (by kernel_rfl) rfl ?_
       refine tf 2 rfl (pur_ixM (T := (tSl tInt)) sl24 rfl rfl rfl hx_i_11 rfl) rfl rfl (by kernel_rfl) ?_
       refine pa tb [5, 6] 5 rfl (by kernel_rfl) rfl ?_
       refine tf 7 rfl (pur_cutM (lo := (some (.tmp 61))) (hi := none) sl24 rfl ⟨_, congrArg (fun z => A.v (.int .i64 z)) hi_29⟩ hj_30.symm hij_31 hjl_32 rfl) rfl rfl (by kernel_rfl) ?_
       refine t1 3 (by kernel_rfl) rfl rfl (TOp_pure (pur_ldE (f := (tSl tInt).enc) (k := (tSl tInt).k) (i := i_11) (off := 0) (tSl tInt).len rfl one53 rfl rfl rfl hx_i_11 rfl rfl) rfl ?_)
       refine t1 4 (by kernel_rfl) rfl rfl (TOp_lit (nn := 1) (k := 1) sl24 zero53 rfl rfl rfl rfl (by decide) ?_)
       refine t1 8 (by kernel_rfl) rfl rfl (TOp_appY (T := (tSl tInt)) (f := (tSl tInt).enc) (xs := ([x_i_11] : (List (List Int)))) (ys := ys_25) (tSl tInt).len sl24 zero53 rfl bytes53 (by decide) rfl rfl rfl rfl (src_cut (T := (tSl tInt)) (xs := out7) (i := i_27) (j := j_28) rfl rfl hij_31 hjl_32 hys_33) (flat_cell (tSl tInt) _) h_35 ?_)
       refine tmw 5 6 (by decide) (lb rfl) rfl rfl (lb rfl) rfl ?_
       refine pa tb [9] 0 rfl (by kernel_rfl) rfl ?_
       refine TA_ghost (E' := [(7, (.m [0] 0 out7.length (tSl tInt).k)), (8, (.m [3] 0 r_9.length (tSl tInt).k)), (9, (intA (i_11 : Int))), (10, (intA k10)), (11, (.m [4] 0 us_34.length (tSl tInt).k))]) (σ' := [.row (flat (tSl tInt).enc out7), .dead, .dead, .row (flat (tSl tInt).enc r_9), .row (flat (tSl tInt).enc us_34), .dead, .dead]) (Ghost.move 4 5 (by decide) (lb rfl) rfl rfl (lb rfl) (Ghost.weak (WeakL.to 7 (lb rfl) rfl rfl rfl rfl ⟨leR rfl, leR rfl, leR rfl, leR rfl, leR rfl, trivial⟩))) ?_
       exact TA_nil (by kernel_rfl) (joined () (w0 5) trivial)
      ·rintro _ _
       refine T_region ?_
       refine TO_cons rfl (TOp_lit (nn := 0) (k := 1) sl24 zero53 rfl rfl rfl rfl (by decide) ?_)
       refine TO_st (σ' := [.row (flat (tSl tInt).enc out7), .dead, .dead, .row (flat (tSl tInt).enc r_9), .row (flat (tSl tInt).enc us_34), .row (flat (tSl tInt).enc ([] : (List (List Int))))]) rfl ?_
       obtain ⟨ys_36, h_37, H⟩ := bind_inv H
       obtain ⟨i_38, j_39, hi_40, hj_41, hij_42, hjl_43, hys_44, _⟩ := cutI_inv h_37
       refine pv tb 2 rfl ?_
       refine Tp rfl rfl (pur_cutM (lo := none) (hi := (some (.tmp 66))) sl24 rfl hi_40.symm ⟨_, congrArg (fun z => A.v (.int .i64 z)) hj_41⟩ hij_42 hjl_43 rfl) rfl ?_
       obtain ⟨us_45, h_46, H⟩ := bind_inv H
       refine TO_cons rfl (TOp_appZ (T := (tSl tInt)) (f := (tSl tInt).enc) (xs := ([] : (List (List Int)))) (ys := ys_36) (tSl tInt).len sl24 zero53 rfl bytes53 (by decide) rfl rfl rfl rfl (src_cut (T := (tSl tInt)) (xs := out7) (i := i_38) (j := j_39) rfl rfl hij_42 hjl_43 hys_44) (flat_cell (tSl tInt) _) h_46 (lb rfl) ?_)
       refine toe [(7, (.m [0] 0 out7.length (tSl tInt).k)), (8, (.m [3] 0 r_9.length (tSl tInt).k)), (9, (intA (i_11 : Int))), (10, (intA k10)), (11, (.m [4] 0 us_34.length (tSl tInt).k)), (65, (.m [0] 0 out7.length (tSl tInt).k)), (66, (intA k10)), (67, (.m [0] (i_38 * (tSl tInt).k) (j_39 - i_38) (tSl tInt).k)), (68, (.m [5] 0 us_45.length (tSl tInt).k))] rfl ?_
       refine TO_st (σ' := [.row (flat (tSl tInt).enc out7), .dead, .dead, .row (flat (tSl tInt).enc r_9), .row (flat (tSl tInt).enc us_34), .row (flat (tSl tInt).enc us_45), .dead]) rfl ?_
       obtain ⟨us_47, h_48, H⟩ := bind_inv H
       refine pv tb 1 rfl ?_
       refine TO_cons rfl (TOp_appZ (T := (tSl tInt)) (f := (tSl tInt).enc) (xs := us_45) (ys := us_34) (tSl tInt).len sl24 zero53 rfl bytes53 (by decide) rfl rfl rfl rfl (src_mT (f := (tSl tInt).enc) (tSl tInt).len rfl rfl (flat_cell (tSl tInt) _)) (flat_cell (tSl tInt) _) h_48 (lb rfl) ?_)
       refine toe [(7, (.m [0] 0 out7.length (tSl tInt).k)), (8, (.m [3] 0 r_9.length (tSl tInt).k)), (9, (intA (i_11 : Int))), (10, (intA k10)), (11, (.m [4] 0 us_34.length (tSl tInt).k)), (65, (.m [0] 0 out7.length (tSl tInt).k)), (66, (intA k10)), (67, (.m [0] (i_38 * (tSl tInt).k) (j_39 - i_38) (tSl tInt).k)), (69, (.m [4] 0 us_34.length (tSl tInt).k)), (70, (.m [5] 0 us_47.length (tSl tInt).k))] rfl ?_
       refine TO_st (σ' := [.row (flat (tSl tInt).enc out7), .dead, .dead, .row (flat (tSl tInt).enc r_9), .row (flat (tSl tInt).enc us_34), .row (flat (tSl tInt).enc us_47), .dead, .dead]) rfl ?_
       refine pv tb 1 rfl ?_
       refine TO_nil ?_
       refine T_move' 0 5 (by decide) (lb rfl) rfl rfl (lb rfl) ?_
       refine te [(7, (.m [0] 0 us_47.length (tSl tInt).k)), (8, (.m [3] 0 r_9.length (tSl tInt).k)), (9, (intA (i_11 : Int)))] rfl ?_
       refine T_st (σ' := [.row (flat (tSl tInt).enc us_47), .dead, .dead, .row (flat (tSl tInt).enc r_9), .row (flat (tSl tInt).enc us_34), .dead, .dead, .dead]) rfl ?_
       refine T_region ?_
       refine pv tb 1 rfl ?_
       refine Tp rfl rfl (pur_add rfl rfl rfl (fits64 (by omega) (by omega))) rfl ?_
       refine pv tb 1 rfl ?_
       refine TO_nil ?_
       obtain rfl := some_inj H
       exact again (r_9.length - (i_11 + 1)) (i_11 + 1, us_47) (by omega) (w0 4) ⟨rfl, K12_⟩
    ·replace d12 := of_decide_eq_false d12
     obtain rfl := forS_end L12_ (by omega)
     refine T_exit ?_
     refine then_exit ?_
     refine then_exit ?_
     refine block_exit ?_
     replace H := N12_
     refine sr ?_
     refine pv tb 2 rfl ?_
     refine TO_nil ?_
     refine T_ret ?_
     obtain rfl := some_inj H
     exact end_pick (.tmp .nil) rfl [0] (by decide) rfl rfl rfl rfl rfl rfl
theorem m_spec_GreedyRepairs_ok (u : Nat) (n0 : Int) (l1 : (List ConflictEdge)) (p2 : (List ConflictEdge)) (r : (List (List Int))) (H : m_spec_GreedyRepairs u n0 l1 p2 = some r) : FnV prg 7 [(intA n0), (sl tConflictEdge l1), (sl tConflictEdge p2)] (sl (tSl tInt) r) := (m_spec_GreedyRepairs_own u n0 l1 p2 r H).frz (frzTE (T := (tSl tInt)) rfl)

set_option maxHeartbeats 1000000 in
theorem m_laws_toConflictEdge_ok (a0 : ConflictEdge) (r : ConflictEdge) (H : m_laws_toConflictEdge a0 = some r) : FnV prg 31 [(.g (tConflictEdge.enc a0))] (.g (tConflictEdge.enc r)) := by
  unfold m_laws_toConflictEdge at H
  refine fnV_of_T Try.func31 rfl rfl (Nat.le_of_ble_eq_true rfl) ?_
  refine te [(0, (.g (tConflictEdge.enc a0)))] rfl ?_
  refine sr ?_
  refine TO_cons rfl (TOp_box rfl (boxAll rfl) rfl rfl ?_)
  refine TO_cons rfl (TOp_alloc zero62 rfl rfl ?_)
  refine TO_nil ?_
  refine sr ?_
  refine TO_cons rfl (TOp_alloc zero62 rfl rfl ?_)
  refine TO_nil ?_
  refine sr ?_
  refine pv tb 3 rfl ?_
  refine TO_cons rfl (TOp_storeB sz3 rfl rfl rfl rfl rfl rfl rfl (by decide) (lb rfl) rfl ?_)
  refine TO_st (σ' := [.box [(intA a0.a), (intA a0.b)], .box [(intA 0), (intA 0)], .box [(intA a0.a), (intA 0)]]) rfl ?_
  refine TO_nil ?_
  refine sr ?_
  refine pv tb 3 rfl ?_
  refine TO_cons rfl (TOp_storeB sz3 rfl rfl rfl rfl rfl rfl rfl (by decide) (lb rfl) rfl ?_)
  refine TO_st (σ' := [.box [(intA a0.a), (intA a0.b)], .box [(intA 0), (intA 0)], .box [(intA a0.a), (intA a0.b)]]) rfl ?_
  refine TO_nil ?_
  refine sr ?_
  refine pv tb 1 rfl ?_
  refine TO_cons rfl (TOp_storeB sz62 rfl rfl rfl rfl rfl rfl rfl (by decide) (lb rfl) rfl ?_)
  refine TO_st (σ' := [.box [(intA a0.a), (intA a0.b)], .box [(intA a0.a), (intA a0.b)], .box [(intA a0.a), (intA a0.b)]]) rfl ?_
  refine TO_nil ?_
  refine T_ret ?_
  obtain rfl := some_inj H
  refine end_ret (.cellK rfl agg62 rfl (lb rfl) .nil) rfl rfl ⟨?_, rfl⟩
  rfl

set_option maxHeartbeats 1000000 in
theorem m_laws_toConflictEdgeS_own (a0 : (List ConflictEdge)) (r : (List ConflictEdge)) (H : m_laws_toConflictEdgeS a0 = some r) : FnO prg 8 [(sl tConflictEdge a0)] (.m [0] 0 r.length tConflictEdge.k) [.row (flat tConflictEdge.own r)] := by
  unfold m_laws_toConflictEdgeS at H
  refine fnO_of_T Try.func8 rfl rfl (Nat.le_of_ble_eq_true rfl) ?_
  refine te [(0, (sl tConflictEdge a0))] rfl ?_
  refine sr ?_
  refine pv tb 1 rfl ?_
  refine TO_nil ?_
  refine sr ?_
  refine pv tb 1 rfl ?_
  refine Tp rfl rfl (pur_lenT (T := tConflictEdge) sl22 rfl rfl) rfl ?_
  obtain ⟨us_1, h_2, H⟩ := bind_inv H
  refine TO_cons rfl (TOp_makeT (T := tConflictEdge) (z := (default : ConflictEdge)) rfl sl26 zero62 rfl bytes62 rfl rfl rfl rfl h_2 ?_)
  refine pv tb 1 rfl ?_
  refine TO_nil ?_
  refine T_seq ?_
  refine sr ?_
  refine pv tb 1 rfl ?_
  refine TO_nil ?_
  obtain ⟨O4_, L4_, N4_⟩ := bind_inv H
  clear H
  obtain ⟨B4_, hb4, L4_⟩ := gen_forS L4_
  refine T_block ?_
  refine T_loopX (fun k => fun (⟨i_3, out3⟩ : Nat × (List ConflictEdge)) => k = a0.length - i_3 ∧ forS B4_ (a0.drop i_3) (i_3 : Int) out3 = some O4_) (fun (⟨i_3, out3⟩ : Nat × (List ConflictEdge)) => [(0, (sl tConflictEdge a0)), (3, (.m [0] 0 out3.length tConflictEdge.k)), (4, (intA (i_3 : Int)))]) (fun (⟨i_3, out3⟩ : Nat × (List ConflictEdge)) => [.row (flat tConflictEdge.enc out3)]) _ (0, us_1) (w0 1) ⟨rfl, L4_⟩ ?_
  rintro _ ⟨i_3, out3⟩ ⟨rfl, L4_⟩
  refine T_fact (len_sl (T := tConflictEdge) (.tmp 0) rfl) (fun hl4 => ?_)
  refine T_seq ?_
  refine sr ?_
  refine pv tb 2 rfl ?_
  refine Tp rfl rfl (pur_lenT (T := tConflictEdge) sl22 rfl rfl) rfl ?_
  refine pv tb 1 rfl ?_
  refine TO_nil ?_
  refine T_cond (t := decide ((i_3 : Int) < (a0.length : Int))) rfl (fun d4 => ?_) (fun d4 => ?_)
  ·replace d4 := of_decide_eq_true d4
   obtain ⟨x_i_3, hx_i_3⟩ : ∃ v, (a0)[i_3]? = some v := ⟨_, List.getElem?_eq_getElem (by omega)⟩
   obtain ⟨C4_, H, K4_⟩ := forS_step L4_ hx_i_3
   rw [hb4] at H
   refine T_skip ?_
   refine T_seq ?_
   refine T_block ?_
   refine T_region ?_
   refine pv tb 4 rfl ?_
   refine Tp rfl rfl (pur_ixT (T := tConflictEdge) sl22 rfl rfl rfl hx_i_3 rfl) rfl ?_
   refine Tp rfl rfl (pur_ldTK (T := tConflictEdge) (i := i_3) (off := 0) rfl agg64 rfl rfl hx_i_3 (by decide) rfl) rfl ?_
   obtain ⟨r_5, h_6, H⟩ := bind_inv H
   refine TO_cons rfl (TOp_callV (call_static ent31 rfl) (m_laws_toConflictEdge_ok _ _ h_6) rfl rfl rfl ?_)
   obtain ⟨v_7, h_8, H⟩ := bind_inv H
   obtain ⟨n_9, hz_10, hv_11⟩ := getI_inv h_8
   refine Tp rfl rfl (pur_ixM (T := tConflictEdge) sl26 rfl rfl hz_10 hv_11 rfl) rfl ?_
   refine TO_cons rfl (TOp_setT (f := tConflictEdge.enc) (z := (i_3 : Int)) (y := r_5) tConflictEdge.len tConflictEdge.pos hz_10 sz62 rfl rfl rfl rfl rfl hv_11 rfl rfl ?_)
   refine TO_env (E' := [(0, (sl tConflictEdge a0)), (3, (.m [0] 0 (out3.set ((i_3 : Int)).toNat r_5).length tConflictEdge.k)), (4, (intA (i_3 : Int))), (14, (.m [0] 0 (out3.set ((i_3 : Int)).toNat r_5).length tConflictEdge.k)), (15, (intA (i_3 : Int))), (16, (sl tConflictEdge a0)), (17, (intA (i_3 : Int))), (18, (.q (flat tConflictEdge.enc a0) (i_3 * tConflictEdge.k))), (19, (.g (tConflictEdge.enc x_i_3))), (20, (.g (tConflictEdge.enc r_5)))]) ⟨rfl, (congrArg (fun q => A.m [0] 0 q tConflictEdge.k) (List.length_set ..).symm), rfl, (congrArg (fun q => A.m [0] 0 q tConflictEdge.k) (List.length_set ..).symm), rfl, rfl, rfl, rfl, rfl, rfl, trivial⟩ ?_
   refine TO_st (σ' := [.row (flat tConflictEdge.enc (out3.set ((i_3 : Int)).toNat r_5))]) rfl ?_
   refine TO_nil ?_
   refine T_region ?_
   refine pv tb 1 rfl ?_
   refine Tp rfl rfl (pur_add rfl rfl rfl (fits64 (by omega) (by omega))) rfl ?_
   refine pv tb 1 rfl ?_
   refine TO_nil ?_
   obtain rfl := some_inj H
   exact again (a0.length - (i_3 + 1)) (i_3 + 1, (out3.set ((i_3 : Int)).toNat r_5)) (by omega) (w0 1) ⟨rfl, K4_⟩
  ·replace d4 := of_decide_eq_false d4
   obtain rfl := forS_end L4_ (by omega)
   refine T_exit ?_
   refine then_exit ?_
   refine then_exit ?_
   refine block_exit ?_
   replace H := N4_
   refine sr ?_
   refine pv tb 2 rfl ?_
   refine TO_nil ?_
   refine T_ret ?_
   obtain rfl := some_inj H
   exact end_pick (.tmp .nil) rfl [0] (by decide) rfl rfl rfl rfl rfl rfl
theorem m_laws_toConflictEdgeS_ok (a0 : (List ConflictEdge)) (r : (List ConflictEdge)) (H : m_laws_toConflictEdgeS a0 = some r) : FnV prg 8 [(sl tConflictEdge a0)] (sl tConflictEdge r) := (m_laws_toConflictEdgeS_own a0 r H).frz (frzT (T := tConflictEdge) rfl)

set_option maxHeartbeats 1000000 in
theorem m_impl_within_ok (n0 : Int) (low1 : Int) (high2 : Int) (r : Bool) (H : m_impl_within n0 low1 high2 = some r) : FnV prg 47 [(intA n0), (intA low1), (intA high2)] (boolA r) := by
  unfold m_impl_within at H
  refine fnV_of_T Try.func47 rfl rfl (Nat.le_of_ble_eq_true rfl) ?_
  refine te [(0, (intA n0)), (1, (intA low1)), (2, (intA high2))] rfl ?_
  refine sr ?_
  refine pv tb 1 rfl ?_
  refine TO_nil ?_
  refine T_cutX (fun x => ((decide (low1 ≤ n0)) && (decide (n0 ≤ high2))) = x) (fun (t6_1 : Bool) => [(6, (boolA t6_1))]) (fun (t6_1 : Bool) => []) ?_ ?_
  ·skip
   refine T_region ?_
   refine pv tb 4 rfl ?_
   refine TO_split (t := decide (low1 ≤ n0)) 10 rfl (fun g_3 => ?_) (fun g_3 => ?_)
   ·skip
    refine pv tb 5 rfl ?_
    refine TO_nil ?_
    exact joined (decide (n0 ≤ high2)) (w0 0) (by first | exact Eq.symm ((and_T g_3 rfl)))
   ·skip
    refine pv tb 5 rfl ?_
    refine TO_nil ?_
    exact joined false (w0 0) (by first | exact Eq.symm ((and_F g_3 rfl)))
  ·rintro _ rfl
   refine T_ret ?_
   obtain rfl := some_inj H
   refine end_ret (.tmp .nil) rfl rfl ⟨?_, rfl⟩
   rfl

set_option maxHeartbeats 1000000 in
theorem m_impl_AreValidEdges_ok (n0 : Int) (edges1 : (List ConflictEdge)) (r : Bool) (H : m_impl_AreValidEdges n0 edges1 = some r) : FnV prg 69 [(intA n0), (sl tConflictEdge edges1)] (boolA r) := by
  unfold m_impl_AreValidEdges at H
  refine fnV_of_T Try.func69 rfl rfl (Nat.le_of_ble_eq_true rfl) ?_
  refine te [(0, (intA n0)), (1, (sl tConflictEdge edges1))] rfl ?_
  refine sr ?_
  refine pv tb 1 rfl ?_
  refine TO_nil ?_
  refine T_seq ?_
  refine sr ?_
  obtain ⟨r_1, h_2, H⟩ := bind_inv H
  refine pv tb 1 rfl ?_
  refine TO_cons rfl (TOp_callV (call_static ent47 rfl) (m_impl_within_ok _ _ _ _ h_2) rfl rfl rfl ?_)
  refine pv tb 1 rfl ?_
  refine TO_nil ?_
  refine T_cond (t := (!r_1)) rfl (fun c_3 => ?_) (fun c_3 => ?_)
  ·replace H := cond_t c_3 H
   refine sr ?_
   refine pv tb 1 rfl ?_
   refine TO_nil ?_
   refine T_ret ?_
   refine then_ret ?_
   obtain rfl := some_inj H
   refine end_ret (.tmp .nil) rfl rfl ⟨?_, rfl⟩
   rfl
  ·replace H := cond_f c_3 H
   refine T_skip ?_
   refine T_seq ?_
   refine sr ?_
   refine pv tb 1 rfl ?_
   refine Tp rfl rfl (pur_lenT (T := tConflictEdge) sl26 rfl rfl) rfl ?_
   refine pv tb 1 rfl ?_
   refine TO_nil ?_
   obtain ⟨O5_, L5_, N5_⟩ := bind_inv H
   clear H
   obtain ⟨B5_, hb5, L5_⟩ := gen_forL L5_
   refine T_block ?_
   refine T_loopX (fun k => fun (t_4 : Nat) => k = edges1.length - t_4 ∧ forL B5_ (edges1.drop t_4) (t_4 : Int) () = some O5_) (fun (t_4 : Nat) => [(0, (intA n0)), (1, (sl tConflictEdge edges1)), (10, (sl tConflictEdge edges1)), (11, (intA (edges1.length : Int))), (12, (intA (t_4 : Int)))]) (fun (t_4 : Nat) => []) _ (0 : Nat) (w0 0) ⟨rfl, L5_⟩ ?_
   rintro _ t_4 ⟨rfl, L5_⟩
   refine T_fact (len_sl (T := tConflictEdge) (.tmp 1) rfl) (fun hl5 => ?_)
   refine sr ?_
   refine pv tb 1 rfl ?_
   refine TO_nil ?_
   refine T_seq ?_
   refine T_cond (t := decide ((t_4 : Int) < (edges1.length : Int))) rfl (fun d5 => ?_) (fun d5 => ?_)
   ·replace d5 := of_decide_eq_true d5
    obtain ⟨x_t_4, hx_t_4⟩ : ∃ v, (edges1)[t_4]? = some v := ⟨_, List.getElem?_eq_getElem (by omega)⟩
    obtain ⟨C5_, H, K5_⟩ := forL_step L5_ hx_t_4
    rw [hb5] at H
    refine T_skip ?_
    refine T_seq ?_
    refine T_block ?_
    refine sr ?_
    refine pv tb 1 rfl ?_
    refine Tp rfl rfl (pur_ixT (T := tConflictEdge) sl26 rfl rfl rfl hx_t_4 rfl) rfl ?_
    refine Tp rfl rfl (pur_ldTK (T := tConflictEdge) (i := t_4) (off := 0) rfl agg62 rfl rfl hx_t_4 (by decide) rfl) rfl ?_
    refine TO_cons rfl (TOp_alloc zero62 rfl rfl ?_)
    refine pv tb 1 rfl ?_
    refine TO_cons rfl (TOp_storeB sz62 rfl rfl rfl rfl rfl rfl rfl (by decide) (lb rfl) rfl ?_)
    refine TO_st (σ' := [.box [(intA x_t_4.a), (intA x_t_4.b)]]) rfl ?_
    refine TO_nil ?_
    obtain ⟨t69_6, J_6, H_7⟩ := bind_inv H
    refine T_cutX (fun x => t69_6 = x) (fun (t69_6 : Bool) => [(0, (intA n0)), (1, (sl tConflictEdge edges1)), (10, (sl tConflictEdge edges1)), (11, (intA (edges1.length : Int))), (12, (intA (t_4 : Int))), (69, (boolA t69_6))]) (fun (t69_6 : Bool) => []) ?_ ?_
    ·replace H := J_6
     refine T_regionD mixed (by kernel_rfl) ?_
     refine pq tb 4 rfl ?_
     refine TQ_split (t := decide (x_t_4.a < 0)) 20 rfl (fun g_8 => ?_) (fun g_8 => ?_)
     ·replace H := cond_t g_8 H
      refine pq tb 16 rfl ?_
      refine tqe [(0, (intA n0)), (1, (sl tConflictEdge edges1)), (5, (intA (t_4 : Int))), (6, (.b 0 0)), (10, (sl tConflictEdge edges1)), (11, (intA (edges1.length : Int))), (12, (intA (t_4 : Int))), (33, (boolA true)), (36, (.v undef))] rfl ?_
      refine pq tb 24 rfl ?_
      refine tqe [(0, (intA n0)), (1, (sl tConflictEdge edges1)), (6, (.b 0 0)), (10, (sl tConflictEdge edges1)), (11, (intA (edges1.length : Int))), (12, (intA (t_4 : Int))), (33, (boolA true)), (36, (.v undef)), (46, (.v undef)), (56, (.v undef)), (60, (.v undef))] rfl ?_
      refine pq tb 9 rfl ?_
      refine TQ_nil ?_
      exact joined true (w0 0) (some_inj H).symm
     ·replace H := cond_f g_8 H
      refine pq tb 7 rfl ?_
      refine TQ_split (t := decide (x_t_4.b ≤ x_t_4.a)) 27 rfl (fun g_9 => ?_) (fun g_9 => ?_)
      ·replace H := cond_t g_9 H
       refine pq tb 8 rfl ?_
       refine tqe [(0, (intA n0)), (1, (sl tConflictEdge edges1)), (5, (intA (t_4 : Int))), (6, (.b 0 0)), (10, (sl tConflictEdge edges1)), (11, (intA (edges1.length : Int))), (12, (intA (t_4 : Int))), (33, (boolA true)), (35, (.v undef))] rfl ?_
       refine pq tb 24 rfl ?_
       refine tqe [(0, (intA n0)), (1, (sl tConflictEdge edges1)), (6, (.b 0 0)), (10, (sl tConflictEdge edges1)), (11, (intA (edges1.length : Int))), (12, (intA (t_4 : Int))), (33, (boolA true)), (36, (.v undef)), (46, (.v undef)), (56, (.v undef)), (57, (.v undef)), (59, (.v undef))] rfl ?_
       refine pq tb 10 rfl ?_
       refine TQ_nil ?_
       exact joined true (w0 0) (some_inj H).symm
      ·replace H := cond_f g_9 H
       refine pq tb 6 rfl ?_
       refine TQ_split (t := decide (n0 ≤ x_t_4.b)) 33 rfl (fun g_10 => ?_) (fun g_10 => ?_)
       ·replace H := cond_t g_10 H
        refine pq tb 8 rfl ?_
        refine tqe [(0, (intA n0)), (1, (sl tConflictEdge edges1)), (5, (intA (t_4 : Int))), (6, (.b 0 0)), (10, (sl tConflictEdge edges1)), (11, (intA (edges1.length : Int))), (12, (intA (t_4 : Int))), (33, (boolA true)), (36, (.v undef)), (41, (.v undef))] rfl ?_
        refine pq tb 24 rfl ?_
        refine tqe [(0, (intA n0)), (1, (sl tConflictEdge edges1)), (10, (sl tConflictEdge edges1)), (11, (intA (edges1.length : Int))), (12, (intA (t_4 : Int))), (33, (boolA true)), (36, (.v undef)), (46, (.v undef)), (56, (.v undef)), (65, (.v undef))] rfl ?_
        refine pq tb 4 rfl ?_
        refine TQ_nil ?_
        exact joined true (w0 0) (some_inj H).symm
       ·replace H := cond_f g_10 H
        refine pq tb 3 rfl ?_
        refine TQ_split (t := decide (0 < (t_4 : Int))) 36 rfl (fun g_11 => ?_) (fun g_11 => ?_)
        ·replace H := cond_t g_11 H
         refine pq tb 2 rfl ?_
         refine TQ_on rfl rfl (by decide) rfl (pur_sub rfl rfl rfl (fits64 (by omega) (by omega))) rfl ?_
         obtain ⟨v_12, h_13, H⟩ := bind_inv H
         obtain ⟨n_14, hz_15, hv_16⟩ := getI_inv h_13
         refine TQ_on rfl rfl (by decide) rfl (pur_ixT (T := tConflictEdge) sl26 rfl rfl hz_15 hv_16 rfl) rfl ?_
         refine pq tb 1 rfl ?_
         refine TQ_on rfl rfl (by decide) rfl (pur_ldT (T := tConflictEdge) (i := n_14) (off := 0) rfl one3 rfl rfl hv_16 rfl) rfl ?_
         refine pq tb 2 rfl ?_
         refine tqe [(0, (intA n0)), (1, (sl tConflictEdge edges1)), (5, (intA (t_4 : Int))), (6, (.b 0 0)), (10, (sl tConflictEdge edges1)), (11, (intA (edges1.length : Int))), (12, (intA (t_4 : Int))), (33, (boolA false)), (36, (boolA true)), (42, (intA v_12.a)), (44, (intA x_t_4.a))] rfl ?_
         refine pq tb 2 rfl ?_
         refine TQ_split (t := decide (x_t_4.a < v_12.a)) 46 rfl (fun g_17 => ?_) (fun g_17 => ?_)
         ·replace H := cond_t g_17 H
          refine pq tb 16 rfl ?_
          refine tqe [(0, (intA n0)), (1, (sl tConflictEdge edges1)), (6, (.b 0 0)), (10, (sl tConflictEdge edges1)), (11, (intA (edges1.length : Int))), (12, (intA (t_4 : Int))), (33, (boolA false)), (36, (boolA true)), (46, (boolA true)), (56, (.v undef)), (62, (.v undef))] rfl ?_
          refine pq tb 7 rfl ?_
          refine TQ_nil ?_
          exact joined true (w0 0) (some_inj H).symm
         ·replace H := cond_f g_17 H
          refine pq tb 2 rfl ?_
          refine TQ_on rfl rfl (by decide) rfl (pur_sub rfl rfl rfl (fits64 (by omega) (by omega))) rfl ?_
          refine TQ_on rfl rfl (by decide) rfl (pur_ixT (T := tConflictEdge) sl26 rfl rfl hz_15 hv_16 rfl) rfl ?_
          refine pq tb 1 rfl ?_
          refine TQ_on rfl rfl (by decide) rfl (pur_ldT (T := tConflictEdge) (i := n_14) (off := 0) rfl one3 rfl rfl hv_16 rfl) rfl ?_
          refine pq tb 4 rfl ?_
          refine TQ_split (t := decide (v_12.a = x_t_4.a)) 56 rfl (fun g_18 => ?_) (fun g_18 => ?_)
          ·replace H := cond_t g_18 H
           refine pq tb 2 rfl ?_
           refine TQ_on rfl rfl (by decide) rfl (pur_sub rfl rfl rfl (fits64 (by omega) (by omega))) rfl ?_
           refine TQ_on rfl rfl (by decide) rfl (pur_ixT (T := tConflictEdge) sl26 rfl rfl hz_15 hv_16 rfl) rfl ?_
           refine pq tb 1 rfl ?_
           refine TQ_on rfl rfl (by decide) rfl (pur_ldT (T := tConflictEdge) (i := n_14) (off := 1) rfl one3 rfl rfl hv_16 rfl) rfl ?_
           refine pq tb 2 rfl ?_
           refine tqe [(0, (intA n0)), (1, (sl tConflictEdge edges1)), (10, (sl tConflictEdge edges1)), (11, (intA (edges1.length : Int))), (12, (intA (t_4 : Int))), (33, (boolA false)), (36, (boolA true)), (46, (boolA false)), (56, (boolA true)), (62, (intA v_12.b)), (64, (intA x_t_4.b))] rfl ?_
           refine pq tb 5 rfl ?_
           refine TQ_nil ?_
           exact joined (decide (x_t_4.b ≤ v_12.b)) (w0 0) (some_inj H).symm
          ·replace H := cond_f g_18 H
           refine pq tb 8 rfl ?_
           refine tqe [(0, (intA n0)), (1, (sl tConflictEdge edges1)), (10, (sl tConflictEdge edges1)), (11, (intA (edges1.length : Int))), (12, (intA (t_4 : Int))), (33, (boolA false)), (36, (boolA true)), (46, (boolA false)), (56, (boolA false)), (62, (.v undef)), (64, (.v undef))] rfl ?_
           refine pq tb 5 rfl ?_
           refine TQ_nil ?_
           exact joined false (w0 0) (some_inj H).symm
        ·replace H := cond_f g_11 H
         refine pq tb 8 rfl ?_
         refine tqe [(0, (intA n0)), (1, (sl tConflictEdge edges1)), (5, (intA (t_4 : Int))), (6, (.b 0 0)), (10, (sl tConflictEdge edges1)), (11, (intA (edges1.length : Int))), (12, (intA (t_4 : Int))), (33, (boolA false)), (36, (boolA false)), (42, (.v undef)), (44, (.v undef))] rfl ?_
         refine pq tb 16 rfl ?_
         refine tqe [(0, (intA n0)), (1, (sl tConflictEdge edges1)), (6, (.b 0 0)), (10, (sl tConflictEdge edges1)), (11, (intA (edges1.length : Int))), (12, (intA (t_4 : Int))), (33, (boolA false)), (36, (boolA false)), (46, (.v undef)), (56, (.v undef)), (60, (.v undef))] rfl ?_
         refine pq tb 9 rfl ?_
         refine TQ_nil ?_
         exact joined false (w0 0) (some_inj H).symm
    ·rintro _ rfl
     replace H := H_7
     refine T_cond (t := t69_6) rfl (fun c_19 => ?_) (fun c_19 => ?_)
     ·replace H := cond_t c_19 H
      refine sr ?_
      refine pv tb 1 rfl ?_
      refine TO_nil ?_
      refine T_ret ?_
      refine block_ret ?_
      refine then_ret ?_
      refine then_ret ?_
      refine block_ret ?_
      refine then_ret ?_
      obtain rfl := some_inj H
      obtain rfl := some_inj K5_
      replace H := onS_r N5_
      obtain rfl := some_inj H
      refine end_ret (.tmp .nil) rfl rfl ⟨?_, rfl⟩
      rfl
     ·replace H := cond_f c_19 H
      refine T_skip ?_
      refine T_region ?_
      refine Tp rfl rfl (pur_add rfl rfl rfl (fits64 (by omega) (by omega))) rfl ?_
      refine pv tb 1 rfl ?_
      refine TO_nil ?_
      obtain rfl := some_inj H
      exact again (edges1.length - (t_4 + 1)) (t_4 + 1) (by omega) (w0 0) ⟨rfl, K5_⟩
   ·replace d5 := of_decide_eq_false d5
    obtain rfl := forL_end L5_ (by omega)
    refine T_exit ?_
    refine then_exit ?_
    refine then_exit ?_
    refine block_exit ?_
    replace H := onS_l N5_
    refine sr ?_
    refine pv tb 1 rfl ?_
    refine TO_nil ?_
    refine T_ret ?_
    obtain rfl := some_inj H
    refine end_ret (.tmp .nil) rfl rfl ⟨?_, rfl⟩
    rfl

set_option maxHeartbeats 1000000 in
theorem m_slices_Index_Simpl_ConflictEdge_impl_ConflictEdge_ok (s0 : (List ConflictEdge)) (v1 : ConflictEdge) (r : Int) (H : m_slices_Index_Simpl_ConflictEdge_impl_ConflictEdge s0 v1 = some r) : FnV prg 102 [(sl tConflictEdge s0), (.g (tConflictEdge.enc v1))] (intA r) := by
  unfold m_slices_Index_Simpl_ConflictEdge_impl_ConflictEdge at H
  refine fnV_of_T Try.func102 rfl rfl (Nat.le_of_ble_eq_true rfl) ?_
  refine te [(0, (sl tConflictEdge s0)), (1, (.g (tConflictEdge.enc v1)))] rfl ?_
  refine sr ?_
  refine TO_cons rfl (TOp_box rfl (boxAll rfl) rfl rfl ?_)
  refine pv tb 1 rfl ?_
  refine TO_nil ?_
  refine T_seq ?_
  refine sr ?_
  refine pv tb 1 rfl ?_
  refine Tp rfl rfl (pur_lenT (T := tConflictEdge) sl26 rfl rfl) rfl ?_
  refine pv tb 1 rfl ?_
  refine TO_nil ?_
  obtain ⟨O2_, L2_, N2_⟩ := bind_inv H
  clear H
  obtain ⟨B2_, hb2, L2_⟩ := gen_forL L2_
  refine T_block ?_
  refine T_loopX (fun k => fun (t_1 : Nat) => k = s0.length - t_1 ∧ forL B2_ (s0.drop t_1) (t_1 : Int) () = some O2_) (fun (t_1 : Nat) => [(0, (sl tConflictEdge s0)), (3, (.b 0 0)), (7, (intA (s0.length : Int))), (8, (intA (t_1 : Int)))]) (fun (t_1 : Nat) => [.box [(intA v1.a), (intA v1.b)]]) _ (0 : Nat) (w0 1) ⟨rfl, L2_⟩ ?_
  rintro _ t_1 ⟨rfl, L2_⟩
  refine T_fact (len_sl (T := tConflictEdge) (.tmp 0) rfl) (fun hl2 => ?_)
  refine sr ?_
  refine pv tb 1 rfl ?_
  refine TO_nil ?_
  refine T_seq ?_
  refine T_cond (t := decide ((t_1 : Int) < (s0.length : Int))) rfl (fun d2 => ?_) (fun d2 => ?_)
  ·replace d2 := of_decide_eq_true d2
   obtain ⟨x_t_1, hx_t_1⟩ : ∃ v, (s0)[t_1]? = some v := ⟨_, List.getElem?_eq_getElem (by omega)⟩
   obtain ⟨C2_, H, K2_⟩ := forL_step L2_ hx_t_1
   rw [hb2] at H
   refine T_skip ?_
   refine T_seq ?_
   refine T_block ?_
   refine sr ?_
   refine pv tb 2 rfl ?_
   refine TO_nil ?_
   refine T_seq ?_
   refine T_regionD mixed (by kernel_rfl) ?_
   refine pq tb 3 rfl ?_
   refine TQ_pure rfl (pur_ixT (T := tConflictEdge) sl26 rfl rfl rfl hx_t_1 rfl) rfl ?_
   refine TQ_pure rfl (pur_ldTK (T := tConflictEdge) (i := t_1) (off := 0) rfl agg62 rfl rfl hx_t_1 (by decide) rfl) rfl ?_
   refine TQ_pure rfl (pur_eql_edge (a := (v1.a, v1.b)) (b := (x_t_1.a, x_t_1.b)) eqe62 rfl rfl rfl) rfl ?_
   refine TQ_nil ?_
   refine T_cond (t := decide ((v1.a, v1.b) = (x_t_1.a, x_t_1.b))) rfl (fun c_3 => ?_) (fun c_3 => ?_)
   ·replace H := cond_t c_3 H
    refine sr ?_
    refine pv tb 2 rfl ?_
    refine TO_nil ?_
    refine T_ret ?_
    refine block_ret ?_
    refine then_ret ?_
    refine then_ret ?_
    refine block_ret ?_
    refine then_ret ?_
    obtain rfl := some_inj H
    obtain rfl := some_inj K2_
    replace H := onS_r N2_
    obtain rfl := some_inj H
    refine end_ret (.tmp .nil) rfl rfl ⟨?_, rfl⟩
    rfl
   ·replace H := cond_f c_3 H
    refine T_skip ?_
    refine T_region ?_
    refine Tp rfl rfl (pur_add rfl rfl rfl (fits64 (by omega) (by omega))) rfl ?_
    refine pv tb 1 rfl ?_
    refine TO_nil ?_
    obtain rfl := some_inj H
    exact again (s0.length - (t_1 + 1)) (t_1 + 1) (by omega) (w0 1) ⟨rfl, K2_⟩
  ·replace d2 := of_decide_eq_false d2
   obtain rfl := forL_end L2_ (by omega)
   refine T_exit ?_
   refine then_exit ?_
   refine then_exit ?_
   refine block_exit ?_
   replace H := onS_l N2_
   refine sr ?_
   refine pv tb 1 rfl ?_
   refine TO_nil ?_
   refine T_ret ?_
   obtain rfl := some_inj H
   refine end_ret (.tmp .nil) rfl rfl ⟨?_, rfl⟩
   rfl

set_option maxHeartbeats 1000000 in
theorem m_slices_Contains_Simpl_ConflictEdge_impl_ConflictEdge_ok (s0 : (List ConflictEdge)) (v1 : ConflictEdge) (r : Bool) (H : m_slices_Contains_Simpl_ConflictEdge_impl_ConflictEdge s0 v1 = some r) : FnV prg 70 [(sl tConflictEdge s0), (.g (tConflictEdge.enc v1))] (boolA r) := by
  unfold m_slices_Contains_Simpl_ConflictEdge_impl_ConflictEdge at H
  refine fnV_of_T Try.func70 rfl rfl (Nat.le_of_ble_eq_true rfl) ?_
  refine te [(0, (sl tConflictEdge s0)), (1, (.g (tConflictEdge.enc v1)))] rfl ?_
  refine sr ?_
  refine TO_cons rfl (TOp_box rfl (boxAll rfl) rfl rfl ?_)
  refine pv tb 1 rfl ?_
  refine TO_nil ?_
  refine sr ?_
  obtain ⟨r_1, h_2, H⟩ := bind_inv H
  refine pv tb 2 rfl ?_
  refine TO_cons rfl (TOp_callV (call_static ent102 rfl) (m_slices_Index_Simpl_ConflictEdge_impl_ConflictEdge_ok _ _ _ h_2) rfl rfl rfl ?_)
  refine pv tb 2 rfl ?_
  refine TO_nil ?_
  refine T_ret ?_
  obtain rfl := some_inj H
  refine end_ret (.tmp .nil) rfl rfl ⟨?_, rfl⟩
  rfl

set_option maxHeartbeats 1000000 in
theorem m_slices_IndexFunc_Sint_int_ok (s0 : (List Int)) (f1 : (Int → Option Bool)) (f1_g : Nat) (f1_c : List A) (f1_E : EnT prg f1_g) (f1_l : looseL f1_c = true) (f1_m : firmL f1_c = true ∧ fzL f1_c = f1_c) (f1_H : ∀ (x0 : Int) r, f1 x0 = some r → FnV prg f1_g ([(intA x0)] ++ f1_c) (boolA r)) (r : Int) (H : m_slices_IndexFunc_Sint_int s0 f1 = some r) : FnV prg 135 [(sl tInt s0), (.f f1_g f1_c)] (intA r) := by
  unfold m_slices_IndexFunc_Sint_int at H
  refine fnV_of_T Try.func135 rfl rfl (Nat.le_of_ble_eq_true rfl) ?_
  refine te [(0, (sl tInt s0)), (1, (.f f1_g f1_c))] rfl ?_
  refine sr ?_
  refine pv tb 1 rfl ?_
  refine TO_nil ?_
  refine T_seq ?_
  refine sr ?_
  refine pv tb 1 rfl ?_
  refine Tp rfl rfl (pur_lenT (T := tInt) sl53 rfl rfl) rfl ?_
  refine pv tb 1 rfl ?_
  refine TO_nil ?_
  obtain ⟨O2_, L2_, N2_⟩ := bind_inv H
  clear H
  obtain ⟨B2_, hb2, L2_⟩ := gen_forL L2_
  refine T_block ?_
  refine T_loopX (fun k => fun (t_1 : Nat) => k = s0.length - t_1 ∧ forL B2_ (s0.drop t_1) (t_1 : Int) () = some O2_) (fun (t_1 : Nat) => [(0, (sl tInt s0)), (1, (.f f1_g f1_c)), (7, (intA (s0.length : Int))), (8, (intA (t_1 : Int)))]) (fun (t_1 : Nat) => []) _ (0 : Nat) (wp 0 (lb rfl) rfl rfl (by simp only [namesE, A.names, namesL_enc, Bool.false_or, Bool.or_false, looseL_names f1_l]) rfl rfl) ⟨rfl, L2_⟩ ?_
  rintro _ t_1 ⟨rfl, L2_⟩
  refine T_fact (len_sl (T := tInt) (.tmp 0) rfl) (fun hl2 => ?_)
  refine sr ?_
  refine pv tb 1 rfl ?_
  refine TO_nil ?_
  refine T_seq ?_
  refine T_cond (t := decide ((t_1 : Int) < (s0.length : Int))) rfl (fun d2 => ?_) (fun d2 => ?_)
  ·replace d2 := of_decide_eq_true d2
   obtain ⟨x_t_1, hx_t_1⟩ : ∃ v, (s0)[t_1]? = some v := ⟨_, List.getElem?_eq_getElem (by omega)⟩
   obtain ⟨C2_, H, K2_⟩ := forL_step L2_ hx_t_1
   rw [hb2] at H
   refine T_skip ?_
   refine T_seq ?_
   refine T_block ?_
   refine sr ?_
   refine pv tb 2 rfl ?_
   refine TO_nil ?_
   refine sr ?_
   refine pv tb 3 rfl ?_
   refine Tp rfl rfl (pur_ixT (T := tInt) sl53 rfl rfl rfl hx_t_1 rfl) rfl ?_
   refine Tp rfl rfl (pur_ldT (T := tInt) (i := t_1) (off := 0) rfl one3 rfl rfl hx_t_1 rfl) rfl ?_
   obtain ⟨r_3, h_4, H⟩ := bind_inv H
   refine TO_cons rfl (TOp_callV (call_closure f1_E rfl rfl) (f1_H _  _ h_4) (looseL_app rfl f1_l) rfl rfl ?_)
   refine TO_nil ?_
   refine T_cond (t := r_3) rfl (fun c_5 => ?_) (fun c_5 => ?_)
   ·replace H := cond_t c_5 H
    refine sr ?_
    refine pv tb 2 rfl ?_
    refine TO_nil ?_
    refine T_ret ?_
    refine block_ret ?_
    refine then_ret ?_
    refine then_ret ?_
    refine block_ret ?_
    refine then_ret ?_
    obtain rfl := some_inj H
    obtain rfl := some_inj K2_
    replace H := onS_r N2_
    obtain rfl := some_inj H
    refine end_ret (.tmp .nil) rfl rfl ⟨?_, rfl⟩
    rfl
   ·replace H := cond_f c_5 H
    refine T_skip ?_
    refine T_region ?_
    refine Tp rfl rfl (pur_add rfl rfl rfl (fits64 (by omega) (by omega))) rfl ?_
    refine pv tb 1 rfl ?_
    refine TO_nil ?_
    obtain rfl := some_inj H
    exact again (s0.length - (t_1 + 1)) (t_1 + 1) (by omega) (wp 0 (lb rfl) rfl rfl (by simp only [namesE, A.names, namesL_enc, Bool.false_or, Bool.or_false, looseL_names f1_l]) rfl rfl) ⟨rfl, K2_⟩
  ·replace d2 := of_decide_eq_false d2
   obtain rfl := forL_end L2_ (by omega)
   refine T_exit ?_
   refine then_exit ?_
   refine then_exit ?_
   refine block_exit ?_
   replace H := onS_l N2_
   refine sr ?_
   refine pv tb 1 rfl ?_
   refine TO_nil ?_
   refine T_ret ?_
   obtain rfl := some_inj H
   refine end_ret (.tmp .nil) rfl rfl ⟨?_, rfl⟩
   rfl

set_option maxHeartbeats 1000000 in
theorem m_slices_ContainsFunc_Sint_int_ok (s0 : (List Int)) (f1 : (Int → Option Bool)) (f1_g : Nat) (f1_c : List A) (f1_E : EnT prg f1_g) (f1_l : looseL f1_c = true) (f1_m : firmL f1_c = true ∧ fzL f1_c = f1_c) (f1_H : ∀ (x0 : Int) r, f1 x0 = some r → FnV prg f1_g ([(intA x0)] ++ f1_c) (boolA r)) (r : Bool) (H : m_slices_ContainsFunc_Sint_int s0 f1 = some r) : FnV prg 107 [(sl tInt s0), (.f f1_g f1_c)] (boolA r) := by
  unfold m_slices_ContainsFunc_Sint_int at H
  refine fnV_of_T Try.func107 rfl rfl (Nat.le_of_ble_eq_true rfl) ?_
  refine te [(0, (sl tInt s0)), (1, (.f f1_g f1_c))] rfl ?_
  refine sr ?_
  refine pv tb 1 rfl ?_
  refine TO_nil ?_
  refine sr ?_
  obtain ⟨r_1, h_2, H⟩ := bind_inv H
  refine pv tb 2 rfl ?_
  refine TO_cons rfl (TOp_callV (call_static ent135 rfl) (m_slices_IndexFunc_Sint_int_ok _ f1 f1_g f1_c f1_E f1_l f1_m f1_H _ h_2) (looseC rfl (looseC f1_l rfl)) rfl rfl ?_)
  refine pv tb 2 rfl ?_
  refine TO_nil ?_
  refine T_ret ?_
  obtain rfl := some_inj H
  refine end_ret (.tmp .nil) rfl rfl ⟨?_, rfl⟩
  rfl

set_option maxHeartbeats 1000000 in
theorem m_impl_IsPreferred_ok (preferences0 : (List ConflictEdge)) (a1 : Int) (b2 : Int) (r : Bool) (H : m_impl_IsPreferred preferences0 a1 b2 = some r) : FnV prg 109 [(sl tConflictEdge preferences0), (intA a1), (intA b2)] (boolA r) := by
  unfold m_impl_IsPreferred at H
  refine fnV_of_T Try.func109 rfl rfl (Nat.le_of_ble_eq_true rfl) ?_
  refine te [(0, (sl tConflictEdge preferences0)), (1, (intA a1)), (2, (intA b2))] rfl ?_
  refine sr ?_
  refine pv tb 1 rfl ?_
  refine TO_nil ?_
  refine sr ?_
  refine pv tb 3 rfl ?_
  refine Tp rfl rfl (pur_build bld62 rfl rfl) rfl ?_
  obtain ⟨r_1, h_2, H⟩ := bind_inv H
  refine TO_cons rfl (TOp_callV (call_static ent70 rfl) (m_slices_Contains_Simpl_ConflictEdge_impl_ConflictEdge_ok _ _ _ h_2) rfl rfl rfl ?_)
  refine pv tb 1 rfl ?_
  refine TO_nil ?_
  refine T_ret ?_
  obtain rfl := some_inj H
  refine end_ret (.tmp .nil) rfl rfl ⟨?_, rfl⟩
  rfl

set_option maxHeartbeats 1000000 in
theorem m_impl_undominated_1_ok (a0 : Int) (fv1 : (List ConflictEdge)) (fv2 : Int) (r : Bool) (H : m_impl_undominated_1 a0 fv1 fv2 = some r) : FnV prg 108 [(intA a0), (.q [(sl tConflictEdge fv1)] 0), (.q [(intA fv2)] 0)] (boolA r) := by
  unfold m_impl_undominated_1 at H
  refine fnV_of_T Try.func108 rfl rfl (Nat.le_of_ble_eq_true rfl) ?_
  refine te [(0, (intA a0)), (1, (.q [(sl tConflictEdge fv1)] 0)), (2, (.q [(intA fv2)] 0))] rfl ?_
  refine sr ?_
  refine pv tb 1 rfl ?_
  refine TO_nil ?_
  refine sr ?_
  obtain ⟨r_1, h_2, H⟩ := bind_inv H
  refine pv tb 3 rfl ?_
  refine TO_cons rfl (TOp_callV (call_static ent109 rfl) (m_impl_IsPreferred_ok _ _ _ _ h_2) rfl rfl rfl ?_)
  refine pv tb 1 rfl ?_
  refine TO_nil ?_
  refine T_ret ?_
  obtain rfl := some_inj H
  refine end_ret (.tmp .nil) rfl rfl ⟨?_, rfl⟩
  rfl

set_option maxHeartbeats 1000000 in
theorem m_impl_undominated_own (preferences0 : (List ConflictEdge)) (left1 : (List Int)) (r : (List Int)) (H : m_impl_undominated preferences0 left1 = some r) : FnO prg 74 [(sl tConflictEdge preferences0), (sl tInt left1)] (.m [0] 0 r.length tInt.k) [.row (flat tInt.own r)] := by
  unfold m_impl_undominated at H
  refine fnO_of_T Try.func74 rfl rfl (Nat.le_of_ble_eq_true rfl) ?_
  refine te [(0, (sl tConflictEdge preferences0)), (1, (sl tInt left1))] rfl ?_
  refine sr ?_
  refine TO_cons rfl (TOp_box rfl (boxAll rfl) rfl rfl ?_)
  refine pv tb 1 rfl ?_
  refine TO_nil ?_
  refine sr ?_
  refine TO_cons rfl (TOp_lit (nn := 0) (k := 1) sl53 zero3 rfl rfl rfl rfl (by decide) ?_)
  refine TO_st (σ' := [.box [(sl tConflictEdge preferences0)], .row (flat tInt.enc ([] : (List Int)))]) rfl ?_
  refine pv tb 1 rfl ?_
  refine TO_nil ?_
  refine T_seq ?_
  refine sr ?_
  refine pv tb 1 rfl ?_
  refine Tp rfl rfl (pur_lenT (T := tInt) sl53 rfl rfl) rfl ?_
  refine pv tb 1 rfl ?_
  refine TO_nil ?_
  obtain ⟨O2_, L2_, N2_⟩ := bind_inv H
  clear H
  obtain ⟨B2_, hb2, L2_⟩ := gen_forS L2_
  refine T_block ?_
  refine T_loopX (fun k => fun (⟨t_1, out5⟩ : Nat × (List Int)) => k = left1.length - t_1 ∧ forS B2_ (left1.drop t_1) (t_1 : Int) out5 = some O2_) (fun (⟨t_1, out5⟩ : Nat × (List Int)) => [(1, (sl tInt left1)), (2, (.b 0 0)), (5, (.m [1] 0 out5.length tInt.k)), (9, (sl tInt left1)), (10, (intA (left1.length : Int))), (11, (intA (t_1 : Int)))]) (fun (⟨t_1, out5⟩ : Nat × (List Int)) => [.box [(sl tConflictEdge preferences0)], .row (flat tInt.enc out5)]) _ (0, ([] : (List Int))) (w0 2) ⟨rfl, L2_⟩ ?_
  rintro _ ⟨t_1, out5⟩ ⟨rfl, L2_⟩
  refine T_fact (len_sl (T := tInt) (.tmp 1) rfl) (fun hl2 => ?_)
  refine sr ?_
  refine pv tb 1 rfl ?_
  refine TO_nil ?_
  refine T_seq ?_
  refine T_cond (t := decide ((t_1 : Int) < (left1.length : Int))) rfl (fun d2 => ?_) (fun d2 => ?_)
  ·replace d2 := of_decide_eq_true d2
   obtain ⟨x_t_1, hx_t_1⟩ : ∃ v, (left1)[t_1]? = some v := ⟨_, List.getElem?_eq_getElem (by omega)⟩
   obtain ⟨C2_, H, K2_⟩ := forS_step L2_ hx_t_1
   rw [hb2] at H
   refine T_skip ?_
   refine T_seq ?_
   refine T_block ?_
   refine sr ?_
   refine Tp rfl rfl (pur_ixT (T := tInt) sl53 rfl rfl rfl hx_t_1 rfl) rfl ?_
   refine Tp rfl rfl (pur_ldT (T := tInt) (i := t_1) (off := 0) rfl one3 rfl rfl hx_t_1 rfl) rfl ?_
   refine TO_cons rfl (TOp_alloc zero3 rfl rfl ?_)
   refine TO_cons rfl (TOp_storeB sz3 rfl rfl rfl rfl rfl rfl rfl (by decide) (lb rfl) rfl ?_)
   refine TO_st (σ' := [.box [(sl tConflictEdge preferences0)], .row (flat tInt.enc out5), .box [(intA x_t_1)]]) rfl ?_
   refine TO_nil ?_
   refine sr ?_
   obtain ⟨r_3, h_4, H⟩ := bind_inv H
   refine pv tb 2 rfl ?_
   refine TO_cons rfl (TOp_callB (call_static ent107 rfl) (frz_cons (frz_loose rfl) (frz_cons (frzOK_f (frz_cons (frzOK_b (xs := [(sl tConflictEdge preferences0)]) (ys := [(sl tConflictEdge preferences0)]) rfl rfl rfl) (frz_cons (frzOK_b (xs := [(intA x_t_1)]) (ys := [(intA x_t_1)]) rfl rfl rfl) frz_nil)).1 (frz_cons (frzOK_b (xs := [(sl tConflictEdge preferences0)]) (ys := [(sl tConflictEdge preferences0)]) rfl rfl rfl) (frz_cons (frzOK_b (xs := [(intA x_t_1)]) (ys := [(intA x_t_1)]) rfl rfl rfl) frz_nil)).2) frz_nil)).1 (frz_cons (frz_loose rfl) (frz_cons (frzOK_f (frz_cons (frzOK_b (xs := [(sl tConflictEdge preferences0)]) (ys := [(sl tConflictEdge preferences0)]) rfl rfl rfl) (frz_cons (frzOK_b (xs := [(intA x_t_1)]) (ys := [(intA x_t_1)]) rfl rfl rfl) frz_nil)).1 (frz_cons (frzOK_b (xs := [(sl tConflictEdge preferences0)]) (ys := [(sl tConflictEdge preferences0)]) rfl rfl rfl) (frz_cons (frzOK_b (xs := [(intA x_t_1)]) (ys := [(intA x_t_1)]) rfl rfl rfl) frz_nil)).2) frz_nil)).2 (m_slices_ContainsFunc_Sint_int_ok _ (fun x0 => m_impl_undominated_1 x0 preferences0 x_t_1) 108 [(.q [(sl tConflictEdge preferences0)] 0), (.q [(intA x_t_1)] 0)] ent108 rfl ⟨rfl, rfl⟩ (fun x0 r h => m_impl_undominated_1_ok x0 preferences0 x_t_1 r h) _ h_4) rfl ?_)
   refine pv tb 1 rfl ?_
   refine TO_nil ?_
   refine T_cond (t := (!r_3)) rfl (fun c_5 => ?_) (fun c_5 => ?_)
   ·replace H := cond_t c_5 H
    refine T_region ?_
    refine pv tb 2 rfl ?_
    refine TO_cons rfl (TOp_lit (nn := 1) (k := 1) sl53 zero3 rfl rfl rfl rfl (by decide) ?_)
    refine TO_st (σ' := [.box [(sl tConflictEdge preferences0)], .row (flat tInt.enc out5), .box [(intA x_t_1)], .row (flat tInt.enc ([x_t_1] : (List Int)))]) rfl ?_
    obtain ⟨us_6, h_7, H⟩ := bind_inv H
    refine TO_cons rfl (TOp_appZ (T := tInt) (f := tInt.enc) (xs := out5) (ys := ([x_t_1] : (List Int))) tInt.len sl53 zero3 rfl bytes3 (by decide) rfl rfl rfl rfl (src_mT (f := tInt.enc) tInt.len rfl rfl (flat_cell tInt _)) (flat_cell tInt _) h_7 (lb rfl) ?_)
    refine toe [(1, (sl tInt left1)), (2, (.b 0 0)), (7, (.b 2 0)), (9, (sl tInt left1)), (10, (intA (left1.length : Int))), (11, (intA (t_1 : Int))), (18, (boolA (!r_3))), (20, (intA x_t_1)), (21, (.m [3] 0 ([x_t_1] : (List Int)).length tInt.k)), (22, (.m [1] 0 us_6.length tInt.k))] rfl ?_
    refine TO_st (σ' := [.box [(sl tConflictEdge preferences0)], .row (flat tInt.enc us_6), .box [(intA x_t_1)], .row (flat tInt.enc ([x_t_1] : (List Int))), .dead]) rfl ?_
    refine pv tb 1 rfl ?_
    refine TO_nil ?_
    refine T_region ?_
    refine Tp rfl rfl (pur_add rfl rfl rfl (fits64 (by omega) (by omega))) rfl ?_
    refine pv tb 1 rfl ?_
    refine TO_nil ?_
    obtain rfl := some_inj H
    exact again (left1.length - (t_1 + 1)) (t_1 + 1, us_6) (by omega) (w0 2) ⟨rfl, K2_⟩
   ·replace H := cond_f c_5 H
    refine T_skip ?_
    refine T_region ?_
    refine Tp rfl rfl (pur_add rfl rfl rfl (fits64 (by omega) (by omega))) rfl ?_
    refine pv tb 1 rfl ?_
    refine TO_nil ?_
    obtain rfl := some_inj H
    exact again (left1.length - (t_1 + 1)) (t_1 + 1, out5) (by omega) (w0 2) ⟨rfl, K2_⟩
  ·replace d2 := of_decide_eq_false d2
   obtain rfl := forS_end L2_ (by omega)
   refine T_exit ?_
   refine then_exit ?_
   refine then_exit ?_
   refine block_exit ?_
   replace H := N2_
   refine sr ?_
   refine pv tb 2 rfl ?_
   refine TO_nil ?_
   refine T_ret ?_
   obtain rfl := some_inj H
   exact end_pick (.tmp .nil) rfl [1] (by decide) rfl rfl rfl rfl rfl rfl
theorem m_impl_undominated_ok (preferences0 : (List ConflictEdge)) (left1 : (List Int)) (r : (List Int)) (H : m_impl_undominated preferences0 left1 = some r) : FnV prg 74 [(sl tConflictEdge preferences0), (sl tInt left1)] (sl tInt r) := (m_impl_undominated_own preferences0 left1 r H).frz (frzT (T := tInt) rfl)

set_option maxHeartbeats 1000000 in
theorem m_slices_Index_Sint_int_ok (s0 : (List Int)) (v1 : Int) (r : Int) (H : m_slices_Index_Sint_int s0 v1 = some r) : FnV prg 150 [(sl tInt s0), (intA v1)] (intA r) := by
  unfold m_slices_Index_Sint_int at H
  refine fnV_of_T Try.func150 rfl rfl (Nat.le_of_ble_eq_true rfl) ?_
  refine te [(0, (sl tInt s0)), (1, (intA v1))] rfl ?_
  refine sr ?_
  refine pv tb 1 rfl ?_
  refine TO_nil ?_
  refine T_seq ?_
  refine sr ?_
  refine pv tb 1 rfl ?_
  refine Tp rfl rfl (pur_lenT (T := tInt) sl53 rfl rfl) rfl ?_
  refine pv tb 1 rfl ?_
  refine TO_nil ?_
  obtain ⟨O2_, L2_, N2_⟩ := bind_inv H
  clear H
  obtain ⟨B2_, hb2, L2_⟩ := gen_forL L2_
  refine T_block ?_
  refine T_loopX (fun k => fun (t_1 : Nat) => k = s0.length - t_1 ∧ forL B2_ (s0.drop t_1) (t_1 : Int) () = some O2_) (fun (t_1 : Nat) => [(0, (sl tInt s0)), (1, (intA v1)), (7, (intA (s0.length : Int))), (8, (intA (t_1 : Int)))]) (fun (t_1 : Nat) => []) _ (0 : Nat) (w0 0) ⟨rfl, L2_⟩ ?_
  rintro _ t_1 ⟨rfl, L2_⟩
  refine T_fact (len_sl (T := tInt) (.tmp 0) rfl) (fun hl2 => ?_)
  refine sr ?_
  refine pv tb 1 rfl ?_
  refine TO_nil ?_
  refine T_seq ?_
  refine T_cond (t := decide ((t_1 : Int) < (s0.length : Int))) rfl (fun d2 => ?_) (fun d2 => ?_)
  ·replace d2 := of_decide_eq_true d2
   obtain ⟨x_t_1, hx_t_1⟩ : ∃ v, (s0)[t_1]? = some v := ⟨_, List.getElem?_eq_getElem (by omega)⟩
   obtain ⟨C2_, H, K2_⟩ := forL_step L2_ hx_t_1
   rw [hb2] at H
   refine T_skip ?_
   refine T_seq ?_
   refine T_block ?_
   refine sr ?_
   refine pv tb 2 rfl ?_
   refine TO_nil ?_
   refine sr ?_
   refine pv tb 3 rfl ?_
   refine Tp rfl rfl (pur_ixT (T := tInt) sl53 rfl rfl rfl hx_t_1 rfl) rfl ?_
   refine Tp rfl rfl (pur_ldT (T := tInt) (i := t_1) (off := 0) rfl one3 rfl rfl hx_t_1 rfl) rfl ?_
   refine pv tb 1 rfl ?_
   refine TO_nil ?_
   refine T_cond (t := decide (v1 = x_t_1)) rfl (fun c_3 => ?_) (fun c_3 => ?_)
   ·replace H := cond_t c_3 H
    refine sr ?_
    refine pv tb 2 rfl ?_
    refine TO_nil ?_
    refine T_ret ?_
    refine block_ret ?_
    refine then_ret ?_
    refine then_ret ?_
    refine block_ret ?_
    refine then_ret ?_
    obtain rfl := some_inj H
    obtain rfl := some_inj K2_
    replace H := onS_r N2_
    obtain rfl := some_inj H
    refine end_ret (.tmp .nil) rfl rfl ⟨?_, rfl⟩
    rfl
   ·replace H := cond_f c_3 H
    refine T_skip ?_
    refine T_region ?_
    refine Tp rfl rfl (pur_add rfl rfl rfl (fits64 (by omega) (by omega))) rfl ?_
    refine pv tb 1 rfl ?_
    refine TO_nil ?_
    obtain rfl := some_inj H
    exact again (s0.length - (t_1 + 1)) (t_1 + 1) (by omega) (w0 0) ⟨rfl, K2_⟩
  ·replace d2 := of_decide_eq_false d2
   obtain rfl := forL_end L2_ (by omega)
   refine T_exit ?_
   refine then_exit ?_
   refine then_exit ?_
   refine block_exit ?_
   replace H := onS_l N2_
   refine sr ?_
   refine pv tb 1 rfl ?_
   refine TO_nil ?_
   refine T_ret ?_
   obtain rfl := some_inj H
   refine end_ret (.tmp .nil) rfl rfl ⟨?_, rfl⟩
   rfl

set_option maxHeartbeats 1000000 in
theorem m_slices_Contains_Sint_int_ok (s0 : (List Int)) (v1 : Int) (r : Bool) (H : m_slices_Contains_Sint_int s0 v1 = some r) : FnV prg 132 [(sl tInt s0), (intA v1)] (boolA r) := by
  unfold m_slices_Contains_Sint_int at H
  refine fnV_of_T Try.func132 rfl rfl (Nat.le_of_ble_eq_true rfl) ?_
  refine te [(0, (sl tInt s0)), (1, (intA v1))] rfl ?_
  refine sr ?_
  refine pv tb 1 rfl ?_
  refine TO_nil ?_
  refine sr ?_
  obtain ⟨r_1, h_2, H⟩ := bind_inv H
  refine pv tb 2 rfl ?_
  refine TO_cons rfl (TOp_callV (call_static ent150 rfl) (m_slices_Index_Sint_int_ok _ _ _ h_2) rfl rfl rfl ?_)
  refine pv tb 2 rfl ?_
  refine TO_nil ?_
  refine T_ret ?_
  obtain rfl := some_inj H
  refine end_ret (.tmp .nil) rfl rfl ⟨?_, rfl⟩
  rfl

set_option maxHeartbeats 1000000 in
theorem m_impl_without_own (a0 : (List Int)) (b1 : (List Int)) (r : (List Int)) (H : m_impl_without a0 b1 = some r) : FnO prg 103 [(sl tInt a0), (sl tInt b1)] (.m [0] 0 r.length tInt.k) [.row (flat tInt.own r)] := by
  unfold m_impl_without at H
  refine fnO_of_T Try.func103 rfl rfl (Nat.le_of_ble_eq_true rfl) ?_
  refine te [(0, (sl tInt a0)), (1, (sl tInt b1))] rfl ?_
  refine sr ?_
  refine pv tb 1 rfl ?_
  refine TO_nil ?_
  refine sr ?_
  refine TO_cons rfl (TOp_lit (nn := 0) (k := 1) sl53 zero3 rfl rfl rfl rfl (by decide) ?_)
  refine TO_st (σ' := [.row (flat tInt.enc ([] : (List Int)))]) rfl ?_
  refine pv tb 1 rfl ?_
  refine TO_nil ?_
  refine T_seq ?_
  refine sr ?_
  refine pv tb 1 rfl ?_
  refine Tp rfl rfl (pur_lenT (T := tInt) sl53 rfl rfl) rfl ?_
  refine pv tb 1 rfl ?_
  refine TO_nil ?_
  obtain ⟨O2_, L2_, N2_⟩ := bind_inv H
  clear H
  obtain ⟨B2_, hb2, L2_⟩ := gen_forS L2_
  refine T_block ?_
  refine T_loopX (fun k => fun (⟨t_1, out5⟩ : Nat × (List Int)) => k = a0.length - t_1 ∧ forS B2_ (a0.drop t_1) (t_1 : Int) out5 = some O2_) (fun (⟨t_1, out5⟩ : Nat × (List Int)) => [(1, (sl tInt b1)), (5, (.m [0] 0 out5.length tInt.k)), (9, (sl tInt a0)), (10, (intA (a0.length : Int))), (11, (intA (t_1 : Int)))]) (fun (⟨t_1, out5⟩ : Nat × (List Int)) => [.row (flat tInt.enc out5)]) _ (0, ([] : (List Int))) (w0 1) ⟨rfl, L2_⟩ ?_
  rintro _ ⟨t_1, out5⟩ ⟨rfl, L2_⟩
  refine T_fact (len_sl (T := tInt) (.tmp 9) rfl) (fun hl2 => ?_)
  refine sr ?_
  refine pv tb 1 rfl ?_
  refine TO_nil ?_
  refine T_seq ?_
  refine T_cond (t := decide ((t_1 : Int) < (a0.length : Int))) rfl (fun d2 => ?_) (fun d2 => ?_)
  ·replace d2 := of_decide_eq_true d2
   obtain ⟨x_t_1, hx_t_1⟩ : ∃ v, (a0)[t_1]? = some v := ⟨_, List.getElem?_eq_getElem (by omega)⟩
   obtain ⟨C2_, H, K2_⟩ := forS_step L2_ hx_t_1
   rw [hb2] at H
   refine T_skip ?_
   refine T_seq ?_
   refine T_block ?_
   refine sr ?_
   refine Tp rfl rfl (pur_ixT (T := tInt) sl53 rfl rfl rfl hx_t_1 rfl) rfl ?_
   refine Tp rfl rfl (pur_ldT (T := tInt) (i := t_1) (off := 0) rfl one3 rfl rfl hx_t_1 rfl) rfl ?_
   refine pv tb 1 rfl ?_
   refine TO_nil ?_
   refine sr ?_
   obtain ⟨r_3, h_4, H⟩ := bind_inv H
   refine pv tb 2 rfl ?_
   refine TO_cons rfl (TOp_callV (call_static ent132 rfl) (m_slices_Contains_Sint_int_ok _ _ _ h_4) rfl rfl rfl ?_)
   refine pv tb 1 rfl ?_
   refine TO_nil ?_
   refine T_cond (t := (!r_3)) rfl (fun c_5 => ?_) (fun c_5 => ?_)
   ·replace H := cond_t c_5 H
    refine T_region ?_
    refine pv tb 2 rfl ?_
    refine TO_cons rfl (TOp_lit (nn := 1) (k := 1) sl53 zero3 rfl rfl rfl rfl (by decide) ?_)
    refine TO_st (σ' := [.row (flat tInt.enc out5), .row (flat tInt.enc ([x_t_1] : (List Int)))]) rfl ?_
    obtain ⟨us_6, h_7, H⟩ := bind_inv H
    refine TO_cons rfl (TOp_appZ (T := tInt) (f := tInt.enc) (xs := out5) (ys := ([x_t_1] : (List Int))) tInt.len sl53 zero3 rfl bytes3 (by decide) rfl rfl rfl rfl (src_mT (f := tInt.enc) tInt.len rfl rfl (flat_cell tInt _)) (flat_cell tInt _) h_7 (lb rfl) ?_)
    refine toe [(1, (sl tInt b1)), (7, (intA x_t_1)), (9, (sl tInt a0)), (10, (intA (a0.length : Int))), (11, (intA (t_1 : Int))), (18, (boolA (!r_3))), (20, (intA x_t_1)), (21, (.m [1] 0 ([x_t_1] : (List Int)).length tInt.k)), (22, (.m [0] 0 us_6.length tInt.k))] rfl ?_
    refine TO_st (σ' := [.row (flat tInt.enc us_6), .row (flat tInt.enc ([x_t_1] : (List Int))), .dead]) rfl ?_
    refine pv tb 1 rfl ?_
    refine TO_nil ?_
    refine T_region ?_
    refine Tp rfl rfl (pur_add rfl rfl rfl (fits64 (by omega) (by omega))) rfl ?_
    refine pv tb 1 rfl ?_
    refine TO_nil ?_
    obtain rfl := some_inj H
    exact again (a0.length - (t_1 + 1)) (t_1 + 1, us_6) (by omega) (w0 1) ⟨rfl, K2_⟩
   ·replace H := cond_f c_5 H
    refine T_skip ?_
    refine T_region ?_
    refine Tp rfl rfl (pur_add rfl rfl rfl (fits64 (by omega) (by omega))) rfl ?_
    refine pv tb 1 rfl ?_
    refine TO_nil ?_
    obtain rfl := some_inj H
    exact again (a0.length - (t_1 + 1)) (t_1 + 1, out5) (by omega) (w0 1) ⟨rfl, K2_⟩
  ·replace d2 := of_decide_eq_false d2
   obtain rfl := forS_end L2_ (by omega)
   refine T_exit ?_
   refine then_exit ?_
   refine then_exit ?_
   refine block_exit ?_
   replace H := N2_
   refine sr ?_
   refine pv tb 2 rfl ?_
   refine TO_nil ?_
   refine T_ret ?_
   obtain rfl := some_inj H
   exact end_pick (.tmp .nil) rfl [0] (by decide) rfl rfl rfl rfl rfl rfl
theorem m_impl_without_ok (a0 : (List Int)) (b1 : (List Int)) (r : (List Int)) (H : m_impl_without a0 b1 = some r) : FnV prg 103 [(sl tInt a0), (sl tInt b1)] (sl tInt r) := (m_impl_without_own a0 b1 r H).frz (frzT (T := tInt) rfl)

set_option maxHeartbeats 1000000 in
theorem m_impl_areAcyclic_ok (u : Nat) (n0 : Int) (preferences1 : (List ConflictEdge)) (r : Bool) (H : m_impl_areAcyclic u n0 preferences1 = some r) : FnV prg 71 [(intA n0), (sl tConflictEdge preferences1)] (boolA r) := by
  unfold m_impl_areAcyclic at H
  refine fnV_of_T Try.func71 rfl rfl (Nat.le_of_ble_eq_true rfl) ?_
  refine te [(0, (intA n0)), (1, (sl tConflictEdge preferences1))] rfl ?_
  refine sr ?_
  refine pv tb 1 rfl ?_
  refine TO_nil ?_
  refine sr ?_
  refine TO_cons rfl (TOp_lit (nn := 0) (k := 1) sl53 zero3 rfl rfl rfl rfl (by decide) ?_)
  refine TO_st (σ' := [.row (flat tInt.enc ([] : (List Int)))]) rfl ?_
  refine pv tb 1 rfl ?_
  refine TO_nil ?_
  refine T_seq ?_
  refine sr ?_
  refine pv tb 2 rfl ?_
  refine TO_nil ?_
  obtain ⟨_, h_3, H⟩ := bind_inv H
  replace h_3 := gN_inv h_3
  obtain ⟨O2_, L2_, N2_⟩ := bind_inv H
  clear H
  obtain ⟨B2_, hb2, L2_⟩ := gen_forM L2_
  refine T_block ?_
  refine T_loopX (fun k => fun (⟨t_1, left5⟩ : Int × (List Int)) => k = (n0 - t_1).toNat ∧ 0 ≤ t_1 ∧ forM B2_ (n0 - t_1).toNat t_1 left5 = some O2_) (fun (⟨t_1, left5⟩ : Int × (List Int)) => [(1, (sl tConflictEdge preferences1)), (5, (.m [0] 0 left5.length tInt.k)), (9, (intA n0)), (10, (intA (t_1 : Int)))]) (fun (⟨t_1, left5⟩ : Int × (List Int)) => [.row (flat tInt.enc left5)]) _ (0, ([] : (List Int))) (w0 1) ⟨rfl, Int.le_refl _, L2_⟩ ?_
  rintro _ ⟨t_1, left5⟩ ⟨rfl, hi2, L2_⟩
  refine sr ?_
  refine pv tb 1 rfl ?_
  refine TO_nil ?_
  refine T_seq ?_
  refine T_cond (t := decide ((t_1 : Int) < n0)) rfl (fun d2 => ?_) (fun d2 => ?_)
  ·replace d2 := of_decide_eq_true d2
   obtain ⟨C2_, H, K2_⟩ := forM_step L2_ d2
   rw [hb2] at H
   refine T_skip ?_
   refine T_seq ?_
   refine T_block ?_
   refine sr ?_
   refine pv tb 2 rfl ?_
   refine TO_nil ?_
   refine T_region ?_
   refine pv tb 2 rfl ?_
   refine TO_cons rfl (TOp_lit (nn := 1) (k := 1) sl53 zero3 rfl rfl rfl rfl (by decide) ?_)
   refine TO_st (σ' := [.row (flat tInt.enc left5), .row (flat tInt.enc ([(t_1 : Int)] : (List Int)))]) rfl ?_
   obtain ⟨us_4, h_5, H⟩ := bind_inv H
   refine TO_cons rfl (TOp_appZ (T := tInt) (f := tInt.enc) (xs := left5) (ys := ([(t_1 : Int)] : (List Int))) tInt.len sl53 zero3 rfl bytes3 (by decide) rfl rfl rfl rfl (src_mT (f := tInt.enc) tInt.len rfl rfl (flat_cell tInt _)) (flat_cell tInt _) h_5 (lb rfl) ?_)
   refine toe [(1, (sl tConflictEdge preferences1)), (6, (intA (t_1 : Int))), (9, (intA n0)), (10, (intA (t_1 : Int))), (14, (intA (t_1 : Int))), (15, (.m [1] 0 ([(t_1 : Int)] : (List Int)).length tInt.k)), (16, (.m [0] 0 us_4.length tInt.k))] rfl ?_
   refine TO_st (σ' := [.row (flat tInt.enc us_4), .row (flat tInt.enc ([(t_1 : Int)] : (List Int))), .dead]) rfl ?_
   refine pv tb 1 rfl ?_
   refine TO_nil ?_
   refine T_region ?_
   refine Tp rfl rfl (pur_add rfl rfl rfl (fits64 (by omega) (by omega))) rfl ?_
   refine pv tb 1 rfl ?_
   refine TO_nil ?_
   obtain rfl := some_inj H
   exact again (n0 - (t_1 + 1)).toNat (t_1 + 1, us_4) (by omega) (w0 1) ⟨rfl, by omega, K2_⟩
  ·replace d2 := of_decide_eq_false d2
   obtain rfl := forM_end L2_ (by omega)
   refine T_exit ?_
   refine then_exit ?_
   refine then_exit ?_
   refine block_exit ?_
   replace H := N2_
   obtain ⟨O6_, L6_, N6_⟩ := bind_inv H
   clear H
   obtain ⟨B6_, hb6, L6_⟩ := gen_whileF L6_
   refine T_cutX (fun (x : (List Int)) => O6_ = .inl x) (fun (left5 : (List Int)) => []) (fun (left5 : (List Int)) => []) ?_ ?_
   ·skip
    refine T_block ?_
    refine T_loopX (fun k => fun (left5 : (List Int)) => whileF B6_ k left5 = some O6_) (fun (left5 : (List Int)) => [(1, (sl tConflictEdge preferences1)), (5, (.m [0] 0 left5.length tInt.k))]) (fun (left5 : (List Int)) => [.row (flat tInt.enc left5)]) u left5 (w0 1) L6_ ?_
    rintro _ left5 L6_
    obtain ⟨k6, rfl, C6_, H, K6_⟩ := while_step L6_
    rw [hb6] at H
    refine T_seq ?_
    refine sr ?_
    refine pv tb 1 rfl ?_
    refine Tp rfl rfl (pur_len_m sl53 rfl rfl) rfl ?_
    refine pv tb 1 rfl ?_
    refine TO_nil ?_
    refine T_cond (t := decide (0 < (left5.length : Int))) rfl (fun c_7 => ?_) (fun c_7 => ?_)
    ·replace H := cond_t c_7 H
     refine T_skip ?_
     refine T_block ?_
     refine sr ?_
     refine pv tb 3 rfl ?_
     refine TO_frz1 0 (E' := [(1, (sl tConflictEdge preferences1)), (5, (sl tInt left5)), (21, (sl tInt left5)), (22, (sl tConflictEdge preferences1)), (23, (sl tInt left5))]) rfl rfl (lb rfl) ⟨(.keep rfl), fz1E, fz1E, (.keep rfl), fz1E, trivial⟩ ?_
     refine TO_st (σ' := [.dead]) rfl ?_
     obtain ⟨r_8, h_9, H⟩ := bind_inv H
     refine TO_cons rfl (TOp_callV (call_static ent74 rfl) (m_impl_undominated_ok _ _ _ h_9) rfl rfl rfl ?_)
     obtain ⟨r_10, h_11, H⟩ := bind_inv H
     refine TO_cons rfl (TOp_callO (call_static ent103 rfl) rfl (m_impl_without_own _ _ _ h_11) rfl rfl rfl ?_)
     refine toe [(1, (sl tConflictEdge preferences1)), (5, (sl tInt left5)), (21, (sl tInt left5)), (22, (sl tConflictEdge preferences1)), (23, (sl tInt left5)), (24, (sl tInt r_8)), (25, (.m [1] 0 r_10.length tInt.k))] rfl ?_
     refine TO_st (σ' := [.dead, .row (flat tInt.own r_10)]) rfl ?_
     refine pv tb 1 rfl ?_
     refine TO_nil ?_
     refine T_seq ?_
     refine sr ?_
     refine pv tb 1 rfl ?_
     refine Tp rfl rfl (pur_len_m sl53 rfl rfl) rfl ?_
     refine pv tb 1 rfl ?_
     refine Tp rfl rfl (pur_lenT (T := tInt) sl53 rfl rfl) rfl ?_
     refine pv tb 1 rfl ?_
     refine TO_nil ?_
     refine T_cond (t := decide ((r_10.length : Int) = (left5.length : Int))) rfl (fun c_12 => ?_) (fun c_12 => ?_)
     ·replace H := cond_t c_12 H
      refine sr ?_
      refine pv tb 1 rfl ?_
      refine TO_nil ?_
      refine T_ret ?_
      refine then_ret ?_
      refine block_ret ?_
      refine then_ret ?_
      refine block_ret ?_
      refine then_ret ?_
      obtain rfl := some_inj H
      obtain rfl := some_inj K6_
      replace H := onS_r N6_
      obtain rfl := some_inj H
      refine end_ret (.tmp .nil) rfl rfl ⟨?_, rfl⟩
      rfl
     ·replace H := cond_f c_12 H
      refine T_skip ?_
      refine T_region ?_
      refine pv tb 2 rfl ?_
      refine TO_move 0 1 (by decide) (lb rfl) rfl rfl (lb rfl) ?_
      refine toe [(1, (sl tConflictEdge preferences1)), (5, (.m [0] 0 r_10.length tInt.k)), (7, (.m [0] 0 r_10.length tInt.k)), (31, (.m [0] 0 r_10.length tInt.k))] rfl ?_
      refine TO_st (σ' := [.row (flat tInt.own r_10), .dead]) rfl ?_
      refine TO_nil ?_
      obtain rfl := some_inj H
      exact again k6 r_10 (Nat.lt_succ_self _) (w0 1) K6_
    ·replace H := cond_f c_7 H
     refine T_exit ?_
     refine then_exit ?_
     refine then_exit ?_
     refine block_exit ?_
     obtain rfl := some_inj H
     obtain rfl := some_inj K6_
     exact joined left5 (w0 0) rfl
   ·rintro left5 rfl
    replace H := onS_l N6_
    refine sr ?_
    refine pv tb 1 rfl ?_
    refine TO_nil ?_
    refine T_ret ?_
    obtain rfl := some_inj H
    refine end_ret (.tmp .nil) rfl rfl ⟨?_, rfl⟩
    rfl

set_option maxHeartbeats 1000000 in
theorem m_impl_IsValidPreference_ok (u : Nat) (n0 : Int) (edges1 : (List ConflictEdge)) (preferences2 : (List ConflictEdge)) (r : Bool) (H : m_impl_IsValidPreference u n0 edges1 preferences2 = some r) : FnV prg 32 [(intA n0), (sl tConflictEdge edges1), (sl tConflictEdge preferences2)] (boolA r) := by
  unfold m_impl_IsValidPreference at H
  refine fnV_of_T Try.func32 rfl rfl (Nat.le_of_ble_eq_true rfl) ?_
  refine te [(0, (intA n0)), (1, (sl tConflictEdge edges1)), (2, (sl tConflictEdge preferences2))] rfl ?_
  refine sr ?_
  refine pv tb 1 rfl ?_
  refine TO_nil ?_
  refine T_seq ?_
  refine sr ?_
  obtain ⟨r_1, h_2, H⟩ := bind_inv H
  refine pv tb 2 rfl ?_
  refine TO_cons rfl (TOp_callV (call_static ent69 rfl) (m_impl_AreValidEdges_ok _ _ _ h_2) rfl rfl rfl ?_)
  refine pv tb 1 rfl ?_
  refine TO_nil ?_
  refine T_cond (t := (!r_1)) rfl (fun c_3 => ?_) (fun c_3 => ?_)
  ·replace H := cond_t c_3 H
   refine sr ?_
   refine pv tb 1 rfl ?_
   refine TO_nil ?_
   refine T_ret ?_
   refine then_ret ?_
   obtain rfl := some_inj H
   refine end_ret (.tmp .nil) rfl rfl ⟨?_, rfl⟩
   rfl
  ·replace H := cond_f c_3 H
   refine T_skip ?_
   refine T_seq ?_
   refine sr ?_
   refine pv tb 1 rfl ?_
   refine Tp rfl rfl (pur_lenT (T := tConflictEdge) sl26 rfl rfl) rfl ?_
   refine pv tb 1 rfl ?_
   refine TO_nil ?_
   obtain ⟨O5_, L5_, N5_⟩ := bind_inv H
   clear H
   obtain ⟨B5_, hb5, L5_⟩ := gen_forL L5_
   refine T_block ?_
   refine T_loopX (fun k => fun (t_4 : Nat) => k = preferences2.length - t_4 ∧ forL B5_ (preferences2.drop t_4) (t_4 : Int) () = some O5_) (fun (t_4 : Nat) => [(0, (intA n0)), (1, (sl tConflictEdge edges1)), (2, (sl tConflictEdge preferences2)), (13, (sl tConflictEdge preferences2)), (14, (intA (preferences2.length : Int))), (15, (intA (t_4 : Int)))]) (fun (t_4 : Nat) => []) _ (0 : Nat) (w0 0) ⟨rfl, L5_⟩ ?_
   rintro _ t_4 ⟨rfl, L5_⟩
   refine T_fact (len_sl (T := tConflictEdge) (.tmp 2) rfl) (fun hl5 => ?_)
   refine sr ?_
   refine pv tb 1 rfl ?_
   refine TO_nil ?_
   refine T_seq ?_
   refine T_cond (t := decide ((t_4 : Int) < (preferences2.length : Int))) rfl (fun d5 => ?_) (fun d5 => ?_)
   ·replace d5 := of_decide_eq_true d5
    obtain ⟨x_t_4, hx_t_4⟩ : ∃ v, (preferences2)[t_4]? = some v := ⟨_, List.getElem?_eq_getElem (by omega)⟩
    obtain ⟨C5_, H, K5_⟩ := forL_step L5_ hx_t_4
    rw [hb5] at H
    refine T_skip ?_
    refine T_seq ?_
    refine T_block ?_
    refine sr ?_
    refine Tp rfl rfl (pur_ixT (T := tConflictEdge) sl26 rfl rfl rfl hx_t_4 rfl) rfl ?_
    refine Tp rfl rfl (pur_ldTK (T := tConflictEdge) (i := t_4) (off := 0) rfl agg62 rfl rfl hx_t_4 (by decide) rfl) rfl ?_
    refine TO_cons rfl (TOp_alloc zero62 rfl rfl ?_)
    refine TO_cons rfl (TOp_storeB sz62 rfl rfl rfl rfl rfl rfl rfl (by decide) (lb rfl) rfl ?_)
    refine TO_st (σ' := [.box [(intA x_t_4.a), (intA x_t_4.b)]]) rfl ?_
    refine TO_nil ?_
    obtain ⟨t32_6, J_6, H_7⟩ := bind_inv H
    refine T_cutX (fun x => t32_6 = x) (fun (t32_6 : Bool) => [(0, (intA n0)), (1, (sl tConflictEdge edges1)), (2, (sl tConflictEdge preferences2)), (13, (sl tConflictEdge preferences2)), (14, (intA (preferences2.length : Int))), (15, (intA (t_4 : Int))), (32, (boolA t32_6))]) (fun (t32_6 : Bool) => []) ?_ ?_
    ·replace H := J_6
     refine T_region ?_
     obtain ⟨r_8, h_9, H⟩ := bind_inv H
     refine pv tb 2 rfl ?_
     refine TO_cons rfl (TOp_callV (call_static ent70 rfl) (m_slices_Contains_Simpl_ConflictEdge_impl_ConflictEdge_ok _ _ _ h_9) rfl rfl rfl ?_)
     refine pv tb 2 rfl ?_
     refine TO_split (t := (!r_8)) 23 rfl (fun g_10 => ?_) (fun g_10 => ?_)
     ·replace H := cond_t g_10 H
      refine pv tb 5 rfl ?_
      refine TO_on rfl rfl (by decide) rfl rfl (TOp_pure (pur_build bld62 rfl rfl) rfl ?_)
      obtain ⟨r_11, h_12, H⟩ := bind_inv H
      refine TO_on rfl rfl (by decide) rfl rfl (TOp_callV (call_static ent70 rfl) (m_slices_Contains_Simpl_ConflictEdge_impl_ConflictEdge_ok _ _ _ h_12) rfl rfl rfl ?_)
      refine pv tb 2 rfl ?_
      refine TO_nil ?_
      exact joined (!r_11) (w0 0) (some_inj H).symm
     ·replace H := cond_f g_10 H
      refine pv tb 9 rfl ?_
      refine TO_nil ?_
      exact joined false (w0 0) (some_inj H).symm
    ·rintro _ rfl
     replace H := H_7
     refine T_cond (t := t32_6) rfl (fun c_13 => ?_) (fun c_13 => ?_)
     ·replace H := cond_t c_13 H
      refine sr ?_
      refine pv tb 1 rfl ?_
      refine TO_nil ?_
      refine T_ret ?_
      refine block_ret ?_
      refine then_ret ?_
      refine then_ret ?_
      refine block_ret ?_
      refine then_ret ?_
      obtain rfl := some_inj H
      obtain rfl := some_inj K5_
      replace H := onS_r N5_
      obtain rfl := some_inj H
      refine end_ret (.tmp .nil) rfl rfl ⟨?_, rfl⟩
      rfl
     ·replace H := cond_f c_13 H
      refine T_skip ?_
      refine T_region ?_
      refine Tp rfl rfl (pur_add rfl rfl rfl (fits64 (by omega) (by omega))) rfl ?_
      refine pv tb 1 rfl ?_
      refine TO_nil ?_
      obtain rfl := some_inj H
      exact again (preferences2.length - (t_4 + 1)) (t_4 + 1) (by omega) (w0 0) ⟨rfl, K5_⟩
   ·replace d5 := of_decide_eq_false d5
    obtain rfl := forL_end L5_ (by omega)
    refine T_exit ?_
    refine then_exit ?_
    refine then_exit ?_
    refine block_exit ?_
    replace H := onS_l N5_
    refine sr ?_
    obtain ⟨r_14, h_15, H⟩ := bind_inv H
    refine pv tb 2 rfl ?_
    refine TO_cons rfl (TOp_callV (call_static ent71 rfl) (m_impl_areAcyclic_ok u _ _ _ h_15) rfl rfl rfl ?_)
    refine pv tb 1 rfl ?_
    refine TO_nil ?_
    refine T_ret ?_
    obtain rfl := some_inj H
    refine end_ret (.tmp .nil) rfl rfl ⟨?_, rfl⟩
    rfl

set_option maxHeartbeats 1000000 in
theorem m_slices_Grow_Sint_int_n0_own (n1 : Int) (r : (List Int)) (H : m_slices_Grow_Sint_int_n0 n1 = some r) : FnO prg 133 [.n, (intA n1)] (.m [0] 0 r.length tInt.k) [.row (flat tInt.own r)] := by
  unfold m_slices_Grow_Sint_int_n0 at H
  refine fnO_of_T Try.func133 rfl rfl (Nat.le_of_ble_eq_true rfl) ?_
  refine te [(0, .n), (1, (intA n1))] rfl ?_
  refine sr ?_
  refine pv tb 1 rfl ?_
  refine TO_nil ?_
  refine T_seq ?_
  refine sr ?_
  refine pv tb 2 rfl ?_
  refine TO_nil ?_
  refine T_cond (t := decide (n1 < 0)) rfl (fun c_1 => ?_) (fun c_1 => ?_)
  ·replace H := cond_t c_1 H
   cases H
  ·replace H := cond_f c_1 H
   refine T_skip ?_
   refine T_seq ?_
   refine sr ?_
   refine pv tb 2 rfl ?_
   refine Tp rfl rfl (pur_cap_n sl53 rfl rfl) rfl ?_
   refine pv tb 1 rfl ?_
   refine Tp rfl rfl (pur_len_n sl53 rfl rfl) rfl ?_
   refine pv tb 3 rfl ?_
   refine TO_nil ?_
   refine sr ?_
   refine pv tb 2 rfl ?_
   refine TO_nil ?_
   refine T_cond (t := decide (0 < (w64 (n1 - (w64 (((0 : Nat) : Int) - ((0 : Nat) : Int))))))) rfl (fun c_2 => ?_) (fun c_2 => ?_)
   ·replace H := cond_t c_2 H
    refine T_region ?_
    refine pv tb 2 rfl ?_
    refine Tp rfl rfl (pur_cap_n sl53 rfl rfl) rfl ?_
    refine Tp rfl rfl (pur_cutN (lo := none) (hi := (some (.tmp 19))) sl53 rfl rfl ⟨_, rfl⟩ (by omega) (by omega) rfl) rfl ?_
    obtain ⟨us_3, h_4, H⟩ := bind_inv H
    refine pv tb 1 rfl ?_
    refine TO_cons rfl (TOp_appNZ (T := tInt) (z := (0 : Int)) rfl sl53 Try.underlying3 zero3 rfl bytes3 (by decide) rfl rfl rfl rfl h_4 ?_)
    refine TO_st (σ' := [.row (flat tInt.enc us_3)]) rfl ?_
    refine pv tb 1 rfl ?_
    refine Tp rfl rfl (pur_len_n sl53 rfl rfl) rfl ?_
    obtain ⟨ys_5, h_6, H⟩ := bind_inv H
    obtain ⟨i_7, j_8, hi_9, hj_10, hij_11, hjl_12, hys_13, _⟩ := cutI_inv h_6
    refine Tp rfl rfl (pur_cutM (lo := none) (hi := (some (.tmp 24))) sl53 rfl hi_9.symm ⟨_, congrArg (fun z => A.v (.int .i64 z)) hj_10⟩ hij_11 hjl_12 rfl) rfl ?_
    refine pv tb 1 rfl ?_
    refine TO_nil ?_
    refine te [(0, (.m [0] (i_7 * tInt.k) (j_8 - i_7) tInt.k))] rfl ?_
    refine sr ?_
    refine pv tb 2 rfl ?_
    refine TO_nil ?_
    refine T_env (E' := [(4, (.m [0] 0 ys_5.length tInt.k))]) ⟨(trunc_A (l := 0) (k := tInt.k) (by omega) hjl_12 hys_13), trivial⟩ ?_
    refine T_gh (Ghost.truncT (f := tInt.enc) (s := 0) (i := i_7) (j := j_8) (ys := ys_5) tInt.len rfl (by omega) hys_13 (by exact lb rfl)) ?_
    refine T_st (σ' := [.row (flat tInt.enc ys_5)]) rfl ?_
    refine T_ret ?_
    obtain rfl := some_inj H
    exact end_pick (.tmp .nil) rfl [0] (by decide) rfl rfl rfl rfl rfl rfl
   ·replace H := cond_f c_2 H
    refine T_skip ?_
    refine sr ?_
    refine pv tb 2 rfl ?_
    refine TO_nil ?_
    refine te [(4, .n)] rfl ?_
    refine T_row0 ?_
    refine T_envL (E' := [(4, (.m [0] 0 ([] : (List Int)).length tInt.k))]) ⟨leM, trivial⟩ ?_
    refine T_st (σ' := [.row (flat tInt.own ([] : (List Int)))]) rfl ?_
    refine T_ret ?_
    obtain rfl := some_inj H
    exact end_pick (.tmp .nil) rfl [0] (by decide) rfl rfl rfl rfl rfl rfl
theorem m_slices_Grow_Sint_int_n0_ok (n1 : Int) (r : (List Int)) (H : m_slices_Grow_Sint_int_n0 n1 = some r) : FnV prg 133 [.n, (intA n1)] (sl tInt r) := (m_slices_Grow_Sint_int_n0_own n1 r H).frz (frzT (T := tInt) rfl)

set_option maxHeartbeats 1000000 in
theorem m_slices_Concat_Sint_int_own (slices0 : (List (List Int))) (r : (List Int)) (H : m_slices_Concat_Sint_int slices0 = some r) : FnO prg 104 [(sl (tSl tInt) slices0)] (.m [0] 0 r.length tInt.k) [.row (flat tInt.own r)] := by
  unfold m_slices_Concat_Sint_int at H
  refine fnO_of_T Try.func104 rfl rfl (Nat.le_of_ble_eq_true rfl) ?_
  refine te [(0, (sl (tSl tInt) slices0))] rfl ?_
  refine sr ?_
  refine pv tb 1 rfl ?_
  refine TO_nil ?_
  refine sr ?_
  refine pv tb 1 rfl ?_
  refine TO_nil ?_
  refine T_seq ?_
  refine sr ?_
  refine pv tb 1 rfl ?_
  refine Tp rfl rfl (pur_lenT (T := (tSl tInt)) sl24 rfl rfl) rfl ?_
  refine pv tb 1 rfl ?_
  refine TO_nil ?_
  obtain ⟨O2_, L2_, N2_⟩ := bind_inv H
  clear H
  obtain ⟨B2_, hb2, L2_⟩ := gen_forS L2_
  refine T_block ?_
  refine T_loopX (fun k => fun (⟨t_1, size3⟩ : Nat × Int) => k = slices0.length - t_1 ∧ forS B2_ (slices0.drop t_1) (t_1 : Int) size3 = some O2_) (fun (⟨t_1, size3⟩ : Nat × Int) => [(0, (sl (tSl tInt) slices0)), (3, (intA size3)), (9, (sl (tSl tInt) slices0)), (10, (intA (slices0.length : Int))), (11, (intA (t_1 : Int)))]) (fun (⟨t_1, size3⟩ : Nat × Int) => []) _ (0, 0) (w0 0) ⟨rfl, L2_⟩ ?_
  rintro _ ⟨t_1, size3⟩ ⟨rfl, L2_⟩
  refine T_fact (len_sl (T := (tSl tInt)) (.tmp 0) rfl) (fun hl2 => ?_)
  refine sr ?_
  refine pv tb 1 rfl ?_
  refine TO_nil ?_
  refine T_seq ?_
  refine T_cond (t := decide ((t_1 : Int) < (slices0.length : Int))) rfl (fun d2 => ?_) (fun d2 => ?_)
  ·replace d2 := of_decide_eq_true d2
   obtain ⟨x_t_1, hx_t_1⟩ : ∃ v, (slices0)[t_1]? = some v := ⟨_, List.getElem?_eq_getElem (by omega)⟩
   obtain ⟨C2_, H, K2_⟩ := forS_step L2_ hx_t_1
   rw [hb2] at H
   refine T_skip ?_
   refine T_seq ?_
   refine T_block ?_
   refine sr ?_
   refine Tp rfl rfl (pur_ixT (T := (tSl tInt)) sl24 rfl rfl rfl hx_t_1 rfl) rfl ?_
   refine Tp rfl rfl (pur_ldT (T := (tSl tInt)) (i := t_1) (off := 0) rfl one53 rfl rfl hx_t_1 rfl) rfl ?_
   refine pv tb 1 rfl ?_
   refine TO_nil ?_
   refine sr ?_
   refine pv tb 2 rfl ?_
   refine Tp rfl rfl (pur_lenT (T := tInt) sl53 rfl rfl) rfl ?_
   refine pv tb 2 rfl ?_
   refine TO_nil ?_
   refine sr ?_
   refine pv tb 2 rfl ?_
   refine TO_nil ?_
   refine T_cond (t := decide ((w64 (size3 + (x_t_1.length : Int))) < 0)) rfl (fun c_3 => ?_) (fun c_3 => ?_)
   ·replace H := cond_t c_3 H
    cases H
   ·replace H := cond_f c_3 H
    refine T_skip ?_
    refine T_region ?_
    refine Tp rfl rfl (pur_add rfl rfl rfl (fits64 (by omega) (by omega))) rfl ?_
    refine pv tb 1 rfl ?_
    refine TO_nil ?_
    obtain rfl := some_inj H
    exact again (slices0.length - (t_1 + 1)) (t_1 + 1, (w64 (size3 + (x_t_1.length : Int)))) (by omega) (w0 0) ⟨rfl, K2_⟩
  ·replace d2 := of_decide_eq_false d2
   obtain rfl := forS_end L2_ (by omega)
   refine T_exit ?_
   refine then_exit ?_
   refine then_exit ?_
   refine block_exit ?_
   replace H := N2_
   refine sr ?_
   obtain ⟨r_4, h_5, H⟩ := bind_inv H
   refine pv tb 1 rfl ?_
   refine TO_cons rfl (TOp_callO (call_static ent133 rfl) rfl (m_slices_Grow_Sint_int_n0_own _ _ h_5) rfl rfl rfl ?_)
   refine toe [(0, (sl (tSl tInt) slices0)), (3, (intA size3)), (23, (intA size3)), (24, (.m [0] 0 r_4.length tInt.k))] rfl ?_
   refine TO_st (σ' := [.row (flat tInt.own r_4)]) rfl ?_
   refine pv tb 1 rfl ?_
   refine TO_nil ?_
   refine T_seq ?_
   refine sr ?_
   refine pv tb 1 rfl ?_
   refine Tp rfl rfl (pur_lenT (T := (tSl tInt)) sl24 rfl rfl) rfl ?_
   refine pv tb 1 rfl ?_
   refine TO_nil ?_
   obtain ⟨O7_, L7_, N7_⟩ := bind_inv H
   clear H
   obtain ⟨B7_, hb7, L7_⟩ := gen_forS L7_
   refine T_block ?_
   refine T_loopX (fun k => fun (⟨t_6, newslice6⟩ : Nat × (List Int)) => k = slices0.length - t_6 ∧ forS B7_ (slices0.drop t_6) (t_6 : Int) newslice6 = some O7_) (fun (⟨t_6, newslice6⟩ : Nat × (List Int)) => [(6, (.m [0] 0 newslice6.length tInt.k)), (25, (sl (tSl tInt) slices0)), (26, (intA (slices0.length : Int))), (27, (intA (t_6 : Int)))]) (fun (⟨t_6, newslice6⟩ : Nat × (List Int)) => [.row (flat tInt.own newslice6)]) _ (0, r_4) (w0 1) ⟨rfl, L7_⟩ ?_
   rintro _ ⟨t_6, newslice6⟩ ⟨rfl, L7_⟩
   refine T_fact (len_sl (T := (tSl tInt)) (.tmp 25) rfl) (fun hl7 => ?_)
   refine sr ?_
   refine pv tb 1 rfl ?_
   refine TO_nil ?_
   refine T_seq ?_
   refine T_cond (t := decide ((t_6 : Int) < (slices0.length : Int))) rfl (fun d7 => ?_) (fun d7 => ?_)
   ·replace d7 := of_decide_eq_true d7
    obtain ⟨x_t_6, hx_t_6⟩ : ∃ v, (slices0)[t_6]? = some v := ⟨_, List.getElem?_eq_getElem (by omega)⟩
    obtain ⟨C7_, H, K7_⟩ := forS_step L7_ hx_t_6
    rw [hb7] at H
    refine T_skip ?_
    refine T_seq ?_
    refine T_block ?_
    refine sr ?_
    refine Tp rfl rfl (pur_ixT (T := (tSl tInt)) sl24 rfl rfl rfl hx_t_6 rfl) rfl ?_
    refine Tp rfl rfl (pur_ldT (T := (tSl tInt)) (i := t_6) (off := 0) rfl one53 rfl rfl hx_t_6 rfl) rfl ?_
    refine pv tb 1 rfl ?_
    refine TO_nil ?_
    refine T_region ?_
    obtain ⟨us_8, h_9, H⟩ := bind_inv H
    refine pv tb 2 rfl ?_
    refine TO_cons rfl (TOp_appZ (T := tInt) (f := tInt.own) (xs := newslice6) (ys := x_t_6) tInt.lenO sl53 zero3 rfl bytes3 (by decide) rfl rfl rfl rfl (src_T (T := tInt) rfl) (flat_cell tInt _) h_9 (lb rfl) ?_)
    refine toe [(8, (sl tInt x_t_6)), (25, (sl (tSl tInt) slices0)), (26, (intA (slices0.length : Int))), (27, (intA (t_6 : Int))), (32, (sl tInt x_t_6)), (33, (.m [0] 0 us_8.length tInt.k))] rfl ?_
    refine TO_st (σ' := [.row (flat tInt.own us_8), .dead]) rfl ?_
    refine pv tb 1 rfl ?_
    refine TO_nil ?_
    refine T_region ?_
    refine Tp rfl rfl (pur_add rfl rfl rfl (fits64 (by omega) (by omega))) rfl ?_
    refine pv tb 1 rfl ?_
    refine TO_nil ?_
    obtain rfl := some_inj H
    exact again (slices0.length - (t_6 + 1)) (t_6 + 1, us_8) (by omega) (w0 1) ⟨rfl, K7_⟩
   ·replace d7 := of_decide_eq_false d7
    obtain rfl := forS_end L7_ (by omega)
    refine T_exit ?_
    refine then_exit ?_
    refine then_exit ?_
    refine block_exit ?_
    replace H := N7_
    refine sr ?_
    refine pv tb 2 rfl ?_
    refine TO_nil ?_
    refine T_ret ?_
    obtain rfl := some_inj H
    exact end_pick (.tmp .nil) rfl [0] (by decide) rfl rfl rfl rfl rfl rfl
theorem m_slices_Concat_Sint_int_ok (slices0 : (List (List Int))) (r : (List Int)) (H : m_slices_Concat_Sint_int slices0 = some r) : FnV prg 104 [(sl (tSl tInt) slices0)] (sl tInt r) := (m_slices_Concat_Sint_int_own slices0 r H).frz (frzT (T := tInt) rfl)

theorem m_slices_Sort_Sint_int_mut (s0 : List Int) (r : Unit × List Int) (H : m_slices_Sort_Sint_int s0 = some r) : FnM prg 105 [(.m [0] 0 s0.length tInt.k)] [flat tInt.own s0] (.tuple #[]) [flat tInt.own r.2] := by
  unfold m_slices_Sort_Sint_int at H
  split at H
  case isFalse => cases H
  rename_i h0
  cases H
  exact FnM.ofPut (by simp) (fun ad w e => by subst e; exact Any.slices_Sort_int_none shl189 ad 0 w) (fun b o cap w hH hb _ => Any.slices_Sort_int shl189 b o cap s0 w hH hb h0)


theorem m_slices_Compact_Sint_int_x (s0 : List Int) (r : List Int) (H : m_slices_Compact_Sint_int s0 = some r) : FnS prg 106 [(.m [0] 0 s0.length tInt.k)] [.row (flat tInt.enc s0)] (.m [0] 0 r.length tInt.k) [.row (flat tInt.enc r)] := by
  unfold m_slices_Compact_Sint_int at H
  split at H
  case isFalse => cases H
  rename_i h0
  cases H
  have hc := compact_comp1 s0
  have hl := comp1_le s0
  refine FnS.ofCut (rest := List.replicate (s0.length - (comp1 s0).length) 0) (by simp; omega) (fun ad w e => ?_) (fun b o cap w hH hb hcp => ?_)
  ·exact Calls.mono (Any.slices_Compact_int_empty shl20 ad 0 w) fun e w' h => ⟨⟨ad, h.1⟩, h.2⟩
  ·refine Calls.mono (Any.slices_Compact_int shl20 b o cap s0 w hH (by omega) hcp) fun e w' h => ?_
   rw [hc] at h
   obtain ⟨h1, q, h2⟩ := h
   exact ⟨h1, q, #[], by rw [grow_nil]; exact h2⟩


set_option maxHeartbeats 1000000 in
theorem m_impl_union_own (a0 : (List Int)) (b1 : (List Int)) (r : (List Int)) (H : m_impl_union a0 b1 = some r) : FnO prg 73 [(sl tInt a0), (sl tInt b1)] (.m [0] 0 r.length tInt.k) [.row (flat tInt.own r)] := by
  unfold m_impl_union at H
  refine fnO_of_T Try.func73 rfl rfl (Nat.le_of_ble_eq_true rfl) ?_
  refine te [(0, (sl tInt a0)), (1, (sl tInt b1))] rfl ?_
  refine sr ?_
  refine pv tb 1 rfl ?_
  refine TO_nil ?_
  refine sr ?_
  refine pv tb 2 rfl ?_
  refine TO_cons rfl (TOp_lit (nn := 2) (k := 1) sl24 zero53 rfl rfl rfl rfl (by decide) ?_)
  refine TO_st (σ' := [.row (flat (tSl tInt).enc ([a0, b1] : (List (List Int))))]) rfl ?_
  obtain ⟨r_1, h_2, H⟩ := bind_inv H
  refine TO_cons rfl (TOp_callOG (call_static ent104 rfl) (frz_cons (frzTE (T := (tSl tInt)) (xs := ([a0, b1] : (List (List Int)))) rfl) frz_nil).1 (frz_cons (frzTE (T := (tSl tInt)) (xs := ([a0, b1] : (List (List Int)))) rfl) frz_nil).2 (m_slices_Concat_Sint_int_own _ _ h_2) rfl (ownC_of (ownSB_cons (flat_ownR tInt _) ownSB_nil)) rfl rfl rfl ?_)
  refine toe [(0, (sl tInt a0)), (1, (sl tInt b1)), (6, (sl tInt a0)), (7, (sl tInt b1)), (8, (.m [0] 0 ([a0, b1] : (List (List Int))).length (tSl tInt).k)), (9, (.m [1] 0 r_1.length tInt.k))] rfl ?_
  refine TO_st (σ' := [.row (flat (tSl tInt).enc ([a0, b1] : (List (List Int)))), .row (flat tInt.own r_1)]) rfl ?_
  refine pv tb 1 rfl ?_
  refine TO_nil ?_
  refine sr ?_
  obtain ⟨r_3, h_4, H⟩ := bind_inv H
  refine pv tb 1 rfl ?_
  refine TO_cons rfl (TOp_callG (aa := [(.m [1] 0 r_1.length tInt.k)]) [[1]] (call_static ent105 rfl) rfl (.cons rfl rfl (by decide) .nil) rfl rfl (m_slices_Sort_Sint_int_mut _ _ h_4) rfl (fun hl_5 => ?_))
  obtain ⟨hq_6, hl_5⟩ := sameLens_T (T := tInt) hl_5
  refine TO_env (E' := [(5, (.m [1] 0 r_3.2.length tInt.k)), (10, (.m [1] 0 r_3.2.length tInt.k))]) ⟨(congrArg (fun q => A.m [1] 0 q tInt.k) hq_6.symm), (congrArg (fun q => A.m [1] 0 q tInt.k) hq_6.symm), trivial⟩ ?_
  refine TO_st (σ' := [.row (flat (tSl tInt).enc ([a0, b1] : (List (List Int)))), .row (flat tInt.own r_3.2)]) rfl ?_
  refine TO_nil ?_
  refine sr ?_
  obtain ⟨r_7, h_8, H⟩ := bind_inv H
  refine pv tb 1 rfl ?_
  refine TO_cons rfl (TOp_callS [1] (call_static ent106 rfl) (by decide) rfl rfl rfl rfl rfl rfl (m_slices_Compact_Sint_int_x _ _ h_8) rfl rfl ?_)
  refine toe [(13, (.m [1] 0 r_7.length tInt.k))] rfl ?_
  refine TO_st (σ' := [.row (flat (tSl tInt).enc ([a0, b1] : (List (List Int)))), .row (flat tInt.enc r_7)]) rfl ?_
  refine pv tb 1 rfl ?_
  refine TO_nil ?_
  refine T_ret ?_
  obtain rfl := some_inj H
  exact end_pick (.tmp .nil) rfl [1] (by decide) rfl rfl rfl rfl rfl rfl
theorem m_impl_union_ok (a0 : (List Int)) (b1 : (List Int)) (r : (List Int)) (H : m_impl_union a0 b1 = some r) : FnV prg 73 [(sl tInt a0), (sl tInt b1)] (sl tInt r) := (m_impl_union_own a0 b1 r H).frz (frzT (T := tInt) rfl)

set_option maxHeartbeats 1000000 in
theorem m_impl_inConflict_ok (edges0 : (List ConflictEdge)) (a1 : Int) (b2 : Int) (r : Bool) (H : m_impl_inConflict edges0 a1 b2 = some r) : FnV prg 110 [(sl tConflictEdge edges0), (intA a1), (intA b2)] (boolA r) := by
  unfold m_impl_inConflict at H
  refine fnV_of_T Try.func110 rfl rfl (Nat.le_of_ble_eq_true rfl) ?_
  refine te [(0, (sl tConflictEdge edges0)), (1, (intA a1)), (2, (intA b2))] rfl ?_
  refine sr ?_
  refine pv tb 1 rfl ?_
  refine TO_nil ?_
  obtain ⟨t6_1, J_1, H_2⟩ := bind_inv H
  refine T_cutX (fun x => t6_1 = x) (fun (t6_1 : Bool) => [(6, (boolA t6_1))]) (fun (t6_1 : Bool) => []) ?_ ?_
  ·replace H := J_1
   refine T_region ?_
   refine pv tb 3 rfl ?_
   refine Tp rfl rfl (pur_build bld62 rfl rfl) rfl ?_
   obtain ⟨r_3, h_4, H⟩ := bind_inv H
   refine TO_cons rfl (TOp_callV (call_static ent70 rfl) (m_slices_Contains_Simpl_ConflictEdge_impl_ConflictEdge_ok _ _ _ h_4) rfl rfl rfl ?_)
   refine pv tb 1 rfl ?_
   refine TO_split (t := r_3) 12 rfl (fun g_5 => ?_) (fun g_5 => ?_)
   ·replace H := cond_t g_5 H
    refine pv tb 7 rfl ?_
    refine TO_nil ?_
    exact joined true (w0 0) (some_inj H).symm
   ·replace H := cond_f g_5 H
    refine pv tb 3 rfl ?_
    refine TO_on rfl rfl (by decide) rfl rfl (TOp_pure (pur_build bld62 rfl rfl) rfl ?_)
    obtain ⟨r_6, h_7, H⟩ := bind_inv H
    refine TO_on rfl rfl (by decide) rfl rfl (TOp_callV (call_static ent70 rfl) (m_slices_Contains_Simpl_ConflictEdge_impl_ConflictEdge_ok _ _ _ h_7) rfl rfl rfl ?_)
    refine pv tb 2 rfl ?_
    refine TO_nil ?_
    exact joined r_6 (w0 0) (some_inj H).symm
  ·rintro _ rfl
   replace H := H_2
   refine T_ret ?_
   obtain rfl := some_inj H
   refine end_ret (.tmp .nil) rfl rfl ⟨?_, rfl⟩
   rfl

set_option maxHeartbeats 1000000 in
theorem m_impl_selected_own (edges0 : (List ConflictEdge)) (left1 : (List Int)) (v2 : Int) (r : (List Int)) (H : m_impl_selected edges0 left1 v2 = some r) : FnO prg 75 [(sl tConflictEdge edges0), (sl tInt left1), (intA v2)] (.m [0] 0 r.length tInt.k) [.row (flat tInt.own r)] := by
  unfold m_impl_selected at H
  refine fnO_of_T Try.func75 rfl rfl (Nat.le_of_ble_eq_true rfl) ?_
  refine te [(0, (sl tConflictEdge edges0)), (1, (sl tInt left1)), (2, (intA v2))] rfl ?_
  refine sr ?_
  refine pv tb 1 rfl ?_
  refine TO_nil ?_
  refine sr ?_
  refine TO_cons rfl (TOp_lit (nn := 0) (k := 1) sl53 zero3 rfl rfl rfl rfl (by decide) ?_)
  refine TO_st (σ' := [.row (flat tInt.enc ([] : (List Int)))]) rfl ?_
  refine pv tb 1 rfl ?_
  refine TO_nil ?_
  refine T_seq ?_
  refine sr ?_
  refine pv tb 1 rfl ?_
  refine Tp rfl rfl (pur_lenT (T := tInt) sl53 rfl rfl) rfl ?_
  refine pv tb 1 rfl ?_
  refine TO_nil ?_
  obtain ⟨O2_, L2_, N2_⟩ := bind_inv H
  clear H
  obtain ⟨B2_, hb2, L2_⟩ := gen_forS L2_
  refine T_block ?_
  refine T_loopX (fun k => fun (⟨t_1, out7⟩ : Nat × (List Int)) => k = left1.length - t_1 ∧ forS B2_ (left1.drop t_1) (t_1 : Int) out7 = some O2_) (fun (⟨t_1, out7⟩ : Nat × (List Int)) => [(0, (sl tConflictEdge edges0)), (2, (intA v2)), (7, (.m [0] 0 out7.length tInt.k)), (11, (sl tInt left1)), (12, (intA (left1.length : Int))), (13, (intA (t_1 : Int)))]) (fun (⟨t_1, out7⟩ : Nat × (List Int)) => [.row (flat tInt.enc out7)]) _ (0, ([] : (List Int))) (w0 1) ⟨rfl, L2_⟩ ?_
  rintro _ ⟨t_1, out7⟩ ⟨rfl, L2_⟩
  refine T_fact (len_sl (T := tInt) (.tmp 11) rfl) (fun hl2 => ?_)
  refine sr ?_
  refine pv tb 1 rfl ?_
  refine TO_nil ?_
  refine T_seq ?_
  refine T_cond (t := decide ((t_1 : Int) < (left1.length : Int))) rfl (fun d2 => ?_) (fun d2 => ?_)
  ·replace d2 := of_decide_eq_true d2
   obtain ⟨x_t_1, hx_t_1⟩ : ∃ v, (left1)[t_1]? = some v := ⟨_, List.getElem?_eq_getElem (by omega)⟩
   obtain ⟨C2_, H, K2_⟩ := forS_step L2_ hx_t_1
   rw [hb2] at H
   refine T_skip ?_
   refine T_seq ?_
   refine T_block ?_
   refine sr ?_
   refine Tp rfl rfl (pur_ixT (T := tInt) sl53 rfl rfl rfl hx_t_1 rfl) rfl ?_
   refine Tp rfl rfl (pur_ldT (T := tInt) (i := t_1) (off := 0) rfl one3 rfl rfl hx_t_1 rfl) rfl ?_
   refine pv tb 1 rfl ?_
   refine TO_nil ?_
   obtain ⟨t26_3, J_3, H_4⟩ := bind_inv H
   refine T_cutX (fun x => t26_3 = x) (fun (t26_3 : Bool) => [(0, (sl tConflictEdge edges0)), (2, (intA v2)), (7, (.m [0] 0 out7.length tInt.k)), (9, (intA x_t_1)), (11, (sl tInt left1)), (12, (intA (left1.length : Int))), (13, (intA (t_1 : Int))), (26, (boolA t26_3))]) (fun (t26_3 : Bool) => [.row (flat tInt.enc out7)]) ?_ ?_
   ·replace H := J_3
    refine T_region ?_
    refine pv tb 4 rfl ?_
    refine TO_split (t := decide (x_t_1 ≠ v2)) 20 rfl (fun g_5 => ?_) (fun g_5 => ?_)
    ·replace H := cond_t g_5 H
     obtain ⟨r_6, h_7, H⟩ := bind_inv H
     refine pv tb 3 rfl ?_
     refine TO_on rfl rfl (by decide) rfl rfl (TOp_callV (call_static ent110 rfl) (m_impl_inConflict_ok _ _ _ _ h_7) rfl rfl rfl ?_)
     refine pv tb 2 rfl ?_
     refine TO_nil ?_
     exact joined (!r_6) (w0 1) (some_inj H).symm
    ·replace H := cond_f g_5 H
     refine pv tb 6 rfl ?_
     refine TO_nil ?_
     exact joined false (w0 1) (some_inj H).symm
   ·rintro _ rfl
    replace H := H_4
    refine T_cond (t := t26_3) rfl (fun c_8 => ?_) (fun c_8 => ?_)
    ·replace H := cond_t c_8 H
     refine T_region ?_
     refine pv tb 2 rfl ?_
     refine TO_cons rfl (TOp_lit (nn := 1) (k := 1) sl53 zero3 rfl rfl rfl rfl (by decide) ?_)
     refine TO_st (σ' := [.row (flat tInt.enc out7), .row (flat tInt.enc ([x_t_1] : (List Int)))]) rfl ?_
     obtain ⟨us_9, h_10, H⟩ := bind_inv H
     refine TO_cons rfl (TOp_appZ (T := tInt) (f := tInt.enc) (xs := out7) (ys := ([x_t_1] : (List Int))) tInt.len sl53 zero3 rfl bytes3 (by decide) rfl rfl rfl rfl (src_mT (f := tInt.enc) tInt.len rfl rfl (flat_cell tInt _)) (flat_cell tInt _) h_10 (lb rfl) ?_)
     refine toe [(0, (sl tConflictEdge edges0)), (2, (intA v2)), (9, (intA x_t_1)), (11, (sl tInt left1)), (12, (intA (left1.length : Int))), (13, (intA (t_1 : Int))), (26, (boolA t26_3)), (28, (intA x_t_1)), (29, (.m [1] 0 ([x_t_1] : (List Int)).length tInt.k)), (30, (.m [0] 0 us_9.length tInt.k))] rfl ?_
     refine TO_st (σ' := [.row (flat tInt.enc us_9), .row (flat tInt.enc ([x_t_1] : (List Int))), .dead]) rfl ?_
     refine pv tb 1 rfl ?_
     refine TO_nil ?_
     refine T_region ?_
     refine Tp rfl rfl (pur_add rfl rfl rfl (fits64 (by omega) (by omega))) rfl ?_
     refine pv tb 1 rfl ?_
     refine TO_nil ?_
     obtain rfl := some_inj H
     exact again (left1.length - (t_1 + 1)) (t_1 + 1, us_9) (by omega) (w0 1) ⟨rfl, K2_⟩
    ·replace H := cond_f c_8 H
     refine T_skip ?_
     refine T_region ?_
     refine Tp rfl rfl (pur_add rfl rfl rfl (fits64 (by omega) (by omega))) rfl ?_
     refine pv tb 1 rfl ?_
     refine TO_nil ?_
     obtain rfl := some_inj H
     exact again (left1.length - (t_1 + 1)) (t_1 + 1, out7) (by omega) (w0 1) ⟨rfl, K2_⟩
  ·replace d2 := of_decide_eq_false d2
   obtain rfl := forS_end L2_ (by omega)
   refine T_exit ?_
   refine then_exit ?_
   refine then_exit ?_
   refine block_exit ?_
   replace H := N2_
   refine sr ?_
   refine pv tb 2 rfl ?_
   refine TO_nil ?_
   refine T_ret ?_
   obtain rfl := some_inj H
   exact end_pick (.tmp .nil) rfl [0] (by decide) rfl rfl rfl rfl rfl rfl
theorem m_impl_selected_ok (edges0 : (List ConflictEdge)) (left1 : (List Int)) (v2 : Int) (r : (List Int)) (H : m_impl_selected edges0 left1 v2 = some r) : FnV prg 75 [(sl tConflictEdge edges0), (sl tInt left1), (intA v2)] (sl tInt r) := (m_impl_selected_own edges0 left1 v2 r H).frz (frzT (T := tInt) rfl)

set_option maxHeartbeats 1000000 in
theorem m_slices_Clone_Sint_int_own (s0 : (List Int)) (r : (List Int)) (H : m_slices_Clone_Sint_int s0 = some r) : FnO prg 76 [(sl tInt s0)] (.m [0] 0 r.length tInt.k) [.row (flat tInt.own r)] := by
  unfold m_slices_Clone_Sint_int at H
  refine fnO_of_T Try.func76 rfl rfl (Nat.le_of_ble_eq_true rfl) ?_
  refine te [(0, (sl tInt s0))] rfl ?_
  refine sr ?_
  refine pv tb 1 rfl ?_
  refine TO_nil ?_
  refine T_seq ?_
  refine sr ?_
  refine pv tb 1 rfl ?_
  refine TO_cons rfl (TOp_isnil_i Try.underlying53 rfl rfl rfl (fun b_1 hb_2 => ?_))
  replace hb_2 := fun h => flat_nil (T := tInt) (hb_2 h)
  refine TO_nil ?_
  refine T_cond (t := b_1) rfl (fun c_3 => ?_) (fun c_3 => ?_)
  ·obtain rfl := hb_2 c_3
   refine sr ?_
   refine pv tb 1 rfl ?_
   refine TO_nil ?_
   refine T_row0 ?_
   refine T_envL (E' := [(2, (.m [0] 0 ([] : (List Int)).length tInt.k))]) ⟨leM, trivial⟩ ?_
   refine T_st (σ' := [.row (flat tInt.own ([] : (List Int)))]) rfl ?_
   refine T_ret ?_
   refine then_ret ?_
   obtain rfl : ([] : (List Int)) = r := by simpa [app] using H
   exact end_pick (.tmp .nil) rfl [0] (by decide) rfl rfl rfl rfl rfl rfl
  ·skip
   refine T_skip ?_
   refine sr ?_
   refine TO_cons rfl (TOp_lit (nn := 0) (k := 1) sl53 zero3 rfl rfl rfl rfl (by decide) ?_)
   refine TO_st (σ' := [.row (flat tInt.enc ([] : (List Int)))]) rfl ?_
   obtain ⟨us_4, h_5, H⟩ := bind_inv H
   refine pv tb 1 rfl ?_
   refine TO_cons rfl (TOp_appZ (T := tInt) (f := tInt.enc) (xs := ([] : (List Int))) (ys := s0) tInt.len sl53 zero3 rfl bytes3 (by decide) rfl rfl rfl rfl (src_T (T := tInt) rfl) (flat_cell tInt _) h_5 (lb rfl) ?_)
   refine toe [(0, (sl tInt s0)), (6, (sl tInt s0)), (7, (.m [0] 0 us_4.length tInt.k))] rfl ?_
   refine TO_st (σ' := [.row (flat tInt.enc us_4), .dead]) rfl ?_
   refine pv tb 1 rfl ?_
   refine TO_nil ?_
   refine T_ret ?_
   obtain rfl := some_inj H
   exact end_pick (.tmp .nil) rfl [0] (by decide) rfl rfl rfl rfl rfl rfl
theorem m_slices_Clone_Sint_int_ok (s0 : (List Int)) (r : (List Int)) (H : m_slices_Clone_Sint_int s0 = some r) : FnV prg 76 [(sl tInt s0)] (sl tInt r) := (m_slices_Clone_Sint_int_own s0 r H).frz (frzT (T := tInt) rfl)
end Go.Proofs.Ytmecnecfkgneoaa

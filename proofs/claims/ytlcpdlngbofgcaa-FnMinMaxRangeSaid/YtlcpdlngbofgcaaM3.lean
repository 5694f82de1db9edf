/- Walks. -/
import Derived.Test.YtlcpdlngbofgcaaM1
import Derived.Test.YtlcpdlngbofgcaaM2
set_option linter.unusedVariables false
set_option linter.unusedSimpArgs false
set_option maxRecDepth 4000
namespace Go.Proofs.Ytlcpdlngbofgcaa
open Go Go.Proofs Go.Sep
set_option maxHeartbeats 1000000 in
/-- spec.Blocks -/
theorem m_spec_Blocks_own (u : Nat) (d0 : Database) (r : (List (List Int))) (H : m_spec_Blocks u d0 = some r) : FnO prg 79 [(.g (tDatabase.enc d0))] (.m [0] 0 r.length (tSl tInt).k) [.row (flat (tSl tInt).own r)] := by
  unfold m_spec_Blocks at H
  refine fnO_of_T Try.func79 rfl rfl (Nat.le_of_ble_eq_true rfl) ?_
  refine te [(0, (.g (tDatabase.enc d0)))] rfl ?_
  refine sr ?_
  refine TO_cons rfl (TOp_box rfl (boxAll rfl) rfl rfl ?_)
  refine Tp rfl rfl (pur_assign rfl) rfl ?_
  refine TO_nil ?_
  refine te [(1, (.b 0 0))] rfl ?_
  refine sr ?_
  refine TO_cons rfl (TOp_lit (nn := 0) (k := 1) sl22 zero33 rfl rfl rfl rfl (by decide) ?_)
  refine TO_st (σ' := [.box [(sl tRelation d0.relations), (sl tFact d0.facts)], .row (flat (tSl tInt).own ([] : (List (List Int))))]) rfl ?_
  refine Tp rfl rfl (pur_assign rfl) rfl ?_
  refine TO_nil ?_
  refine te [(1, (.b 0 0)), (3, (.m [1] 0 ([] : (List (List Int))).length (tSl tInt).k))] rfl ?_
  refine T_seq ?_
  refine sr ?_
  refine Tp rfl rfl (pur_assign rfl) rfl ?_
  refine TO_nil ?_
  refine te [(1, (.b 0 0)), (3, (.m [1] 0 ([] : (List (List Int))).length (tSl tInt).k)), (4, (intA 0))] rfl ?_
  obtain ⟨O1_, L1_, N1_⟩ := bind_inv H
  clear H
  obtain ⟨B1_, hb1, L1_⟩ := gen_whileF L1_
  refine T_block ?_
  refine T_loopX (fun k => fun (x_ : (List (List Int)) × Int) => whileF B1_ k (x_.1, x_.2) = some O1_) (fun (x_ : (List (List Int)) × Int) => [(1, (.b 0 0)), (3, (.m [1] 0 x_.1.length (tSl tInt).k)), (4, (intA x_.2))]) (fun (x_ : (List (List Int)) × Int) => [.box [(sl tRelation d0.relations), (sl tFact d0.facts)], .row (flat (tSl tInt).own x_.1)]) u (([] : (List (List Int))), 0) (wp 2 (lb rfl) rfl rfl rfl rfl rfl) L1_ ?_
  rintro _ ⟨out3, i4⟩ L1_
  obtain ⟨k1, rfl, C1_, H, K1_⟩ := while_step L1_
  rw [hb1] at H
  refine te [(1, (.b 0 0)), (3, (.m [1] 0 out3.length (tSl tInt).k)), (4, (intA i4))] rfl ?_
  refine T_st (σ' := [.box [(sl tRelation d0.relations), (sl tFact d0.facts)], .row (flat (tSl tInt).own out3)]) rfl ?_
  refine T_seq ?_
  obtain ⟨t15_2, J_2, H_3⟩ := bind_inv H
  refine T_cutX (fun x => t15_2 = x) (fun (t15_2 : Bool) => [(1, (.b 0 0)), (3, (.m [1] 0 out3.length (tSl tInt).k)), (4, (intA i4)), (15, (boolA t15_2))]) (fun (t15_2 : Bool) => [.box [(sl tRelation d0.relations), (sl tFact d0.facts)], .row (flat (tSl tInt).own out3)]) ?_ ?_
  ·replace H := J_2
   refine T_region ?_
   refine Tp rfl rfl (pur_move rfl) rfl ?_
   refine Tp rfl rfl (pur_fa_b fld32_1 rfl rfl) rfl ?_
   refine Tp rfl rfl (pur_ld_b one30 rfl rfl rfl rfl) rfl ?_
   refine Tp rfl rfl (pur_lenT (T := tFact) sl30 rfl rfl) rfl ?_
   refine Tp rfl rfl (pur_lss rfl rfl rfl) rfl ?_
   refine Tp rfl rfl (pur_move rfl) rfl ?_
   refine TO_split (t := decide (i4 < (d0.facts.length : Int))) 12 rfl (fun g_4 => ?_) (fun g_4 => ?_)
   ·replace H := cond_t g_4 H
    refine TO_on rfl rfl (by decide) rfl rfl (TOp_pure (pur_ldK_b agg32 rfl rfl (lb rfl) rfl) rfl ?_)
    obtain ⟨r_5, h_6, H⟩ := bind_inv H
    refine TO_on rfl rfl (by decide) rfl rfl (TOp_callV (call_static ent76 rfl) (m_spec_IsValidDatabase_ok u _ _ h_6) rfl rfl rfl ?_)
    refine Tp rfl rfl (pur_pick (t := true) rfl rfl rfl) rfl ?_
    refine TO_nil ?_
    exact joined r_5 (wp 2 (lb rfl) rfl rfl rfl rfl rfl) (some_inj H).symm
   ·replace H := cond_f g_4 H
    refine TO_off rfl rfl (by decide) rfl rfl rfl ?_
    refine TO_off rfl rfl (by decide) rfl rfl rfl ?_
    refine Tp rfl rfl (pur_pick (t := false) rfl rfl rfl) rfl ?_
    refine TO_nil ?_
    exact joined false (wp 2 (lb rfl) rfl rfl rfl rfl rfl) (some_inj H).symm
  ·rintro _ rfl
   replace H := H_3
   refine te [(1, (.b 0 0)), (3, (.m [1] 0 out3.length (tSl tInt).k)), (4, (intA i4)), (15, (boolA t15_2))] rfl ?_
   refine T_cond (t := t15_2) rfl (fun c_7 => ?_) (fun c_7 => ?_)
   ·replace H := cond_t c_7 H
    refine T_skip ?_
    refine te [(1, (.b 0 0)), (3, (.m [1] 0 out3.length (tSl tInt).k)), (4, (intA i4))] rfl ?_
    refine T_seq ?_
    refine T_block ?_
    refine sr ?_
    refine Tp rfl rfl (pur_ldK_b agg32 rfl rfl (lb rfl) rfl) rfl ?_
    refine Tp rfl rfl (pur_move rfl) rfl ?_
    obtain ⟨r_8, h_9, H⟩ := bind_inv H
    refine TO_cons rfl (TOp_callO (call_static ent105 rfl) rfl (m_spec_BlockOf_own u _ _ _ h_9) rfl rfl rfl ?_)
    refine toe [(1, (.b 0 0)), (3, (.m [1] 0 out3.length (tSl tInt).k)), (4, (intA i4)), (18, (.g (tDatabase.enc d0))), (19, (intA i4)), (20, (.m [2] 0 r_8.length tInt.k))] rfl ?_
    refine TO_st (σ' := [.box [(sl tRelation d0.relations), (sl tFact d0.facts)], .row (flat (tSl tInt).own out3), .row (flat tInt.own r_8)]) rfl ?_
    refine Tp rfl rfl (pur_assign rfl) rfl ?_
    refine TO_nil ?_
    refine te [(1, (.b 0 0)), (3, (.m [1] 0 out3.length (tSl tInt).k)), (4, (intA i4)), (5, (.m [2] 0 r_8.length tInt.k))] rfl ?_
    refine sr ?_
    refine Tp rfl rfl (pur_move rfl) rfl ?_
    obtain ⟨v_10, h_11, H⟩ := bind_inv H
    obtain ⟨n_12, hz_13, hv_14⟩ := getI_inv h_11
    refine Tp rfl rfl (pur_ixM (T := tInt) sl33 rfl rfl hz_13 hv_14 rfl) rfl ?_
    refine Tp rfl rfl (pur_ldE (f := tInt.own) (k := tInt.k) (i := n_12) (off := 0) tInt.lenO rfl one3 rfl rfl rfl hv_14 rfl rfl) rfl ?_
    refine Tp rfl rfl (pur_move rfl) rfl ?_
    refine Tp rfl rfl (pur_eql rfl rfl rfl) rfl ?_
    refine TO_nil ?_
    refine te [(1, (.b 0 0)), (3, (.m [1] 0 out3.length (tSl tInt).k)), (4, (intA i4)), (5, (.m [2] 0 r_8.length tInt.k)), (25, (boolA (decide (v_10 = i4))))] rfl ?_
    refine T_cond (t := decide (v_10 = i4)) rfl (fun c_15 => ?_) (fun c_15 => ?_)
    ·replace H := cond_t c_15 H
     refine T_region ?_
     refine Tp rfl rfl (pur_move rfl) rfl ?_
     refine Tp rfl rfl (pur_move rfl) rfl ?_
     refine TO_cons rfl (TOp_litB (nn := 1) (k := 1) sl22 zero33 rfl rfl rfl rfl (by decide) ?_)
     refine TO_st (σ' := [.box [(sl tRelation d0.relations), (sl tFact d0.facts)], .row (flat (tSl tInt).own out3), .row (flat tInt.own r_8), .box [(.m [2] 0 r_8.length tInt.k)]]) rfl ?_
     refine TO_boxify 1 rfl (lb rfl) ?_
     obtain ⟨us_16, h_17, H⟩ := bind_inv H
     refine TO_cons rfl (TOp_appB (T := (tSl tInt)) (xs := out3) (v := r_8) sl22 zero33 rfl bytes33 (by decide) rfl rfl rfl rfl rfl rfl rfl rfl h_17 (lb rfl) ?_)
     refine toe [(1, (.b 0 0)), (4, (intA i4)), (25, (boolA (decide (v_10 = i4)))), (29, .m [4] 0 (out3.length + 1) (tSl tInt).k)] rfl ?_
     refine TO_st (σ' := [.box [(sl tRelation d0.relations), (sl tFact d0.facts)], .dead, .row (flat tInt.own r_8), .box [(.m [2] 0 r_8.length tInt.k)], .box (flat (tSl tInt).own out3 ++ [(.m [2] 0 r_8.length tInt.k)])]) rfl ?_
     refine TO_absorbA (pr := flat (tSl tInt).own out3) 4 0 2 rfl rfl rfl (by decide) tInt.pos (flat_len tInt.lenO _) (lb rfl) (lb rfl) rfl (nms_box rfl (nms_dead (nms_row (nms_box rfl (nms_box (namesA namesL_own rfl) nms_nil))))) ?_
     refine TO_st (σ' := [.box [(sl tRelation d0.relations), (sl tFact d0.facts)], .dead, .dead, .box [(.m [2] 0 r_8.length tInt.k)], .box (flat (tSl tInt).own out3 ++ [.o tInt.k (flat tInt.own r_8)])]) rfl ?_
     refine TO_rowifyT (T := (tSl tInt)) (xs := out3) (v := r_8) 4 rfl rfl h_17 (lb rfl) ?_
     refine TO_st (σ' := [.box [(sl tRelation d0.relations), (sl tFact d0.facts)], .dead, .dead, .box [(.m [2] 0 r_8.length tInt.k)], .row (flat (tSl tInt).own us_16)]) rfl ?_
     refine TO_move 1 4 (by decide) (lb rfl) rfl rfl (lb rfl) ?_
     refine TO_env (E' := [(1, (.b 0 0)), (4, (intA i4)), (25, (boolA (decide (v_10 = i4)))), (29, (.m [1] 0 us_16.length (tSl tInt).k))]) ⟨rfl, rfl, rfl, (congrArg (fun q => A.m [1] 0 q (tSl tInt).k) (app_len h_17)), trivial⟩ ?_
     refine TO_kill 3 (lb rfl) ?_
     refine TO_st (σ' := [.box [(sl tRelation d0.relations), (sl tFact d0.facts)], .row (flat (tSl tInt).own us_16), .dead, .dead, .dead]) rfl ?_
     refine Tp rfl rfl (pur_assign rfl) rfl ?_
     refine TO_nil ?_
     refine te [(1, (.b 0 0)), (3, (.m [1] 0 us_16.length (tSl tInt).k)), (4, (intA i4))] rfl ?_
     refine T_region ?_
     refine Tp rfl rfl (pur_move rfl) rfl ?_
     refine Tp rfl rfl (pur_wadd rfl rfl rfl) rfl ?_
     refine Tp rfl rfl (pur_assign rfl) rfl ?_
     refine TO_nil ?_
     obtain rfl := some_inj H
     exact again k1 (us_16, (w64 (i4 + 1))) (Nat.lt_succ_self _) (wp 2 (lb rfl) rfl rfl rfl rfl rfl) K1_
    ·replace H := cond_f c_15 H
     refine T_skip ?_
     refine te [(1, (.b 0 0)), (3, (.m [1] 0 out3.length (tSl tInt).k)), (4, (intA i4))] rfl ?_
     refine T_region ?_
     refine Tp rfl rfl (pur_move rfl) rfl ?_
     refine Tp rfl rfl (pur_wadd rfl rfl rfl) rfl ?_
     refine Tp rfl rfl (pur_assign rfl) rfl ?_
     refine TO_nil ?_
     obtain rfl := some_inj H
     exact again k1 (out3, (w64 (i4 + 1))) (Nat.lt_succ_self _) (wp 2 (lb rfl) rfl rfl rfl rfl rfl) K1_
   ·replace H := cond_f c_7 H
    refine T_exit ?_
    refine then_exit ?_
    refine then_exit ?_
    refine block_exit ?_
    obtain rfl := some_inj H
    obtain rfl := some_inj K1_
    replace H := onS_l N1_
    refine te [(3, (.m [1] 0 out3.length (tSl tInt).k))] rfl ?_
    refine sr ?_
    refine Tp rfl rfl (pur_move rfl) rfl ?_
    refine Tp rfl rfl (pur_assign rfl) rfl ?_
    refine TO_nil ?_
    refine te [(2, (.m [1] 0 out3.length (tSl tInt).k))] rfl ?_
    refine T_ret ?_
    obtain rfl := some_inj H
    exact end_pick (.tmp .nil) rfl [1] (by decide) rfl rfl rfl rfl rfl rfl
theorem m_spec_Blocks_ok (u : Nat) (d0 : Database) (r : (List (List Int))) (H : m_spec_Blocks u d0 = some r) : FnV prg 79 [(.g (tDatabase.enc d0))] (sl (tSl tInt) r) := (m_spec_Blocks_own u d0 r H).frz (frzT (T := (tSl tInt)) rfl)

set_option maxHeartbeats 1000000 in
/-- spec.l27Vals -/
theorem m_spec_l27Vals_own (u : Nat) (d0 : Database) (r1 : Int) (col2 : Int) (r : (List (List Int))) (H : m_spec_l27Vals u d0 r1 col2 = some r) : FnO prg 68 [(.g (tDatabase.enc d0)), (intA r1), (intA col2)] (.m [0] 0 r.length (tSl tInt).k) [.row (flat (tSl tInt).own r)] := by
  unfold m_spec_l27Vals at H
  refine fnO_of_T Try.func68 rfl rfl (Nat.le_of_ble_eq_true rfl) ?_
  refine te [(0, (.g (tDatabase.enc d0))), (1, (intA r1)), (2, (intA col2))] rfl ?_
  refine sr ?_
  refine TO_cons rfl (TOp_box rfl (boxAll rfl) rfl rfl ?_)
  refine Tp rfl rfl (pur_assign rfl) rfl ?_
  refine TO_nil ?_
  refine te [(1, (intA r1)), (2, (intA col2)), (3, (.b 0 0))] rfl ?_
  refine sr ?_
  refine TO_cons rfl (TOp_lit (nn := 0) (k := 1) sl22 zero33 rfl rfl rfl rfl (by decide) ?_)
  refine TO_st (σ' := [.box [(sl tRelation d0.relations), (sl tFact d0.facts)], .row (flat (tSl tInt).own ([] : (List (List Int))))]) rfl ?_
  refine Tp rfl rfl (pur_assign rfl) rfl ?_
  refine TO_nil ?_
  refine te [(1, (intA r1)), (2, (intA col2)), (3, (.b 0 0)), (7, (.m [1] 0 ([] : (List (List Int))).length (tSl tInt).k))] rfl ?_
  refine sr ?_
  refine Tp rfl rfl (pur_ldK_b agg32 rfl rfl (lb rfl) rfl) rfl ?_
  obtain ⟨r_1, h_2, H⟩ := bind_inv H
  refine TO_cons rfl (TOp_callV (call_static ent79 rfl) (m_spec_Blocks_ok u _ _ h_2) rfl rfl rfl ?_)
  refine Tp rfl rfl (pur_assign rfl) rfl ?_
  refine TO_nil ?_
  refine te [(1, (intA r1)), (2, (intA col2)), (3, (.b 0 0)), (7, (.m [1] 0 ([] : (List (List Int))).length (tSl tInt).k)), (8, (sl (tSl tInt) r_1))] rfl ?_
  refine T_seq ?_
  refine sr ?_
  refine Tp rfl rfl (pur_assign rfl) rfl ?_
  refine TO_nil ?_
  refine te [(1, (intA r1)), (2, (intA col2)), (3, (.b 0 0)), (7, (.m [1] 0 ([] : (List (List Int))).length (tSl tInt).k)), (8, (sl (tSl tInt) r_1)), (9, (intA 0))] rfl ?_
  obtain ⟨O4_, L4_, N4_⟩ := bind_inv H
  clear H
  obtain ⟨B4_, hb4, L4_⟩ := gen_forS L4_
  refine T_block ?_
  refine T_loopX (fun k => fun (x_ : Nat × (List (List Int))) => k = r_1.length - x_.1 ∧ forS B4_ (r_1.drop x_.1) (x_.1 : Int) x_.2 = some O4_) (fun (x_ : Nat × (List (List Int))) => [(1, (intA r1)), (2, (intA col2)), (3, (.b 0 0)), (7, (.m [1] 0 x_.2.length (tSl tInt).k)), (8, (sl (tSl tInt) r_1)), (9, (intA (x_.1 : Int)))]) (fun (x_ : Nat × (List (List Int))) => [.box [(sl tRelation d0.relations), (sl tFact d0.facts)], .row (flat (tSl tInt).own x_.2)]) _ (0, ([] : (List (List Int)))) (wp 2 (lb rfl) rfl rfl rfl rfl rfl) ⟨rfl, L4_⟩ ?_
  rintro _ ⟨i_3, out7⟩ ⟨rfl, L4_⟩
  refine te [(1, (intA r1)), (2, (intA col2)), (3, (.b 0 0)), (7, (.m [1] 0 out7.length (tSl tInt).k)), (8, (sl (tSl tInt) r_1)), (9, (intA (i_3 : Int)))] rfl ?_
  refine T_st (σ' := [.box [(sl tRelation d0.relations), (sl tFact d0.facts)], .row (flat (tSl tInt).own out7)]) rfl ?_
  refine T_fact (len_sl (T := (tSl tInt)) (.tmp 8) rfl) (fun hl4 => ?_)
  refine T_seq ?_
  refine sr ?_
  refine Tp rfl rfl (pur_move rfl) rfl ?_
  refine Tp rfl rfl (pur_move rfl) rfl ?_
  refine Tp rfl rfl (pur_lenT (T := (tSl tInt)) sl22 rfl rfl) rfl ?_
  refine Tp rfl rfl (pur_lss rfl rfl rfl) rfl ?_
  refine TO_nil ?_
  refine te [(1, (intA r1)), (2, (intA col2)), (3, (.b 0 0)), (7, (.m [1] 0 out7.length (tSl tInt).k)), (8, (sl (tSl tInt) r_1)), (9, (intA (i_3 : Int))), (18, (boolA (decide ((i_3 : Int) < (r_1.length : Int)))))] rfl ?_
  refine T_cond (t := decide ((i_3 : Int) < (r_1.length : Int))) rfl (fun d4 => ?_) (fun d4 => ?_)
  ·replace d4 := of_decide_eq_true d4
   obtain ⟨x_i_3, hx_i_3⟩ : ∃ v, (r_1)[i_3]? = some v := ⟨_, List.getElem?_eq_getElem (by omega)⟩
   obtain ⟨C4_, H, K4_⟩ := forS_step L4_ hx_i_3
   rw [hb4] at H
   refine T_skip ?_
   refine te [(1, (intA r1)), (2, (intA col2)), (3, (.b 0 0)), (7, (.m [1] 0 out7.length (tSl tInt).k)), (8, (sl (tSl tInt) r_1)), (9, (intA (i_3 : Int)))] rfl ?_
   refine T_seq ?_
   refine T_block ?_
   refine T_seq ?_
   refine T_seq ?_
   refine T_regionD mixed (by kernel_rfl) ?_
   refine TQ_pure rfl (pur_fa_b fld32_1 rfl rfl) rfl ?_
   refine TQ_pure rfl (pur_ld_b one30 rfl rfl rfl rfl) rfl ?_
   refine TQ_pure rfl (pur_move rfl) rfl ?_
   refine TQ_pure rfl (pur_move rfl) rfl ?_
   refine TQ_pure rfl (pur_ixT (T := (tSl tInt)) sl22 rfl rfl rfl hx_i_3 rfl) rfl ?_
   refine TQ_pure rfl (pur_ldT (T := (tSl tInt)) (i := i_3) (off := 0) rfl one33 rfl rfl hx_i_3 rfl) rfl ?_
   obtain ⟨v_5, h_6, H⟩ := bind_inv H
   obtain ⟨n_7, hz_8, hv_9⟩ := getI_inv h_6
   refine TQ_pure rfl (pur_ixT (T := tInt) sl33 rfl rfl hz_8 hv_9 rfl) rfl ?_
   refine TQ_pure rfl (pur_ldT (T := tInt) (i := n_7) (off := 0) rfl one3 rfl rfl hv_9 rfl) rfl ?_
   refine tqe [(1, (intA r1)), (2, (intA col2)), (3, (.b 0 0)), (7, (.m [1] 0 out7.length (tSl tInt).k)), (8, (sl (tSl tInt) r_1)), (9, (intA (i_3 : Int))), (22, (sl tFact d0.facts)), (28, (intA v_5))] rfl ?_
   obtain ⟨v_10, h_11, H⟩ := bind_inv H
   obtain ⟨n_12, hz_13, hv_14⟩ := getI_inv h_11
   refine TQ_pure rfl (pur_ixT (T := tFact) sl30 rfl rfl hz_13 hv_14 rfl) rfl ?_
   refine TQ_pure rfl (pur_fa_q fld60_0 rfl rfl) rfl ?_
   refine TQ_pure rfl (pur_ldT (T := tFact) (i := n_12) (off := 0) rfl one3 rfl rfl hv_14 rfl) rfl ?_
   refine TQ_pure rfl (pur_move rfl) rfl ?_
   refine TQ_pure rfl (pur_neq rfl rfl rfl) rfl ?_
   refine TQ_nil ?_
   refine te [(1, (intA r1)), (2, (intA col2)), (3, (.b 0 0)), (7, (.m [1] 0 out7.length (tSl tInt).k)), (8, (sl (tSl tInt) r_1)), (9, (intA (i_3 : Int))), (33, (boolA (decide (v_10.relation ≠ r1))))] rfl ?_
   refine T_cond (t := decide (v_10.relation ≠ r1)) rfl (fun c_15 => ?_) (fun c_15 => ?_)
   ·replace H := cond_t c_15 H
    refine T_exit ?_
    refine then_exit ?_
    refine block_exit ?_
    refine te [(1, (intA r1)), (2, (intA col2)), (3, (.b 0 0)), (7, (.m [1] 0 out7.length (tSl tInt).k)), (8, (sl (tSl tInt) r_1)), (9, (intA (i_3 : Int)))] rfl ?_
    refine T_region ?_
    refine Tp rfl rfl (pur_move rfl) rfl ?_
    refine Tp rfl rfl (pur_add rfl rfl rfl (fits64 (by omega) (by omega))) rfl ?_
    refine Tp rfl rfl (pur_assign rfl) rfl ?_
    refine TO_nil ?_
    obtain rfl := some_inj H
    exact again (r_1.length - (i_3 + 1)) (i_3 + 1, out7) (by omega) (wp 2 (lb rfl) rfl rfl rfl rfl rfl) ⟨rfl, K4_⟩
   ·replace H := cond_f c_15 H
    refine T_skip ?_
    refine te [(1, (intA r1)), (2, (intA col2)), (3, (.b 0 0)), (7, (.m [1] 0 out7.length (tSl tInt).k)), (8, (sl (tSl tInt) r_1)), (9, (intA (i_3 : Int)))] rfl ?_
    refine sr ?_
    refine TO_cons rfl (TOp_lit (nn := 0) (k := 1) sl33 zero3 rfl rfl rfl rfl (by decide) ?_)
    refine TO_st (σ' := [.box [(sl tRelation d0.relations), (sl tFact d0.facts)], .row (flat (tSl tInt).own out7), .row (flat tInt.enc ([] : (List Int)))]) rfl ?_
    refine Tp rfl rfl (pur_assign rfl) rfl ?_
    refine TO_nil ?_
    refine te [(1, (intA r1)), (2, (intA col2)), (3, (.b 0 0)), (7, (.m [1] 0 out7.length (tSl tInt).k)), (8, (sl (tSl tInt) r_1)), (9, (intA (i_3 : Int))), (10, (.m [2] 0 ([] : (List Int)).length tInt.k))] rfl ?_
    refine T_seq ?_
    refine sr ?_
    refine Tp rfl rfl (pur_assign rfl) rfl ?_
    refine TO_nil ?_
    refine te [(1, (intA r1)), (2, (intA col2)), (3, (.b 0 0)), (7, (.m [1] 0 out7.length (tSl tInt).k)), (8, (sl (tSl tInt) r_1)), (9, (intA (i_3 : Int))), (10, (.m [2] 0 ([] : (List Int)).length tInt.k)), (11, (intA 0))] rfl ?_
    obtain ⟨O16_, L16_, N16_⟩ := bind_inv H
    clear H
    obtain ⟨B16_, hb16, L16_⟩ := gen_whileF L16_
    refine T_block ?_
    refine T_loopX (fun k => fun (x_ : (List Int) × Int) => whileF B16_ k (x_.1, x_.2) = some O16_) (fun (x_ : (List Int) × Int) => [(1, (intA r1)), (2, (intA col2)), (3, (.b 0 0)), (7, (.m [1] 0 out7.length (tSl tInt).k)), (8, (sl (tSl tInt) r_1)), (9, (intA (i_3 : Int))), (10, (.m [2] 0 x_.1.length tInt.k)), (11, (intA x_.2))]) (fun (x_ : (List Int) × Int) => [.box [(sl tRelation d0.relations), (sl tFact d0.facts)], .row (flat (tSl tInt).own out7), .row (flat tInt.enc x_.1)]) u (([] : (List Int)), 0) (wp 3 (lb rfl) rfl rfl rfl rfl rfl) L16_ ?_
    rintro _ ⟨l10, k11⟩ L16_
    obtain ⟨k16, rfl, C16_, H, K16_⟩ := while_step L16_
    rw [hb16] at H
    refine te [(1, (intA r1)), (2, (intA col2)), (3, (.b 0 0)), (7, (.m [1] 0 out7.length (tSl tInt).k)), (8, (sl (tSl tInt) r_1)), (9, (intA (i_3 : Int))), (10, (.m [2] 0 l10.length tInt.k)), (11, (intA k11))] rfl ?_
    refine T_st (σ' := [.box [(sl tRelation d0.relations), (sl tFact d0.facts)], .row (flat (tSl tInt).own out7), .row (flat tInt.enc l10)]) rfl ?_
    refine T_seq ?_
    refine sr ?_
    refine Tp rfl rfl (pur_move rfl) rfl ?_
    refine Tp rfl rfl (pur_move rfl) rfl ?_
    refine Tp rfl rfl (pur_move rfl) rfl ?_
    refine Tp rfl rfl (pur_ixT (T := (tSl tInt)) sl22 rfl rfl rfl hx_i_3 rfl) rfl ?_
    refine Tp rfl rfl (pur_ldT (T := (tSl tInt)) (i := i_3) (off := 0) rfl one33 rfl rfl hx_i_3 rfl) rfl ?_
    refine Tp rfl rfl (pur_lenT (T := tInt) sl33 rfl rfl) rfl ?_
    refine Tp rfl rfl (pur_lss rfl rfl rfl) rfl ?_
    refine TO_nil ?_
    refine te [(1, (intA r1)), (2, (intA col2)), (3, (.b 0 0)), (7, (.m [1] 0 out7.length (tSl tInt).k)), (8, (sl (tSl tInt) r_1)), (9, (intA (i_3 : Int))), (10, (.m [2] 0 l10.length tInt.k)), (11, (intA k11)), (41, (boolA (decide (k11 < (x_i_3.length : Int)))))] rfl ?_
    refine T_cond (t := decide (k11 < (x_i_3.length : Int))) rfl (fun c_17 => ?_) (fun c_17 => ?_)
    ·replace H := cond_t c_17 H
     refine T_skip ?_
     refine te [(1, (intA r1)), (2, (intA col2)), (3, (.b 0 0)), (7, (.m [1] 0 out7.length (tSl tInt).k)), (8, (sl (tSl tInt) r_1)), (9, (intA (i_3 : Int))), (10, (.m [2] 0 l10.length tInt.k)), (11, (intA k11))] rfl ?_
     refine T_seq ?_
     refine T_block ?_
     obtain ⟨v_18, h_19, H⟩ := bind_inv H
     obtain ⟨n_20, hz_21, hv_22⟩ := getI_inv h_19
     obtain ⟨v_23, h_24, H⟩ := bind_inv H
     obtain ⟨n_25, hz_26, hv_27⟩ := getI_inv h_24
     obtain ⟨v_28, h_29, H⟩ := bind_inv H
     obtain ⟨n_30, hz_31, hv_32⟩ := getI_inv h_29
     obtain ⟨us_33, h_34, H⟩ := bind_inv H
     refine T_pad ?_
     refine T_regionP mixed ?_
     refine TA_have 8 #[true, true, true, true, true, true, true, true, true, true, false, false, false, true, false, false, false, false, false] [(1, (intA r1)), (2, (intA col2)), (3, (.b 0 0)), (7, (.m [1] 0 out7.length (tSl tInt).k)), (8, (sl (tSl tInt) r_1)), (9, (intA (i_3 : Int))), (10, (.m [2] 0 l10.length tInt.k)), (11, (intA k11)), (44, (.m [2] 0 l10.length tInt.k)), (46, (sl tFact d0.facts)), (53, (intA v_18)), (57, (intA col2))] [.box [(sl tRelation d0.relations), (sl tFact d0.facts)], .row (flat (tSl tInt).own out7), .row (flat tInt.enc l10), .dead] ?_ (fun hj0_11 => ?_)
     ·skip
      refine tf 10 rfl (purI_ixT (T := tFact) sl30 rfl rfl hz_26 hv_27 rfl) rfl rfl (by kernel_rfl) ?_
      refine tf 11 rfl (purI_fa_q fld60_1 rfl rfl) rfl rfl (by kernel_rfl) ?_
      refine t1 12 (by kernel_rfl) rfl rfl (TOp_pure (pur_ldT (T := tFact) (i := n_25) (off := 1) rfl one33 rfl rfl hv_27 rfl) rfl ?_)
      refine tf 14 rfl (purI_ixT (T := tInt) sl33 rfl rfl hz_31 hv_32 rfl) rfl rfl (by kernel_rfl) ?_
      refine t1 15 (by kernel_rfl) rfl rfl (TOp_pure (pur_ldT (T := tInt) (i := n_30) (off := 0) rfl one3 rfl rfl hv_32 rfl) rfl ?_)
      refine t1 16 (by kernel_rfl) rfl rfl (TOp_lit (nn := 1) (k := 1) sl33 zero3 rfl rfl rfl rfl (by decide) ?_)
      refine tmv 3 4 (by decide) (lb rfl) rfl rfl (lb rfl) ?_
      refine t1 17 (by kernel_rfl) rfl rfl (TOp_appY (T := tInt) (f := tInt.enc) (xs := l10) (ys := ([v_28] : (List Int))) tInt.len sl33 zero3 rfl bytes3 (by decide) rfl rfl rfl rfl (src_mT (f := tInt.enc) tInt.len rfl rfl (flat_cell tInt _)) (flat_cell tInt _) h_34 ?_)
      refine tmv 2 5 (by decide) (lb rfl) rfl rfl (lb rfl) ?_
      refine tf 18 rfl (purI_assign rfl) rfl rfl (by kernel_rfl) ?_
      refine tae [(1, (intA r1)), (2, (intA col2)), (3, (.b 0 0)), (7, (.m [1] 0 out7.length (tSl tInt).k)), (8, (sl (tSl tInt) r_1)), (9, (intA (i_3 : Int))), (10, (.m [2] 0 us_33.length tInt.k)), (11, (intA k11))] rfl ?_
      refine TA_nil (by kernel_rfl) ?_
      refine te [(1, (intA r1)), (2, (intA col2)), (3, (.b 0 0)), (7, (.m [1] 0 out7.length (tSl tInt).k)), (8, (sl (tSl tInt) r_1)), (9, (intA (i_3 : Int))), (10, (.m [2] 0 us_33.length tInt.k)), (11, (intA k11))] rfl ?_
      refine T_region ?_
      refine Tp rfl rfl (pur_move rfl) rfl ?_
      refine Tp rfl rfl (pur_wadd rfl rfl rfl) rfl ?_
      refine Tp rfl rfl (pur_assign rfl) rfl ?_
      refine TO_nil ?_
      obtain rfl := some_inj H
      exact again k16 (us_33, (w64 (k11 + 1))) (Nat.lt_succ_self _) (wp 3 (lb rfl) rfl rfl rfl rfl rfl) K16_
     refine TA_have 9 #[true, true, true, true, true, true, true, true, true, false, false, false, false, true, false, false, false, false, false] [(1, (intA r1)), (2, (intA col2)), (3, (.b 0 0)), (7, (.m [1] 0 out7.length (tSl tInt).k)), (8, (sl (tSl tInt) r_1)), (9, (intA (i_3 : Int))), (10, (.m [2] 0 l10.length tInt.k)), (11, (intA k11)), (44, (.m [2] 0 l10.length tInt.k)), (46, (sl tFact d0.facts)), (52, (.q (flat tInt.enc x_i_3) (n_20 * tInt.k))), (57, (intA col2))] [.box [(sl tRelation d0.relations), (sl tFact d0.facts)], .row (flat (tSl tInt).own out7), .row (flat tInt.enc l10), .dead] ?_ (fun hj1_11 => ?_)
     ·skip
      refine t1 9 (by kernel_rfl) rfl rfl (TOp_pure (pur_ldT (T := tInt) (i := n_20) (off := 0) rfl one3 rfl rfl hv_22 rfl) rfl ?_)
      exact tj hj0_11 rfl (wp 4 (lb rfl) rfl rfl rfl rfl rfl)
     refine tf 0 rfl (purI_move rfl) rfl rfl (by kernel_rfl) ?_
     refine tf 1 rfl (purI_fa_b fld32_1 rfl rfl) rfl rfl (by kernel_rfl) ?_
     refine tf 3 rfl (purI_move rfl) rfl rfl (by kernel_rfl) ?_
     refine tf 4 rfl (purI_move rfl) rfl rfl (by kernel_rfl) ?_
     refine tf 5 rfl (purI_ixT (T := (tSl tInt)) sl22 rfl rfl rfl hx_i_3 rfl) rfl rfl (by kernel_rfl) ?_
     refine tf 7 rfl (purI_move rfl) rfl rfl (by kernel_rfl) ?_
     refine tae [(1, (intA r1)), (2, (intA col2)), (3, (.b 0 0)), (7, (.m [1] 0 out7.length (tSl tInt).k)), (8, (sl (tSl tInt) r_1)), (9, (intA (i_3 : Int))), (10, (.m [2] 0 l10.length tInt.k)), (11, (intA k11)), (44, (.m [2] 0 l10.length tInt.k)), (45, (.b 0 1)), (49, (.q (flat (tSl tInt).enc r_1) (i_3 * (tSl tInt).k))), (51, (intA k11))] rfl ?_
     refine tf 13 rfl (purI_move rfl) rfl rfl (by kernel_rfl) ?_
     refine TA_all [2, 6] (by kernel_rfl) (by decide) ⟨?_, ?_, trivial⟩
     ·skip
      refine ⟨_, rfl, rfl, (TOp_pure (pur_ld_b one30 rfl rfl rfl rfl) rfl ?_)⟩
      refine t1 6 (by kernel_rfl) rfl rfl (TOp_pure (pur_ldT (T := (tSl tInt)) (i := i_3) (off := 0) rfl one33 rfl rfl hx_i_3 rfl) rfl ?_)
      refine tf 8 rfl (purI_ixT (T := tInt) sl33 rfl rfl hz_21 hv_22 rfl) rfl rfl (by kernel_rfl) ?_
      exact tj hj1_11 rfl (wp 4 (lb rfl) rfl rfl rfl rfl rfl)
     ·skip
      refine ⟨_, rfl, rfl, (TOp_pure (pur_ldT (T := (tSl tInt)) (i := i_3) (off := 0) rfl one33 rfl rfl hx_i_3 rfl) rfl ?_)⟩
      refine tf 8 rfl (purI_ixT (T := tInt) sl33 rfl rfl hz_21 hv_22 rfl) rfl rfl (by kernel_rfl) ?_
      refine TA_all [2, 9] (by kernel_rfl) (by decide) ⟨?_, ?_, trivial⟩
      ·skip
       refine ⟨_, rfl, rfl, (TOp_pure (pur_ld_b one30 rfl rfl rfl rfl) rfl ?_)⟩
       exact tj hj1_11 rfl (wp 4 (lb rfl) rfl rfl rfl rfl rfl)
      ·skip
       refine ⟨_, rfl, rfl, (TOp_pure (pur_ldT (T := tInt) (i := n_20) (off := 0) rfl one3 rfl rfl hv_22 rfl) rfl ?_)⟩
       refine t1 2 (by kernel_rfl) rfl rfl (TOp_pure (pur_ld_b one30 rfl rfl rfl rfl) rfl ?_)
       exact tj hj0_11 rfl (wp 4 (lb rfl) rfl rfl rfl rfl rfl)
    ·replace H := cond_f c_17 H
     refine T_exit ?_
     refine then_exit ?_
     refine then_exit ?_
     refine block_exit ?_
     obtain rfl := some_inj H
     obtain rfl := some_inj K16_
     replace H := onS_l N16_
     refine te [(1, (intA r1)), (2, (intA col2)), (3, (.b 0 0)), (7, (.m [1] 0 out7.length (tSl tInt).k)), (8, (sl (tSl tInt) r_1)), (9, (intA (i_3 : Int))), (10, (.m [2] 0 l10.length tInt.k))] rfl ?_
     refine T_region ?_
     refine Tp rfl rfl (pur_move rfl) rfl ?_
     refine Tp rfl rfl (pur_move rfl) rfl ?_
     refine TO_cons rfl (TOp_litB (nn := 1) (k := 1) sl22 zero33 rfl rfl rfl rfl (by decide) ?_)
     refine TO_st (σ' := [.box [(sl tRelation d0.relations), (sl tFact d0.facts)], .row (flat (tSl tInt).own out7), .row (flat tInt.enc l10), .box [(.m [2] 0 l10.length tInt.k)]]) rfl ?_
     refine TO_boxify 1 rfl (lb rfl) ?_
     obtain ⟨us_35, h_36, H⟩ := bind_inv H
     refine TO_cons rfl (TOp_appB (T := (tSl tInt)) (xs := out7) (v := l10) sl22 zero33 rfl bytes33 (by decide) rfl rfl rfl rfl rfl rfl rfl rfl h_36 (lb rfl) ?_)
     refine toe [(1, (intA r1)), (2, (intA col2)), (3, (.b 0 0)), (8, (sl (tSl tInt) r_1)), (9, (intA (i_3 : Int))), (65, .m [4] 0 (out7.length + 1) (tSl tInt).k)] rfl ?_
     refine TO_st (σ' := [.box [(sl tRelation d0.relations), (sl tFact d0.facts)], .dead, .row (flat tInt.enc l10), .box [(.m [2] 0 l10.length tInt.k)], .box (flat (tSl tInt).own out7 ++ [(.m [2] 0 l10.length tInt.k)])]) rfl ?_
     refine TO_absorbA (pr := flat (tSl tInt).own out7) 4 0 2 rfl rfl rfl (by decide) tInt.pos (flat_len tInt.len _) (lb rfl) (lb rfl) rfl (nms_box rfl (nms_dead (nms_row (nms_box rfl (nms_box (namesA namesL_own rfl) nms_nil))))) ?_
     refine TO_st (σ' := [.box [(sl tRelation d0.relations), (sl tFact d0.facts)], .dead, .dead, .box [(.m [2] 0 l10.length tInt.k)], .box (flat (tSl tInt).own out7 ++ [.o tInt.k (flat tInt.enc l10)])]) rfl ?_
     refine TO_rowifyT (T := (tSl tInt)) (xs := out7) (v := l10) 4 rfl rfl h_36 (lb rfl) ?_
     refine TO_st (σ' := [.box [(sl tRelation d0.relations), (sl tFact d0.facts)], .dead, .dead, .box [(.m [2] 0 l10.length tInt.k)], .row (flat (tSl tInt).own us_35)]) rfl ?_
     refine TO_move 1 4 (by decide) (lb rfl) rfl rfl (lb rfl) ?_
     refine TO_env (E' := [(1, (intA r1)), (2, (intA col2)), (3, (.b 0 0)), (8, (sl (tSl tInt) r_1)), (9, (intA (i_3 : Int))), (65, (.m [1] 0 us_35.length (tSl tInt).k))]) ⟨rfl, rfl, rfl, rfl, rfl, (congrArg (fun q => A.m [1] 0 q (tSl tInt).k) (app_len h_36)), trivial⟩ ?_
     refine TO_kill 3 (lb rfl) ?_
     refine TO_st (σ' := [.box [(sl tRelation d0.relations), (sl tFact d0.facts)], .row (flat (tSl tInt).own us_35), .dead, .dead, .dead]) rfl ?_
     refine Tp rfl rfl (pur_assign rfl) rfl ?_
     refine TO_nil ?_
     refine te [(1, (intA r1)), (2, (intA col2)), (3, (.b 0 0)), (7, (.m [1] 0 us_35.length (tSl tInt).k)), (8, (sl (tSl tInt) r_1)), (9, (intA (i_3 : Int)))] rfl ?_
     refine T_region ?_
     refine Tp rfl rfl (pur_move rfl) rfl ?_
     refine Tp rfl rfl (pur_add rfl rfl rfl (fits64 (by omega) (by omega))) rfl ?_
     refine Tp rfl rfl (pur_assign rfl) rfl ?_
     refine TO_nil ?_
     obtain rfl := some_inj H
     exact again (r_1.length - (i_3 + 1)) (i_3 + 1, us_35) (by omega) (wp 2 (lb rfl) rfl rfl rfl rfl rfl) ⟨rfl, K4_⟩
  ·replace d4 := of_decide_eq_false d4
   obtain rfl := forS_end L4_ (by omega)
   refine T_exit ?_
   refine then_exit ?_
   refine then_exit ?_
   refine block_exit ?_
   replace H := N4_
   refine te [(7, (.m [1] 0 out7.length (tSl tInt).k))] rfl ?_
   refine sr ?_
   refine Tp rfl rfl (pur_move rfl) rfl ?_
   refine Tp rfl rfl (pur_assign rfl) rfl ?_
   refine TO_nil ?_
   refine te [(6, (.m [1] 0 out7.length (tSl tInt).k))] rfl ?_
   refine T_ret ?_
   obtain rfl := some_inj H
   exact end_pick (.tmp .nil) rfl [1] (by decide) rfl rfl rfl rfl rfl rfl
theorem m_spec_l27Vals_ok (u : Nat) (d0 : Database) (r1 : Int) (col2 : Int) (r : (List (List Int))) (H : m_spec_l27Vals u d0 r1 col2 = some r) : FnV prg 68 [(.g (tDatabase.enc d0)), (intA r1), (intA col2)] (sl (tSl tInt) r) := (m_spec_l27Vals_own u d0 r1 col2 r H).frz (frzT (T := (tSl tInt)) rfl)

set_option maxHeartbeats 1000000 in
/-- spec.l27Least -/
theorem m_spec_l27Least_ok (l0 : (List Int)) (r : Int) (H : m_spec_l27Least l0 = some r) : FnV prg 69 [(sl tInt l0)] (intA r) := by
  unfold m_spec_l27Least at H
  refine fnV_of_T Try.func69 rfl rfl (Nat.le_of_ble_eq_true rfl) ?_
  refine te [(0, (sl tInt l0))] rfl ?_
  refine sr ?_
  refine Tp rfl rfl (pur_assign rfl) rfl ?_
  refine TO_nil ?_
  refine te [(0, (sl tInt l0))] rfl ?_
  refine sr ?_
  refine Tp rfl rfl (pur_move rfl) rfl ?_
  obtain ⟨v_1, h_2, H⟩ := bind_inv H
  obtain ⟨n_3, hz_4, hv_5⟩ := getI_inv h_2
  refine Tp rfl rfl (pur_ixT (T := tInt) sl33 rfl rfl hz_4 hv_5 rfl) rfl ?_
  refine Tp rfl rfl (pur_ldT (T := tInt) (i := n_3) (off := 0) rfl one3 rfl rfl hv_5 rfl) rfl ?_
  refine Tp rfl rfl (pur_assign rfl) rfl ?_
  refine TO_nil ?_
  refine te [(0, (sl tInt l0)), (3, (intA v_1))] rfl ?_
  refine T_seq ?_
  refine sr ?_
  refine Tp rfl rfl (pur_assign rfl) rfl ?_
  refine TO_nil ?_
  refine te [(0, (sl tInt l0)), (3, (intA v_1)), (4, (intA 1))] rfl ?_
  obtain ⟨O7_, L7_, N7_⟩ := bind_inv H
  clear H
  obtain ⟨B7_, hb7, L7_⟩ := gen_forS L7_
  refine T_block ?_
  refine T_loopX (fun k => fun (x_ : Nat × Int) => k = l0.length - x_.1 ∧ forS B7_ (l0.drop x_.1) (x_.1 : Int) x_.2 = some O7_) (fun (x_ : Nat × Int) => [(0, (sl tInt l0)), (3, (intA x_.2)), (4, (intA (x_.1 : Int)))]) (fun (x_ : Nat × Int) => []) _ (1, v_1) (wp 0 (lb rfl) rfl rfl rfl rfl rfl) ⟨rfl, L7_⟩ ?_
  rintro _ ⟨i_6, n3⟩ ⟨rfl, L7_⟩
  refine te [(0, (sl tInt l0)), (3, (intA n3)), (4, (intA (i_6 : Int)))] rfl ?_
  refine T_st (σ' := []) rfl ?_
  refine T_fact (len_sl (T := tInt) (.tmp 0) rfl) (fun hl7 => ?_)
  refine T_seq ?_
  refine sr ?_
  refine Tp rfl rfl (pur_move rfl) rfl ?_
  refine Tp rfl rfl (pur_move rfl) rfl ?_
  refine Tp rfl rfl (pur_lenT (T := tInt) sl33 rfl rfl) rfl ?_
  refine Tp rfl rfl (pur_lss rfl rfl rfl) rfl ?_
  refine TO_nil ?_
  refine te [(0, (sl tInt l0)), (3, (intA n3)), (4, (intA (i_6 : Int))), (11, (boolA (decide ((i_6 : Int) < (l0.length : Int)))))] rfl ?_
  refine T_cond (t := decide ((i_6 : Int) < (l0.length : Int))) rfl (fun d7 => ?_) (fun d7 => ?_)
  ·replace d7 := of_decide_eq_true d7
   obtain ⟨x_i_6, hx_i_6⟩ : ∃ v, (l0)[i_6]? = some v := ⟨_, List.getElem?_eq_getElem (by omega)⟩
   obtain ⟨C7_, H, K7_⟩ := forS_step L7_ hx_i_6
   rw [hb7] at H
   refine T_skip ?_
   refine te [(0, (sl tInt l0)), (3, (intA n3)), (4, (intA (i_6 : Int)))] rfl ?_
   refine T_seq ?_
   refine T_block ?_
   refine T_region ?_
   refine Tp rfl rfl (pur_move rfl) rfl ?_
   refine Tp rfl rfl (pur_move rfl) rfl ?_
   refine Tp rfl rfl (pur_move rfl) rfl ?_
   refine Tp rfl rfl (pur_ixT (T := tInt) sl33 rfl rfl rfl hx_i_6 rfl) rfl ?_
   refine Tp rfl rfl (pur_ldT (T := tInt) (i := i_6) (off := 0) rfl one3 rfl rfl hx_i_6 rfl) rfl ?_
   refine Tp rfl rfl (pur_min rfl rfl rfl) rfl ?_
   refine Tp rfl rfl (pur_assign rfl) rfl ?_
   refine TO_nil ?_
   refine te [(0, (sl tInt l0)), (3, (intA (if x_i_6 < n3 then x_i_6 else n3))), (4, (intA (i_6 : Int)))] rfl ?_
   refine T_region ?_
   refine Tp rfl rfl (pur_move rfl) rfl ?_
   refine Tp rfl rfl (pur_add rfl rfl rfl (fits64 (by omega) (by omega))) rfl ?_
   refine Tp rfl rfl (pur_assign rfl) rfl ?_
   refine TO_nil ?_
   obtain rfl := some_inj H
   exact again (l0.length - (i_6 + 1)) (i_6 + 1, (if x_i_6 < n3 then x_i_6 else n3)) (by omega) (wp 0 (lb rfl) rfl rfl rfl rfl rfl) ⟨rfl, K7_⟩
  ·replace d7 := of_decide_eq_false d7
   obtain rfl := forS_end L7_ (by omega)
   refine T_exit ?_
   refine then_exit ?_
   refine then_exit ?_
   refine block_exit ?_
   replace H := N7_
   refine te [(3, (intA n3))] rfl ?_
   refine sr ?_
   refine Tp rfl rfl (pur_move rfl) rfl ?_
   refine Tp rfl rfl (pur_assign rfl) rfl ?_
   refine TO_nil ?_
   refine te [(2, (intA n3))] rfl ?_
   refine T_ret ?_
   obtain rfl := some_inj H
   refine end_ret (.tmp .nil) rfl rfl ⟨?_, rfl⟩
   rfl

set_option maxHeartbeats 1000000 in
/-- spec.l27Most -/
theorem m_spec_l27Most_ok (l0 : (List Int)) (r : Int) (H : m_spec_l27Most l0 = some r) : FnV prg 70 [(sl tInt l0)] (intA r) := by
  unfold m_spec_l27Most at H
  refine fnV_of_T Try.func70 rfl rfl (Nat.le_of_ble_eq_true rfl) ?_
  refine te [(0, (sl tInt l0))] rfl ?_
  refine sr ?_
  refine Tp rfl rfl (pur_assign rfl) rfl ?_
  refine TO_nil ?_
  refine te [(0, (sl tInt l0))] rfl ?_
  refine sr ?_
  refine Tp rfl rfl (pur_move rfl) rfl ?_
  obtain ⟨v_1, h_2, H⟩ := bind_inv H
  obtain ⟨n_3, hz_4, hv_5⟩ := getI_inv h_2
  refine Tp rfl rfl (pur_ixT (T := tInt) sl33 rfl rfl hz_4 hv_5 rfl) rfl ?_
  refine Tp rfl rfl (pur_ldT (T := tInt) (i := n_3) (off := 0) rfl one3 rfl rfl hv_5 rfl) rfl ?_
  refine Tp rfl rfl (pur_assign rfl) rfl ?_
  refine TO_nil ?_
  refine te [(0, (sl tInt l0)), (3, (intA v_1))] rfl ?_
  refine T_seq ?_
  refine sr ?_
  refine Tp rfl rfl (pur_assign rfl) rfl ?_
  refine TO_nil ?_
  refine te [(0, (sl tInt l0)), (3, (intA v_1)), (4, (intA 1))] rfl ?_
  obtain ⟨O7_, L7_, N7_⟩ := bind_inv H
  clear H
  obtain ⟨B7_, hb7, L7_⟩ := gen_forS L7_
  refine T_block ?_
  refine T_loopX (fun k => fun (x_ : Nat × Int) => k = l0.length - x_.1 ∧ forS B7_ (l0.drop x_.1) (x_.1 : Int) x_.2 = some O7_) (fun (x_ : Nat × Int) => [(0, (sl tInt l0)), (3, (intA x_.2)), (4, (intA (x_.1 : Int)))]) (fun (x_ : Nat × Int) => []) _ (1, v_1) (wp 0 (lb rfl) rfl rfl rfl rfl rfl) ⟨rfl, L7_⟩ ?_
  rintro _ ⟨i_6, n3⟩ ⟨rfl, L7_⟩
  refine te [(0, (sl tInt l0)), (3, (intA n3)), (4, (intA (i_6 : Int)))] rfl ?_
  refine T_st (σ' := []) rfl ?_
  refine T_fact (len_sl (T := tInt) (.tmp 0) rfl) (fun hl7 => ?_)
  refine T_seq ?_
  refine sr ?_
  refine Tp rfl rfl (pur_move rfl) rfl ?_
  refine Tp rfl rfl (pur_move rfl) rfl ?_
  refine Tp rfl rfl (pur_lenT (T := tInt) sl33 rfl rfl) rfl ?_
  refine Tp rfl rfl (pur_lss rfl rfl rfl) rfl ?_
  refine TO_nil ?_
  refine te [(0, (sl tInt l0)), (3, (intA n3)), (4, (intA (i_6 : Int))), (11, (boolA (decide ((i_6 : Int) < (l0.length : Int)))))] rfl ?_
  refine T_cond (t := decide ((i_6 : Int) < (l0.length : Int))) rfl (fun d7 => ?_) (fun d7 => ?_)
  ·replace d7 := of_decide_eq_true d7
   obtain ⟨x_i_6, hx_i_6⟩ : ∃ v, (l0)[i_6]? = some v := ⟨_, List.getElem?_eq_getElem (by omega)⟩
   obtain ⟨C7_, H, K7_⟩ := forS_step L7_ hx_i_6
   rw [hb7] at H
   refine T_skip ?_
   refine te [(0, (sl tInt l0)), (3, (intA n3)), (4, (intA (i_6 : Int)))] rfl ?_
   refine T_seq ?_
   refine T_block ?_
   refine T_region ?_
   refine Tp rfl rfl (pur_move rfl) rfl ?_
   refine Tp rfl rfl (pur_move rfl) rfl ?_
   refine Tp rfl rfl (pur_move rfl) rfl ?_
   refine Tp rfl rfl (pur_ixT (T := tInt) sl33 rfl rfl rfl hx_i_6 rfl) rfl ?_
   refine Tp rfl rfl (pur_ldT (T := tInt) (i := i_6) (off := 0) rfl one3 rfl rfl hx_i_6 rfl) rfl ?_
   refine Tp rfl rfl (pur_max rfl rfl rfl) rfl ?_
   refine Tp rfl rfl (pur_assign rfl) rfl ?_
   refine TO_nil ?_
   refine te [(0, (sl tInt l0)), (3, (intA (if n3 < x_i_6 then x_i_6 else n3))), (4, (intA (i_6 : Int)))] rfl ?_
   refine T_region ?_
   refine Tp rfl rfl (pur_move rfl) rfl ?_
   refine Tp rfl rfl (pur_add rfl rfl rfl (fits64 (by omega) (by omega))) rfl ?_
   refine Tp rfl rfl (pur_assign rfl) rfl ?_
   refine TO_nil ?_
   obtain rfl := some_inj H
   exact again (l0.length - (i_6 + 1)) (i_6 + 1, (if n3 < x_i_6 then x_i_6 else n3)) (by omega) (wp 0 (lb rfl) rfl rfl rfl rfl rfl) ⟨rfl, K7_⟩
  ·replace d7 := of_decide_eq_false d7
   obtain rfl := forS_end L7_ (by omega)
   refine T_exit ?_
   refine then_exit ?_
   refine then_exit ?_
   refine block_exit ?_
   replace H := N7_
   refine te [(3, (intA n3))] rfl ?_
   refine sr ?_
   refine Tp rfl rfl (pur_move rfl) rfl ?_
   refine Tp rfl rfl (pur_assign rfl) rfl ?_
   refine TO_nil ?_
   refine te [(2, (intA n3))] rfl ?_
   refine T_ret ?_
   obtain rfl := some_inj H
   refine end_ret (.tmp .nil) rfl rfl ⟨?_, rfl⟩
   rfl

set_option maxHeartbeats 1000000 in
/-- spec.MaxRange -/
theorem m_spec_MaxRange_ok (u : Nat) (d0 : Database) (r1 : Int) (col2 : Int) (r : (Int × Int × Bool)) (H : m_spec_MaxRange u d0 r1 col2 = some r) : FnV prg 33 [(.g (tDatabase.enc d0)), (intA r1), (intA col2)] (.t [(intA r.1), (intA r.2.1), (boolA r.2.2)]) := by
  unfold m_spec_MaxRange at H
  refine fnV_of_T Try.func33 rfl rfl (Nat.le_of_ble_eq_true rfl) ?_
  refine te [(0, (.g (tDatabase.enc d0))), (1, (intA r1)), (2, (intA col2))] rfl ?_
  refine sr ?_
  refine TO_cons rfl (TOp_box rfl (boxAll rfl) rfl rfl ?_)
  refine Tp rfl rfl (pur_assign rfl) rfl ?_
  refine Tp rfl rfl (pur_assign rfl) rfl ?_
  refine Tp rfl rfl (pur_assign rfl) rfl ?_
  refine TO_nil ?_
  refine te [(1, (intA r1)), (2, (intA col2)), (3, (.b 0 0))] rfl ?_
  refine sr ?_
  refine TO_cons rfl (TOp_lit (nn := 0) (k := 1) sl22 zero33 rfl rfl rfl rfl (by decide) ?_)
  refine TO_st (σ' := [.box [(sl tRelation d0.relations), (sl tFact d0.facts)], .row (flat (tSl tInt).enc ([] : (List (List Int))))]) rfl ?_
  refine Tp rfl rfl (pur_assign rfl) rfl ?_
  refine TO_nil ?_
  refine te [(1, (intA r1)), (2, (intA col2)), (3, (.b 0 0)), (9, (.m [1] 0 ([] : (List (List Int))).length (tSl tInt).k))] rfl ?_
  refine T_seq ?_
  refine sr ?_
  refine Tp rfl rfl (pur_ldK_b agg32 rfl rfl (lb rfl) rfl) rfl ?_
  refine Tp rfl rfl (pur_move rfl) rfl ?_
  refine Tp rfl rfl (pur_move rfl) rfl ?_
  obtain ⟨r_1, h_2, H⟩ := bind_inv H
  refine TO_cons rfl (TOp_callV (call_static ent59 rfl) (m_spec_l27Ok_ok u _ _ _ _ h_2) rfl rfl rfl ?_)
  refine TO_nil ?_
  refine te [(1, (intA r1)), (2, (intA col2)), (3, (.b 0 0)), (9, (.m [1] 0 ([] : (List (List Int))).length (tSl tInt).k)), (17, (boolA r_1))] rfl ?_
  refine T_cond (t := r_1) rfl (fun c_3 => ?_) (fun c_3 => ?_)
  ·replace H := cond_t c_3 H
   refine T_region ?_
   refine Tp rfl rfl (pur_ldK_b agg32 rfl rfl (lb rfl) rfl) rfl ?_
   refine Tp rfl rfl (pur_move rfl) rfl ?_
   refine Tp rfl rfl (pur_move rfl) rfl ?_
   obtain ⟨r_4, h_5, H⟩ := bind_inv H
   refine TO_cons rfl (TOp_callV (call_static ent68 rfl) (m_spec_l27Vals_ok u _ _ _ _ h_5) rfl rfl rfl ?_)
   refine Tp rfl rfl (pur_assign rfl) rfl ?_
   refine TO_nil ?_
   refine te [(9, (sl (tSl tInt) r_4))] rfl ?_
   refine T_seq ?_
   refine sr ?_
   refine Tp rfl rfl (pur_move rfl) rfl ?_
   refine Tp rfl rfl (pur_lenT (T := (tSl tInt)) sl22 rfl rfl) rfl ?_
   refine Tp rfl rfl (pur_eql rfl rfl rfl) rfl ?_
   refine TO_nil ?_
   refine te [(9, (sl (tSl tInt) r_4)), (24, (boolA (decide ((r_4.length : Int) = 0))))] rfl ?_
   refine T_cond (t := decide ((r_4.length : Int) = 0)) rfl (fun c_6 => ?_) (fun c_6 => ?_)
   ·replace H := cond_t c_6 H
    refine sr ?_
    refine Tp rfl rfl (pur_assign rfl) rfl ?_
    refine Tp rfl rfl (pur_assign rfl) rfl ?_
    refine Tp rfl rfl (pur_assign rfl) rfl ?_
    refine TO_nil ?_
    refine te [(6, (intA 0)), (7, (intA 0)), (8, (boolA false))] rfl ?_
    refine T_ret ?_
    refine then_ret ?_
    obtain rfl := some_inj H
    refine end_ret (.tmp (.tmp (.tmp .nil))) rfl rfl ⟨?_, rfl⟩
    rfl
   ·replace H := cond_f c_6 H
    refine T_skip ?_
    refine te [(9, (sl (tSl tInt) r_4))] rfl ?_
    refine sr ?_
    refine Tp rfl rfl (pur_move rfl) rfl ?_
    obtain ⟨v_7, h_8, H⟩ := bind_inv H
    obtain ⟨n_9, hz_10, hv_11⟩ := getI_inv h_8
    refine Tp rfl rfl (pur_ixT (T := (tSl tInt)) sl22 rfl rfl hz_10 hv_11 rfl) rfl ?_
    refine Tp rfl rfl (pur_ldT (T := (tSl tInt)) (i := n_9) (off := 0) rfl one33 rfl rfl hv_11 rfl) rfl ?_
    obtain ⟨r_12, h_13, H⟩ := bind_inv H
    refine TO_cons rfl (TOp_callV (call_static ent69 rfl) (m_spec_l27Least_ok _ _ h_13) rfl rfl rfl ?_)
    refine Tp rfl rfl (pur_assign rfl) rfl ?_
    refine TO_nil ?_
    refine te [(9, (sl (tSl tInt) r_4)), (10, (intA r_12))] rfl ?_
    refine sr ?_
    refine Tp rfl rfl (pur_move rfl) rfl ?_
    refine Tp rfl rfl (pur_ixT (T := (tSl tInt)) sl22 rfl rfl hz_10 hv_11 rfl) rfl ?_
    refine Tp rfl rfl (pur_ldT (T := (tSl tInt)) (i := n_9) (off := 0) rfl one33 rfl rfl hv_11 rfl) rfl ?_
    obtain ⟨r_14, h_15, H⟩ := bind_inv H
    refine TO_cons rfl (TOp_callV (call_static ent70 rfl) (m_spec_l27Most_ok _ _ h_15) rfl rfl rfl ?_)
    refine Tp rfl rfl (pur_assign rfl) rfl ?_
    refine TO_nil ?_
    refine te [(9, (sl (tSl tInt) r_4)), (10, (intA r_12)), (11, (intA r_14))] rfl ?_
    refine T_seq ?_
    refine sr ?_
    refine Tp rfl rfl (pur_assign rfl) rfl ?_
    refine TO_nil ?_
    refine te [(9, (sl (tSl tInt) r_4)), (10, (intA r_12)), (11, (intA r_14)), (12, (intA 1))] rfl ?_
    obtain ⟨O17_, L17_, N17_⟩ := bind_inv H
    clear H
    obtain ⟨B17_, hb17, L17_⟩ := gen_forS L17_
    refine T_block ?_
    refine T_loopX (fun k => fun (x_ : Nat × Int × Int) => k = r_4.length - x_.1 ∧ forS B17_ (r_4.drop x_.1) (x_.1 : Int) (x_.2.1, x_.2.2) = some O17_) (fun (x_ : Nat × Int × Int) => [(9, (sl (tSl tInt) r_4)), (10, (intA x_.2.1)), (11, (intA x_.2.2)), (12, (intA (x_.1 : Int)))]) (fun (x_ : Nat × Int × Int) => [.box [(sl tRelation d0.relations), (sl tFact d0.facts)], .row (flat (tSl tInt).enc ([] : (List (List Int))))]) _ (1, (r_12, r_14)) (wp 2 (lb rfl) rfl rfl rfl rfl rfl) ⟨rfl, L17_⟩ ?_
    rintro _ ⟨i_16, lo10, hi11⟩ ⟨rfl, L17_⟩
    refine te [(9, (sl (tSl tInt) r_4)), (10, (intA lo10)), (11, (intA hi11)), (12, (intA (i_16 : Int)))] rfl ?_
    refine T_st (σ' := [.box [(sl tRelation d0.relations), (sl tFact d0.facts)], .row (flat (tSl tInt).enc ([] : (List (List Int))))]) rfl ?_
    refine T_fact (len_sl (T := (tSl tInt)) (.tmp 9) rfl) (fun hl17 => ?_)
    refine T_seq ?_
    refine sr ?_
    refine Tp rfl rfl (pur_move rfl) rfl ?_
    refine Tp rfl rfl (pur_move rfl) rfl ?_
    refine Tp rfl rfl (pur_lenT (T := (tSl tInt)) sl22 rfl rfl) rfl ?_
    refine Tp rfl rfl (pur_lss rfl rfl rfl) rfl ?_
    refine TO_nil ?_
    refine te [(9, (sl (tSl tInt) r_4)), (10, (intA lo10)), (11, (intA hi11)), (12, (intA (i_16 : Int))), (36, (boolA (decide ((i_16 : Int) < (r_4.length : Int)))))] rfl ?_
    refine T_cond (t := decide ((i_16 : Int) < (r_4.length : Int))) rfl (fun d17 => ?_) (fun d17 => ?_)
    ·replace d17 := of_decide_eq_true d17
     obtain ⟨x_i_16, hx_i_16⟩ : ∃ v, (r_4)[i_16]? = some v := ⟨_, List.getElem?_eq_getElem (by omega)⟩
     obtain ⟨C17_, H, K17_⟩ := forS_step L17_ hx_i_16
     rw [hb17] at H
     refine T_skip ?_
     refine te [(9, (sl (tSl tInt) r_4)), (10, (intA lo10)), (11, (intA hi11)), (12, (intA (i_16 : Int)))] rfl ?_
     refine T_seq ?_
     refine T_block ?_
     refine sr ?_
     refine Tp rfl rfl (pur_move rfl) rfl ?_
     refine Tp rfl rfl (pur_move rfl) rfl ?_
     refine Tp rfl rfl (pur_move rfl) rfl ?_
     refine Tp rfl rfl (pur_ixT (T := (tSl tInt)) sl22 rfl rfl rfl hx_i_16 rfl) rfl ?_
     refine Tp rfl rfl (pur_ldT (T := (tSl tInt)) (i := i_16) (off := 0) rfl one33 rfl rfl hx_i_16 rfl) rfl ?_
     obtain ⟨r_18, h_19, H⟩ := bind_inv H
     refine TO_cons rfl (TOp_callV (call_static ent69 rfl) (m_spec_l27Least_ok _ _ h_19) rfl rfl rfl ?_)
     refine Tp rfl rfl (pur_max rfl rfl rfl) rfl ?_
     refine Tp rfl rfl (pur_assign rfl) rfl ?_
     refine TO_nil ?_
     refine te [(9, (sl (tSl tInt) r_4)), (10, (intA (if lo10 < r_18 then r_18 else lo10))), (11, (intA hi11)), (12, (intA (i_16 : Int)))] rfl ?_
     refine T_region ?_
     refine Tp rfl rfl (pur_move rfl) rfl ?_
     refine Tp rfl rfl (pur_move rfl) rfl ?_
     refine Tp rfl rfl (pur_move rfl) rfl ?_
     refine Tp rfl rfl (pur_ixT (T := (tSl tInt)) sl22 rfl rfl rfl hx_i_16 rfl) rfl ?_
     refine Tp rfl rfl (pur_ldT (T := (tSl tInt)) (i := i_16) (off := 0) rfl one33 rfl rfl hx_i_16 rfl) rfl ?_
     obtain ⟨r_20, h_21, H⟩ := bind_inv H
     refine TO_cons rfl (TOp_callV (call_static ent70 rfl) (m_spec_l27Most_ok _ _ h_21) rfl rfl rfl ?_)
     refine Tp rfl rfl (pur_max rfl rfl rfl) rfl ?_
     refine Tp rfl rfl (pur_assign rfl) rfl ?_
     refine TO_nil ?_
     refine te [(9, (sl (tSl tInt) r_4)), (10, (intA (if lo10 < r_18 then r_18 else lo10))), (11, (intA (if hi11 < r_20 then r_20 else hi11))), (12, (intA (i_16 : Int)))] rfl ?_
     refine T_region ?_
     refine Tp rfl rfl (pur_move rfl) rfl ?_
     refine Tp rfl rfl (pur_add rfl rfl rfl (fits64 (by omega) (by omega))) rfl ?_
     refine Tp rfl rfl (pur_assign rfl) rfl ?_
     refine TO_nil ?_
     obtain rfl := some_inj H
     exact again (r_4.length - (i_16 + 1)) (i_16 + 1, ((if lo10 < r_18 then r_18 else lo10), (if hi11 < r_20 then r_20 else hi11))) (by omega) (wp 2 (lb rfl) rfl rfl rfl rfl rfl) ⟨rfl, K17_⟩
    ·replace d17 := of_decide_eq_false d17
     obtain rfl := forS_end L17_ (by omega)
     refine T_exit ?_
     refine then_exit ?_
     refine then_exit ?_
     refine block_exit ?_
     replace H := N17_
     refine te [(10, (intA lo10)), (11, (intA hi11))] rfl ?_
     refine sr ?_
     refine Tp rfl rfl (pur_move rfl) rfl ?_
     refine Tp rfl rfl (pur_move rfl) rfl ?_
     refine Tp rfl rfl (pur_assign rfl) rfl ?_
     refine Tp rfl rfl (pur_assign rfl) rfl ?_
     refine Tp rfl rfl (pur_assign rfl) rfl ?_
     refine TO_nil ?_
     refine te [(6, (intA lo10)), (7, (intA hi11)), (8, (boolA true))] rfl ?_
     refine T_ret ?_
     obtain rfl := some_inj H
     refine end_ret (.tmp (.tmp (.tmp .nil))) rfl rfl ⟨?_, rfl⟩
     rfl
  ·replace H := cond_f c_3 H
   refine T_skip ?_
   refine te [(9, (.m [1] 0 ([] : (List (List Int))).length (tSl tInt).k))] rfl ?_
   refine T_seq ?_
   refine sr ?_
   refine Tp rfl rfl (pur_move rfl) rfl ?_
   refine Tp rfl rfl (pur_len_m sl22 rfl rfl) rfl ?_
   refine Tp rfl rfl (pur_eql rfl rfl rfl) rfl ?_
   refine TO_nil ?_
   refine te [(9, (.m [1] 0 ([] : (List (List Int))).length (tSl tInt).k)), (24, (boolA (decide ((([] : (List (List Int))).length : Int) = 0))))] rfl ?_
   refine T_cond (t := decide ((([] : (List (List Int))).length : Int) = 0)) rfl (fun c_22 => ?_) (fun c_22 => ?_)
   ·replace H := cond_t c_22 H
    refine sr ?_
    refine Tp rfl rfl (pur_assign rfl) rfl ?_
    refine Tp rfl rfl (pur_assign rfl) rfl ?_
    refine Tp rfl rfl (pur_assign rfl) rfl ?_
    refine TO_nil ?_
    refine te [(6, (intA 0)), (7, (intA 0)), (8, (boolA false))] rfl ?_
    refine T_ret ?_
    refine then_ret ?_
    obtain rfl := some_inj H
    refine end_ret (.tmp (.tmp (.tmp .nil))) rfl rfl ⟨?_, rfl⟩
    rfl
   ·replace H := cond_f c_22 H
    refine T_skip ?_
    refine te [(9, (.m [1] 0 ([] : (List (List Int))).length (tSl tInt).k))] rfl ?_
    refine sr ?_
    refine Tp rfl rfl (pur_move rfl) rfl ?_
    obtain ⟨v_23, h_24, H⟩ := bind_inv H
    obtain ⟨n_25, hz_26, hv_27⟩ := getI_inv h_24
    refine Tp rfl rfl (pur_ixM (T := (tSl tInt)) sl22 rfl rfl hz_26 hv_27 rfl) rfl ?_
    refine Tp rfl rfl (pur_ldE (f := (tSl tInt).enc) (k := (tSl tInt).k) (i := n_25) (off := 0) (tSl tInt).len rfl one33 rfl rfl rfl hv_27 rfl rfl) rfl ?_
    obtain ⟨r_28, h_29, H⟩ := bind_inv H
    refine TO_cons rfl (TOp_callV (call_static ent69 rfl) (m_spec_l27Least_ok _ _ h_29) rfl rfl rfl ?_)
    refine Tp rfl rfl (pur_assign rfl) rfl ?_
    refine TO_nil ?_
    refine te [(9, (.m [1] 0 ([] : (List (List Int))).length (tSl tInt).k)), (10, (intA r_28))] rfl ?_
    refine sr ?_
    refine Tp rfl rfl (pur_move rfl) rfl ?_
    refine Tp rfl rfl (pur_ixM (T := (tSl tInt)) sl22 rfl rfl hz_26 hv_27 rfl) rfl ?_
    refine Tp rfl rfl (pur_ldE (f := (tSl tInt).enc) (k := (tSl tInt).k) (i := n_25) (off := 0) (tSl tInt).len rfl one33 rfl rfl rfl hv_27 rfl rfl) rfl ?_
    obtain ⟨r_30, h_31, H⟩ := bind_inv H
    refine TO_cons rfl (TOp_callV (call_static ent70 rfl) (m_spec_l27Most_ok _ _ h_31) rfl rfl rfl ?_)
    refine Tp rfl rfl (pur_assign rfl) rfl ?_
    refine TO_nil ?_
    refine te [(9, (.m [1] 0 ([] : (List (List Int))).length (tSl tInt).k)), (10, (intA r_28)), (11, (intA r_30))] rfl ?_
    refine T_seq ?_
    refine sr ?_
    refine Tp rfl rfl (pur_assign rfl) rfl ?_
    refine TO_nil ?_
    refine te [(9, (.m [1] 0 ([] : (List (List Int))).length (tSl tInt).k)), (10, (intA r_28)), (11, (intA r_30)), (12, (intA 1))] rfl ?_
    obtain ⟨O33_, L33_, N33_⟩ := bind_inv H
    clear H
    obtain ⟨B33_, hb33, L33_⟩ := gen_forS L33_
    refine T_block ?_
    refine T_loopX (fun k => fun (x_ : Nat × Int × Int) => k = ([] : (List (List Int))).length - x_.1 ∧ forS B33_ (([] : (List (List Int))).drop x_.1) (x_.1 : Int) (x_.2.1, x_.2.2) = some O33_) (fun (x_ : Nat × Int × Int) => [(9, (.m [1] 0 ([] : (List (List Int))).length (tSl tInt).k)), (10, (intA x_.2.1)), (11, (intA x_.2.2)), (12, (intA (x_.1 : Int)))]) (fun (x_ : Nat × Int × Int) => [.box [(sl tRelation d0.relations), (sl tFact d0.facts)], .row (flat (tSl tInt).enc ([] : (List (List Int))))]) _ (1, (r_28, r_30)) (wp 2 (lb rfl) rfl rfl rfl rfl rfl) ⟨rfl, L33_⟩ ?_
    rintro _ ⟨i_32, lo10, hi11⟩ ⟨rfl, L33_⟩
    refine te [(9, (.m [1] 0 ([] : (List (List Int))).length (tSl tInt).k)), (10, (intA lo10)), (11, (intA hi11)), (12, (intA (i_32 : Int)))] rfl ?_
    refine T_st (σ' := [.box [(sl tRelation d0.relations), (sl tFact d0.facts)], .row (flat (tSl tInt).enc ([] : (List (List Int))))]) rfl ?_
    refine T_fact (len_m (.tmp 9) rfl) (fun hl33 => ?_)
    refine T_seq ?_
    refine sr ?_
    refine Tp rfl rfl (pur_move rfl) rfl ?_
    refine Tp rfl rfl (pur_move rfl) rfl ?_
    refine Tp rfl rfl (pur_len_m sl22 rfl rfl) rfl ?_
    refine Tp rfl rfl (pur_lss rfl rfl rfl) rfl ?_
    refine TO_nil ?_
    refine te [(9, (.m [1] 0 ([] : (List (List Int))).length (tSl tInt).k)), (10, (intA lo10)), (11, (intA hi11)), (12, (intA (i_32 : Int))), (36, (boolA (decide ((i_32 : Int) < (([] : (List (List Int))).length : Int)))))] rfl ?_
    refine T_cond (t := decide ((i_32 : Int) < (([] : (List (List Int))).length : Int))) rfl (fun d33 => ?_) (fun d33 => ?_)
    ·replace d33 := of_decide_eq_true d33
     obtain ⟨x_i_32, hx_i_32⟩ : ∃ v, (([] : (List (List Int))))[i_32]? = some v := ⟨_, List.getElem?_eq_getElem (by omega)⟩
     obtain ⟨C33_, H, K33_⟩ := forS_step L33_ hx_i_32
     rw [hb33] at H
     refine T_skip ?_
     refine te [(9, (.m [1] 0 ([] : (List (List Int))).length (tSl tInt).k)), (10, (intA lo10)), (11, (intA hi11)), (12, (intA (i_32 : Int)))] rfl ?_
     refine T_seq ?_
     refine T_block ?_
     refine sr ?_
     refine Tp rfl rfl (pur_move rfl) rfl ?_
     refine Tp rfl rfl (pur_move rfl) rfl ?_
     refine Tp rfl rfl (pur_move rfl) rfl ?_
     refine Tp rfl rfl (pur_ixM (T := (tSl tInt)) sl22 rfl rfl rfl hx_i_32 rfl) rfl ?_
     refine Tp rfl rfl (pur_ldE (f := (tSl tInt).enc) (k := (tSl tInt).k) (i := i_32) (off := 0) (tSl tInt).len rfl one33 rfl rfl rfl hx_i_32 rfl rfl) rfl ?_
     obtain ⟨r_34, h_35, H⟩ := bind_inv H
     refine TO_cons rfl (TOp_callV (call_static ent69 rfl) (m_spec_l27Least_ok _ _ h_35) rfl rfl rfl ?_)
     refine Tp rfl rfl (pur_max rfl rfl rfl) rfl ?_
     refine Tp rfl rfl (pur_assign rfl) rfl ?_
     refine TO_nil ?_
     refine te [(9, (.m [1] 0 ([] : (List (List Int))).length (tSl tInt).k)), (10, (intA (if lo10 < r_34 then r_34 else lo10))), (11, (intA hi11)), (12, (intA (i_32 : Int)))] rfl ?_
     refine T_region ?_
     refine Tp rfl rfl (pur_move rfl) rfl ?_
     refine Tp rfl rfl (pur_move rfl) rfl ?_
     refine Tp rfl rfl (pur_move rfl) rfl ?_
     refine Tp rfl rfl (pur_ixM (T := (tSl tInt)) sl22 rfl rfl rfl hx_i_32 rfl) rfl ?_
     refine Tp rfl rfl (pur_ldE (f := (tSl tInt).enc) (k := (tSl tInt).k) (i := i_32) (off := 0) (tSl tInt).len rfl one33 rfl rfl rfl hx_i_32 rfl rfl) rfl ?_
     obtain ⟨r_36, h_37, H⟩ := bind_inv H
     refine TO_cons rfl (TOp_callV (call_static ent70 rfl) (m_spec_l27Most_ok _ _ h_37) rfl rfl rfl ?_)
     refine Tp rfl rfl (pur_max rfl rfl rfl) rfl ?_
     refine Tp rfl rfl (pur_assign rfl) rfl ?_
     refine TO_nil ?_
     refine te [(9, (.m [1] 0 ([] : (List (List Int))).length (tSl tInt).k)), (10, (intA (if lo10 < r_34 then r_34 else lo10))), (11, (intA (if hi11 < r_36 then r_36 else hi11))), (12, (intA (i_32 : Int)))] rfl ?_
     refine T_region ?_
     refine Tp rfl rfl (pur_move rfl) rfl ?_
     refine Tp rfl rfl (pur_add rfl rfl rfl (fits64 (by omega) (by omega))) rfl ?_
     refine Tp rfl rfl (pur_assign rfl) rfl ?_
     refine TO_nil ?_
     obtain rfl := some_inj H
     exact again (([] : (List (List Int))).length - (i_32 + 1)) (i_32 + 1, ((if lo10 < r_34 then r_34 else lo10), (if hi11 < r_36 then r_36 else hi11))) (by omega) (wp 2 (lb rfl) rfl rfl rfl rfl rfl) ⟨rfl, K33_⟩
    ·replace d33 := of_decide_eq_false d33
     obtain rfl := forS_end L33_ (by omega)
     refine T_exit ?_
     refine then_exit ?_
     refine then_exit ?_
     refine block_exit ?_
     replace H := N33_
     refine te [(10, (intA lo10)), (11, (intA hi11))] rfl ?_
     refine sr ?_
     refine Tp rfl rfl (pur_move rfl) rfl ?_
     refine Tp rfl rfl (pur_move rfl) rfl ?_
     refine Tp rfl rfl (pur_assign rfl) rfl ?_
     refine Tp rfl rfl (pur_assign rfl) rfl ?_
     refine Tp rfl rfl (pur_assign rfl) rfl ?_
     refine TO_nil ?_
     refine te [(6, (intA lo10)), (7, (intA hi11)), (8, (boolA true))] rfl ?_
     refine T_ret ?_
     obtain rfl := some_inj H
     refine end_ret (.tmp (.tmp (.tmp .nil))) rfl rfl ⟨?_, rfl⟩
     rfl

set_option maxHeartbeats 1000000 in
/-- impl.within -/
theorem m_impl_within_ok (n0 : Int) (low1 : Int) (high2 : Int) (r : Bool) (H : m_impl_within n0 low1 high2 = some r) : FnV prg 90 [(intA n0), (intA low1), (intA high2)] (boolA r) := by
  unfold m_impl_within at H
  refine fnV_of_T Try.func90 rfl rfl (Nat.le_of_ble_eq_true rfl) ?_
  refine te [(0, (intA n0)), (1, (intA low1)), (2, (intA high2))] rfl ?_
  refine sr ?_
  refine Tp rfl rfl (pur_assign rfl) rfl ?_
  refine TO_nil ?_
  refine te [(0, (intA n0)), (1, (intA low1)), (2, (intA high2))] rfl ?_
  refine T_cutX (fun x => ((decide (low1 ≤ n0)) && (decide (n0 ≤ high2))) = x) (fun (t6_1 : Bool) => [(6, (boolA t6_1))]) (fun (t6_1 : Bool) => []) ?_ ?_
  ·skip
   refine T_region ?_
   refine Tp rfl rfl (pur_move rfl) rfl ?_
   refine Tp rfl rfl (pur_move rfl) rfl ?_
   refine Tp rfl rfl (pur_leq rfl rfl rfl) rfl ?_
   refine Tp rfl rfl (pur_move rfl) rfl ?_
   refine TO_split (t := decide (low1 ≤ n0)) 10 rfl (fun g_3 => ?_) (fun g_3 => ?_)
   ·skip
    refine TO_on rfl rfl (by decide) rfl rfl (TOp_pure (pur_move rfl) rfl ?_)
    refine TO_on rfl rfl (by decide) rfl rfl (TOp_pure (pur_move rfl) rfl ?_)
    refine TO_on rfl rfl (by decide) rfl rfl (TOp_pure (pur_leq rfl rfl rfl) rfl ?_)
    refine Tp rfl rfl (pur_pick (t := true) rfl rfl rfl) rfl ?_
    refine Tp rfl rfl (pur_assign rfl) rfl ?_
    refine TO_nil ?_
    exact joined (decide (n0 ≤ high2)) (wp 0 (lb rfl) rfl rfl rfl rfl rfl) (by first | exact Eq.symm ((and_T g_3 rfl)))
   ·skip
    refine TO_off rfl rfl (by decide) rfl rfl rfl ?_
    refine TO_off rfl rfl (by decide) rfl rfl rfl ?_
    refine TO_off rfl rfl (by decide) rfl rfl rfl ?_
    refine Tp rfl rfl (pur_pick (t := false) rfl rfl rfl) rfl ?_
    refine Tp rfl rfl (pur_assign rfl) rfl ?_
    refine TO_nil ?_
    exact joined false (wp 0 (lb rfl) rfl rfl rfl rfl rfl) (by first | exact Eq.symm ((and_F g_3 rfl)))
  ·rintro _ rfl
   refine te [(6, (boolA ((decide (low1 ≤ n0)) && (decide (n0 ≤ high2)))))] rfl ?_
   refine T_ret ?_
   obtain rfl := some_inj H
   refine end_ret (.tmp .nil) rfl rfl ⟨?_, rfl⟩
   rfl

set_option maxHeartbeats 1000000 in
/-- impl.IsValidRelation -/
theorem m_impl_IsValidRelation_ok (relation0 : Relation) (r : Bool) (H : m_impl_IsValidRelation relation0 = some r) : FnV prg 130 [(.g (tRelation.enc relation0))] (boolA r) := by
  unfold m_impl_IsValidRelation at H
  refine fnV_of_T Try.func130 rfl rfl (Nat.le_of_ble_eq_true rfl) ?_
  refine te [(0, (.g (tRelation.enc relation0)))] rfl ?_
  refine sr ?_
  refine TO_cons rfl (TOp_box rfl (boxAll rfl) rfl rfl ?_)
  refine Tp rfl rfl (pur_assign rfl) rfl ?_
  refine TO_nil ?_
  refine te [(1, (.b 0 0))] rfl ?_
  obtain ⟨t2_1, J_1, H_2⟩ := bind_inv H
  refine T_cutX (fun x => t2_1 = x) (fun (t2_1 : Bool) => [(2, (boolA t2_1))]) (fun (t2_1 : Bool) => []) ?_ ?_
  ·replace H := J_1
   refine T_region ?_
   refine Tp rfl rfl (pur_fa_b fld97_0 rfl rfl) rfl ?_
   refine Tp rfl rfl (pur_ld_b one9 rfl rfl rfl rfl) rfl ?_
   refine Tp rfl rfl (pur_len_s (by kernel_rfl) rfl rfl) rfl ?_
   refine Tp rfl rfl (pur_eql rfl rfl rfl) rfl ?_
   refine Tp rfl rfl (pur_move rfl) rfl ?_
   refine TO_split (t := decide ((relation0.name.size : Int) = 1)) 7 rfl (fun g_3 => ?_) (fun g_3 => ?_)
   ·replace H := cond_t g_3 H
    refine TO_on rfl rfl (by decide) rfl rfl (TOp_pure (pur_fa_b fld97_0 rfl rfl) rfl ?_)
    refine TO_on rfl rfl (by decide) rfl rfl (TOp_pure (pur_ld_b one9 rfl rfl rfl rfl) rfl ?_)
    obtain ⟨b_4, h_5, H⟩ := bind_inv H
    refine TO_on rfl rfl (by decide) rfl rfl (TOp_pure (pur_ixS (by kernel_rfl) rfl rfl h_5 rfl) rfl ?_)
    refine TO_on rfl rfl (by decide) rfl rfl (TOp_pure (pur_geq rfl rfl rfl) rfl ?_)
    refine Tp rfl rfl (pur_pick (t := true) rfl rfl rfl) rfl ?_
    refine Tp rfl rfl (pur_move rfl) rfl ?_
    refine TO_split (t := decide (97 ≤ b_4)) 13 rfl (fun g_6 => ?_) (fun g_6 => ?_)
    ·replace H := cond_t g_6 H
     refine TO_on rfl rfl (by decide) rfl rfl (TOp_pure (pur_fa_b fld97_0 rfl rfl) rfl ?_)
     refine TO_on rfl rfl (by decide) rfl rfl (TOp_pure (pur_ld_b one9 rfl rfl rfl rfl) rfl ?_)
     obtain ⟨b_7, h_8, H⟩ := bind_inv H
     refine TO_on rfl rfl (by decide) rfl rfl (TOp_pure (pur_ixS (by kernel_rfl) rfl rfl h_8 rfl) rfl ?_)
     refine TO_on rfl rfl (by decide) rfl rfl (TOp_pure (pur_leq rfl rfl rfl) rfl ?_)
     refine Tp rfl rfl (pur_pick (t := true) rfl rfl rfl) rfl ?_
     refine Tp rfl rfl (pur_move rfl) rfl ?_
     refine TO_split (t := decide (b_7 ≤ 122)) 19 rfl (fun g_9 => ?_) (fun g_9 => ?_)
     ·replace H := cond_t g_9 H
      refine TO_on rfl rfl (by decide) rfl rfl (TOp_pure (pur_fa_b fld97_1 rfl rfl) rfl ?_)
      refine TO_on rfl rfl (by decide) rfl rfl (TOp_pure (pur_ld_b one3 rfl rfl rfl rfl) rfl ?_)
      obtain ⟨r_10, h_11, H⟩ := bind_inv H
      refine TO_on rfl rfl (by decide) rfl rfl (TOp_callV (call_static ent90 rfl) (m_impl_within_ok _ _ _ _ h_11) rfl rfl rfl ?_)
      refine Tp rfl rfl (pur_pick (t := true) rfl rfl rfl) rfl ?_
      refine Tp rfl rfl (pur_move rfl) rfl ?_
      refine TO_split (t := r_10) 24 rfl (fun g_12 => ?_) (fun g_12 => ?_)
      ·replace H := cond_t g_12 H
       refine TO_on rfl rfl (by decide) rfl rfl (TOp_pure (pur_fa_b fld97_2 rfl rfl) rfl ?_)
       refine TO_on rfl rfl (by decide) rfl rfl (TOp_pure (pur_ld_b one3 rfl rfl rfl rfl) rfl ?_)
       refine TO_on rfl rfl (by decide) rfl rfl (TOp_pure (pur_fa_b fld97_1 rfl rfl) rfl ?_)
       refine TO_on rfl rfl (by decide) rfl rfl (TOp_pure (pur_ld_b one3 rfl rfl rfl rfl) rfl ?_)
       obtain ⟨r_13, h_14, H⟩ := bind_inv H
       refine TO_on rfl rfl (by decide) rfl rfl (TOp_callV (call_static ent90 rfl) (m_impl_within_ok _ _ _ _ h_14) rfl rfl rfl ?_)
       refine Tp rfl rfl (pur_pick (t := true) rfl rfl rfl) rfl ?_
       refine Tp rfl rfl (pur_assign rfl) rfl ?_
       refine TO_nil ?_
       exact joined r_13 (wp 0 (lb rfl) rfl rfl rfl rfl rfl) (some_inj H).symm
      ·replace H := cond_f g_12 H
       refine TO_off rfl rfl (by decide) rfl rfl rfl ?_
       refine TO_off rfl rfl (by decide) rfl rfl rfl ?_
       refine TO_off rfl rfl (by decide) rfl rfl rfl ?_
       refine TO_off rfl rfl (by decide) rfl rfl rfl ?_
       refine TO_off rfl rfl (by decide) rfl rfl rfl ?_
       refine Tp rfl rfl (pur_pick (t := false) rfl rfl rfl) rfl ?_
       refine Tp rfl rfl (pur_assign rfl) rfl ?_
       refine TO_nil ?_
       exact joined false (wp 0 (lb rfl) rfl rfl rfl rfl rfl) (some_inj H).symm
     ·replace H := cond_f g_9 H
      refine TO_off rfl rfl (by decide) rfl rfl rfl ?_
      refine TO_off rfl rfl (by decide) rfl rfl rfl ?_
      refine TO_off rfl rfl (by decide) rfl rfl rfl ?_
      refine Tp rfl rfl (pur_pick (t := false) rfl rfl rfl) rfl ?_
      refine Tp rfl rfl (pur_move rfl) rfl ?_
      refine TO_off rfl rfl (by decide) rfl rfl rfl ?_
      refine TO_off rfl rfl (by decide) rfl rfl rfl ?_
      refine TO_off rfl rfl (by decide) rfl rfl rfl ?_
      refine toe [(24, (boolA false)), (26, (.v undef)), (27, (.v undef))] rfl ?_
      refine TO_off rfl rfl (by decide) rfl rfl rfl ?_
      refine TO_off rfl rfl (by decide) rfl rfl rfl ?_
      refine Tp rfl rfl (pur_pick (t := false) rfl rfl rfl) rfl ?_
      refine Tp rfl rfl (pur_assign rfl) rfl ?_
      refine TO_nil ?_
      exact joined false (wp 0 (lb rfl) rfl rfl rfl rfl rfl) (some_inj H).symm
    ·replace H := cond_f g_6 H
     refine TO_off rfl rfl (by decide) rfl rfl rfl ?_
     refine TO_off rfl rfl (by decide) rfl rfl rfl ?_
     refine TO_off rfl rfl (by decide) rfl rfl rfl ?_
     refine TO_off rfl rfl (by decide) rfl rfl rfl ?_
     refine Tp rfl rfl (pur_pick (t := false) rfl rfl rfl) rfl ?_
     refine Tp rfl rfl (pur_move rfl) rfl ?_
     refine TO_off rfl rfl (by decide) rfl rfl rfl ?_
     refine TO_off rfl rfl (by decide) rfl rfl rfl ?_
     refine toe [(1, (.b 0 0)), (19, (boolA false)), (21, (.v undef))] rfl ?_
     refine TO_off rfl rfl (by decide) rfl rfl rfl ?_
     refine Tp rfl rfl (pur_pick (t := false) rfl rfl rfl) rfl ?_
     refine Tp rfl rfl (pur_move rfl) rfl ?_
     refine TO_off rfl rfl (by decide) rfl rfl rfl ?_
     refine TO_off rfl rfl (by decide) rfl rfl rfl ?_
     refine TO_off rfl rfl (by decide) rfl rfl rfl ?_
     refine TO_off rfl rfl (by decide) rfl rfl rfl ?_
     refine TO_off rfl rfl (by decide) rfl rfl rfl ?_
     refine Tp rfl rfl (pur_pick (t := false) rfl rfl rfl) rfl ?_
     refine Tp rfl rfl (pur_assign rfl) rfl ?_
     refine TO_nil ?_
     exact joined false (wp 0 (lb rfl) rfl rfl rfl rfl rfl) (some_inj H).symm
   ·replace H := cond_f g_3 H
    refine TO_off rfl rfl (by decide) rfl rfl rfl ?_
    refine TO_off rfl rfl (by decide) rfl rfl rfl ?_
    refine TO_off rfl rfl (by decide) rfl rfl rfl ?_
    refine TO_off rfl rfl (by decide) rfl rfl rfl ?_
    refine Tp rfl rfl (pur_pick (t := false) rfl rfl rfl) rfl ?_
    refine Tp rfl rfl (pur_move rfl) rfl ?_
    refine TO_off rfl rfl (by decide) rfl rfl rfl ?_
    refine TO_off rfl rfl (by decide) rfl rfl rfl ?_
    refine toe [(1, (.b 0 0)), (13, (boolA false)), (15, (.v undef))] rfl ?_
    refine TO_off rfl rfl (by decide) rfl rfl rfl ?_
    refine TO_off rfl rfl (by decide) rfl rfl rfl ?_
    refine Tp rfl rfl (pur_pick (t := false) rfl rfl rfl) rfl ?_
    refine Tp rfl rfl (pur_move rfl) rfl ?_
    refine TO_off rfl rfl (by decide) rfl rfl rfl ?_
    refine TO_off rfl rfl (by decide) rfl rfl rfl ?_
    refine TO_off rfl rfl (by decide) rfl rfl rfl ?_
    refine Tp rfl rfl (pur_pick (t := false) rfl rfl rfl) rfl ?_
    refine toe [(1, (.b 0 0)), (23, (boolA false))] rfl ?_
    refine Tp rfl rfl (pur_move rfl) rfl ?_
    refine TO_off rfl rfl (by decide) rfl rfl rfl ?_
    refine TO_off rfl rfl (by decide) rfl rfl rfl ?_
    refine TO_off rfl rfl (by decide) rfl rfl rfl ?_
    refine TO_off rfl rfl (by decide) rfl rfl rfl ?_
    refine TO_off rfl rfl (by decide) rfl rfl rfl ?_
    refine Tp rfl rfl (pur_pick (t := false) rfl rfl rfl) rfl ?_
    refine Tp rfl rfl (pur_assign rfl) rfl ?_
    refine TO_nil ?_
    exact joined false (wp 0 (lb rfl) rfl rfl rfl rfl rfl) (some_inj H).symm
  ·rintro _ rfl
   replace H := H_2
   refine te [(2, (boolA t2_1))] rfl ?_
   refine T_ret ?_
   obtain rfl := some_inj H
   refine end_ret (.tmp .nil) rfl rfl ⟨?_, rfl⟩
   rfl

set_option maxHeartbeats 1000000 in
/-- impl.AreValidRelations -/
theorem m_impl_AreValidRelations_ok (relations0 : (List Relation)) (r : Bool) (H : m_impl_AreValidRelations relations0 = some r) : FnV prg 113 [(sl tRelation relations0)] (boolA r) := by
  unfold m_impl_AreValidRelations at H
  refine fnV_of_T Try.func113 rfl rfl (Nat.le_of_ble_eq_true rfl) ?_
  refine te [(0, (sl tRelation relations0))] rfl ?_
  refine sr ?_
  refine Tp rfl rfl (pur_assign rfl) rfl ?_
  refine TO_nil ?_
  refine te [(0, (sl tRelation relations0))] rfl ?_
  refine T_seq ?_
  refine sr ?_
  refine Tp rfl rfl (pur_move rfl) rfl ?_
  refine Tp rfl rfl (pur_lenT (T := tRelation) sl29 rfl rfl) rfl ?_
  refine Tp rfl rfl (pur_move rfl) rfl ?_
  refine TO_nil ?_
  refine te [(0, (sl tRelation relations0)), (5, (sl tRelation relations0)), (6, (intA (relations0.length : Int))), (7, (intA 0))] rfl ?_
  obtain ⟨O2_, L2_, N2_⟩ := bind_inv H
  clear H
  obtain ⟨B2_, hb2, L2_⟩ := gen_forL L2_
  refine T_block ?_
  refine T_loopX (fun k => fun (t_1 : Nat) => k = relations0.length - t_1 ∧ forL B2_ (relations0.drop t_1) (t_1 : Int) () = some O2_) (fun (t_1 : Nat) => [(0, (sl tRelation relations0)), (5, (sl tRelation relations0)), (6, (intA (relations0.length : Int))), (7, (intA (t_1 : Int)))]) (fun (t_1 : Nat) => []) _ (0 : Nat) (wp 0 (lb rfl) rfl rfl rfl rfl rfl) ⟨rfl, L2_⟩ ?_
  rintro _ t_1 ⟨rfl, L2_⟩
  refine te [(0, (sl tRelation relations0)), (5, (sl tRelation relations0)), (6, (intA (relations0.length : Int))), (7, (intA (t_1 : Int)))] rfl ?_
  refine T_st (σ' := []) rfl ?_
  refine T_fact (len_sl (T := tRelation) (.tmp 0) rfl) (fun hl2 => ?_)
  refine sr ?_
  refine Tp rfl rfl (pur_lss rfl rfl rfl) rfl ?_
  refine TO_nil ?_
  refine te [(0, (sl tRelation relations0)), (5, (sl tRelation relations0)), (6, (intA (relations0.length : Int))), (7, (intA (t_1 : Int))), (8, (boolA (decide ((t_1 : Int) < (relations0.length : Int)))))] rfl ?_
  refine T_seq ?_
  refine T_cond (t := decide ((t_1 : Int) < (relations0.length : Int))) rfl (fun d2 => ?_) (fun d2 => ?_)
  ·replace d2 := of_decide_eq_true d2
   obtain ⟨x_t_1, hx_t_1⟩ : ∃ v, (relations0)[t_1]? = some v := ⟨_, List.getElem?_eq_getElem (by omega)⟩
   obtain ⟨C2_, H, K2_⟩ := forL_step L2_ hx_t_1
   rw [hb2] at H
   refine T_skip ?_
   refine te [(0, (sl tRelation relations0)), (5, (sl tRelation relations0)), (6, (intA (relations0.length : Int))), (7, (intA (t_1 : Int)))] rfl ?_
   refine T_seq ?_
   refine T_block ?_
   refine sr ?_
   refine Tp rfl rfl (pur_move rfl) rfl ?_
   refine Tp rfl rfl (pur_ixT (T := tRelation) sl29 rfl rfl rfl hx_t_1 rfl) rfl ?_
   refine Tp rfl rfl (pur_ldTK (T := tRelation) (i := t_1) (off := 0) rfl agg97 rfl rfl hx_t_1 (by decide) rfl) rfl ?_
   refine TO_cons rfl (TOp_alloc zero97 rfl rfl ?_)
   refine Tp rfl rfl (pur_assign rfl) rfl ?_
   refine TO_cons rfl (TOp_storeB sz97 rfl rfl rfl rfl rfl rfl rfl (by decide) (lb rfl) rfl ?_)
   refine TO_st (σ' := [.box [(strA x_t_1.name), (intA x_t_1.arity), (intA x_t_1.keyLength)]]) rfl ?_
   refine TO_nil ?_
   refine te [(0, (sl tRelation relations0)), (3, (intA (t_1 : Int))), (4, (.b 0 0)), (5, (sl tRelation relations0)), (6, (intA (relations0.length : Int))), (7, (intA (t_1 : Int)))] rfl ?_
   obtain ⟨t29_3, J_3, H_4⟩ := bind_inv H
   refine T_cutX (fun x => t29_3 = x) (fun (t29_3 : Bool) => [(0, (sl tRelation relations0)), (5, (sl tRelation relations0)), (6, (intA (relations0.length : Int))), (7, (intA (t_1 : Int))), (29, (boolA t29_3))]) (fun (t29_3 : Bool) => []) ?_ ?_
   ·replace H := J_3
    refine T_regionD mixed (by kernel_rfl) ?_
    refine TQ_pure rfl (pur_ldK_b agg97 rfl rfl (lb rfl) rfl) rfl ?_
    obtain ⟨r_5, h_6, H⟩ := bind_inv H
    refine TQ_callV rfl (call_static ent130 rfl) (m_impl_IsValidRelation_ok _ _ h_6) rfl rfl ?_
    refine TQ_pure rfl (pur_not rfl rfl) rfl ?_
    refine TQ_pure rfl (pur_move rfl) rfl ?_
    refine TQ_split (t := (!r_5)) 15 rfl (fun g_7 => ?_) (fun g_7 => ?_)
    ·replace H := cond_t g_7 H
     refine TQ_off rfl rfl (by decide) rfl rfl rfl ?_
     refine TQ_off rfl rfl (by decide) rfl rfl rfl ?_
     refine TQ_off rfl rfl (by decide) rfl rfl rfl ?_
     refine TQ_off rfl rfl (by decide) rfl rfl rfl ?_
     refine TQ_off rfl rfl (by decide) rfl rfl rfl ?_
     refine TQ_off rfl rfl (by decide) rfl rfl rfl ?_
     refine TQ_off rfl rfl (by decide) rfl rfl rfl ?_
     refine TQ_off rfl rfl (by decide) rfl rfl rfl ?_
     refine tqe [(0, (sl tRelation relations0)), (4, (.b 0 0)), (5, (sl tRelation relations0)), (6, (intA (relations0.length : Int))), (7, (intA (t_1 : Int))), (15, (boolA true)), (18, (.v undef)), (23, (.v undef))] rfl ?_
     refine TQ_off rfl rfl (by decide) rfl rfl rfl ?_
     refine TQ_off rfl rfl (by decide) rfl rfl rfl ?_
     refine TQ_off rfl rfl (by decide) rfl rfl rfl ?_
     refine TQ_off rfl rfl (by decide) rfl rfl rfl ?_
     refine TQ_off rfl rfl (by decide) rfl rfl rfl ?_
     refine TQ_pure rfl (pur_pick (t := true) rfl rfl rfl) rfl ?_
     refine TQ_nil ?_
     exact joined true (wp 0 (lb rfl) rfl rfl rfl rfl rfl) (some_inj H).symm
    ·replace H := cond_f g_7 H
     refine TQ_on rfl rfl (by decide) rfl (pur_move rfl) rfl ?_
     refine TQ_on rfl rfl (by decide) rfl (pur_gtr rfl rfl rfl) rfl ?_
     refine TQ_on rfl rfl (by decide) rfl (pur_move rfl) rfl ?_
     refine TQ_split (t := decide (0 < (t_1 : Int))) 18 rfl (fun g_8 => ?_) (fun g_8 => ?_)
     ·replace H := cond_t g_8 H
      refine TQ_on rfl rfl (by decide) rfl (pur_move rfl) rfl ?_
      refine TQ_on rfl rfl (by decide) rfl (pur_move rfl) rfl ?_
      refine TQ_on rfl rfl (by decide) rfl (pur_sub rfl rfl rfl (fits64 (by omega) (by omega))) rfl ?_
      obtain ⟨v_9, h_10, H⟩ := bind_inv H
      obtain ⟨n_11, hz_12, hv_13⟩ := getI_inv h_10
      refine TQ_on rfl rfl (by decide) rfl (pur_ixT (T := tRelation) sl29 rfl rfl hz_12 hv_13 rfl) rfl ?_
      refine TQ_on rfl rfl (by decide) rfl (pur_fa_q fld97_0 rfl rfl) rfl ?_
      refine TQ_on rfl rfl (by decide) rfl (pur_ldT (T := tRelation) (i := n_11) (off := 0) rfl one9 rfl rfl hv_13 rfl) rfl ?_
      refine TQ_on rfl rfl (by decide) rfl (pur_fa_b fld97_0 rfl rfl) rfl ?_
      refine TQ_on rfl rfl (by decide) rfl (pur_ld_b one9 rfl rfl rfl rfl) rfl ?_
      refine tqe [(0, (sl tRelation relations0)), (5, (sl tRelation relations0)), (6, (intA (relations0.length : Int))), (7, (intA (t_1 : Int))), (15, (boolA false)), (18, (boolA true)), (24, (strA v_9.name)), (26, (strA x_t_1.name))] rfl ?_
      refine TQ_on rfl rfl (by decide) rfl (pur_geqS rfl rfl rfl) rfl ?_
      refine TQ_on rfl rfl (by decide) rfl (pur_pick (t := true) rfl rfl rfl) rfl ?_
      refine TQ_pure rfl (pur_pick (t := false) rfl rfl rfl) rfl ?_
      refine TQ_nil ?_
      exact joined (!ltS v_9.name x_t_1.name) (wp 0 (lb rfl) rfl rfl rfl rfl rfl) (some_inj H).symm
     ·replace H := cond_f g_8 H
      refine TQ_off rfl rfl (by decide) rfl rfl rfl ?_
      refine TQ_off rfl rfl (by decide) rfl rfl rfl ?_
      refine TQ_off rfl rfl (by decide) rfl rfl rfl ?_
      refine TQ_off rfl rfl (by decide) rfl rfl rfl ?_
      refine TQ_off rfl rfl (by decide) rfl rfl rfl ?_
      refine TQ_off rfl rfl (by decide) rfl rfl rfl ?_
      refine TQ_off rfl rfl (by decide) rfl rfl rfl ?_
      refine TQ_off rfl rfl (by decide) rfl rfl rfl ?_
      refine tqe [(0, (sl tRelation relations0)), (5, (sl tRelation relations0)), (6, (intA (relations0.length : Int))), (7, (intA (t_1 : Int))), (15, (boolA false)), (18, (boolA false)), (24, (.v undef)), (26, (.v undef))] rfl ?_
      refine TQ_off rfl rfl (by decide) rfl rfl rfl ?_
      refine TQ_on rfl rfl (by decide) rfl (pur_pick (t := false) rfl rfl rfl) rfl ?_
      refine TQ_pure rfl (pur_pick (t := false) rfl rfl rfl) rfl ?_
      refine TQ_nil ?_
      exact joined false (wp 0 (lb rfl) rfl rfl rfl rfl rfl) (some_inj H).symm
   ·rintro _ rfl
    replace H := H_4
    refine te [(0, (sl tRelation relations0)), (5, (sl tRelation relations0)), (6, (intA (relations0.length : Int))), (7, (intA (t_1 : Int))), (29, (boolA t29_3))] rfl ?_
    refine T_cond (t := t29_3) rfl (fun c_14 => ?_) (fun c_14 => ?_)
    ·replace H := cond_t c_14 H
     refine sr ?_
     refine Tp rfl rfl (pur_assign rfl) rfl ?_
     refine TO_nil ?_
     refine te [(2, (boolA false))] rfl ?_
     refine T_ret ?_
     refine block_ret ?_
     refine then_ret ?_
     refine then_ret ?_
     refine block_ret ?_
     refine then_ret ?_
     obtain rfl := some_inj H
     obtain rfl := some_inj K2_
     replace H := onS_r N2_
     obtain rfl := some_inj H
     refine end_ret (.tmp .nil) rfl rfl ⟨?_, rfl⟩
     rfl
    ·replace H := cond_f c_14 H
     refine T_skip ?_
     refine te [(0, (sl tRelation relations0)), (5, (sl tRelation relations0)), (6, (intA (relations0.length : Int))), (7, (intA (t_1 : Int)))] rfl ?_
     refine T_region ?_
     refine Tp rfl rfl (pur_add rfl rfl rfl (fits64 (by omega) (by omega))) rfl ?_
     refine Tp rfl rfl (pur_move rfl) rfl ?_
     refine TO_nil ?_
     obtain rfl := some_inj H
     exact again (relations0.length - (t_1 + 1)) (t_1 + 1) (by omega) (wp 0 (lb rfl) rfl rfl rfl rfl rfl) ⟨rfl, K2_⟩
  ·replace d2 := of_decide_eq_false d2
   obtain rfl := forL_end L2_ (by omega)
   refine T_exit ?_
   refine then_exit ?_
   refine then_exit ?_
   refine block_exit ?_
   replace H := onS_l N2_
   refine te [(0, (sl tRelation relations0))] rfl ?_
   refine sr ?_
   refine Tp rfl rfl (pur_move rfl) rfl ?_
   refine Tp rfl rfl (pur_lenT (T := tRelation) sl29 rfl rfl) rfl ?_
   refine Tp rfl rfl (pur_leq rfl rfl rfl) rfl ?_
   refine Tp rfl rfl (pur_assign rfl) rfl ?_
   refine TO_nil ?_
   refine te [(2, (boolA (decide ((relations0.length : Int) ≤ 4))))] rfl ?_
   refine T_ret ?_
   obtain rfl := some_inj H
   refine end_ret (.tmp .nil) rfl rfl ⟨?_, rfl⟩
   rfl

set_option maxHeartbeats 1000000 in
/-- slices.IndexFunc[[]int,int] -/
theorem m_slices_IndexFunc_Sint_int_ok (s0 : (List Int)) (f1 : (Int → Option Bool)) (f1_g : Nat) (f1_c : List A) (f1_E : EnT prg f1_g) (f1_l : looseL f1_c = true) (f1_m : firmL f1_c = true ∧ fzL f1_c = f1_c) (f1_H : ∀ (x0 : Int) r, f1 x0 = some r → FnV prg f1_g ([(intA x0)] ++ f1_c) (boolA r)) (r : Int) (H : m_slices_IndexFunc_Sint_int s0 f1 = some r) : FnV prg 159 [(sl tInt s0), (.f f1_g f1_c)] (intA r) := by
  unfold m_slices_IndexFunc_Sint_int at H
  refine fnV_of_T Try.func159 rfl rfl (Nat.le_of_ble_eq_true rfl) ?_
  refine te [(0, (sl tInt s0)), (1, (.f f1_g f1_c))] rfl ?_
  refine sr ?_
  refine Tp rfl rfl (pur_assign rfl) rfl ?_
  refine TO_nil ?_
  refine te [(0, (sl tInt s0)), (1, (.f f1_g f1_c))] rfl ?_
  refine T_seq ?_
  refine sr ?_
  refine Tp rfl rfl (pur_move rfl) rfl ?_
  refine Tp rfl rfl (pur_lenT (T := tInt) sl33 rfl rfl) rfl ?_
  refine Tp rfl rfl (pur_move rfl) rfl ?_
  refine TO_nil ?_
  refine te [(0, (sl tInt s0)), (1, (.f f1_g f1_c)), (7, (intA (s0.length : Int))), (8, (intA 0))] rfl ?_
  obtain ⟨O2_, L2_, N2_⟩ := bind_inv H
  clear H
  obtain ⟨B2_, hb2, L2_⟩ := gen_forL L2_
  refine T_block ?_
  refine T_loopX (fun k => fun (t_1 : Nat) => k = s0.length - t_1 ∧ forL B2_ (s0.drop t_1) (t_1 : Int) () = some O2_) (fun (t_1 : Nat) => [(0, (sl tInt s0)), (1, (.f f1_g f1_c)), (7, (intA (s0.length : Int))), (8, (intA (t_1 : Int)))]) (fun (t_1 : Nat) => []) _ (0 : Nat) (wp 0 (lb rfl) rfl rfl (by simp only [namesE, A.names, namesL_enc, Bool.false_or, Bool.or_false, looseL_names f1_l]) rfl rfl) ⟨rfl, L2_⟩ ?_
  rintro _ t_1 ⟨rfl, L2_⟩
  refine te [(0, (sl tInt s0)), (1, (.f f1_g f1_c)), (7, (intA (s0.length : Int))), (8, (intA (t_1 : Int)))] rfl ?_
  refine T_st (σ' := []) rfl ?_
  refine T_fact (len_sl (T := tInt) (.tmp 0) rfl) (fun hl2 => ?_)
  refine sr ?_
  refine Tp rfl rfl (pur_lss rfl rfl rfl) rfl ?_
  refine TO_nil ?_
  refine te [(0, (sl tInt s0)), (1, (.f f1_g f1_c)), (7, (intA (s0.length : Int))), (8, (intA (t_1 : Int))), (9, (boolA (decide ((t_1 : Int) < (s0.length : Int)))))] rfl ?_
  refine T_seq ?_
  refine T_cond (t := decide ((t_1 : Int) < (s0.length : Int))) rfl (fun d2 => ?_) (fun d2 => ?_)
  ·replace d2 := of_decide_eq_true d2
   obtain ⟨x_t_1, hx_t_1⟩ : ∃ v, (s0)[t_1]? = some v := ⟨_, List.getElem?_eq_getElem (by omega)⟩
   obtain ⟨C2_, H, K2_⟩ := forL_step L2_ hx_t_1
   rw [hb2] at H
   refine T_skip ?_
   refine te [(0, (sl tInt s0)), (1, (.f f1_g f1_c)), (7, (intA (s0.length : Int))), (8, (intA (t_1 : Int)))] rfl ?_
   refine T_seq ?_
   refine T_block ?_
   refine sr ?_
   refine Tp rfl rfl (pur_move rfl) rfl ?_
   refine Tp rfl rfl (pur_assign rfl) rfl ?_
   refine TO_nil ?_
   refine te [(0, (sl tInt s0)), (1, (.f f1_g f1_c)), (5, (intA (t_1 : Int))), (7, (intA (s0.length : Int))), (8, (intA (t_1 : Int)))] rfl ?_
   refine sr ?_
   refine Tp rfl rfl (pur_move rfl) rfl ?_
   refine Tp rfl rfl (pur_move rfl) rfl ?_
   refine Tp rfl rfl (pur_move rfl) rfl ?_
   refine Tp rfl rfl (pur_ixT (T := tInt) sl33 rfl rfl rfl hx_t_1 rfl) rfl ?_
   refine Tp rfl rfl (pur_ldT (T := tInt) (i := t_1) (off := 0) rfl one3 rfl rfl hx_t_1 rfl) rfl ?_
   obtain ⟨r_3, h_4, H⟩ := bind_inv H
   refine TO_cons rfl (TOp_callV (call_closure f1_E rfl rfl) (f1_H _  _ h_4) (looseL_app rfl f1_l) rfl rfl ?_)
   refine TO_nil ?_
   refine te [(0, (sl tInt s0)), (1, (.f f1_g f1_c)), (5, (intA (t_1 : Int))), (7, (intA (s0.length : Int))), (8, (intA (t_1 : Int))), (16, (boolA r_3))] rfl ?_
   refine T_cond (t := r_3) rfl (fun c_5 => ?_) (fun c_5 => ?_)
   ·replace H := cond_t c_5 H
    refine sr ?_
    refine Tp rfl rfl (pur_move rfl) rfl ?_
    refine Tp rfl rfl (pur_assign rfl) rfl ?_
    refine TO_nil ?_
    refine te [(4, (intA (t_1 : Int)))] rfl ?_
    refine T_ret ?_
    refine block_ret ?_
    refine then_ret ?_
    refine then_ret ?_
    refine block_ret ?_
    refine then_ret ?_
    obtain rfl := some_inj H
    obtain rfl := some_inj K2_
    replace H := onS_r N2_
    obtain rfl := some_inj H
    refine end_ret (.tmp .nil) rfl rfl ⟨?_, rfl⟩
    rfl
   ·replace H := cond_f c_5 H
    refine T_skip ?_
    refine te [(0, (sl tInt s0)), (1, (.f f1_g f1_c)), (7, (intA (s0.length : Int))), (8, (intA (t_1 : Int)))] rfl ?_
    refine T_region ?_
    refine Tp rfl rfl (pur_add rfl rfl rfl (fits64 (by omega) (by omega))) rfl ?_
    refine Tp rfl rfl (pur_move rfl) rfl ?_
    refine TO_nil ?_
    obtain rfl := some_inj H
    exact again (s0.length - (t_1 + 1)) (t_1 + 1) (by omega) (wp 0 (lb rfl) rfl rfl (by simp only [namesE, A.names, namesL_enc, Bool.false_or, Bool.or_false, looseL_names f1_l]) rfl rfl) ⟨rfl, K2_⟩
  ·replace d2 := of_decide_eq_false d2
   obtain rfl := forL_end L2_ (by omega)
   refine T_exit ?_
   refine then_exit ?_
   refine then_exit ?_
   refine block_exit ?_
   replace H := onS_l N2_
   refine te [] rfl ?_
   refine sr ?_
   refine Tp rfl rfl (pur_assign rfl) rfl ?_
   refine TO_nil ?_
   refine te [(4, (intA (-1)))] rfl ?_
   refine T_ret ?_
   obtain rfl := some_inj H
   refine end_ret (.tmp .nil) rfl rfl ⟨?_, rfl⟩
   rfl

set_option maxHeartbeats 1000000 in
/-- slices.ContainsFunc[[]int,int] -/
theorem m_slices_ContainsFunc_Sint_int_ok (s0 : (List Int)) (f1 : (Int → Option Bool)) (f1_g : Nat) (f1_c : List A) (f1_E : EnT prg f1_g) (f1_l : looseL f1_c = true) (f1_m : firmL f1_c = true ∧ fzL f1_c = f1_c) (f1_H : ∀ (x0 : Int) r, f1 x0 = some r → FnV prg f1_g ([(intA x0)] ++ f1_c) (boolA r)) (r : Bool) (H : m_slices_ContainsFunc_Sint_int s0 f1 = some r) : FnV prg 149 [(sl tInt s0), (.f f1_g f1_c)] (boolA r) := by
  unfold m_slices_ContainsFunc_Sint_int at H
  refine fnV_of_T Try.func149 rfl rfl (Nat.le_of_ble_eq_true rfl) ?_
  refine te [(0, (sl tInt s0)), (1, (.f f1_g f1_c))] rfl ?_
  refine sr ?_
  refine Tp rfl rfl (pur_assign rfl) rfl ?_
  refine TO_nil ?_
  refine te [(0, (sl tInt s0)), (1, (.f f1_g f1_c))] rfl ?_
  refine sr ?_
  refine Tp rfl rfl (pur_move rfl) rfl ?_
  refine Tp rfl rfl (pur_move rfl) rfl ?_
  obtain ⟨r_1, h_2, H⟩ := bind_inv H
  refine TO_cons rfl (TOp_callV (call_static ent159 rfl) (m_slices_IndexFunc_Sint_int_ok _ f1 f1_g f1_c f1_E f1_l f1_m f1_H _ h_2) (looseC rfl (looseC f1_l rfl)) rfl rfl ?_)
  refine Tp rfl rfl (pur_geq rfl rfl rfl) rfl ?_
  refine Tp rfl rfl (pur_assign rfl) rfl ?_
  refine TO_nil ?_
  refine te [(4, (boolA (decide (0 ≤ r_1))))] rfl ?_
  refine T_ret ?_
  obtain rfl := some_inj H
  refine end_ret (.tmp .nil) rfl rfl ⟨?_, rfl⟩
  rfl

set_option maxHeartbeats 1000000 in
/-- impl.areValues$1 -/
theorem m_impl_areValues_1_ok (v0 : Int) (r : Bool) (H : m_impl_areValues_1 v0 = some r) : FnV prg 150 [(intA v0)] (boolA r) := by
  unfold m_impl_areValues_1 at H
  refine fnV_of_T Try.func150 rfl rfl (Nat.le_of_ble_eq_true rfl) ?_
  refine te [(0, (intA v0))] rfl ?_
  refine sr ?_
  refine Tp rfl rfl (pur_assign rfl) rfl ?_
  refine TO_nil ?_
  refine te [(0, (intA v0))] rfl ?_
  refine sr ?_
  refine Tp rfl rfl (pur_move rfl) rfl ?_
  obtain ⟨r_1, h_2, H⟩ := bind_inv H
  refine TO_cons rfl (TOp_callV (call_static ent90 rfl) (m_impl_within_ok _ _ _ _ h_2) rfl rfl rfl ?_)
  refine Tp rfl rfl (pur_not rfl rfl) rfl ?_
  refine Tp rfl rfl (pur_assign rfl) rfl ?_
  refine TO_nil ?_
  refine te [(2, (boolA (!r_1)))] rfl ?_
  refine T_ret ?_
  obtain rfl := some_inj H
  refine end_ret (.tmp .nil) rfl rfl ⟨?_, rfl⟩
  rfl

set_option maxHeartbeats 1000000 in
/-- impl.areValues -/
theorem m_impl_areValues_ok (list0 : (List Int)) (r : Bool) (H : m_impl_areValues list0 = some r) : FnV prg 131 [(sl tInt list0)] (boolA r) := by
  unfold m_impl_areValues at H
  refine fnV_of_T Try.func131 rfl rfl (Nat.le_of_ble_eq_true rfl) ?_
  refine te [(0, (sl tInt list0))] rfl ?_
  refine sr ?_
  refine Tp rfl rfl (pur_assign rfl) rfl ?_
  refine TO_nil ?_
  refine te [(0, (sl tInt list0))] rfl ?_
  refine sr ?_
  refine Tp rfl rfl (pur_move rfl) rfl ?_
  obtain ⟨r_1, h_2, H⟩ := bind_inv H
  refine TO_cons rfl (TOp_callV (call_static ent149 rfl) (m_slices_ContainsFunc_Sint_int_ok _ (fun x0 => m_impl_areValues_1 x0) 150 [] ent150 rfl ⟨rfl, rfl⟩ (fun x0 r h => m_impl_areValues_1_ok x0  r h) _ h_2) rfl rfl rfl ?_)
  refine Tp rfl rfl (pur_not rfl rfl) rfl ?_
  refine Tp rfl rfl (pur_assign rfl) rfl ?_
  refine TO_nil ?_
  refine te [(2, (boolA (!r_1)))] rfl ?_
  refine T_ret ?_
  obtain rfl := some_inj H
  refine end_ret (.tmp .nil) rfl rfl ⟨?_, rfl⟩
  rfl

set_option maxHeartbeats 1000000 in
/-- impl.isFact -/
theorem m_impl_isFact_ok (relations0 : (List Relation)) (fact1 : Fact) (r : Bool) (H : m_impl_isFact relations0 fact1 = some r) : FnV prg 114 [(sl tRelation relations0), (.g (tFact.enc fact1))] (boolA r) := by
  unfold m_impl_isFact at H
  refine fnV_of_T Try.func114 rfl rfl (Nat.le_of_ble_eq_true rfl) ?_
  refine te [(0, (sl tRelation relations0)), (1, (.g (tFact.enc fact1)))] rfl ?_
  refine sr ?_
  refine TO_cons rfl (TOp_box rfl (boxAll rfl) rfl rfl ?_)
  refine Tp rfl rfl (pur_assign rfl) rfl ?_
  refine TO_nil ?_
  refine te [(0, (sl tRelation relations0)), (3, (.b 0 0))] rfl ?_
  obtain ⟨t4_1, J_1, H_2⟩ := bind_inv H
  refine T_cutX (fun x => t4_1 = x) (fun (t4_1 : Bool) => [(4, (boolA t4_1))]) (fun (t4_1 : Bool) => []) ?_ ?_
  ·replace H := J_1
   refine T_regionD mixed (by kernel_rfl) ?_
   refine TQ_pure rfl (pur_fa_b fld60_0 rfl rfl) rfl ?_
   refine TQ_pure rfl (pur_ld_b one3 rfl rfl rfl rfl) rfl ?_
   refine TQ_pure rfl (pur_move rfl) rfl ?_
   refine TQ_pure rfl (pur_lenT (T := tRelation) sl29 rfl rfl) rfl ?_
   refine TQ_fact (len_sl (T := tRelation) (.tmp 0) rfl) (fun hl_3 => ?_)
   refine TQ_pure rfl (pur_sub rfl rfl rfl (fits64 (by omega) (by omega))) rfl ?_
   obtain ⟨r_4, h_5, H⟩ := bind_inv H
   refine TQ_callV rfl (call_static ent90 rfl) (m_impl_within_ok _ _ _ _ h_5) rfl rfl ?_
   refine TQ_pure rfl (pur_move rfl) rfl ?_
   refine TQ_split (t := r_4) 11 rfl (fun g_6 => ?_) (fun g_6 => ?_)
   ·replace H := cond_t g_6 H
    refine TQ_on rfl rfl (by decide) rfl (pur_fa_b fld60_1 rfl rfl) rfl ?_
    refine TQ_on rfl rfl (by decide) rfl (pur_ld_b one33 rfl rfl rfl rfl) rfl ?_
    refine TQ_on rfl rfl (by decide) rfl (pur_lenT (T := tInt) sl33 rfl rfl) rfl ?_
    refine TQ_on rfl rfl (by decide) rfl (pur_move rfl) rfl ?_
    refine TQ_on rfl rfl (by decide) rfl (pur_fa_b fld60_0 rfl rfl) rfl ?_
    refine TQ_on rfl rfl (by decide) rfl (pur_ld_b one3 rfl rfl rfl rfl) rfl ?_
    obtain ⟨v_7, h_8, H⟩ := bind_inv H
    obtain ⟨n_9, hz_10, hv_11⟩ := getI_inv h_8
    refine TQ_on rfl rfl (by decide) rfl (pur_ixT (T := tRelation) sl29 rfl rfl hz_10 hv_11 rfl) rfl ?_
    refine TQ_on rfl rfl (by decide) rfl (pur_fa_q fld97_1 rfl rfl) rfl ?_
    refine tqe [(3, (.b 0 0)), (11, (boolA true)), (14, (intA (fact1.values.length : Int))), (19, (.q (flat tRelation.enc relations0) (n_9 * tRelation.k + 1)))] rfl ?_
    refine TQ_on rfl rfl (by decide) rfl (pur_ldT (T := tRelation) (i := n_9) (off := 1) rfl one3 rfl rfl hv_11 rfl) rfl ?_
    refine TQ_on rfl rfl (by decide) rfl (pur_eql rfl rfl rfl) rfl ?_
    refine TQ_pure rfl (pur_pick (t := true) rfl rfl rfl) rfl ?_
    refine TQ_pure rfl (pur_move rfl) rfl ?_
    refine TQ_split (t := decide ((fact1.values.length : Int) = v_7.arity)) 23 rfl (fun g_12 => ?_) (fun g_12 => ?_)
    ·replace H := cond_t g_12 H
     refine TQ_on rfl rfl (by decide) rfl (pur_fa_b fld60_1 rfl rfl) rfl ?_
     refine TQ_on rfl rfl (by decide) rfl (pur_ld_b one33 rfl rfl rfl rfl) rfl ?_
     obtain ⟨r_13, h_14, H⟩ := bind_inv H
     refine TQ_onV rfl rfl (by decide) rfl (call_static ent131 rfl) (m_impl_areValues_ok _ _ h_14) rfl rfl ?_
     refine TQ_pure rfl (pur_pick (t := true) rfl rfl rfl) rfl ?_
     refine TQ_pure rfl (pur_assign rfl) rfl ?_
     refine TQ_nil ?_
     exact joined r_13 (wp 0 (lb rfl) rfl rfl rfl rfl rfl) (some_inj H).symm
    ·replace H := cond_f g_12 H
     refine TQ_off rfl rfl (by decide) rfl rfl rfl ?_
     refine TQ_off rfl rfl (by decide) rfl rfl rfl ?_
     refine TQ_off rfl rfl (by decide) rfl rfl rfl ?_
     refine TQ_pure rfl (pur_pick (t := false) rfl rfl rfl) rfl ?_
     refine TQ_pure rfl (pur_assign rfl) rfl ?_
     refine TQ_nil ?_
     exact joined false (wp 0 (lb rfl) rfl rfl rfl rfl rfl) (some_inj H).symm
   ·replace H := cond_f g_6 H
    refine TQ_off rfl rfl (by decide) rfl rfl rfl ?_
    refine TQ_off rfl rfl (by decide) rfl rfl rfl ?_
    refine TQ_off rfl rfl (by decide) rfl rfl rfl ?_
    refine TQ_off rfl rfl (by decide) rfl rfl rfl ?_
    refine TQ_off rfl rfl (by decide) rfl rfl rfl ?_
    refine TQ_off rfl rfl (by decide) rfl rfl rfl ?_
    refine TQ_off rfl rfl (by decide) rfl rfl rfl ?_
    refine TQ_off rfl rfl (by decide) rfl rfl rfl ?_
    refine tqe [(3, (.b 0 0)), (11, (boolA false)), (14, (.v undef)), (19, (.v undef))] rfl ?_
    refine TQ_off rfl rfl (by decide) rfl rfl rfl ?_
    refine TQ_off rfl rfl (by decide) rfl rfl rfl ?_
    refine TQ_pure rfl (pur_pick (t := false) rfl rfl rfl) rfl ?_
    refine TQ_pure rfl (pur_move rfl) rfl ?_
    refine TQ_off rfl rfl (by decide) rfl rfl rfl ?_
    refine TQ_off rfl rfl (by decide) rfl rfl rfl ?_
    refine TQ_off rfl rfl (by decide) rfl rfl rfl ?_
    refine TQ_pure rfl (pur_pick (t := false) rfl rfl rfl) rfl ?_
    refine TQ_pure rfl (pur_assign rfl) rfl ?_
    refine TQ_nil ?_
    exact joined false (wp 0 (lb rfl) rfl rfl rfl rfl rfl) (some_inj H).symm
  ·rintro _ rfl
   replace H := H_2
   refine te [(4, (boolA t4_1))] rfl ?_
   refine T_ret ?_
   obtain rfl := some_inj H
   refine end_ret (.tmp .nil) rfl rfl ⟨?_, rfl⟩
   rfl

set_option maxHeartbeats 1000000 in
/-- impl.compare -/
theorem m_impl_compare_ok (a0 : Int) (b1 : Int) (r : Int) (H : m_impl_compare a0 b1 = some r) : FnV prg 132 [(intA a0), (intA b1)] (intA r) := by
  unfold m_impl_compare at H
  refine fnV_of_T Try.func132 rfl rfl (Nat.le_of_ble_eq_true rfl) ?_
  refine te [(0, (intA a0)), (1, (intA b1))] rfl ?_
  refine sr ?_
  refine Tp rfl rfl (pur_assign rfl) rfl ?_
  refine TO_nil ?_
  refine te [(0, (intA a0)), (1, (intA b1))] rfl ?_
  refine T_seq ?_
  refine T_block ?_
  refine sr ?_
  refine Tp rfl rfl (pur_move rfl) rfl ?_
  refine Tp rfl rfl (pur_move rfl) rfl ?_
  refine Tp rfl rfl (pur_lss rfl rfl rfl) rfl ?_
  refine Tp rfl rfl (pur_assign rfl) rfl ?_
  refine TO_nil ?_
  refine te [(0, (intA a0)), (1, (intA b1)), (5, (boolA (decide (a0 < b1))))] rfl ?_
  refine T_cond (t := decide (a0 < b1)) rfl (fun c_1 => ?_) (fun c_1 => ?_)
  ·replace H := cond_t c_1 H
   refine sr ?_
   refine Tp rfl rfl (pur_assign rfl) rfl ?_
   refine TO_nil ?_
   refine te [(4, (intA (-1)))] rfl ?_
   refine T_ret ?_
   refine block_ret ?_
   refine then_ret ?_
   obtain rfl := some_inj H
   refine end_ret (.tmp .nil) rfl rfl ⟨?_, rfl⟩
   rfl
  ·replace H := cond_f c_1 H
   refine sr ?_
   refine Tp rfl rfl (pur_move rfl) rfl ?_
   refine Tp rfl rfl (pur_move rfl) rfl ?_
   refine Tp rfl rfl (pur_gtr rfl rfl rfl) rfl ?_
   refine Tp rfl rfl (pur_assign rfl) rfl ?_
   refine TO_nil ?_
   refine te [(9, (boolA (decide (b1 < a0))))] rfl ?_
   refine T_cond (t := decide (b1 < a0)) rfl (fun c_2 => ?_) (fun c_2 => ?_)
   ·replace H := cond_t c_2 H
    refine sr ?_
    refine Tp rfl rfl (pur_assign rfl) rfl ?_
    refine TO_nil ?_
    refine te [(4, (intA 1))] rfl ?_
    refine T_ret ?_
    refine block_ret ?_
    refine then_ret ?_
    obtain rfl := some_inj H
    refine end_ret (.tmp .nil) rfl rfl ⟨?_, rfl⟩
    rfl
   ·replace H := cond_f c_2 H
    refine T_skip ?_
    refine te [] rfl ?_
    refine sr ?_
    refine Tp rfl rfl (pur_assign rfl) rfl ?_
    refine TO_nil ?_
    refine te [(4, (intA 0))] rfl ?_
    refine T_ret ?_
    obtain rfl := some_inj H
    refine end_ret (.tmp .nil) rfl rfl ⟨?_, rfl⟩
    rfl

set_option maxHeartbeats 1000000 in
/-- cmp.isNaN[int] -/
theorem m_cmp_isNaN_int_ok (x0 : Int) (r : Bool) (H : m_cmp_isNaN_int x0 = some r) : FnV prg 157 [(intA x0)] (boolA r) := by
  unfold m_cmp_isNaN_int at H
  refine fnV_of_T Try.func157 rfl rfl (Nat.le_of_ble_eq_true rfl) ?_
  refine te [(0, (intA x0))] rfl ?_
  refine sr ?_
  refine Tp rfl rfl (pur_assign rfl) rfl ?_
  refine TO_nil ?_
  refine te [(0, (intA x0))] rfl ?_
  refine sr ?_
  refine Tp rfl rfl (pur_move rfl) rfl ?_
  refine Tp rfl rfl (pur_move rfl) rfl ?_
  refine Tp rfl rfl (pur_neq rfl rfl rfl) rfl ?_
  refine Tp rfl rfl (pur_assign rfl) rfl ?_
  refine TO_nil ?_
  refine te [(2, (boolA (decide (x0 ≠ x0))))] rfl ?_
  refine T_ret ?_
  obtain rfl := some_inj H
  refine end_ret (.tmp .nil) rfl rfl ⟨?_, rfl⟩
  rfl

set_option maxHeartbeats 1000000 in
/-- cmp.Compare[int] -/
theorem m_cmp_Compare_int_ok (x0 : Int) (y1 : Int) (r : Int) (H : m_cmp_Compare_int x0 y1 = some r) : FnV prg 151 [(intA x0), (intA y1)] (intA r) := by
  unfold m_cmp_Compare_int at H
  refine fnV_of_T Try.func151 rfl rfl (Nat.le_of_ble_eq_true rfl) ?_
  refine te [(0, (intA x0)), (1, (intA y1))] rfl ?_
  refine sr ?_
  refine Tp rfl rfl (pur_assign rfl) rfl ?_
  refine TO_nil ?_
  refine te [(0, (intA x0)), (1, (intA y1))] rfl ?_
  refine sr ?_
  refine Tp rfl rfl (pur_move rfl) rfl ?_
  obtain ⟨r_1, h_2, H⟩ := bind_inv H
  refine TO_cons rfl (TOp_callV (call_static ent157 rfl) (m_cmp_isNaN_int_ok _ _ h_2) rfl rfl rfl ?_)
  refine Tp rfl rfl (pur_assign rfl) rfl ?_
  refine TO_nil ?_
  refine te [(0, (intA x0)), (1, (intA y1)), (5, (boolA r_1))] rfl ?_
  refine sr ?_
  refine Tp rfl rfl (pur_move rfl) rfl ?_
  obtain ⟨r_3, h_4, H⟩ := bind_inv H
  refine TO_cons rfl (TOp_callV (call_static ent157 rfl) (m_cmp_isNaN_int_ok _ _ h_4) rfl rfl rfl ?_)
  refine Tp rfl rfl (pur_assign rfl) rfl ?_
  refine TO_nil ?_
  refine te [(0, (intA x0)), (1, (intA y1)), (5, (boolA r_1)), (6, (boolA r_3))] rfl ?_
  refine T_seq ?_
  refine sr ?_
  refine Tp rfl rfl (pur_move rfl) rfl ?_
  refine TO_nil ?_
  refine te [(0, (intA x0)), (1, (intA y1)), (6, (boolA r_3)), (11, (boolA r_1))] rfl ?_
  refine T_cond (t := r_1) rfl (fun c_5 => ?_) (fun c_5 => ?_)
  ·replace H := cond_t c_5 H
   refine T_seq ?_
   refine sr ?_
   refine Tp rfl rfl (pur_move rfl) rfl ?_
   refine TO_nil ?_
   refine te [(12, (boolA r_3))] rfl ?_
   refine T_cond (t := r_3) rfl (fun c_6 => ?_) (fun c_6 => ?_)
   ·replace H := cond_t c_6 H
    refine sr ?_
    refine Tp rfl rfl (pur_assign rfl) rfl ?_
    refine TO_nil ?_
    refine te [(4, (intA 0))] rfl ?_
    refine T_ret ?_
    refine then_ret ?_
    refine then_ret ?_
    obtain rfl := some_inj H
    refine end_ret (.tmp .nil) rfl rfl ⟨?_, rfl⟩
    rfl
   ·replace H := cond_f c_6 H
    refine T_skip ?_
    refine te [] rfl ?_
    refine sr ?_
    refine Tp rfl rfl (pur_assign rfl) rfl ?_
    refine TO_nil ?_
    refine te [(4, (intA (-1)))] rfl ?_
    refine T_ret ?_
    refine then_ret ?_
    obtain rfl := some_inj H
    refine end_ret (.tmp .nil) rfl rfl ⟨?_, rfl⟩
    rfl
  ·replace H := cond_f c_5 H
   refine T_skip ?_
   refine te [(0, (intA x0)), (1, (intA y1)), (6, (boolA r_3))] rfl ?_
   refine T_seq ?_
   refine sr ?_
   refine Tp rfl rfl (pur_move rfl) rfl ?_
   refine TO_nil ?_
   refine te [(0, (intA x0)), (1, (intA y1)), (13, (boolA r_3))] rfl ?_
   refine T_cond (t := r_3) rfl (fun c_7 => ?_) (fun c_7 => ?_)
   ·replace H := cond_t c_7 H
    refine sr ?_
    refine Tp rfl rfl (pur_assign rfl) rfl ?_
    refine TO_nil ?_
    refine te [(4, (intA 1))] rfl ?_
    refine T_ret ?_
    refine then_ret ?_
    obtain rfl := some_inj H
    refine end_ret (.tmp .nil) rfl rfl ⟨?_, rfl⟩
    rfl
   ·replace H := cond_f c_7 H
    refine T_skip ?_
    refine te [(0, (intA x0)), (1, (intA y1))] rfl ?_
    refine T_seq ?_
    refine sr ?_
    refine Tp rfl rfl (pur_move rfl) rfl ?_
    refine Tp rfl rfl (pur_move rfl) rfl ?_
    refine Tp rfl rfl (pur_lss rfl rfl rfl) rfl ?_
    refine TO_nil ?_
    refine te [(0, (intA x0)), (1, (intA y1)), (16, (boolA (decide (x0 < y1))))] rfl ?_
    refine T_cond (t := decide (x0 < y1)) rfl (fun c_8 => ?_) (fun c_8 => ?_)
    ·replace H := cond_t c_8 H
     refine sr ?_
     refine Tp rfl rfl (pur_assign rfl) rfl ?_
     refine TO_nil ?_
     refine te [(4, (intA (-1)))] rfl ?_
     refine T_ret ?_
     refine then_ret ?_
     obtain rfl := some_inj H
     refine end_ret (.tmp .nil) rfl rfl ⟨?_, rfl⟩
     rfl
    ·replace H := cond_f c_8 H
     refine T_skip ?_
     refine te [(0, (intA x0)), (1, (intA y1))] rfl ?_
     refine T_seq ?_
     refine sr ?_
     refine Tp rfl rfl (pur_move rfl) rfl ?_
     refine Tp rfl rfl (pur_move rfl) rfl ?_
     refine Tp rfl rfl (pur_gtr rfl rfl rfl) rfl ?_
     refine TO_nil ?_
     refine te [(19, (boolA (decide (y1 < x0))))] rfl ?_
     refine T_cond (t := decide (y1 < x0)) rfl (fun c_9 => ?_) (fun c_9 => ?_)
     ·replace H := cond_t c_9 H
      refine sr ?_
      refine Tp rfl rfl (pur_assign rfl) rfl ?_
      refine TO_nil ?_
      refine te [(4, (intA 1))] rfl ?_
      refine T_ret ?_
      refine then_ret ?_
      obtain rfl := some_inj H
      refine end_ret (.tmp .nil) rfl rfl ⟨?_, rfl⟩
      rfl
     ·replace H := cond_f c_9 H
      refine T_skip ?_
      refine te [] rfl ?_
      refine sr ?_
      refine Tp rfl rfl (pur_assign rfl) rfl ?_
      refine TO_nil ?_
      refine te [(4, (intA 0))] rfl ?_
      refine T_ret ?_
      obtain rfl := some_inj H
      refine end_ret (.tmp .nil) rfl rfl ⟨?_, rfl⟩
      rfl

set_option maxHeartbeats 1000000 in
/-- slices.Compare[[]int,int] -/
theorem m_slices_Compare_Sint_int_ok (s10 : (List Int)) (s21 : (List Int)) (r : Int) (H : m_slices_Compare_Sint_int s10 s21 = some r) : FnV prg 133 [(sl tInt s10), (sl tInt s21)] (intA r) := by
  unfold m_slices_Compare_Sint_int at H
  refine fnV_of_T Try.func133 rfl rfl (Nat.le_of_ble_eq_true rfl) ?_
  refine te [(0, (sl tInt s10)), (1, (sl tInt s21))] rfl ?_
  refine sr ?_
  refine Tp rfl rfl (pur_assign rfl) rfl ?_
  refine TO_nil ?_
  refine te [(0, (sl tInt s10)), (1, (sl tInt s21))] rfl ?_
  refine T_seq ?_
  refine sr ?_
  refine Tp rfl rfl (pur_move rfl) rfl ?_
  refine Tp rfl rfl (pur_lenT (T := tInt) sl33 rfl rfl) rfl ?_
  refine Tp rfl rfl (pur_move rfl) rfl ?_
  refine TO_nil ?_
  refine te [(0, (sl tInt s10)), (1, (sl tInt s21)), (9, (sl tInt s10)), (10, (intA (s10.length : Int))), (11, (intA 0))] rfl ?_
  obtain ⟨O2_, L2_, N2_⟩ := bind_inv H
  clear H
  obtain ⟨B2_, hb2, L2_⟩ := gen_forL L2_
  refine T_block ?_
  refine T_loopX (fun k => fun (t_1 : Nat) => k = s10.length - t_1 ∧ forL B2_ (s10.drop t_1) (t_1 : Int) () = some O2_) (fun (t_1 : Nat) => [(0, (sl tInt s10)), (1, (sl tInt s21)), (9, (sl tInt s10)), (10, (intA (s10.length : Int))), (11, (intA (t_1 : Int)))]) (fun (t_1 : Nat) => []) _ (0 : Nat) (wp 0 (lb rfl) rfl rfl rfl rfl rfl) ⟨rfl, L2_⟩ ?_
  rintro _ t_1 ⟨rfl, L2_⟩
  refine te [(0, (sl tInt s10)), (1, (sl tInt s21)), (9, (sl tInt s10)), (10, (intA (s10.length : Int))), (11, (intA (t_1 : Int)))] rfl ?_
  refine T_st (σ' := []) rfl ?_
  refine T_fact (len_sl (T := tInt) (.tmp 0) rfl) (fun hl2 => ?_)
  refine sr ?_
  refine Tp rfl rfl (pur_lss rfl rfl rfl) rfl ?_
  refine TO_nil ?_
  refine te [(0, (sl tInt s10)), (1, (sl tInt s21)), (9, (sl tInt s10)), (10, (intA (s10.length : Int))), (11, (intA (t_1 : Int))), (12, (boolA (decide ((t_1 : Int) < (s10.length : Int)))))] rfl ?_
  refine T_seq ?_
  refine T_cond (t := decide ((t_1 : Int) < (s10.length : Int))) rfl (fun d2 => ?_) (fun d2 => ?_)
  ·replace d2 := of_decide_eq_true d2
   obtain ⟨x_t_1, hx_t_1⟩ : ∃ v, (s10)[t_1]? = some v := ⟨_, List.getElem?_eq_getElem (by omega)⟩
   obtain ⟨C2_, H, K2_⟩ := forL_step L2_ hx_t_1
   rw [hb2] at H
   refine T_skip ?_
   refine te [(0, (sl tInt s10)), (1, (sl tInt s21)), (9, (sl tInt s10)), (10, (intA (s10.length : Int))), (11, (intA (t_1 : Int)))] rfl ?_
   refine T_seq ?_
   refine T_block ?_
   refine sr ?_
   refine Tp rfl rfl (pur_move rfl) rfl ?_
   refine Tp rfl rfl (pur_ixT (T := tInt) sl33 rfl rfl rfl hx_t_1 rfl) rfl ?_
   refine Tp rfl rfl (pur_ldT (T := tInt) (i := t_1) (off := 0) rfl one3 rfl rfl hx_t_1 rfl) rfl ?_
   refine Tp rfl rfl (pur_assign rfl) rfl ?_
   refine Tp rfl rfl (pur_assign rfl) rfl ?_
   refine TO_nil ?_
   refine te [(0, (sl tInt s10)), (1, (sl tInt s21)), (5, (intA (t_1 : Int))), (6, (intA x_t_1)), (9, (sl tInt s10)), (10, (intA (s10.length : Int))), (11, (intA (t_1 : Int)))] rfl ?_
   refine T_seq ?_
   refine sr ?_
   refine Tp rfl rfl (pur_move rfl) rfl ?_
   refine Tp rfl rfl (pur_move rfl) rfl ?_
   refine Tp rfl rfl (pur_lenT (T := tInt) sl33 rfl rfl) rfl ?_
   refine Tp rfl rfl (pur_geq rfl rfl rfl) rfl ?_
   refine TO_nil ?_
   refine te [(0, (sl tInt s10)), (1, (sl tInt s21)), (5, (intA (t_1 : Int))), (6, (intA x_t_1)), (9, (sl tInt s10)), (10, (intA (s10.length : Int))), (11, (intA (t_1 : Int))), (19, (boolA (decide ((s21.length : Int) ≤ (t_1 : Int)))))] rfl ?_
   refine T_cond (t := decide ((s21.length : Int) ≤ (t_1 : Int))) rfl (fun c_3 => ?_) (fun c_3 => ?_)
   ·replace H := cond_t c_3 H
    refine sr ?_
    refine Tp rfl rfl (pur_assign rfl) rfl ?_
    refine TO_nil ?_
    refine te [(4, (intA 1))] rfl ?_
    refine T_ret ?_
    refine then_ret ?_
    refine block_ret ?_
    refine then_ret ?_
    refine then_ret ?_
    refine block_ret ?_
    refine then_ret ?_
    obtain rfl := some_inj H
    obtain rfl := some_inj K2_
    replace H := onS_r N2_
    obtain rfl := some_inj H
    refine end_ret (.tmp .nil) rfl rfl ⟨?_, rfl⟩
    rfl
   ·replace H := cond_f c_3 H
    refine T_skip ?_
    refine te [(0, (sl tInt s10)), (1, (sl tInt s21)), (5, (intA (t_1 : Int))), (6, (intA x_t_1)), (9, (sl tInt s10)), (10, (intA (s10.length : Int))), (11, (intA (t_1 : Int)))] rfl ?_
    refine sr ?_
    refine Tp rfl rfl (pur_move rfl) rfl ?_
    refine Tp rfl rfl (pur_move rfl) rfl ?_
    obtain ⟨v_4, h_5, H⟩ := bind_inv H
    obtain ⟨n_6, hz_7, hv_8⟩ := getI_inv h_5
    refine Tp rfl rfl (pur_ixT (T := tInt) sl33 rfl rfl hz_7 hv_8 rfl) rfl ?_
    refine Tp rfl rfl (pur_ldT (T := tInt) (i := n_6) (off := 0) rfl one3 rfl rfl hv_8 rfl) rfl ?_
    refine Tp rfl rfl (pur_assign rfl) rfl ?_
    refine TO_nil ?_
    refine te [(0, (sl tInt s10)), (1, (sl tInt s21)), (6, (intA x_t_1)), (7, (intA v_4)), (9, (sl tInt s10)), (10, (intA (s10.length : Int))), (11, (intA (t_1 : Int)))] rfl ?_
    refine sr ?_
    refine Tp rfl rfl (pur_move rfl) rfl ?_
    refine Tp rfl rfl (pur_move rfl) rfl ?_
    obtain ⟨r_9, h_10, H⟩ := bind_inv H
    refine TO_cons rfl (TOp_callV (call_static ent151 rfl) (m_cmp_Compare_int_ok _ _ _ h_10) rfl rfl rfl ?_)
    refine Tp rfl rfl (pur_assign rfl) rfl ?_
    refine TO_nil ?_
    refine te [(0, (sl tInt s10)), (1, (sl tInt s21)), (8, (intA r_9)), (9, (sl tInt s10)), (10, (intA (s10.length : Int))), (11, (intA (t_1 : Int)))] rfl ?_
    refine sr ?_
    refine Tp rfl rfl (pur_move rfl) rfl ?_
    refine Tp rfl rfl (pur_neq rfl rfl rfl) rfl ?_
    refine TO_nil ?_
    refine te [(0, (sl tInt s10)), (1, (sl tInt s21)), (8, (intA r_9)), (9, (sl tInt s10)), (10, (intA (s10.length : Int))), (11, (intA (t_1 : Int))), (28, (boolA (decide (r_9 ≠ 0))))] rfl ?_
    refine T_cond (t := decide (r_9 ≠ 0)) rfl (fun c_11 => ?_) (fun c_11 => ?_)
    ·replace H := cond_t c_11 H
     refine sr ?_
     refine Tp rfl rfl (pur_move rfl) rfl ?_
     refine Tp rfl rfl (pur_assign rfl) rfl ?_
     refine TO_nil ?_
     refine te [(4, (intA r_9))] rfl ?_
     refine T_ret ?_
     refine block_ret ?_
     refine then_ret ?_
     refine then_ret ?_
     refine block_ret ?_
     refine then_ret ?_
     obtain rfl := some_inj H
     obtain rfl := some_inj K2_
     replace H := onS_r N2_
     obtain rfl := some_inj H
     refine end_ret (.tmp .nil) rfl rfl ⟨?_, rfl⟩
     rfl
    ·replace H := cond_f c_11 H
     refine T_skip ?_
     refine te [(0, (sl tInt s10)), (1, (sl tInt s21)), (9, (sl tInt s10)), (10, (intA (s10.length : Int))), (11, (intA (t_1 : Int)))] rfl ?_
     refine T_region ?_
     refine Tp rfl rfl (pur_add rfl rfl rfl (fits64 (by omega) (by omega))) rfl ?_
     refine Tp rfl rfl (pur_move rfl) rfl ?_
     refine TO_nil ?_
     obtain rfl := some_inj H
     exact again (s10.length - (t_1 + 1)) (t_1 + 1) (by omega) (wp 0 (lb rfl) rfl rfl rfl rfl rfl) ⟨rfl, K2_⟩
  ·replace d2 := of_decide_eq_false d2
   obtain rfl := forL_end L2_ (by omega)
   refine T_exit ?_
   refine then_exit ?_
   refine then_exit ?_
   refine block_exit ?_
   replace H := onS_l N2_
   refine te [(0, (sl tInt s10)), (1, (sl tInt s21))] rfl ?_
   refine T_seq ?_
   refine sr ?_
   refine Tp rfl rfl (pur_move rfl) rfl ?_
   refine Tp rfl rfl (pur_lenT (T := tInt) sl33 rfl rfl) rfl ?_
   refine Tp rfl rfl (pur_move rfl) rfl ?_
   refine Tp rfl rfl (pur_lenT (T := tInt) sl33 rfl rfl) rfl ?_
   refine Tp rfl rfl (pur_lss rfl rfl rfl) rfl ?_
   refine TO_nil ?_
   refine te [(35, (boolA (decide ((s10.length : Int) < (s21.length : Int)))))] rfl ?_
   refine T_cond (t := decide ((s10.length : Int) < (s21.length : Int))) rfl (fun c_12 => ?_) (fun c_12 => ?_)
   ·replace H := cond_t c_12 H
    refine sr ?_
    refine Tp rfl rfl (pur_assign rfl) rfl ?_
    refine TO_nil ?_
    refine te [(4, (intA (-1)))] rfl ?_
    refine T_ret ?_
    refine then_ret ?_
    obtain rfl := some_inj H
    refine end_ret (.tmp .nil) rfl rfl ⟨?_, rfl⟩
    rfl
   ·replace H := cond_f c_12 H
    refine T_skip ?_
    refine te [] rfl ?_
    refine sr ?_
    refine Tp rfl rfl (pur_assign rfl) rfl ?_
    refine TO_nil ?_
    refine te [(4, (intA 0))] rfl ?_
    refine T_ret ?_
    obtain rfl := some_inj H
    refine end_ret (.tmp .nil) rfl rfl ⟨?_, rfl⟩
    rfl

set_option maxHeartbeats 1000000 in
/-- impl.CompareFacts -/
theorem m_impl_CompareFacts_ok (a0 : Fact) (b1 : Fact) (r : Int) (H : m_impl_CompareFacts a0 b1 = some r) : FnV prg 115 [(.g (tFact.enc a0)), (.g (tFact.enc b1))] (intA r) := by
  unfold m_impl_CompareFacts at H
  refine fnV_of_T Try.func115 rfl rfl (Nat.le_of_ble_eq_true rfl) ?_
  refine te [(0, (.g (tFact.enc a0))), (1, (.g (tFact.enc b1)))] rfl ?_
  refine sr ?_
  refine TO_cons rfl (TOp_box rfl (boxAll rfl) rfl rfl ?_)
  refine TO_cons rfl (TOp_box rfl (boxAll rfl) rfl rfl ?_)
  refine Tp rfl rfl (pur_assign rfl) rfl ?_
  refine TO_nil ?_
  refine te [(2, (.b 0 0)), (3, (.b 1 0))] rfl ?_
  refine T_seq ?_
  refine sr ?_
  refine Tp rfl rfl (pur_fa_b fld60_0 rfl rfl) rfl ?_
  refine Tp rfl rfl (pur_ld_b one3 rfl rfl rfl rfl) rfl ?_
  refine Tp rfl rfl (pur_fa_b fld60_0 rfl rfl) rfl ?_
  refine Tp rfl rfl (pur_ld_b one3 rfl rfl rfl rfl) rfl ?_
  refine Tp rfl rfl (pur_neq rfl rfl rfl) rfl ?_
  refine TO_nil ?_
  refine te [(2, (.b 0 0)), (3, (.b 1 0)), (9, (boolA (decide (a0.relation ≠ b1.relation))))] rfl ?_
  refine T_cond (t := decide (a0.relation ≠ b1.relation)) rfl (fun c_1 => ?_) (fun c_1 => ?_)
  ·replace H := cond_t c_1 H
   refine sr ?_
   refine Tp rfl rfl (pur_fa_b fld60_0 rfl rfl) rfl ?_
   refine Tp rfl rfl (pur_ld_b one3 rfl rfl rfl rfl) rfl ?_
   refine Tp rfl rfl (pur_fa_b fld60_0 rfl rfl) rfl ?_
   refine Tp rfl rfl (pur_ld_b one3 rfl rfl rfl rfl) rfl ?_
   obtain ⟨r_2, h_3, H⟩ := bind_inv H
   refine TO_cons rfl (TOp_callV (call_static ent132 rfl) (m_impl_compare_ok _ _ _ h_3) rfl rfl rfl ?_)
   refine Tp rfl rfl (pur_assign rfl) rfl ?_
   refine TO_nil ?_
   refine te [(4, (intA r_2))] rfl ?_
   refine T_ret ?_
   refine then_ret ?_
   obtain rfl := some_inj H
   refine end_ret (.tmp .nil) rfl rfl ⟨?_, rfl⟩
   rfl
  ·replace H := cond_f c_1 H
   refine T_skip ?_
   refine te [(2, (.b 0 0)), (3, (.b 1 0))] rfl ?_
   refine sr ?_
   refine Tp rfl rfl (pur_fa_b fld60_1 rfl rfl) rfl ?_
   refine Tp rfl rfl (pur_ld_b one33 rfl rfl rfl rfl) rfl ?_
   refine Tp rfl rfl (pur_fa_b fld60_1 rfl rfl) rfl ?_
   refine Tp rfl rfl (pur_ld_b one33 rfl rfl rfl rfl) rfl ?_
   obtain ⟨r_4, h_5, H⟩ := bind_inv H
   refine TO_cons rfl (TOp_callV (call_static ent133 rfl) (m_slices_Compare_Sint_int_ok _ _ _ h_5) rfl rfl rfl ?_)
   refine Tp rfl rfl (pur_assign rfl) rfl ?_
   refine TO_nil ?_
   refine te [(4, (intA r_4))] rfl ?_
   refine T_ret ?_
   obtain rfl := some_inj H
   refine end_ret (.tmp .nil) rfl rfl ⟨?_, rfl⟩
   rfl

set_option maxHeartbeats 1000000 in
/-- impl.IsValidDatabase -/
theorem m_impl_IsValidDatabase_ok (db0 : Database) (r : Bool) (H : m_impl_IsValidDatabase db0 = some r) : FnV prg 89 [(.g (tDatabase.enc db0))] (boolA r) := by
  unfold m_impl_IsValidDatabase at H
  refine fnV_of_T Try.func89 rfl rfl (Nat.le_of_ble_eq_true rfl) ?_
  refine te [(0, (.g (tDatabase.enc db0)))] rfl ?_
  refine sr ?_
  refine TO_cons rfl (TOp_box rfl (boxAll rfl) rfl rfl ?_)
  refine Tp rfl rfl (pur_assign rfl) rfl ?_
  refine TO_nil ?_
  refine te [(1, (.b 0 0))] rfl ?_
  refine T_seq ?_
  obtain ⟨t14_1, J_1, H_2⟩ := bind_inv H
  refine T_cutX (fun x => t14_1 = x) (fun (t14_1 : Bool) => [(1, (.b 0 0)), (14, (boolA t14_1))]) (fun (t14_1 : Bool) => [.box [(sl tRelation db0.relations), (sl tFact db0.facts)]]) ?_ ?_
  ·replace H := J_1
   refine T_region ?_
   refine Tp rfl rfl (pur_fa_b fld32_0 rfl rfl) rfl ?_
   refine Tp rfl rfl (pur_ld_b one29 rfl rfl rfl rfl) rfl ?_
   obtain ⟨r_3, h_4, H⟩ := bind_inv H
   refine TO_cons rfl (TOp_callV (call_static ent113 rfl) (m_impl_AreValidRelations_ok _ _ h_4) rfl rfl rfl ?_)
   refine Tp rfl rfl (pur_not rfl rfl) rfl ?_
   refine Tp rfl rfl (pur_move rfl) rfl ?_
   refine TO_split (t := (!r_3)) 9 rfl (fun g_5 => ?_) (fun g_5 => ?_)
   ·replace H := cond_t g_5 H
    refine TO_off rfl rfl (by decide) rfl rfl rfl ?_
    refine TO_off rfl rfl (by decide) rfl rfl rfl ?_
    refine TO_off rfl rfl (by decide) rfl rfl rfl ?_
    refine TO_off rfl rfl (by decide) rfl rfl rfl ?_
    refine Tp rfl rfl (pur_pick (t := true) rfl rfl rfl) rfl ?_
    refine TO_nil ?_
    exact joined true (wp 1 (lb rfl) rfl rfl rfl rfl rfl) (some_inj H).symm
   ·replace H := cond_f g_5 H
    refine TO_on rfl rfl (by decide) rfl rfl (TOp_pure (pur_fa_b fld32_1 rfl rfl) rfl ?_)
    refine TO_on rfl rfl (by decide) rfl rfl (TOp_pure (pur_ld_b one30 rfl rfl rfl rfl) rfl ?_)
    refine TO_on rfl rfl (by decide) rfl rfl (TOp_pure (pur_lenT (T := tFact) sl30 rfl rfl) rfl ?_)
    refine TO_on rfl rfl (by decide) rfl rfl (TOp_pure (pur_gtr rfl rfl rfl) rfl ?_)
    refine Tp rfl rfl (pur_pick (t := false) rfl rfl rfl) rfl ?_
    refine TO_nil ?_
    exact joined (decide (14 < (db0.facts.length : Int))) (wp 1 (lb rfl) rfl rfl rfl rfl rfl) (some_inj H).symm
  ·rintro _ rfl
   replace H := H_2
   refine te [(1, (.b 0 0)), (14, (boolA t14_1))] rfl ?_
   refine T_cond (t := t14_1) rfl (fun c_6 => ?_) (fun c_6 => ?_)
   ·replace H := cond_t c_6 H
    refine sr ?_
    refine Tp rfl rfl (pur_assign rfl) rfl ?_
    refine TO_nil ?_
    refine te [(2, (boolA false))] rfl ?_
    refine T_ret ?_
    refine then_ret ?_
    obtain rfl := some_inj H
    refine end_ret (.tmp .nil) rfl rfl ⟨?_, rfl⟩
    rfl
   ·replace H := cond_f c_6 H
    refine T_skip ?_
    refine te [(1, (.b 0 0))] rfl ?_
    refine T_seq ?_
    refine sr ?_
    refine Tp rfl rfl (pur_fa_b fld32_1 rfl rfl) rfl ?_
    refine Tp rfl rfl (pur_ld_b one30 rfl rfl rfl rfl) rfl ?_
    refine Tp rfl rfl (pur_lenT (T := tFact) sl30 rfl rfl) rfl ?_
    refine Tp rfl rfl (pur_move rfl) rfl ?_
    refine TO_nil ?_
    refine te [(1, (.b 0 0)), (16, (sl tFact db0.facts)), (17, (intA (db0.facts.length : Int))), (18, (intA 0))] rfl ?_
    obtain ⟨O8_, L8_, N8_⟩ := bind_inv H
    clear H
    obtain ⟨B8_, hb8, L8_⟩ := gen_forL L8_
    refine T_block ?_
    refine T_loopX (fun k => fun (t_7 : Nat) => k = db0.facts.length - t_7 ∧ forL B8_ (db0.facts.drop t_7) (t_7 : Int) () = some O8_) (fun (t_7 : Nat) => [(1, (.b 0 0)), (16, (sl tFact db0.facts)), (17, (intA (db0.facts.length : Int))), (18, (intA (t_7 : Int)))]) (fun (t_7 : Nat) => [.box [(sl tRelation db0.relations), (sl tFact db0.facts)]]) _ (0 : Nat) (wp 1 (lb rfl) rfl rfl rfl rfl rfl) ⟨rfl, L8_⟩ ?_
    rintro _ t_7 ⟨rfl, L8_⟩
    refine te [(1, (.b 0 0)), (16, (sl tFact db0.facts)), (17, (intA (db0.facts.length : Int))), (18, (intA (t_7 : Int)))] rfl ?_
    refine T_st (σ' := [.box [(sl tRelation db0.relations), (sl tFact db0.facts)]]) rfl ?_
    refine T_fact (len_sl (T := tFact) (.tmp 16) rfl) (fun hl8 => ?_)
    refine sr ?_
    refine Tp rfl rfl (pur_lss rfl rfl rfl) rfl ?_
    refine TO_nil ?_
    refine te [(1, (.b 0 0)), (16, (sl tFact db0.facts)), (17, (intA (db0.facts.length : Int))), (18, (intA (t_7 : Int))), (19, (boolA (decide ((t_7 : Int) < (db0.facts.length : Int)))))] rfl ?_
    refine T_seq ?_
    refine T_cond (t := decide ((t_7 : Int) < (db0.facts.length : Int))) rfl (fun d8 => ?_) (fun d8 => ?_)
    ·replace d8 := of_decide_eq_true d8
     obtain ⟨x_t_7, hx_t_7⟩ : ∃ v, (db0.facts)[t_7]? = some v := ⟨_, List.getElem?_eq_getElem (by omega)⟩
     obtain ⟨C8_, H, K8_⟩ := forL_step L8_ hx_t_7
     rw [hb8] at H
     refine T_skip ?_
     refine te [(1, (.b 0 0)), (16, (sl tFact db0.facts)), (17, (intA (db0.facts.length : Int))), (18, (intA (t_7 : Int)))] rfl ?_
     refine T_seq ?_
     refine T_block ?_
     refine sr ?_
     refine Tp rfl rfl (pur_move rfl) rfl ?_
     refine Tp rfl rfl (pur_ixT (T := tFact) sl30 rfl rfl rfl hx_t_7 rfl) rfl ?_
     refine Tp rfl rfl (pur_ldTK (T := tFact) (i := t_7) (off := 0) rfl agg60 rfl rfl hx_t_7 (by decide) rfl) rfl ?_
     refine TO_cons rfl (TOp_alloc zero60 rfl rfl ?_)
     refine Tp rfl rfl (pur_assign rfl) rfl ?_
     refine TO_cons rfl (TOp_storeB sz60 rfl rfl rfl rfl rfl rfl rfl (by decide) (lb rfl) rfl ?_)
     refine TO_st (σ' := [.box [(sl tRelation db0.relations), (sl tFact db0.facts)], .box [(intA x_t_7.relation), (sl tInt x_t_7.values)]]) rfl ?_
     refine TO_nil ?_
     refine te [(1, (.b 0 0)), (3, (intA (t_7 : Int))), (4, (.b 1 0)), (16, (sl tFact db0.facts)), (17, (intA (db0.facts.length : Int))), (18, (intA (t_7 : Int)))] rfl ?_
     obtain ⟨t42_9, J_9, H_10⟩ := bind_inv H
     refine T_cutX (fun x => t42_9 = x) (fun (t42_9 : Bool) => [(1, (.b 0 0)), (16, (sl tFact db0.facts)), (17, (intA (db0.facts.length : Int))), (18, (intA (t_7 : Int))), (42, (boolA t42_9))]) (fun (t42_9 : Bool) => [.box [(sl tRelation db0.relations), (sl tFact db0.facts)]]) ?_ ?_
     ·replace H := J_9
      refine T_regionD mixed (by kernel_rfl) ?_
      refine TQ_pure rfl (pur_fa_b fld32_0 rfl rfl) rfl ?_
      refine TQ_pure rfl (pur_ld_b one29 rfl rfl rfl rfl) rfl ?_
      refine TQ_pure rfl (pur_ldK_b agg60 rfl rfl (lb rfl) rfl) rfl ?_
      obtain ⟨r_11, h_12, H⟩ := bind_inv H
      refine TQ_callV rfl (call_static ent114 rfl) (m_impl_isFact_ok _ _ _ h_12) rfl rfl ?_
      refine TQ_pure rfl (pur_not rfl rfl) rfl ?_
      refine TQ_pure rfl (pur_move rfl) rfl ?_
      refine TQ_split (t := (!r_11)) 28 rfl (fun g_13 => ?_) (fun g_13 => ?_)
      ·replace H := cond_t g_13 H
       refine TQ_off rfl rfl (by decide) rfl rfl rfl ?_
       refine TQ_off rfl rfl (by decide) rfl rfl rfl ?_
       refine TQ_off rfl rfl (by decide) rfl rfl rfl ?_
       refine TQ_off rfl rfl (by decide) rfl rfl rfl ?_
       refine TQ_off rfl rfl (by decide) rfl rfl rfl ?_
       refine TQ_off rfl rfl (by decide) rfl rfl rfl ?_
       refine TQ_off rfl rfl (by decide) rfl rfl rfl ?_
       refine TQ_off rfl rfl (by decide) rfl rfl rfl ?_
       refine tqe [(1, (.b 0 0)), (4, (.b 1 0)), (16, (sl tFact db0.facts)), (17, (intA (db0.facts.length : Int))), (18, (intA (t_7 : Int))), (28, (boolA true)), (31, (.v undef)), (36, (.v undef))] rfl ?_
       refine TQ_off rfl rfl (by decide) rfl rfl rfl ?_
       refine TQ_off rfl rfl (by decide) rfl rfl rfl ?_
       refine TQ_off rfl rfl (by decide) rfl rfl rfl ?_
       refine TQ_off rfl rfl (by decide) rfl rfl rfl ?_
       refine TQ_off rfl rfl (by decide) rfl rfl rfl ?_
       refine TQ_pure rfl (pur_pick (t := true) rfl rfl rfl) rfl ?_
       refine TQ_nil ?_
       exact joined true (wp 1 (lb rfl) rfl rfl rfl rfl rfl) (some_inj H).symm
      ·replace H := cond_f g_13 H
       refine TQ_on rfl rfl (by decide) rfl (pur_move rfl) rfl ?_
       refine TQ_on rfl rfl (by decide) rfl (pur_gtr rfl rfl rfl) rfl ?_
       refine TQ_on rfl rfl (by decide) rfl (pur_move rfl) rfl ?_
       refine TQ_split (t := decide (0 < (t_7 : Int))) 31 rfl (fun g_14 => ?_) (fun g_14 => ?_)
       ·replace H := cond_t g_14 H
        refine TQ_on rfl rfl (by decide) rfl (pur_fa_b fld32_1 rfl rfl) rfl ?_
        refine TQ_on rfl rfl (by decide) rfl (pur_ld_b one30 rfl rfl rfl rfl) rfl ?_
        refine TQ_on rfl rfl (by decide) rfl (pur_move rfl) rfl ?_
        refine TQ_on rfl rfl (by decide) rfl (pur_sub rfl rfl rfl (fits64 (by omega) (by omega))) rfl ?_
        obtain ⟨v_15, h_16, H⟩ := bind_inv H
        obtain ⟨n_17, hz_18, hv_19⟩ := getI_inv h_16
        refine TQ_on rfl rfl (by decide) rfl (pur_ixT (T := tFact) sl30 rfl rfl hz_18 hv_19 rfl) rfl ?_
        refine TQ_on rfl rfl (by decide) rfl (pur_ldTK (T := tFact) (i := n_17) (off := 0) rfl agg60 rfl rfl hv_19 (by decide) rfl) rfl ?_
        refine TQ_on rfl rfl (by decide) rfl (pur_ldK_b agg60 rfl rfl (lb rfl) rfl) rfl ?_
        obtain ⟨r_20, h_21, H⟩ := bind_inv H
        refine TQ_onV rfl rfl (by decide) rfl (call_static ent115 rfl) (m_impl_CompareFacts_ok _ _ _ h_21) rfl rfl ?_
        refine tqe [(1, (.b 0 0)), (16, (sl tFact db0.facts)), (17, (intA (db0.facts.length : Int))), (18, (intA (t_7 : Int))), (28, (boolA false)), (31, (boolA true)), (39, (intA r_20))] rfl ?_
        refine TQ_on rfl rfl (by decide) rfl (pur_geq rfl rfl rfl) rfl ?_
        refine TQ_on rfl rfl (by decide) rfl (pur_pick (t := true) rfl rfl rfl) rfl ?_
        refine TQ_pure rfl (pur_pick (t := false) rfl rfl rfl) rfl ?_
        refine TQ_nil ?_
        exact joined (decide (0 ≤ r_20)) (wp 1 (lb rfl) rfl rfl rfl rfl rfl) (some_inj H).symm
       ·replace H := cond_f g_14 H
        refine TQ_off rfl rfl (by decide) rfl rfl rfl ?_
        refine TQ_off rfl rfl (by decide) rfl rfl rfl ?_
        refine TQ_off rfl rfl (by decide) rfl rfl rfl ?_
        refine TQ_off rfl rfl (by decide) rfl rfl rfl ?_
        refine TQ_off rfl rfl (by decide) rfl rfl rfl ?_
        refine TQ_off rfl rfl (by decide) rfl rfl rfl ?_
        refine TQ_off rfl rfl (by decide) rfl rfl rfl ?_
        refine TQ_off rfl rfl (by decide) rfl rfl rfl ?_
        refine tqe [(1, (.b 0 0)), (16, (sl tFact db0.facts)), (17, (intA (db0.facts.length : Int))), (18, (intA (t_7 : Int))), (28, (boolA false)), (31, (boolA false)), (39, (.v undef))] rfl ?_
        refine TQ_off rfl rfl (by decide) rfl rfl rfl ?_
        refine TQ_on rfl rfl (by decide) rfl (pur_pick (t := false) rfl rfl rfl) rfl ?_
        refine TQ_pure rfl (pur_pick (t := false) rfl rfl rfl) rfl ?_
        refine TQ_nil ?_
        exact joined false (wp 1 (lb rfl) rfl rfl rfl rfl rfl) (some_inj H).symm
     ·rintro _ rfl
      replace H := H_10
      refine te [(1, (.b 0 0)), (16, (sl tFact db0.facts)), (17, (intA (db0.facts.length : Int))), (18, (intA (t_7 : Int))), (42, (boolA t42_9))] rfl ?_
      refine T_cond (t := t42_9) rfl (fun c_22 => ?_) (fun c_22 => ?_)
      ·replace H := cond_t c_22 H
       refine sr ?_
       refine Tp rfl rfl (pur_assign rfl) rfl ?_
       refine TO_nil ?_
       refine te [(2, (boolA false))] rfl ?_
       refine T_ret ?_
       refine block_ret ?_
       refine then_ret ?_
       refine then_ret ?_
       refine block_ret ?_
       refine then_ret ?_
       obtain rfl := some_inj H
       obtain rfl := some_inj K8_
       replace H := onS_r N8_
       obtain rfl := some_inj H
       refine end_ret (.tmp .nil) rfl rfl ⟨?_, rfl⟩
       rfl
      ·replace H := cond_f c_22 H
       refine T_skip ?_
       refine te [(1, (.b 0 0)), (16, (sl tFact db0.facts)), (17, (intA (db0.facts.length : Int))), (18, (intA (t_7 : Int)))] rfl ?_
       refine T_region ?_
       refine Tp rfl rfl (pur_add rfl rfl rfl (fits64 (by omega) (by omega))) rfl ?_
       refine Tp rfl rfl (pur_move rfl) rfl ?_
       refine TO_nil ?_
       obtain rfl := some_inj H
       exact again (db0.facts.length - (t_7 + 1)) (t_7 + 1) (by omega) (wp 1 (lb rfl) rfl rfl rfl rfl rfl) ⟨rfl, K8_⟩
    ·replace d8 := of_decide_eq_false d8
     obtain rfl := forL_end L8_ (by omega)
     refine T_exit ?_
     refine then_exit ?_
     refine then_exit ?_
     refine block_exit ?_
     replace H := onS_l N8_
     refine te [] rfl ?_
     refine sr ?_
     refine Tp rfl rfl (pur_assign rfl) rfl ?_
     refine TO_nil ?_
     refine te [(2, (boolA true))] rfl ?_
     refine T_ret ?_
     obtain rfl := some_inj H
     refine end_ret (.tmp .nil) rfl rfl ⟨?_, rfl⟩
     rfl
end Go.Proofs.Ytlcpdlngbofgcaa

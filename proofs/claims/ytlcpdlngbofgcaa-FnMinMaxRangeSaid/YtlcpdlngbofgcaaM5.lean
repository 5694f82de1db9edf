/- Walks. -/
import Derived.Test.YtlcpdlngbofgcaaM1
import Derived.Test.YtlcpdlngbofgcaaM2
import Derived.Test.YtlcpdlngbofgcaaM3
import Derived.Test.YtlcpdlngbofgcaaM4
set_option linter.unusedVariables false
set_option linter.unusedSimpArgs false
set_option maxRecDepth 4000
namespace Go.Proofs.Ytlcpdlngbofgcaa
open Go Go.Proofs Go.Sep
set_option maxHeartbeats 1000000 in
/-- spec.MinRange -/
theorem m_spec_MinRange_ok (u : Nat) (d0 : Database) (r1 : Int) (col2 : Int) (r : (Int × Int × Bool)) (H : m_spec_MinRange u d0 r1 col2 = some r) : FnV prg 35 [(.g (tDatabase.enc d0)), (intA r1), (intA col2)] (.t [(intA r.1), (intA r.2.1), (boolA r.2.2)]) := by
  unfold m_spec_MinRange at H
  refine fnV_of_T Try.func35 rfl rfl (Nat.le_of_ble_eq_true rfl) ?_
  refine te [(0, (.g (tDatabase.enc d0))), (1, (intA r1)), (2, (intA col2))] rfl ?_
  refine sr ?_
  refine TO_cons rfl (TOp_box rfl (boxAll rfl) rfl rfl ?_)
  refine Tp rfl rfl (pur_assign rfl) rfl ?_
  refine Tp rfl rfl (pur_assign rfl) rfl ?_
  refine Tp rfl rfl (pur_assign rfl) rfl ?_
  refine TO_nil ?_
  refine te [(1, (intA r1)), (2, (intA col2)), (3, (.b 0 0))] rfl ?_
  refine sr ?_
  refine TO_cons rfl (TOp_lit (nn := 0) (k := 1) sl22 zero33 rfl rfl rfl rfl (by decide) ?_)
  refine TO_st (σ' := [.box [(sl tRelation d0.relations), (sl tFact d0.facts)], .row (flat (tSl tInt).enc ([] : (List (List Int))))]) rfl ?_
  refine Tp rfl rfl (pur_assign rfl) rfl ?_
  refine TO_nil ?_
  refine te [(1, (intA r1)), (2, (intA col2)), (3, (.b 0 0)), (9, (.m [1] 0 ([] : (List (List Int))).length (tSl tInt).k))] rfl ?_
  refine T_seq ?_
  refine sr ?_
  refine Tp rfl rfl (pur_ldK_b agg32 rfl rfl (lb rfl) rfl) rfl ?_
  refine Tp rfl rfl (pur_move rfl) rfl ?_
  refine Tp rfl rfl (pur_move rfl) rfl ?_
  obtain ⟨r_1, h_2, H⟩ := bind_inv H
  refine TO_cons rfl (TOp_callV (call_static ent59 rfl) (m_spec_l27Ok_ok u _ _ _ _ h_2) rfl rfl rfl ?_)
  refine TO_nil ?_
  refine te [(1, (intA r1)), (2, (intA col2)), (3, (.b 0 0)), (9, (.m [1] 0 ([] : (List (List Int))).length (tSl tInt).k)), (17, (boolA r_1))] rfl ?_
  refine T_cond (t := r_1) rfl (fun c_3 => ?_) (fun c_3 => ?_)
  ·replace H := cond_t c_3 H
   refine T_region ?_
   refine Tp rfl rfl (pur_ldK_b agg32 rfl rfl (lb rfl) rfl) rfl ?_
   refine Tp rfl rfl (pur_move rfl) rfl ?_
   refine Tp rfl rfl (pur_move rfl) rfl ?_
   obtain ⟨r_4, h_5, H⟩ := bind_inv H
   refine TO_cons rfl (TOp_callV (call_static ent68 rfl) (m_spec_l27Vals_ok u _ _ _ _ h_5) rfl rfl rfl ?_)
   refine Tp rfl rfl (pur_assign rfl) rfl ?_
   refine TO_nil ?_
   refine te [(9, (sl (tSl tInt) r_4))] rfl ?_
   refine T_seq ?_
   refine sr ?_
   refine Tp rfl rfl (pur_move rfl) rfl ?_
   refine Tp rfl rfl (pur_lenT (T := (tSl tInt)) sl22 rfl rfl) rfl ?_
   refine Tp rfl rfl (pur_eql rfl rfl rfl) rfl ?_
   refine TO_nil ?_
   refine te [(9, (sl (tSl tInt) r_4)), (24, (boolA (decide ((r_4.length : Int) = 0))))] rfl ?_
   refine T_cond (t := decide ((r_4.length : Int) = 0)) rfl (fun c_6 => ?_) (fun c_6 => ?_)
   ·replace H := cond_t c_6 H
    refine sr ?_
    refine Tp rfl rfl (pur_assign rfl) rfl ?_
    refine Tp rfl rfl (pur_assign rfl) rfl ?_
    refine Tp rfl rfl (pur_assign rfl) rfl ?_
    refine TO_nil ?_
    refine te [(6, (intA 0)), (7, (intA 0)), (8, (boolA false))] rfl ?_
    refine T_ret ?_
    refine then_ret ?_
    obtain rfl := some_inj H
    refine end_ret (.tmp (.tmp (.tmp .nil))) rfl rfl ⟨?_, rfl⟩
    rfl
   ·replace H := cond_f c_6 H
    refine T_skip ?_
    refine te [(9, (sl (tSl tInt) r_4))] rfl ?_
    refine sr ?_
    refine Tp rfl rfl (pur_move rfl) rfl ?_
    obtain ⟨v_7, h_8, H⟩ := bind_inv H
    obtain ⟨n_9, hz_10, hv_11⟩ := getI_inv h_8
    refine Tp rfl rfl (pur_ixT (T := (tSl tInt)) sl22 rfl rfl hz_10 hv_11 rfl) rfl ?_
    refine Tp rfl rfl (pur_ldT (T := (tSl tInt)) (i := n_9) (off := 0) rfl one33 rfl rfl hv_11 rfl) rfl ?_
    obtain ⟨r_12, h_13, H⟩ := bind_inv H
    refine TO_cons rfl (TOp_callV (call_static ent69 rfl) (m_spec_l27Least_ok _ _ h_13) rfl rfl rfl ?_)
    refine Tp rfl rfl (pur_assign rfl) rfl ?_
    refine TO_nil ?_
    refine te [(9, (sl (tSl tInt) r_4)), (10, (intA r_12))] rfl ?_
    refine sr ?_
    refine Tp rfl rfl (pur_move rfl) rfl ?_
    refine Tp rfl rfl (pur_ixT (T := (tSl tInt)) sl22 rfl rfl hz_10 hv_11 rfl) rfl ?_
    refine Tp rfl rfl (pur_ldT (T := (tSl tInt)) (i := n_9) (off := 0) rfl one33 rfl rfl hv_11 rfl) rfl ?_
    obtain ⟨r_14, h_15, H⟩ := bind_inv H
    refine TO_cons rfl (TOp_callV (call_static ent70 rfl) (m_spec_l27Most_ok _ _ h_15) rfl rfl rfl ?_)
    refine Tp rfl rfl (pur_assign rfl) rfl ?_
    refine TO_nil ?_
    refine te [(9, (sl (tSl tInt) r_4)), (10, (intA r_12)), (11, (intA r_14))] rfl ?_
    refine T_seq ?_
    refine sr ?_
    refine Tp rfl rfl (pur_assign rfl) rfl ?_
    refine TO_nil ?_
    refine te [(9, (sl (tSl tInt) r_4)), (10, (intA r_12)), (11, (intA r_14)), (12, (intA 1))] rfl ?_
    obtain ⟨O17_, L17_, N17_⟩ := bind_inv H
    clear H
    obtain ⟨B17_, hb17, L17_⟩ := gen_forS L17_
    refine T_block ?_
    refine T_loopX (fun k => fun (x_ : Nat × Int × Int) => k = r_4.length - x_.1 ∧ forS B17_ (r_4.drop x_.1) (x_.1 : Int) (x_.2.1, x_.2.2) = some O17_) (fun (x_ : Nat × Int × Int) => [(9, (sl (tSl tInt) r_4)), (10, (intA x_.2.1)), (11, (intA x_.2.2)), (12, (intA (x_.1 : Int)))]) (fun (x_ : Nat × Int × Int) => [.box [(sl tRelation d0.relations), (sl tFact d0.facts)], .row (flat (tSl tInt).enc ([] : (List (List Int))))]) _ (1, (r_12, r_14)) (wp 2 (lb rfl) rfl rfl rfl rfl rfl) ⟨rfl, L17_⟩ ?_
    rintro _ ⟨i_16, lo10, hi11⟩ ⟨rfl, L17_⟩
    refine te [(9, (sl (tSl tInt) r_4)), (10, (intA lo10)), (11, (intA hi11)), (12, (intA (i_16 : Int)))] rfl ?_
    refine T_st (σ' := [.box [(sl tRelation d0.relations), (sl tFact d0.facts)], .row (flat (tSl tInt).enc ([] : (List (List Int))))]) rfl ?_
    refine T_fact (len_sl (T := (tSl tInt)) (.tmp 9) rfl) (fun hl17 => ?_)
    refine T_seq ?_
    refine sr ?_
    refine Tp rfl rfl (pur_move rfl) rfl ?_
    refine Tp rfl rfl (pur_move rfl) rfl ?_
    refine Tp rfl rfl (pur_lenT (T := (tSl tInt)) sl22 rfl rfl) rfl ?_
    refine Tp rfl rfl (pur_lss rfl rfl rfl) rfl ?_
    refine TO_nil ?_
    refine te [(9, (sl (tSl tInt) r_4)), (10, (intA lo10)), (11, (intA hi11)), (12, (intA (i_16 : Int))), (36, (boolA (decide ((i_16 : Int) < (r_4.length : Int)))))] rfl ?_
    refine T_cond (t := decide ((i_16 : Int) < (r_4.length : Int))) rfl (fun d17 => ?_) (fun d17 => ?_)
    ·replace d17 := of_decide_eq_true d17
     obtain ⟨x_i_16, hx_i_16⟩ : ∃ v, (r_4)[i_16]? = some v := ⟨_, List.getElem?_eq_getElem (by omega)⟩
     obtain ⟨C17_, H, K17_⟩ := forS_step L17_ hx_i_16
     rw [hb17] at H
     refine T_skip ?_
     refine te [(9, (sl (tSl tInt) r_4)), (10, (intA lo10)), (11, (intA hi11)), (12, (intA (i_16 : Int)))] rfl ?_
     refine T_seq ?_
     refine T_block ?_
     refine sr ?_
     refine Tp rfl rfl (pur_move rfl) rfl ?_
     refine Tp rfl rfl (pur_move rfl) rfl ?_
     refine Tp rfl rfl (pur_move rfl) rfl ?_
     refine Tp rfl rfl (pur_ixT (T := (tSl tInt)) sl22 rfl rfl rfl hx_i_16 rfl) rfl ?_
     refine Tp rfl rfl (pur_ldT (T := (tSl tInt)) (i := i_16) (off := 0) rfl one33 rfl rfl hx_i_16 rfl) rfl ?_
     obtain ⟨r_18, h_19, H⟩ := bind_inv H
     refine TO_cons rfl (TOp_callV (call_static ent69 rfl) (m_spec_l27Least_ok _ _ h_19) rfl rfl rfl ?_)
     refine Tp rfl rfl (pur_min rfl rfl rfl) rfl ?_
     refine Tp rfl rfl (pur_assign rfl) rfl ?_
     refine TO_nil ?_
     refine te [(9, (sl (tSl tInt) r_4)), (10, (intA (if r_18 < lo10 then r_18 else lo10))), (11, (intA hi11)), (12, (intA (i_16 : Int)))] rfl ?_
     refine T_region ?_
     refine Tp rfl rfl (pur_move rfl) rfl ?_
     refine Tp rfl rfl (pur_move rfl) rfl ?_
     refine Tp rfl rfl (pur_move rfl) rfl ?_
     refine Tp rfl rfl (pur_ixT (T := (tSl tInt)) sl22 rfl rfl rfl hx_i_16 rfl) rfl ?_
     refine Tp rfl rfl (pur_ldT (T := (tSl tInt)) (i := i_16) (off := 0) rfl one33 rfl rfl hx_i_16 rfl) rfl ?_
     obtain ⟨r_20, h_21, H⟩ := bind_inv H
     refine TO_cons rfl (TOp_callV (call_static ent70 rfl) (m_spec_l27Most_ok _ _ h_21) rfl rfl rfl ?_)
     refine Tp rfl rfl (pur_min rfl rfl rfl) rfl ?_
     refine Tp rfl rfl (pur_assign rfl) rfl ?_
     refine TO_nil ?_
     refine te [(9, (sl (tSl tInt) r_4)), (10, (intA (if r_18 < lo10 then r_18 else lo10))), (11, (intA (if r_20 < hi11 then r_20 else hi11))), (12, (intA (i_16 : Int)))] rfl ?_
     refine T_region ?_
     refine Tp rfl rfl (pur_move rfl) rfl ?_
     refine Tp rfl rfl (pur_add rfl rfl rfl (fits64 (by omega) (by omega))) rfl ?_
     refine Tp rfl rfl (pur_assign rfl) rfl ?_
     refine TO_nil ?_
     obtain rfl := some_inj H
     exact again (r_4.length - (i_16 + 1)) (i_16 + 1, ((if r_18 < lo10 then r_18 else lo10), (if r_20 < hi11 then r_20 else hi11))) (by omega) (wp 2 (lb rfl) rfl rfl rfl rfl rfl) ⟨rfl, K17_⟩
    ·replace d17 := of_decide_eq_false d17
     obtain rfl := forS_end L17_ (by omega)
     refine T_exit ?_
     refine then_exit ?_
     refine then_exit ?_
     refine block_exit ?_
     replace H := N17_
     refine te [(10, (intA lo10)), (11, (intA hi11))] rfl ?_
     refine sr ?_
     refine Tp rfl rfl (pur_move rfl) rfl ?_
     refine Tp rfl rfl (pur_move rfl) rfl ?_
     refine Tp rfl rfl (pur_assign rfl) rfl ?_
     refine Tp rfl rfl (pur_assign rfl) rfl ?_
     refine Tp rfl rfl (pur_assign rfl) rfl ?_
     refine TO_nil ?_
     refine te [(6, (intA lo10)), (7, (intA hi11)), (8, (boolA true))] rfl ?_
     refine T_ret ?_
     obtain rfl := some_inj H
     refine end_ret (.tmp (.tmp (.tmp .nil))) rfl rfl ⟨?_, rfl⟩
     rfl
  ·replace H := cond_f c_3 H
   refine T_skip ?_
   refine te [(9, (.m [1] 0 ([] : (List (List Int))).length (tSl tInt).k))] rfl ?_
   refine T_seq ?_
   refine sr ?_
   refine Tp rfl rfl (pur_move rfl) rfl ?_
   refine Tp rfl rfl (pur_len_m sl22 rfl rfl) rfl ?_
   refine Tp rfl rfl (pur_eql rfl rfl rfl) rfl ?_
   refine TO_nil ?_
   refine te [(9, (.m [1] 0 ([] : (List (List Int))).length (tSl tInt).k)), (24, (boolA (decide ((([] : (List (List Int))).length : Int) = 0))))] rfl ?_
   refine T_cond (t := decide ((([] : (List (List Int))).length : Int) = 0)) rfl (fun c_22 => ?_) (fun c_22 => ?_)
   ·replace H := cond_t c_22 H
    refine sr ?_
    refine Tp rfl rfl (pur_assign rfl) rfl ?_
    refine Tp rfl rfl (pur_assign rfl) rfl ?_
    refine Tp rfl rfl (pur_assign rfl) rfl ?_
    refine TO_nil ?_
    refine te [(6, (intA 0)), (7, (intA 0)), (8, (boolA false))] rfl ?_
    refine T_ret ?_
    refine then_ret ?_
    obtain rfl := some_inj H
    refine end_ret (.tmp (.tmp (.tmp .nil))) rfl rfl ⟨?_, rfl⟩
    rfl
   ·replace H := cond_f c_22 H
    refine T_skip ?_
    refine te [(9, (.m [1] 0 ([] : (List (List Int))).length (tSl tInt).k))] rfl ?_
    refine sr ?_
    refine Tp rfl rfl (pur_move rfl) rfl ?_
    obtain ⟨v_23, h_24, H⟩ := bind_inv H
    obtain ⟨n_25, hz_26, hv_27⟩ := getI_inv h_24
    refine Tp rfl rfl (pur_ixM (T := (tSl tInt)) sl22 rfl rfl hz_26 hv_27 rfl) rfl ?_
    refine Tp rfl rfl (pur_ldE (f := (tSl tInt).enc) (k := (tSl tInt).k) (i := n_25) (off := 0) (tSl tInt).len rfl one33 rfl rfl rfl hv_27 rfl rfl) rfl ?_
    obtain ⟨r_28, h_29, H⟩ := bind_inv H
    refine TO_cons rfl (TOp_callV (call_static ent69 rfl) (m_spec_l27Least_ok _ _ h_29) rfl rfl rfl ?_)
    refine Tp rfl rfl (pur_assign rfl) rfl ?_
    refine TO_nil ?_
    refine te [(9, (.m [1] 0 ([] : (List (List Int))).length (tSl tInt).k)), (10, (intA r_28))] rfl ?_
    refine sr ?_
    refine Tp rfl rfl (pur_move rfl) rfl ?_
    refine Tp rfl rfl (pur_ixM (T := (tSl tInt)) sl22 rfl rfl hz_26 hv_27 rfl) rfl ?_
    refine Tp rfl rfl (pur_ldE (f := (tSl tInt).enc) (k := (tSl tInt).k) (i := n_25) (off := 0) (tSl tInt).len rfl one33 rfl rfl rfl hv_27 rfl rfl) rfl ?_
    obtain ⟨r_30, h_31, H⟩ := bind_inv H
    refine TO_cons rfl (TOp_callV (call_static ent70 rfl) (m_spec_l27Most_ok _ _ h_31) rfl rfl rfl ?_)
    refine Tp rfl rfl (pur_assign rfl) rfl ?_
    refine TO_nil ?_
    refine te [(9, (.m [1] 0 ([] : (List (List Int))).length (tSl tInt).k)), (10, (intA r_28)), (11, (intA r_30))] rfl ?_
    refine T_seq ?_
    refine sr ?_
    refine Tp rfl rfl (pur_assign rfl) rfl ?_
    refine TO_nil ?_
    refine te [(9, (.m [1] 0 ([] : (List (List Int))).length (tSl tInt).k)), (10, (intA r_28)), (11, (intA r_30)), (12, (intA 1))] rfl ?_
    obtain ⟨O33_, L33_, N33_⟩ := bind_inv H
    clear H
    obtain ⟨B33_, hb33, L33_⟩ := gen_forS L33_
    refine T_block ?_
    refine T_loopX (fun k => fun (x_ : Nat × Int × Int) => k = ([] : (List (List Int))).length - x_.1 ∧ forS B33_ (([] : (List (List Int))).drop x_.1) (x_.1 : Int) (x_.2.1, x_.2.2) = some O33_) (fun (x_ : Nat × Int × Int) => [(9, (.m [1] 0 ([] : (List (List Int))).length (tSl tInt).k)), (10, (intA x_.2.1)), (11, (intA x_.2.2)), (12, (intA (x_.1 : Int)))]) (fun (x_ : Nat × Int × Int) => [.box [(sl tRelation d0.relations), (sl tFact d0.facts)], .row (flat (tSl tInt).enc ([] : (List (List Int))))]) _ (1, (r_28, r_30)) (wp 2 (lb rfl) rfl rfl rfl rfl rfl) ⟨rfl, L33_⟩ ?_
    rintro _ ⟨i_32, lo10, hi11⟩ ⟨rfl, L33_⟩
    refine te [(9, (.m [1] 0 ([] : (List (List Int))).length (tSl tInt).k)), (10, (intA lo10)), (11, (intA hi11)), (12, (intA (i_32 : Int)))] rfl ?_
    refine T_st (σ' := [.box [(sl tRelation d0.relations), (sl tFact d0.facts)], .row (flat (tSl tInt).enc ([] : (List (List Int))))]) rfl ?_
    refine T_fact (len_m (.tmp 9) rfl) (fun hl33 => ?_)
    refine T_seq ?_
    refine sr ?_
    refine Tp rfl rfl (pur_move rfl) rfl ?_
    refine Tp rfl rfl (pur_move rfl) rfl ?_
    refine Tp rfl rfl (pur_len_m sl22 rfl rfl) rfl ?_
    refine Tp rfl rfl (pur_lss rfl rfl rfl) rfl ?_
    refine TO_nil ?_
    refine te [(9, (.m [1] 0 ([] : (List (List Int))).length (tSl tInt).k)), (10, (intA lo10)), (11, (intA hi11)), (12, (intA (i_32 : Int))), (36, (boolA (decide ((i_32 : Int) < (([] : (List (List Int))).length : Int)))))] rfl ?_
    refine T_cond (t := decide ((i_32 : Int) < (([] : (List (List Int))).length : Int))) rfl (fun d33 => ?_) (fun d33 => ?_)
    ·replace d33 := of_decide_eq_true d33
     obtain ⟨x_i_32, hx_i_32⟩ : ∃ v, (([] : (List (List Int))))[i_32]? = some v := ⟨_, List.getElem?_eq_getElem (by omega)⟩
     obtain ⟨C33_, H, K33_⟩ := forS_step L33_ hx_i_32
     rw [hb33] at H
     refine T_skip ?_
     refine te [(9, (.m [1] 0 ([] : (List (List Int))).length (tSl tInt).k)), (10, (intA lo10)), (11, (intA hi11)), (12, (intA (i_32 : Int)))] rfl ?_
     refine T_seq ?_
     refine T_block ?_
     refine sr ?_
     refine Tp rfl rfl (pur_move rfl) rfl ?_
     refine Tp rfl rfl (pur_move rfl) rfl ?_
     refine Tp rfl rfl (pur_move rfl) rfl ?_
     refine Tp rfl rfl (pur_ixM (T := (tSl tInt)) sl22 rfl rfl rfl hx_i_32 rfl) rfl ?_
     refine Tp rfl rfl (pur_ldE (f := (tSl tInt).enc) (k := (tSl tInt).k) (i := i_32) (off := 0) (tSl tInt).len rfl one33 rfl rfl rfl hx_i_32 rfl rfl) rfl ?_
     obtain ⟨r_34, h_35, H⟩ := bind_inv H
     refine TO_cons rfl (TOp_callV (call_static ent69 rfl) (m_spec_l27Least_ok _ _ h_35) rfl rfl rfl ?_)
     refine Tp rfl rfl (pur_min rfl rfl rfl) rfl ?_
     refine Tp rfl rfl (pur_assign rfl) rfl ?_
     refine TO_nil ?_
     refine te [(9, (.m [1] 0 ([] : (List (List Int))).length (tSl tInt).k)), (10, (intA (if r_34 < lo10 then r_34 else lo10))), (11, (intA hi11)), (12, (intA (i_32 : Int)))] rfl ?_
     refine T_region ?_
     refine Tp rfl rfl (pur_move rfl) rfl ?_
     refine Tp rfl rfl (pur_move rfl) rfl ?_
     refine Tp rfl rfl (pur_move rfl) rfl ?_
     refine Tp rfl rfl (pur_ixM (T := (tSl tInt)) sl22 rfl rfl rfl hx_i_32 rfl) rfl ?_
     refine Tp rfl rfl (pur_ldE (f := (tSl tInt).enc) (k := (tSl tInt).k) (i := i_32) (off := 0) (tSl tInt).len rfl one33 rfl rfl rfl hx_i_32 rfl rfl) rfl ?_
     obtain ⟨r_36, h_37, H⟩ := bind_inv H
     refine TO_cons rfl (TOp_callV (call_static ent70 rfl) (m_spec_l27Most_ok _ _ h_37) rfl rfl rfl ?_)
     refine Tp rfl rfl (pur_min rfl rfl rfl) rfl ?_
     refine Tp rfl rfl (pur_assign rfl) rfl ?_
     refine TO_nil ?_
     refine te [(9, (.m [1] 0 ([] : (List (List Int))).length (tSl tInt).k)), (10, (intA (if r_34 < lo10 then r_34 else lo10))), (11, (intA (if r_36 < hi11 then r_36 else hi11))), (12, (intA (i_32 : Int)))] rfl ?_
     refine T_region ?_
     refine Tp rfl rfl (pur_move rfl) rfl ?_
     refine Tp rfl rfl (pur_add rfl rfl rfl (fits64 (by omega) (by omega))) rfl ?_
     refine Tp rfl rfl (pur_assign rfl) rfl ?_
     refine TO_nil ?_
     obtain rfl := some_inj H
     exact again (([] : (List (List Int))).length - (i_32 + 1)) (i_32 + 1, ((if r_34 < lo10 then r_34 else lo10), (if r_36 < hi11 then r_36 else hi11))) (by omega) (wp 2 (lb rfl) rfl rfl rfl rfl rfl) ⟨rfl, K33_⟩
    ·replace d33 := of_decide_eq_false d33
     obtain rfl := forS_end L33_ (by omega)
     refine T_exit ?_
     refine then_exit ?_
     refine then_exit ?_
     refine block_exit ?_
     replace H := N33_
     refine te [(10, (intA lo10)), (11, (intA hi11))] rfl ?_
     refine sr ?_
     refine Tp rfl rfl (pur_move rfl) rfl ?_
     refine Tp rfl rfl (pur_move rfl) rfl ?_
     refine Tp rfl rfl (pur_assign rfl) rfl ?_
     refine Tp rfl rfl (pur_assign rfl) rfl ?_
     refine Tp rfl rfl (pur_assign rfl) rfl ?_
     refine TO_nil ?_
     refine te [(6, (intA lo10)), (7, (intA hi11)), (8, (boolA true))] rfl ?_
     refine T_ret ?_
     obtain rfl := some_inj H
     refine end_ret (.tmp (.tmp (.tmp .nil))) rfl rfl ⟨?_, rfl⟩
     rfl

set_option maxHeartbeats 1000000 in
/-- slices.Min[[]int,int] -/
theorem m_slices_Min_Sint_int_ok (x0 : (List Int)) (r : Int) (H : m_slices_Min_Sint_int x0 = some r) : FnV prg 73 [(sl tInt x0)] (intA r) := by
  unfold m_slices_Min_Sint_int at H
  refine fnV_of_T Try.func73 rfl rfl (Nat.le_of_ble_eq_true rfl) ?_
  refine te [(0, (sl tInt x0))] rfl ?_
  refine sr ?_
  refine Tp rfl rfl (pur_assign rfl) rfl ?_
  refine TO_nil ?_
  refine te [(0, (sl tInt x0))] rfl ?_
  refine T_seq ?_
  refine sr ?_
  refine Tp rfl rfl (pur_move rfl) rfl ?_
  refine Tp rfl rfl (pur_lenT (T := tInt) sl33 rfl rfl) rfl ?_
  refine Tp rfl rfl (pur_lss rfl rfl rfl) rfl ?_
  refine TO_nil ?_
  refine te [(0, (sl tInt x0)), (7, (boolA (decide ((x0.length : Int) < 1))))] rfl ?_
  refine T_cond (t := decide ((x0.length : Int) < 1)) rfl (fun c_1 => ?_) (fun c_1 => ?_)
  ·replace H := cond_t c_1 H
   cases H
  ·replace H := cond_f c_1 H
   refine T_skip ?_
   refine te [(0, (sl tInt x0))] rfl ?_
   refine sr ?_
   refine Tp rfl rfl (pur_move rfl) rfl ?_
   obtain ⟨v_2, h_3, H⟩ := bind_inv H
   obtain ⟨n_4, hz_5, hv_6⟩ := getI_inv h_3
   refine Tp rfl rfl (pur_ixT (T := tInt) sl33 rfl rfl hz_5 hv_6 rfl) rfl ?_
   refine Tp rfl rfl (pur_ldT (T := tInt) (i := n_4) (off := 0) rfl one3 rfl rfl hv_6 rfl) rfl ?_
   refine Tp rfl rfl (pur_assign rfl) rfl ?_
   refine TO_nil ?_
   refine te [(0, (sl tInt x0)), (3, (intA v_2))] rfl ?_
   refine T_seq ?_
   refine sr ?_
   refine Tp rfl rfl (pur_assign rfl) rfl ?_
   refine TO_nil ?_
   refine te [(0, (sl tInt x0)), (3, (intA v_2)), (4, (intA 1))] rfl ?_
   obtain ⟨O8_, L8_, N8_⟩ := bind_inv H
   clear H
   obtain ⟨B8_, hb8, L8_⟩ := gen_forS L8_
   refine T_block ?_
   refine T_loopX (fun k => fun (x_ : Nat × Int) => k = x0.length - x_.1 ∧ forS B8_ (x0.drop x_.1) (x_.1 : Int) x_.2 = some O8_) (fun (x_ : Nat × Int) => [(0, (sl tInt x0)), (3, (intA x_.2)), (4, (intA (x_.1 : Int)))]) (fun (x_ : Nat × Int) => []) _ (1, v_2) (wp 0 (lb rfl) rfl rfl rfl rfl rfl) ⟨rfl, L8_⟩ ?_
   rintro _ ⟨i_7, m3⟩ ⟨rfl, L8_⟩
   refine te [(0, (sl tInt x0)), (3, (intA m3)), (4, (intA (i_7 : Int)))] rfl ?_
   refine T_st (σ' := []) rfl ?_
   refine T_fact (len_sl (T := tInt) (.tmp 0) rfl) (fun hl8 => ?_)
   refine T_seq ?_
   refine sr ?_
   refine Tp rfl rfl (pur_move rfl) rfl ?_
   refine Tp rfl rfl (pur_move rfl) rfl ?_
   refine Tp rfl rfl (pur_lenT (T := tInt) sl33 rfl rfl) rfl ?_
   refine Tp rfl rfl (pur_lss rfl rfl rfl) rfl ?_
   refine TO_nil ?_
   refine te [(0, (sl tInt x0)), (3, (intA m3)), (4, (intA (i_7 : Int))), (15, (boolA (decide ((i_7 : Int) < (x0.length : Int)))))] rfl ?_
   refine T_cond (t := decide ((i_7 : Int) < (x0.length : Int))) rfl (fun d8 => ?_) (fun d8 => ?_)
   ·replace d8 := of_decide_eq_true d8
    obtain ⟨x_i_7, hx_i_7⟩ : ∃ v, (x0)[i_7]? = some v := ⟨_, List.getElem?_eq_getElem (by omega)⟩
    obtain ⟨C8_, H, K8_⟩ := forS_step L8_ hx_i_7
    rw [hb8] at H
    refine T_skip ?_
    refine te [(0, (sl tInt x0)), (3, (intA m3)), (4, (intA (i_7 : Int)))] rfl ?_
    refine T_seq ?_
    refine T_block ?_
    refine T_region ?_
    refine Tp rfl rfl (pur_move rfl) rfl ?_
    refine Tp rfl rfl (pur_move rfl) rfl ?_
    refine Tp rfl rfl (pur_move rfl) rfl ?_
    refine Tp rfl rfl (pur_ixT (T := tInt) sl33 rfl rfl rfl hx_i_7 rfl) rfl ?_
    refine Tp rfl rfl (pur_ldT (T := tInt) (i := i_7) (off := 0) rfl one3 rfl rfl hx_i_7 rfl) rfl ?_
    refine Tp rfl rfl (pur_min rfl rfl rfl) rfl ?_
    refine Tp rfl rfl (pur_assign rfl) rfl ?_
    refine TO_nil ?_
    refine te [(0, (sl tInt x0)), (3, (intA (if x_i_7 < m3 then x_i_7 else m3))), (4, (intA (i_7 : Int)))] rfl ?_
    refine T_region ?_
    refine Tp rfl rfl (pur_move rfl) rfl ?_
    refine Tp rfl rfl (pur_add rfl rfl rfl (fits64 (by omega) (by omega))) rfl ?_
    refine Tp rfl rfl (pur_assign rfl) rfl ?_
    refine TO_nil ?_
    obtain rfl := some_inj H
    exact again (x0.length - (i_7 + 1)) (i_7 + 1, (if x_i_7 < m3 then x_i_7 else m3)) (by omega) (wp 0 (lb rfl) rfl rfl rfl rfl rfl) ⟨rfl, K8_⟩
   ·replace d8 := of_decide_eq_false d8
    obtain rfl := forS_end L8_ (by omega)
    refine T_exit ?_
    refine then_exit ?_
    refine then_exit ?_
    refine block_exit ?_
    replace H := N8_
    refine te [(3, (intA m3))] rfl ?_
    refine sr ?_
    refine Tp rfl rfl (pur_move rfl) rfl ?_
    refine Tp rfl rfl (pur_assign rfl) rfl ?_
    refine TO_nil ?_
    refine te [(2, (intA m3))] rfl ?_
    refine T_ret ?_
    obtain rfl := some_inj H
    refine end_ret (.tmp .nil) rfl rfl ⟨?_, rfl⟩
    rfl

set_option maxHeartbeats 1000000 in
/-- impl.MinRange -/
theorem m_impl_MinRange_ok (u : Nat) (db0 : Database) (relation1 : Int) (column2 : Int) (r : (Int × Int × Bool)) (H : m_impl_MinRange u db0 relation1 column2 = some r) : FnV prg 36 [(.g (tDatabase.enc db0)), (intA relation1), (intA column2)] (.t [(intA r.1), (intA r.2.1), (boolA r.2.2)]) := by
  unfold m_impl_MinRange at H
  refine fnV_of_T Try.func36 rfl rfl (Nat.le_of_ble_eq_true rfl) ?_
  refine te [(0, (.g (tDatabase.enc db0))), (1, (intA relation1)), (2, (intA column2))] rfl ?_
  refine sr ?_
  refine TO_cons rfl (TOp_box rfl (boxAll rfl) rfl rfl ?_)
  refine Tp rfl rfl (pur_assign rfl) rfl ?_
  refine Tp rfl rfl (pur_assign rfl) rfl ?_
  refine Tp rfl rfl (pur_assign rfl) rfl ?_
  refine TO_nil ?_
  refine te [(1, (intA relation1)), (2, (intA column2)), (3, (.b 0 0))] rfl ?_
  refine sr ?_
  refine Tp rfl rfl (pur_ldK_b agg32 rfl rfl (lb rfl) rfl) rfl ?_
  refine Tp rfl rfl (pur_move rfl) rfl ?_
  refine Tp rfl rfl (pur_move rfl) rfl ?_
  obtain ⟨r_1, h_2, H⟩ := bind_inv H
  refine TO_cons rfl (TOp_callV (call_static ent71 rfl) (m_impl_columnRange_ok u _ _ _ _ (fun x0 => m_slices_Min_Sint_int x0) 73 [] ent73 rfl ⟨rfl, rfl⟩ (fun x0 r h => m_slices_Min_Sint_int_ok x0  r h) _ h_2) rfl rfl rfl ?_)
  refine Tp rfl rfl (pur_extract rfl rfl rfl) rfl ?_
  refine Tp rfl rfl (pur_extract rfl rfl rfl) rfl ?_
  refine Tp rfl rfl (pur_extract rfl rfl rfl) rfl ?_
  refine Tp rfl rfl (pur_assign rfl) rfl ?_
  refine Tp rfl rfl (pur_assign rfl) rfl ?_
  refine Tp rfl rfl (pur_assign rfl) rfl ?_
  refine TO_nil ?_
  refine te [(6, (intA r_1.1)), (7, (intA r_1.2.1)), (8, (boolA r_1.2.2))] rfl ?_
  refine T_ret ?_
  obtain rfl := some_inj H
  refine end_ret (.tmp (.tmp (.tmp .nil))) rfl rfl ⟨?_, rfl⟩
  rfl

set_option maxHeartbeats 1000000 in
/-- spec.BlockSizes -/
theorem m_spec_BlockSizes_own (u : Nat) (d0 : Database) (r : (List Int)) (H : m_spec_BlockSizes u d0 = some r) : FnO prg 77 [(.g (tDatabase.enc d0))] (.m [0] 0 r.length tInt.k) [.row (flat tInt.own r)] := by
  unfold m_spec_BlockSizes at H
  refine fnO_of_T Try.func77 rfl rfl (Nat.le_of_ble_eq_true rfl) ?_
  refine te [(0, (.g (tDatabase.enc d0)))] rfl ?_
  refine sr ?_
  refine TO_cons rfl (TOp_box rfl (boxAll rfl) rfl rfl ?_)
  refine Tp rfl rfl (pur_assign rfl) rfl ?_
  refine TO_nil ?_
  refine te [(1, (.b 0 0))] rfl ?_
  refine sr ?_
  refine TO_cons rfl (TOp_lit (nn := 0) (k := 1) sl33 zero3 rfl rfl rfl rfl (by decide) ?_)
  refine TO_st (σ' := [.box [(sl tRelation d0.relations), (sl tFact d0.facts)], .row (flat tInt.enc ([] : (List Int)))]) rfl ?_
  refine Tp rfl rfl (pur_assign rfl) rfl ?_
  refine TO_nil ?_
  refine te [(1, (.b 0 0)), (3, (.m [1] 0 ([] : (List Int)).length tInt.k))] rfl ?_
  refine sr ?_
  refine Tp rfl rfl (pur_ldK_b agg32 rfl rfl (lb rfl) rfl) rfl ?_
  obtain ⟨r_1, h_2, H⟩ := bind_inv H
  refine TO_cons rfl (TOp_callV (call_static ent79 rfl) (m_spec_Blocks_ok u _ _ h_2) rfl rfl rfl ?_)
  refine Tp rfl rfl (pur_assign rfl) rfl ?_
  refine TO_nil ?_
  refine te [(3, (.m [1] 0 ([] : (List Int)).length tInt.k)), (4, (sl (tSl tInt) r_1))] rfl ?_
  refine T_seq ?_
  refine sr ?_
  refine Tp rfl rfl (pur_assign rfl) rfl ?_
  refine TO_nil ?_
  refine te [(3, (.m [1] 0 ([] : (List Int)).length tInt.k)), (4, (sl (tSl tInt) r_1)), (5, (intA 0))] rfl ?_
  obtain ⟨O4_, L4_, N4_⟩ := bind_inv H
  clear H
  obtain ⟨B4_, hb4, L4_⟩ := gen_forS L4_
  refine T_block ?_
  refine T_loopX (fun k => fun (x_ : Nat × (List Int)) => k = r_1.length - x_.1 ∧ forS B4_ (r_1.drop x_.1) (x_.1 : Int) x_.2 = some O4_) (fun (x_ : Nat × (List Int)) => [(3, (.m [1] 0 x_.2.length tInt.k)), (4, (sl (tSl tInt) r_1)), (5, (intA (x_.1 : Int)))]) (fun (x_ : Nat × (List Int)) => [.box [(sl tRelation d0.relations), (sl tFact d0.facts)], .row (flat tInt.enc x_.2)]) _ (0, ([] : (List Int))) (wp 2 (lb rfl) rfl rfl rfl rfl rfl) ⟨rfl, L4_⟩ ?_
  rintro _ ⟨i_3, out3⟩ ⟨rfl, L4_⟩
  refine te [(3, (.m [1] 0 out3.length tInt.k)), (4, (sl (tSl tInt) r_1)), (5, (intA (i_3 : Int)))] rfl ?_
  refine T_st (σ' := [.box [(sl tRelation d0.relations), (sl tFact d0.facts)], .row (flat tInt.enc out3)]) rfl ?_
  refine T_fact (len_sl (T := (tSl tInt)) (.tmp 4) rfl) (fun hl4 => ?_)
  refine T_seq ?_
  refine sr ?_
  refine Tp rfl rfl (pur_move rfl) rfl ?_
  refine Tp rfl rfl (pur_move rfl) rfl ?_
  refine Tp rfl rfl (pur_lenT (T := (tSl tInt)) sl22 rfl rfl) rfl ?_
  refine Tp rfl rfl (pur_lss rfl rfl rfl) rfl ?_
  refine TO_nil ?_
  refine te [(3, (.m [1] 0 out3.length tInt.k)), (4, (sl (tSl tInt) r_1)), (5, (intA (i_3 : Int))), (12, (boolA (decide ((i_3 : Int) < (r_1.length : Int)))))] rfl ?_
  refine T_cond (t := decide ((i_3 : Int) < (r_1.length : Int))) rfl (fun d4 => ?_) (fun d4 => ?_)
  ·replace d4 := of_decide_eq_true d4
   obtain ⟨x_i_3, hx_i_3⟩ : ∃ v, (r_1)[i_3]? = some v := ⟨_, List.getElem?_eq_getElem (by omega)⟩
   obtain ⟨C4_, H, K4_⟩ := forS_step L4_ hx_i_3
   rw [hb4] at H
   refine T_skip ?_
   refine te [(3, (.m [1] 0 out3.length tInt.k)), (4, (sl (tSl tInt) r_1)), (5, (intA (i_3 : Int)))] rfl ?_
   refine T_seq ?_
   refine T_block ?_
   refine T_region ?_
   refine Tp rfl rfl (pur_move rfl) rfl ?_
   refine Tp rfl rfl (pur_move rfl) rfl ?_
   refine Tp rfl rfl (pur_move rfl) rfl ?_
   refine Tp rfl rfl (pur_ixT (T := (tSl tInt)) sl22 rfl rfl rfl hx_i_3 rfl) rfl ?_
   refine Tp rfl rfl (pur_ldT (T := (tSl tInt)) (i := i_3) (off := 0) rfl one33 rfl rfl hx_i_3 rfl) rfl ?_
   refine Tp rfl rfl (pur_lenT (T := tInt) sl33 rfl rfl) rfl ?_
   refine TO_cons rfl (TOp_lit (nn := 1) (k := 1) sl33 zero3 rfl rfl rfl rfl (by decide) ?_)
   refine TO_st (σ' := [.box [(sl tRelation d0.relations), (sl tFact d0.facts)], .row (flat tInt.enc out3), .row (flat tInt.enc ([(x_i_3.length : Int)] : (List Int)))]) rfl ?_
   obtain ⟨us_5, h_6, H⟩ := bind_inv H
   refine TO_cons rfl (TOp_appZ (T := tInt) (f := tInt.enc) (xs := out3) (ys := ([(x_i_3.length : Int)] : (List Int))) tInt.len sl33 zero3 rfl bytes3 (by decide) rfl rfl rfl rfl (src_mT (f := tInt.enc) tInt.len rfl rfl (flat_cell tInt _)) (flat_cell tInt _) h_6 (lb rfl) ?_)
   refine toe [(4, (sl (tSl tInt) r_1)), (5, (intA (i_3 : Int))), (16, (sl (tSl tInt) r_1)), (17, (intA (i_3 : Int))), (18, (.q (flat (tSl tInt).enc r_1) (i_3 * (tSl tInt).k))), (19, (sl tInt x_i_3)), (20, (intA (x_i_3.length : Int))), (21, (.m [2] 0 ([(x_i_3.length : Int)] : (List Int)).length tInt.k)), (22, (.m [1] 0 us_5.length tInt.k))] rfl ?_
   refine TO_st (σ' := [.box [(sl tRelation d0.relations), (sl tFact d0.facts)], .row (flat tInt.enc us_5), .row (flat tInt.enc ([(x_i_3.length : Int)] : (List Int))), .dead]) rfl ?_
   refine Tp rfl rfl (pur_assign rfl) rfl ?_
   refine TO_nil ?_
   refine te [(3, (.m [1] 0 us_5.length tInt.k)), (4, (sl (tSl tInt) r_1)), (5, (intA (i_3 : Int)))] rfl ?_
   refine T_region ?_
   refine Tp rfl rfl (pur_move rfl) rfl ?_
   refine Tp rfl rfl (pur_add rfl rfl rfl (fits64 (by omega) (by omega))) rfl ?_
   refine Tp rfl rfl (pur_assign rfl) rfl ?_
   refine TO_nil ?_
   obtain rfl := some_inj H
   exact again (r_1.length - (i_3 + 1)) (i_3 + 1, us_5) (by omega) (wp 2 (lb rfl) rfl rfl rfl rfl rfl) ⟨rfl, K4_⟩
  ·replace d4 := of_decide_eq_false d4
   obtain rfl := forS_end L4_ (by omega)
   refine T_exit ?_
   refine then_exit ?_
   refine then_exit ?_
   refine block_exit ?_
   replace H := N4_
   refine te [(3, (.m [1] 0 out3.length tInt.k))] rfl ?_
   refine sr ?_
   refine Tp rfl rfl (pur_move rfl) rfl ?_
   refine Tp rfl rfl (pur_assign rfl) rfl ?_
   refine TO_nil ?_
   refine te [(2, (.m [1] 0 out3.length tInt.k))] rfl ?_
   refine T_ret ?_
   obtain rfl := some_inj H
   exact end_pick (.tmp .nil) rfl [1] (by decide) rfl rfl rfl rfl rfl rfl
theorem m_spec_BlockSizes_ok (u : Nat) (d0 : Database) (r : (List Int)) (H : m_spec_BlockSizes u d0 = some r) : FnV prg 77 [(.g (tDatabase.enc d0))] (sl tInt r) := (m_spec_BlockSizes_own u d0 r H).frz (frzT (T := tInt) rfl)

set_option maxHeartbeats 1000000 in
/-- spec.CountRepairs -/
theorem m_spec_CountRepairs_ok (u : Nat) (d0 : Database) (r : Int) (H : m_spec_CountRepairs u d0 = some r) : FnV prg 40 [(.g (tDatabase.enc d0))] (intA r) := by
  unfold m_spec_CountRepairs at H
  refine fnV_of_T Try.func40 rfl rfl (Nat.le_of_ble_eq_true rfl) ?_
  refine te [(0, (.g (tDatabase.enc d0)))] rfl ?_
  refine sr ?_
  refine TO_cons rfl (TOp_box rfl (boxAll rfl) rfl rfl ?_)
  refine Tp rfl rfl (pur_assign rfl) rfl ?_
  refine TO_nil ?_
  refine te [(1, (.b 0 0))] rfl ?_
  refine T_seq ?_
  refine sr ?_
  refine Tp rfl rfl (pur_ldK_b agg32 rfl rfl (lb rfl) rfl) rfl ?_
  obtain ⟨r_1, h_2, H⟩ := bind_inv H
  refine TO_cons rfl (TOp_callV (call_static ent76 rfl) (m_spec_IsValidDatabase_ok u _ _ h_2) rfl rfl rfl ?_)
  refine Tp rfl rfl (pur_not rfl rfl) rfl ?_
  refine TO_nil ?_
  refine te [(1, (.b 0 0)), (8, (boolA (!r_1)))] rfl ?_
  refine T_cond (t := (!r_1)) rfl (fun c_3 => ?_) (fun c_3 => ?_)
  ·replace H := cond_t c_3 H
   refine sr ?_
   refine Tp rfl rfl (pur_assign rfl) rfl ?_
   refine TO_nil ?_
   refine te [(2, (intA 0))] rfl ?_
   refine T_ret ?_
   refine then_ret ?_
   obtain rfl := some_inj H
   refine end_ret (.tmp .nil) rfl rfl ⟨?_, rfl⟩
   rfl
  ·replace H := cond_f c_3 H
   refine T_skip ?_
   refine te [(1, (.b 0 0))] rfl ?_
   refine sr ?_
   refine Tp rfl rfl (pur_assign rfl) rfl ?_
   refine TO_nil ?_
   refine te [(1, (.b 0 0)), (3, (intA 1))] rfl ?_
   refine sr ?_
   refine Tp rfl rfl (pur_ldK_b agg32 rfl rfl (lb rfl) rfl) rfl ?_
   obtain ⟨r_4, h_5, H⟩ := bind_inv H
   refine TO_cons rfl (TOp_callV (call_static ent77 rfl) (m_spec_BlockSizes_ok u _ _ h_5) rfl rfl rfl ?_)
   refine Tp rfl rfl (pur_assign rfl) rfl ?_
   refine TO_nil ?_
   refine te [(3, (intA 1)), (4, (sl tInt r_4))] rfl ?_
   refine T_seq ?_
   refine sr ?_
   refine Tp rfl rfl (pur_assign rfl) rfl ?_
   refine TO_nil ?_
   refine te [(3, (intA 1)), (4, (sl tInt r_4)), (5, (intA 0))] rfl ?_
   obtain ⟨O7_, L7_, N7_⟩ := bind_inv H
   clear H
   obtain ⟨B7_, hb7, L7_⟩ := gen_forS L7_
   refine T_block ?_
   refine T_loopX (fun k => fun (x_ : Nat × Int) => k = r_4.length - x_.1 ∧ forS B7_ (r_4.drop x_.1) (x_.1 : Int) x_.2 = some O7_) (fun (x_ : Nat × Int) => [(3, (intA x_.2)), (4, (sl tInt r_4)), (5, (intA (x_.1 : Int)))]) (fun (x_ : Nat × Int) => [.box [(sl tRelation d0.relations), (sl tFact d0.facts)]]) _ (0, 1) (wp 1 (lb rfl) rfl rfl rfl rfl rfl) ⟨rfl, L7_⟩ ?_
   rintro _ ⟨i_6, n3⟩ ⟨rfl, L7_⟩
   refine te [(3, (intA n3)), (4, (sl tInt r_4)), (5, (intA (i_6 : Int)))] rfl ?_
   refine T_st (σ' := [.box [(sl tRelation d0.relations), (sl tFact d0.facts)]]) rfl ?_
   refine T_fact (len_sl (T := tInt) (.tmp 4) rfl) (fun hl7 => ?_)
   refine T_seq ?_
   refine sr ?_
   refine Tp rfl rfl (pur_move rfl) rfl ?_
   refine Tp rfl rfl (pur_move rfl) rfl ?_
   refine Tp rfl rfl (pur_lenT (T := tInt) sl33 rfl rfl) rfl ?_
   refine Tp rfl rfl (pur_lss rfl rfl rfl) rfl ?_
   refine TO_nil ?_
   refine te [(3, (intA n3)), (4, (sl tInt r_4)), (5, (intA (i_6 : Int))), (14, (boolA (decide ((i_6 : Int) < (r_4.length : Int)))))] rfl ?_
   refine T_cond (t := decide ((i_6 : Int) < (r_4.length : Int))) rfl (fun d7 => ?_) (fun d7 => ?_)
   ·replace d7 := of_decide_eq_true d7
    obtain ⟨x_i_6, hx_i_6⟩ : ∃ v, (r_4)[i_6]? = some v := ⟨_, List.getElem?_eq_getElem (by omega)⟩
    obtain ⟨C7_, H, K7_⟩ := forS_step L7_ hx_i_6
    rw [hb7] at H
    refine T_skip ?_
    refine te [(3, (intA n3)), (4, (sl tInt r_4)), (5, (intA (i_6 : Int)))] rfl ?_
    refine T_seq ?_
    refine T_block ?_
    refine T_region ?_
    refine Tp rfl rfl (pur_move rfl) rfl ?_
    refine Tp rfl rfl (pur_move rfl) rfl ?_
    refine Tp rfl rfl (pur_move rfl) rfl ?_
    refine Tp rfl rfl (pur_ixT (T := tInt) sl33 rfl rfl rfl hx_i_6 rfl) rfl ?_
    refine Tp rfl rfl (pur_ldT (T := tInt) (i := i_6) (off := 0) rfl one3 rfl rfl hx_i_6 rfl) rfl ?_
    refine Tp rfl rfl (pur_wmul rfl rfl rfl) rfl ?_
    refine Tp rfl rfl (pur_assign rfl) rfl ?_
    refine TO_nil ?_
    refine te [(3, (intA (w64 (n3 * x_i_6)))), (4, (sl tInt r_4)), (5, (intA (i_6 : Int)))] rfl ?_
    refine T_region ?_
    refine Tp rfl rfl (pur_move rfl) rfl ?_
    refine Tp rfl rfl (pur_add rfl rfl rfl (fits64 (by omega) (by omega))) rfl ?_
    refine Tp rfl rfl (pur_assign rfl) rfl ?_
    refine TO_nil ?_
    obtain rfl := some_inj H
    exact again (r_4.length - (i_6 + 1)) (i_6 + 1, (w64 (n3 * x_i_6))) (by omega) (wp 1 (lb rfl) rfl rfl rfl rfl rfl) ⟨rfl, K7_⟩
   ·replace d7 := of_decide_eq_false d7
    obtain rfl := forS_end L7_ (by omega)
    refine T_exit ?_
    refine then_exit ?_
    refine then_exit ?_
    refine block_exit ?_
    replace H := N7_
    refine te [(3, (intA n3))] rfl ?_
    refine sr ?_
    refine Tp rfl rfl (pur_move rfl) rfl ?_
    refine Tp rfl rfl (pur_assign rfl) rfl ?_
    refine TO_nil ?_
    refine te [(2, (intA n3))] rfl ?_
    refine T_ret ?_
    obtain rfl := some_inj H
    refine end_ret (.tmp .nil) rfl rfl ⟨?_, rfl⟩
    rfl

set_option maxHeartbeats 1000000 in
/-- spec.l7Sorted -/
theorem m_spec_l7Sorted_own (u : Nat) (l0 : (List Int)) (r : (List Int)) (H : m_spec_l7Sorted u l0 = some r) : FnO prg 80 [(sl tInt l0)] (.m [0] 0 r.length tInt.k) [.row (flat tInt.own r)] := by
  unfold m_spec_l7Sorted at H
  refine fnO_of_T Try.func80 rfl rfl (Nat.le_of_ble_eq_true rfl) ?_
  refine te [(0, (sl tInt l0))] rfl ?_
  refine sr ?_
  refine Tp rfl rfl (pur_assign rfl) rfl ?_
  refine TO_nil ?_
  refine te [(0, (sl tInt l0))] rfl ?_
  refine sr ?_
  refine TO_cons rfl (TOp_lit (nn := 0) (k := 1) sl33 zero3 rfl rfl rfl rfl (by decide) ?_)
  refine TO_st (σ' := [.row (flat tInt.enc ([] : (List Int)))]) rfl ?_
  refine Tp rfl rfl (pur_assign rfl) rfl ?_
  refine TO_nil ?_
  refine te [(0, (sl tInt l0)), (3, (.m [0] 0 ([] : (List Int)).length tInt.k))] rfl ?_
  refine T_seq ?_
  refine sr ?_
  refine Tp rfl rfl (pur_assign rfl) rfl ?_
  refine TO_nil ?_
  refine te [(0, (sl tInt l0)), (3, (.m [0] 0 ([] : (List Int)).length tInt.k)), (4, (intA 0))] rfl ?_
  obtain ⟨O2_, L2_, N2_⟩ := bind_inv H
  clear H
  obtain ⟨B2_, hb2, L2_⟩ := gen_forS L2_
  refine T_block ?_
  refine T_loopX (fun k => fun (x_ : Nat × (List Int)) => k = l0.length - x_.1 ∧ forS B2_ (l0.drop x_.1) (x_.1 : Int) x_.2 = some O2_) (fun (x_ : Nat × (List Int)) => [(0, (sl tInt l0)), (3, (.m [0] 0 x_.2.length tInt.k)), (4, (intA (x_.1 : Int)))]) (fun (x_ : Nat × (List Int)) => [.row (flat tInt.enc x_.2)]) _ (0, ([] : (List Int))) (wp 1 (lb rfl) rfl rfl rfl rfl rfl) ⟨rfl, L2_⟩ ?_
  rintro _ ⟨i_1, out3⟩ ⟨rfl, L2_⟩
  refine te [(0, (sl tInt l0)), (3, (.m [0] 0 out3.length tInt.k)), (4, (intA (i_1 : Int)))] rfl ?_
  refine T_st (σ' := [.row (flat tInt.enc out3)]) rfl ?_
  refine T_fact (len_sl (T := tInt) (.tmp 0) rfl) (fun hl2 => ?_)
  refine T_seq ?_
  refine sr ?_
  refine Tp rfl rfl (pur_move rfl) rfl ?_
  refine Tp rfl rfl (pur_move rfl) rfl ?_
  refine Tp rfl rfl (pur_lenT (T := tInt) sl33 rfl rfl) rfl ?_
  refine Tp rfl rfl (pur_lss rfl rfl rfl) rfl ?_
  refine TO_nil ?_
  refine te [(0, (sl tInt l0)), (3, (.m [0] 0 out3.length tInt.k)), (4, (intA (i_1 : Int))), (10, (boolA (decide ((i_1 : Int) < (l0.length : Int)))))] rfl ?_
  refine T_cond (t := decide ((i_1 : Int) < (l0.length : Int))) rfl (fun d2 => ?_) (fun d2 => ?_)
  ·replace d2 := of_decide_eq_true d2
   obtain ⟨x_i_1, hx_i_1⟩ : ∃ v, (l0)[i_1]? = some v := ⟨_, List.getElem?_eq_getElem (by omega)⟩
   obtain ⟨C2_, H, K2_⟩ := forS_step L2_ hx_i_1
   rw [hb2] at H
   refine T_skip ?_
   refine te [(0, (sl tInt l0)), (3, (.m [0] 0 out3.length tInt.k)), (4, (intA (i_1 : Int)))] rfl ?_
   refine T_seq ?_
   refine T_block ?_
   refine sr ?_
   refine Tp rfl rfl (pur_move rfl) rfl ?_
   refine Tp rfl rfl (pur_len_m sl33 rfl rfl) rfl ?_
   refine Tp rfl rfl (pur_assign rfl) rfl ?_
   refine TO_nil ?_
   refine te [(0, (sl tInt l0)), (3, (.m [0] 0 out3.length tInt.k)), (4, (intA (i_1 : Int))), (5, (intA (out3.length : Int)))] rfl ?_
   obtain ⟨O3_, L3_, N3_⟩ := bind_inv H
   clear H
   obtain ⟨B3_, hb3, L3_⟩ := gen_whileF L3_
   refine T_cutX (fun (x : Int) => O3_ = .inl x) (fun (k5 : Int) => [(0, (sl tInt l0)), (3, (.m [0] 0 out3.length tInt.k)), (4, (intA (i_1 : Int))), (5, (intA k5))]) (fun (k5 : Int) => [.row (flat tInt.enc out3)]) ?_ ?_
   ·skip
    refine T_block ?_
    refine T_loopX (fun k => fun (k5 : Int) => whileF B3_ k k5 = some O3_) (fun (k5 : Int) => [(0, (sl tInt l0)), (3, (.m [0] 0 out3.length tInt.k)), (4, (intA (i_1 : Int))), (5, (intA k5))]) (fun (k5 : Int) => [.row (flat tInt.enc out3)]) u (out3.length : Int) (wp 1 (lb rfl) rfl rfl rfl rfl rfl) L3_ ?_
    rintro _ k5 L3_
    obtain ⟨k3, rfl, C3_, H, K3_⟩ := while_step L3_
    rw [hb3] at H
    refine te [(0, (sl tInt l0)), (3, (.m [0] 0 out3.length tInt.k)), (4, (intA (i_1 : Int))), (5, (intA k5))] rfl ?_
    refine T_st (σ' := [.row (flat tInt.enc out3)]) rfl ?_
    refine T_seq ?_
    obtain ⟨t28_4, J_4, H_5⟩ := bind_inv H
    refine T_cutX (fun x => t28_4 = x) (fun (t28_4 : Bool) => [(0, (sl tInt l0)), (3, (.m [0] 0 out3.length tInt.k)), (4, (intA (i_1 : Int))), (5, (intA k5)), (28, (boolA t28_4))]) (fun (t28_4 : Bool) => [.row (flat tInt.enc out3)]) ?_ ?_
    ·replace H := J_4
     refine T_regionD mixed (by kernel_rfl) ?_
     refine TQ_pure rfl (pur_move rfl) rfl ?_
     refine TQ_pure rfl (pur_gtr rfl rfl rfl) rfl ?_
     refine TQ_pure rfl (pur_move rfl) rfl ?_
     refine TQ_split (t := decide (0 < k5)) 17 rfl (fun g_6 => ?_) (fun g_6 => ?_)
     ·replace H := cond_t g_6 H
      refine TQ_on rfl rfl (by decide) rfl (pur_move rfl) rfl ?_
      refine TQ_on rfl rfl (by decide) rfl (pur_move rfl) rfl ?_
      refine TQ_on rfl rfl (by decide) rfl (pur_wsub rfl rfl rfl) rfl ?_
      obtain ⟨v_7, h_8, H⟩ := bind_inv H
      obtain ⟨n_9, hz_10, hv_11⟩ := getI_inv h_8
      refine TQ_on rfl rfl (by decide) rfl (pur_ixM (T := tInt) sl33 rfl rfl hz_10 hv_11 rfl) rfl ?_
      refine TQ_on rfl rfl (by decide) rfl (pur_ldE (f := tInt.enc) (k := tInt.k) (i := n_9) (off := 0) tInt.len rfl one3 rfl rfl rfl hv_11 rfl rfl) rfl ?_
      refine TQ_on rfl rfl (by decide) rfl (pur_move rfl) rfl ?_
      refine TQ_on rfl rfl (by decide) rfl (pur_move rfl) rfl ?_
      refine TQ_on rfl rfl (by decide) rfl (pur_ixT (T := tInt) sl33 rfl rfl rfl hx_i_1 rfl) rfl ?_
      refine tqe [(0, (sl tInt l0)), (3, (.m [0] 0 out3.length tInt.k)), (4, (intA (i_1 : Int))), (5, (intA k5)), (17, (boolA true)), (22, (intA v_7)), (25, (.q (flat tInt.enc l0) (i_1 * tInt.k)))] rfl ?_
      refine TQ_on rfl rfl (by decide) rfl (pur_ldT (T := tInt) (i := i_1) (off := 0) rfl one3 rfl rfl hx_i_1 rfl) rfl ?_
      refine TQ_on rfl rfl (by decide) rfl (pur_gtr rfl rfl rfl) rfl ?_
      refine TQ_pure rfl (pur_pick (t := true) rfl rfl rfl) rfl ?_
      refine TQ_nil ?_
      exact joined (decide (x_i_1 < v_7)) (wp 1 (lb rfl) rfl rfl rfl rfl rfl) (some_inj H).symm
     ·replace H := cond_f g_6 H
      refine TQ_off rfl rfl (by decide) rfl rfl rfl ?_
      refine TQ_off rfl rfl (by decide) rfl rfl rfl ?_
      refine TQ_off rfl rfl (by decide) rfl rfl rfl ?_
      refine TQ_off rfl rfl (by decide) rfl rfl rfl ?_
      refine TQ_off rfl rfl (by decide) rfl rfl rfl ?_
      refine TQ_off rfl rfl (by decide) rfl rfl rfl ?_
      refine TQ_off rfl rfl (by decide) rfl rfl rfl ?_
      refine TQ_off rfl rfl (by decide) rfl rfl rfl ?_
      refine tqe [(0, (sl tInt l0)), (3, (.m [0] 0 out3.length tInt.k)), (4, (intA (i_1 : Int))), (5, (intA k5)), (17, (boolA false)), (22, (.v undef)), (25, (.v undef))] rfl ?_
      refine TQ_off rfl rfl (by decide) rfl rfl rfl ?_
      refine TQ_off rfl rfl (by decide) rfl rfl rfl ?_
      refine TQ_pure rfl (pur_pick (t := false) rfl rfl rfl) rfl ?_
      refine TQ_nil ?_
      exact joined false (wp 1 (lb rfl) rfl rfl rfl rfl rfl) (some_inj H).symm
    ·rintro _ rfl
     replace H := H_5
     refine te [(0, (sl tInt l0)), (3, (.m [0] 0 out3.length tInt.k)), (4, (intA (i_1 : Int))), (5, (intA k5)), (28, (boolA t28_4))] rfl ?_
     refine T_cond (t := t28_4) rfl (fun c_12 => ?_) (fun c_12 => ?_)
     ·replace H := cond_t c_12 H
      refine T_skip ?_
      refine te [(0, (sl tInt l0)), (3, (.m [0] 0 out3.length tInt.k)), (4, (intA (i_1 : Int))), (5, (intA k5))] rfl ?_
      refine T_block ?_
      refine T_region ?_
      refine Tp rfl rfl (pur_move rfl) rfl ?_
      refine Tp rfl rfl (pur_wsub rfl rfl rfl) rfl ?_
      refine Tp rfl rfl (pur_assign rfl) rfl ?_
      refine TO_nil ?_
      obtain rfl := some_inj H
      exact again k3 (w64 (k5 - 1)) (Nat.lt_succ_self _) (wp 1 (lb rfl) rfl rfl rfl rfl rfl) K3_
     ·replace H := cond_f c_12 H
      refine T_exit ?_
      refine then_exit ?_
      refine then_exit ?_
      refine block_exit ?_
      obtain rfl := some_inj H
      obtain rfl := some_inj K3_
      exact joined k5 (wp 1 (lb rfl) rfl rfl rfl rfl rfl) rfl
   ·rintro k5 rfl
    replace H := onS_l N3_
    refine te [(0, (sl tInt l0)), (3, (.m [0] 0 out3.length tInt.k)), (4, (intA (i_1 : Int))), (5, (intA k5))] rfl ?_
    obtain ⟨ys_13, h_14, H⟩ := bind_inv H
    obtain ⟨i_15, j_16, hi_17, hj_18, hij_19, hjl_20, hys_21, _⟩ := cutI_inv h_14
    obtain ⟨us_22, h_23, H⟩ := bind_inv H
    obtain ⟨us_24, h_25, H⟩ := bind_inv H
    obtain ⟨ys_26, h_27, H⟩ := bind_inv H
    obtain ⟨i_28, j_29, hi_30, hj_31, hij_32, hjl_33, hys_34, _⟩ := cutI_inv h_27
    obtain ⟨us_35, h_36, H⟩ := bind_inv H
    refine T_pad ?_
    refine T_pad ?_
    refine T_pad ?_
    refine T_regionP mixed ?_
    refine TA_have 3 #[true, true, true, true, true, true, true, true, true, true, false, true, true, true, false, false] [(0, (sl tInt l0)), (3, (.m [0] 0 out3.length tInt.k)), (4, (intA (i_1 : Int))), (35, (.m [2] 0 us_22.length tInt.k)), (40, (.m [3] 0 ([x_i_1] : (List Int)).length tInt.k)), (44, (.m [0] (i_28 * tInt.k) (j_29 - i_28) tInt.k))] [.row (flat tInt.enc out3), .dead, .row (flat tInt.enc us_22), .row (flat tInt.enc ([x_i_1] : (List Int)))] ?_ (fun hj0_8 => ?_)
    ·skip
     refine t1 10 (by kernel_rfl) rfl rfl (TOp_appY (T := tInt) (f := tInt.enc) (xs := us_22) (ys := ([x_i_1] : (List Int))) tInt.len sl33 zero3 rfl bytes3 (by decide) rfl rfl rfl rfl (src_mT (f := tInt.enc) tInt.len rfl rfl (flat_cell tInt _)) (flat_cell tInt _) h_25 ?_)
     refine tmv 2 4 (by decide) (lb rfl) rfl rfl (lb rfl) ?_
     refine t1 14 (by kernel_rfl) rfl rfl (TOp_appY (T := tInt) (f := tInt.enc) (xs := us_24) (ys := ys_26) tInt.len sl33 zero3 rfl bytes3 (by decide) rfl rfl rfl rfl (src_cut (T := tInt) (xs := out3) (i := i_28) (j := j_29) rfl rfl hij_32 hjl_33 hys_34) (flat_cell tInt _) h_36 ?_)
     refine tmv 2 5 (by decide) (lb rfl) rfl rfl (lb rfl) ?_
     refine tf 15 rfl (purI_assign rfl) rfl rfl (by kernel_rfl) ?_
     refine TA_ghost (E' := [(0, (sl tInt l0)), (3, (.m [1] 0 us_35.length tInt.k)), (4, (intA (i_1 : Int)))]) (σ' := [.row (flat tInt.enc out3), .row (flat tInt.enc us_35), .dead, .row (flat tInt.enc ([x_i_1] : (List Int))), .dead, .dead]) (Ghost.move 1 2 (by decide) (lb rfl) rfl rfl (lb rfl) (Ghost.weak (WeakL.to 6 (lb rfl) rfl rfl rfl rfl ⟨leR rfl, leR rfl, leR rfl, trivial⟩))) ?_
     refine TA_nil (by kernel_rfl) ?_
     refine te [(0, (sl tInt l0)), (3, (.m [1] 0 us_35.length tInt.k)), (4, (intA (i_1 : Int)))] rfl ?_
     refine T_move' 0 1 (by decide) (lb rfl) rfl rfl (lb rfl) ?_
     refine te [(0, (sl tInt l0)), (3, (.m [0] 0 us_35.length tInt.k)), (4, (intA (i_1 : Int)))] rfl ?_
     refine T_st (σ' := [.row (flat tInt.enc us_35), .dead, .dead, .row (flat tInt.enc ([x_i_1] : (List Int))), .dead, .dead]) rfl ?_
     refine T_region ?_
     refine Tp rfl rfl (pur_move rfl) rfl ?_
     refine Tp rfl rfl (pur_add rfl rfl rfl (fits64 (by omega) (by omega))) rfl ?_
     refine Tp rfl rfl (pur_assign rfl) rfl ?_
     refine TO_nil ?_
     obtain rfl := some_inj H
     exact again (l0.length - (i_1 + 1)) (i_1 + 1, us_35) (by omega) (wp 1 (lb rfl) rfl rfl rfl rfl rfl) ⟨rfl, K2_⟩
    refine TA_have 4 #[true, true, true, true, false, true, true, true, true, true, false, true, true, true, false, false] [(0, (sl tInt l0)), (3, (.m [0] 0 out3.length tInt.k)), (4, (intA (i_1 : Int))), (31, (.m [2] 0 ([] : (List Int)).length tInt.k)), (34, (.m [0] (i_15 * tInt.k) (j_16 - i_15) tInt.k)), (40, (.m [3] 0 ([x_i_1] : (List Int)).length tInt.k)), (44, (.m [0] (i_28 * tInt.k) (j_29 - i_28) tInt.k))] [.row (flat tInt.enc out3), .dead, .row (flat tInt.enc ([] : (List Int))), .row (flat tInt.enc ([x_i_1] : (List Int)))] ?_ (fun hj1_8 => ?_)
    ·skip
     refine t1 4 (by kernel_rfl) rfl rfl (TOp_appY (T := tInt) (f := tInt.enc) (xs := ([] : (List Int))) (ys := ys_13) tInt.len sl33 zero3 rfl bytes3 (by decide) rfl rfl rfl rfl (src_cut (T := tInt) (xs := out3) (i := i_15) (j := j_16) rfl rfl hij_19 hjl_20 hys_21) (flat_cell tInt _) h_23 ?_)
     refine tmv 2 4 (by decide) (lb rfl) rfl rfl (lb rfl) ?_
     exact tj hj0_8 rfl (wp 4 (lb rfl) rfl rfl rfl rfl rfl)
    refine TA_have 4 #[true, true, true, true, true, true, true, true, true, false, false, true, true, true, false, false] [(0, (sl tInt l0)), (3, (.m [0] 0 out3.length tInt.k)), (4, (intA (i_1 : Int))), (35, (.m [2] 0 us_22.length tInt.k)), (39, (intA x_i_1)), (44, (.m [0] (i_28 * tInt.k) (j_29 - i_28) tInt.k))] [.row (flat tInt.enc out3), .dead, .row (flat tInt.enc us_22), .dead] ?_ (fun hj2_8 => ?_)
    ·skip
     refine t1 9 (by kernel_rfl) rfl rfl (TOp_lit (nn := 1) (k := 1) sl33 zero3 rfl rfl rfl rfl (by decide) ?_)
     refine tmv 3 4 (by decide) (lb rfl) rfl rfl (lb rfl) ?_
     exact tj hj0_8 rfl (wp 4 (lb rfl) rfl rfl rfl rfl rfl)
    refine TA_have 5 #[true, true, true, true, false, true, true, true, true, false, false, true, true, true, false, false] [(0, (sl tInt l0)), (3, (.m [0] 0 out3.length tInt.k)), (4, (intA (i_1 : Int))), (31, (.m [2] 0 ([] : (List Int)).length tInt.k)), (34, (.m [0] (i_15 * tInt.k) (j_16 - i_15) tInt.k)), (39, (intA x_i_1)), (44, (.m [0] (i_28 * tInt.k) (j_29 - i_28) tInt.k))] [.row (flat tInt.enc out3), .dead, .row (flat tInt.enc ([] : (List Int))), .dead] ?_ (fun hj3_8 => ?_)
    ·skip
     refine TA_all [4, 9] (by kernel_rfl) (by decide) ⟨?_, ?_, trivial⟩
     ·skip
      refine ⟨_, rfl, rfl, (TOp_appY (T := tInt) (f := tInt.enc) (xs := ([] : (List Int))) (ys := ys_13) tInt.len sl33 zero3 rfl bytes3 (by decide) rfl rfl rfl rfl (src_cut (T := tInt) (xs := out3) (i := i_15) (j := j_16) rfl rfl hij_19 hjl_20 hys_21) (flat_cell tInt _) h_23 ?_)⟩
      refine tmv 2 4 (by decide) (lb rfl) rfl rfl (lb rfl) ?_
      exact tj hj2_8 rfl (wp 4 (lb rfl) rfl rfl rfl rfl rfl)
     ·skip
      refine ⟨_, rfl, rfl, (TOp_lit (nn := 1) (k := 1) sl33 zero3 rfl rfl rfl rfl (by decide) ?_)⟩
      refine tmv 3 4 (by decide) (lb rfl) rfl rfl (lb rfl) ?_
      exact tj hj1_8 rfl (wp 4 (lb rfl) rfl rfl rfl rfl rfl)
    refine tf 1 rfl (purI_move rfl) rfl rfl (by kernel_rfl) ?_
    refine tf 2 rfl (purI_move rfl) rfl rfl (by kernel_rfl) ?_
    refine tf 3 rfl (purI_cutM (lo := none) (hi := (some (.tmp 33))) sl33 rfl hi_17.symm ⟨_, congrArg (fun z => A.v (.int .i64 z)) hj_18⟩ hij_19 hjl_20 rfl) rfl rfl (by kernel_rfl) ?_
    refine tf 5 rfl (purI_move rfl) rfl rfl (by kernel_rfl) ?_
    refine tf 6 rfl (purI_move rfl) rfl rfl (by kernel_rfl) ?_
    refine tf 7 rfl (purI_ixT (T := tInt) sl33 rfl rfl rfl hx_i_1 rfl) rfl rfl (by kernel_rfl) ?_
    refine tae [(0, (sl tInt l0)), (3, (.m [0] 0 out3.length tInt.k)), (4, (intA (i_1 : Int))), (5, (intA k5)), (34, (.m [0] (i_15 * tInt.k) (j_16 - i_15) tInt.k)), (38, (.q (flat tInt.enc l0) (i_1 * tInt.k)))] rfl ?_
    refine tf 11 rfl (purI_move rfl) rfl rfl (by kernel_rfl) ?_
    refine tf 12 rfl (purI_move rfl) rfl rfl (by kernel_rfl) ?_
    refine tf 13 rfl (purI_cutM (lo := (some (.tmp 43))) (hi := none) sl33 rfl ⟨_, congrArg (fun z => A.v (.int .i64 z)) hi_30⟩ hj_31.symm hij_32 hjl_33 rfl) rfl rfl (by kernel_rfl) ?_
    refine TA_all [0, 8] (by kernel_rfl) (by decide) ⟨?_, ?_, trivial⟩
    ·skip
     refine ⟨_, rfl, rfl, (TOp_lit (nn := 0) (k := 1) sl33 zero3 rfl rfl rfl rfl (by decide) ?_)⟩
     refine tmv 2 4 (by decide) (lb rfl) rfl rfl (lb rfl) ?_
     refine TA_all [4, 8] (by kernel_rfl) (by decide) ⟨?_, ?_, trivial⟩
     ·skip
      refine ⟨_, rfl, rfl, (TOp_appY (T := tInt) (f := tInt.enc) (xs := ([] : (List Int))) (ys := ys_13) tInt.len sl33 zero3 rfl bytes3 (by decide) rfl rfl rfl rfl (src_cut (T := tInt) (xs := out3) (i := i_15) (j := j_16) rfl rfl hij_19 hjl_20 hys_21) (flat_cell tInt _) h_23 ?_)⟩
      refine tmv 2 5 (by decide) (lb rfl) rfl rfl (lb rfl) ?_
      refine t1 8 (by kernel_rfl) rfl rfl (TOp_pure (pur_ldT (T := tInt) (i := i_1) (off := 0) rfl one3 rfl rfl hx_i_1 rfl) rfl ?_)
      exact tj hj2_8 rfl (wp 4 (lb rfl) rfl rfl rfl rfl rfl)
     ·skip
      refine ⟨_, rfl, rfl, (TOp_pure (pur_ldT (T := tInt) (i := i_1) (off := 0) rfl one3 rfl rfl hx_i_1 rfl) rfl ?_)⟩
      exact tj hj3_8 rfl (wp 4 (lb rfl) rfl rfl rfl rfl rfl)
    ·skip
     refine ⟨_, rfl, rfl, (TOp_pure (pur_ldT (T := tInt) (i := i_1) (off := 0) rfl one3 rfl rfl hx_i_1 rfl) rfl ?_)⟩
     refine TA_all [0, 9] (by kernel_rfl) (by decide) ⟨?_, ?_, trivial⟩
     ·skip
      refine ⟨_, rfl, rfl, (TOp_lit (nn := 0) (k := 1) sl33 zero3 rfl rfl rfl rfl (by decide) ?_)⟩
      refine tmv 2 4 (by decide) (lb rfl) rfl rfl (lb rfl) ?_
      exact tj hj3_8 rfl (wp 4 (lb rfl) rfl rfl rfl rfl rfl)
     ·skip
      refine ⟨_, rfl, rfl, (TOp_lit (nn := 1) (k := 1) sl33 zero3 rfl rfl rfl rfl (by decide) ?_)⟩
      refine tmv 3 4 (by decide) (lb rfl) rfl rfl (lb rfl) ?_
      refine t1 0 (by kernel_rfl) rfl rfl (TOp_lit (nn := 0) (k := 1) sl33 zero3 rfl rfl rfl rfl (by decide) ?_)
      refine tmv 2 5 (by decide) (lb rfl) rfl rfl (lb rfl) ?_
      exact tj hj1_8 rfl (wp 4 (lb rfl) rfl rfl rfl rfl rfl)
  ·replace d2 := of_decide_eq_false d2
   obtain rfl := forS_end L2_ (by omega)
   refine T_exit ?_
   refine then_exit ?_
   refine then_exit ?_
   refine block_exit ?_
   replace H := N2_
   refine te [(3, (.m [0] 0 out3.length tInt.k))] rfl ?_
   refine sr ?_
   refine Tp rfl rfl (pur_move rfl) rfl ?_
   refine Tp rfl rfl (pur_assign rfl) rfl ?_
   refine TO_nil ?_
   refine te [(2, (.m [0] 0 out3.length tInt.k))] rfl ?_
   refine T_ret ?_
   obtain rfl := some_inj H
   exact end_pick (.tmp .nil) rfl [0] (by decide) rfl rfl rfl rfl rfl rfl
theorem m_spec_l7Sorted_ok (u : Nat) (l0 : (List Int)) (r : (List Int)) (H : m_spec_l7Sorted u l0 = some r) : FnV prg 80 [(sl tInt l0)] (sl tInt r) := (m_spec_l7Sorted_own u l0 r H).frz (frzT (T := tInt) rfl)

set_option maxHeartbeats 1000000 in
/-- spec.NthRepair -/
theorem m_spec_NthRepair_own (u : Nat) (d0 : Database) (k1 : Int) (r : ((List Int) × Bool)) (H : m_spec_NthRepair u d0 k1 = some r) : FnO prg 41 [(.g (tDatabase.enc d0)), (intA k1)] (.t [(.m [0] 0 r.1.length tInt.k), (boolA r.2)]) [.row (flat tInt.own r.1)] := by
  unfold m_spec_NthRepair at H
  refine fnO_of_T Try.func41 rfl rfl (Nat.le_of_ble_eq_true rfl) ?_
  refine te [(0, (.g (tDatabase.enc d0))), (1, (intA k1))] rfl ?_
  refine sr ?_
  refine TO_cons rfl (TOp_box rfl (boxAll rfl) rfl rfl ?_)
  refine Tp rfl rfl (pur_assign rfl) rfl ?_
  refine Tp rfl rfl (pur_assign rfl) rfl ?_
  refine TO_nil ?_
  refine te [(1, (intA k1)), (2, (.b 0 0))] rfl ?_
  refine T_seq ?_
  refine sr ?_
  refine Tp rfl rfl (pur_move rfl) rfl ?_
  refine Tp rfl rfl (pur_ldK_b agg32 rfl rfl (lb rfl) rfl) rfl ?_
  obtain ⟨r_1, h_2, H⟩ := bind_inv H
  refine TO_cons rfl (TOp_callV (call_static ent40 rfl) (m_spec_CountRepairs_ok u _ _ h_2) rfl rfl rfl ?_)
  refine Tp rfl rfl (pur_wsub rfl rfl rfl) rfl ?_
  obtain ⟨r_3, h_4, H⟩ := bind_inv H
  refine TO_cons rfl (TOp_callV (call_static ent78 rfl) (m_spec_l1In_ok _ _ _ _ h_4) rfl rfl rfl ?_)
  refine Tp rfl rfl (pur_not rfl rfl) rfl ?_
  refine TO_nil ?_
  refine te [(1, (intA k1)), (2, (.b 0 0)), (14, (boolA (!r_3)))] rfl ?_
  refine T_cond (t := (!r_3)) rfl (fun c_5 => ?_) (fun c_5 => ?_)
  ·replace H := cond_t c_5 H
   refine sr ?_
   refine TO_cons rfl (TOp_lit (nn := 0) (k := 1) sl33 zero3 rfl rfl rfl rfl (by decide) ?_)
   refine TO_st (σ' := [.box [(sl tRelation d0.relations), (sl tFact d0.facts)], .row (flat tInt.enc ([] : (List Int)))]) rfl ?_
   refine Tp rfl rfl (pur_assign rfl) rfl ?_
   refine Tp rfl rfl (pur_assign rfl) rfl ?_
   refine TO_nil ?_
   refine te [(4, (.m [1] 0 ([] : (List Int)).length tInt.k)), (5, (boolA false))] rfl ?_
   refine T_ret ?_
   refine then_ret ?_
   obtain rfl := some_inj H
   exact end_pick (.tmp (.tmp .nil)) rfl [1] (by decide) rfl rfl rfl rfl rfl rfl
  ·replace H := cond_f c_5 H
   refine T_skip ?_
   refine te [(1, (intA k1)), (2, (.b 0 0))] rfl ?_
   refine sr ?_
   refine Tp rfl rfl (pur_ldK_b agg32 rfl rfl (lb rfl) rfl) rfl ?_
   obtain ⟨r_6, h_7, H⟩ := bind_inv H
   refine TO_cons rfl (TOp_callV (call_static ent79 rfl) (m_spec_Blocks_ok u _ _ h_7) rfl rfl rfl ?_)
   refine Tp rfl rfl (pur_assign rfl) rfl ?_
   refine TO_nil ?_
   refine te [(1, (intA k1)), (6, (sl (tSl tInt) r_6))] rfl ?_
   refine sr ?_
   refine TO_cons rfl (TOp_lit (nn := 0) (k := 1) sl33 zero3 rfl rfl rfl rfl (by decide) ?_)
   refine TO_st (σ' := [.box [(sl tRelation d0.relations), (sl tFact d0.facts)], .row (flat tInt.enc ([] : (List Int)))]) rfl ?_
   refine Tp rfl rfl (pur_assign rfl) rfl ?_
   refine TO_nil ?_
   refine te [(1, (intA k1)), (6, (sl (tSl tInt) r_6)), (7, (.m [1] 0 ([] : (List Int)).length tInt.k))] rfl ?_
   refine T_seq ?_
   refine sr ?_
   refine Tp rfl rfl (pur_move rfl) rfl ?_
   refine Tp rfl rfl (pur_lenT (T := (tSl tInt)) sl22 rfl rfl) rfl ?_
   refine TO_fact (len_sl (T := (tSl tInt)) (.tmp 6) rfl) (fun hl_8 => ?_)
   refine Tp rfl rfl (pur_sub rfl rfl rfl (fits64 (by omega) (by omega))) rfl ?_
   refine Tp rfl rfl (pur_assign rfl) rfl ?_
   refine TO_nil ?_
   refine te [(1, (intA k1)), (6, (sl (tSl tInt) r_6)), (7, (.m [1] 0 ([] : (List Int)).length tInt.k)), (8, (intA ((r_6.length : Int) - 1)))] rfl ?_
   obtain ⟨O9_, L9_, N9_⟩ := bind_inv H
   clear H
   obtain ⟨B9_, hb9, L9_⟩ := gen_whileF L9_
   refine T_block ?_
   refine T_loopX (fun k => fun (x_ : Int × (List Int) × Int) => whileF B9_ k (x_.1, x_.2.1, x_.2.2) = some O9_) (fun (x_ : Int × (List Int) × Int) => [(1, (intA x_.1)), (6, (sl (tSl tInt) r_6)), (7, (.m [1] 0 x_.2.1.length tInt.k)), (8, (intA x_.2.2))]) (fun (x_ : Int × (List Int) × Int) => [.box [(sl tRelation d0.relations), (sl tFact d0.facts)], .row (flat tInt.enc x_.2.1)]) u (k1, ([] : (List Int)), ((r_6.length : Int) - 1)) (wp 2 (lb rfl) rfl rfl rfl rfl rfl) L9_ ?_
   rintro _ ⟨k1, out7, i8⟩ L9_
   obtain ⟨k9, rfl, C9_, H, K9_⟩ := while_step L9_
   rw [hb9] at H
   refine te [(1, (intA k1)), (6, (sl (tSl tInt) r_6)), (7, (.m [1] 0 out7.length tInt.k)), (8, (intA i8))] rfl ?_
   refine T_st (σ' := [.box [(sl tRelation d0.relations), (sl tFact d0.facts)], .row (flat tInt.enc out7)]) rfl ?_
   refine T_seq ?_
   refine sr ?_
   refine Tp rfl rfl (pur_move rfl) rfl ?_
   refine Tp rfl rfl (pur_geq rfl rfl rfl) rfl ?_
   refine TO_nil ?_
   refine te [(1, (intA k1)), (6, (sl (tSl tInt) r_6)), (7, (.m [1] 0 out7.length tInt.k)), (8, (intA i8)), (23, (boolA (decide (0 ≤ i8))))] rfl ?_
   refine T_cond (t := decide (0 ≤ i8)) rfl (fun c_10 => ?_) (fun c_10 => ?_)
   ·replace H := cond_t c_10 H
    refine T_skip ?_
    refine te [(1, (intA k1)), (6, (sl (tSl tInt) r_6)), (7, (.m [1] 0 out7.length tInt.k)), (8, (intA i8))] rfl ?_
    refine T_seq ?_
    refine T_block ?_
    obtain ⟨v_11, h_12, H⟩ := bind_inv H
    obtain ⟨n_13, hz_14, hv_15⟩ := getI_inv h_12
    obtain ⟨_u, h_16, H⟩ := bind_inv H
    obtain ⟨v_17, h_18, H⟩ := bind_inv H
    obtain ⟨n_19, hz_20, hv_21⟩ := getI_inv h_18
    obtain ⟨us_22, h_23, H⟩ := bind_inv H
    refine T_pad ?_
    refine T_cutX (fun (_ : Unit) => True) (fun _ => [(1, (intA k1)), (6, (sl (tSl tInt) r_6)), (7, (.m [1] 0 us_22.length tInt.k)), (8, (intA i8))]) (fun _ => [.box [(sl tRelation d0.relations), (sl tFact d0.facts)], .row (flat tInt.enc us_22)]) ?_ ?_
    ·skip
     refine T_regionP mixed ?_
     refine TA_have 5 #[true, true, true, true, true, true, true, true, true, true, true, true, false, false, false, false, false] [(1, (intA k1)), (6, (sl (tSl tInt) r_6)), (7, (.m [1] 0 out7.length tInt.k)), (8, (intA i8)), (26, (.m [1] 0 out7.length tInt.k)), (30, (sl tInt v_11)), (37, (intA (k1.tmod (v_11.length : Int))))] [.box [(sl tRelation d0.relations), (sl tFact d0.facts)], .row (flat tInt.enc out7), .dead] ?_ (fun hj0_8 => ?_)
     ·skip
      refine tf 12 rfl (purI_ixT (T := tInt) sl33 rfl rfl hz_20 hv_21 rfl) rfl rfl (by kernel_rfl) ?_
      refine t1 13 (by kernel_rfl) rfl rfl (TOp_pure (pur_ldT (T := tInt) (i := n_19) (off := 0) rfl one3 rfl rfl hv_21 rfl) rfl ?_)
      refine t1 14 (by kernel_rfl) rfl rfl (TOp_lit (nn := 1) (k := 1) sl33 zero3 rfl rfl rfl rfl (by decide) ?_)
      refine tmv 2 3 (by decide) (lb rfl) rfl rfl (lb rfl) ?_
      refine t1 15 (by kernel_rfl) rfl rfl (TOp_appY (T := tInt) (f := tInt.enc) (xs := out7) (ys := ([v_17] : (List Int))) tInt.len sl33 zero3 rfl bytes3 (by decide) rfl rfl rfl rfl (src_mT (f := tInt.enc) tInt.len rfl rfl (flat_cell tInt _)) (flat_cell tInt _) h_23 ?_)
      refine tmv 1 4 (by decide) (lb rfl) rfl rfl (lb rfl) ?_
      refine tf 16 rfl (purI_assign rfl) rfl rfl (by kernel_rfl) ?_
      exact TA_nil (by kernel_rfl) (joined () (wp 2 (lb rfl) rfl rfl rfl rfl rfl) trivial)
     refine TA_have 6 #[true, true, true, true, true, true, true, true, true, true, true, false, false, false, false, false, false] [(1, (intA k1)), (6, (sl (tSl tInt) r_6)), (7, (.m [1] 0 out7.length tInt.k)), (8, (intA i8)), (26, (.m [1] 0 out7.length tInt.k)), (30, (sl tInt v_11)), (31, (intA k1)), (36, (intA (v_11.length : Int)))] [.box [(sl tRelation d0.relations), (sl tFact d0.facts)], .row (flat tInt.enc out7), .dead] ?_ (fun hj1_8 => ?_)
     ·skip
      refine t1 11 (by kernel_rfl) rfl rfl (TOp_pure (pur_rem rfl rfl rfl (gD_inv h_16)) rfl ?_)
      exact tj hj0_8 rfl (wp 3 (lb rfl) rfl rfl rfl rfl rfl)
     refine tf 0 rfl (purI_move rfl) rfl rfl (by kernel_rfl) ?_
     refine tf 1 rfl (purI_move rfl) rfl rfl (by kernel_rfl) ?_
     refine tf 2 rfl (purI_move rfl) rfl rfl (by kernel_rfl) ?_
     refine tf 3 rfl (purI_ixT (T := (tSl tInt)) sl22 rfl rfl hz_14 hv_15 rfl) rfl rfl (by kernel_rfl) ?_
     refine tf 5 rfl (purI_move rfl) rfl rfl (by kernel_rfl) ?_
     refine tf 6 rfl (purI_move rfl) rfl rfl (by kernel_rfl) ?_
     refine tae [(1, (intA k1)), (6, (sl (tSl tInt) r_6)), (7, (.m [1] 0 out7.length tInt.k)), (8, (intA i8)), (26, (.m [1] 0 out7.length tInt.k)), (29, (.q (flat (tSl tInt).enc r_6) (n_13 * (tSl tInt).k))), (31, (intA k1)), (32, (sl (tSl tInt) r_6))] rfl ?_
     refine tf 7 rfl (purI_move rfl) rfl rfl (by kernel_rfl) ?_
     refine tf 8 rfl (purI_ixT (T := (tSl tInt)) sl22 rfl rfl hz_14 hv_15 rfl) rfl rfl (by kernel_rfl) ?_
     refine TA_all [4, 9] (by kernel_rfl) (by decide) ⟨?_, ?_, trivial⟩
     ·skip
      refine ⟨_, rfl, rfl, (TOp_pure (pur_ldT (T := (tSl tInt)) (i := n_13) (off := 0) rfl one33 rfl rfl hv_15 rfl) rfl ?_)⟩
      refine t1 9 (by kernel_rfl) rfl rfl (TOp_pure (pur_ldT (T := (tSl tInt)) (i := n_13) (off := 0) rfl one33 rfl rfl hv_15 rfl) rfl ?_)
      refine tf 10 rfl (purI_lenT (T := tInt) sl33 rfl rfl) rfl rfl (by kernel_rfl) ?_
      refine tae [(1, (intA k1)), (6, (sl (tSl tInt) r_6)), (7, (.m [1] 0 out7.length tInt.k)), (8, (intA i8)), (26, (.m [1] 0 out7.length tInt.k)), (30, (sl tInt v_11)), (31, (intA k1)), (36, (intA (v_11.length : Int)))] rfl ?_
      exact tj hj1_8 rfl (wp 3 (lb rfl) rfl rfl rfl rfl rfl)
     ·skip
      refine ⟨_, rfl, rfl, (TOp_pure (pur_ldT (T := (tSl tInt)) (i := n_13) (off := 0) rfl one33 rfl rfl hv_15 rfl) rfl ?_)⟩
      refine tf 10 rfl (purI_lenT (T := tInt) sl33 rfl rfl) rfl rfl (by kernel_rfl) ?_
      refine TA_all [4, 11] (by kernel_rfl) (by decide) ⟨?_, ?_, trivial⟩
      ·skip
       refine ⟨_, rfl, rfl, (TOp_pure (pur_ldT (T := (tSl tInt)) (i := n_13) (off := 0) rfl one33 rfl rfl hv_15 rfl) rfl ?_)⟩
       exact tj hj1_8 rfl (wp 3 (lb rfl) rfl rfl rfl rfl rfl)
      ·skip
       refine ⟨_, rfl, rfl, (TOp_pure (pur_rem rfl rfl rfl (gD_inv h_16)) rfl ?_)⟩
       refine t1 4 (by kernel_rfl) rfl rfl (TOp_pure (pur_ldT (T := (tSl tInt)) (i := n_13) (off := 0) rfl one33 rfl rfl hv_15 rfl) rfl ?_)
       exact tj hj0_8 rfl (wp 3 (lb rfl) rfl rfl rfl rfl rfl)
    ·rintro _ _
     refine te [(1, (intA k1)), (6, (sl (tSl tInt) r_6)), (7, (.m [1] 0 us_22.length tInt.k)), (8, (intA i8))] rfl ?_
     refine T_region ?_
     refine Tp rfl rfl (pur_move rfl) rfl ?_
     refine Tp rfl rfl (pur_move rfl) rfl ?_
     refine Tp rfl rfl (pur_move rfl) rfl ?_
     refine Tp rfl rfl (pur_ixT (T := (tSl tInt)) sl22 rfl rfl hz_14 hv_15 rfl) rfl ?_
     refine Tp rfl rfl (pur_ldT (T := (tSl tInt)) (i := n_13) (off := 0) rfl one33 rfl rfl hv_15 rfl) rfl ?_
     refine Tp rfl rfl (pur_lenT (T := tInt) sl33 rfl rfl) rfl ?_
     obtain ⟨_u, h_24, H⟩ := bind_inv H
     refine Tp rfl rfl (pur_wquo rfl rfl rfl (gD_inv h_24)) rfl ?_
     refine Tp rfl rfl (pur_assign rfl) rfl ?_
     refine TO_nil ?_
     refine te [(1, (intA (w64 (k1.tdiv (v_11.length : Int))))), (6, (sl (tSl tInt) r_6)), (7, (.m [1] 0 us_22.length tInt.k)), (8, (intA i8))] rfl ?_
     refine T_region ?_
     refine Tp rfl rfl (pur_move rfl) rfl ?_
     refine Tp rfl rfl (pur_wsub rfl rfl rfl) rfl ?_
     refine Tp rfl rfl (pur_assign rfl) rfl ?_
     refine TO_nil ?_
     obtain rfl := some_inj H
     exact again k9 ((w64 (k1.tdiv (v_11.length : Int))), us_22, (w64 (i8 - 1))) (Nat.lt_succ_self _) (wp 2 (lb rfl) rfl rfl rfl rfl rfl) K9_
   ·replace H := cond_f c_10 H
    refine T_exit ?_
    refine then_exit ?_
    refine then_exit ?_
    refine block_exit ?_
    obtain rfl := some_inj H
    obtain rfl := some_inj K9_
    replace H := onS_l N9_
    refine te [(7, (.m [1] 0 out7.length tInt.k))] rfl ?_
    refine sr ?_
    refine Tp rfl rfl (pur_move rfl) rfl ?_
    obtain ⟨r_25, h_26, H⟩ := bind_inv H
    refine TO_cons rfl (TOp_callOG (call_static ent80 rfl) (frz_cons (frzTE (T := tInt) rfl) frz_nil).1 (frz_cons (frzTE (T := tInt) rfl) frz_nil).2 (m_spec_l7Sorted_own u _ _ h_26) rfl (ownC_of (ownSB_cons (flat_ownR tInt _) ownSB_nil)) rfl rfl rfl ?_)
    refine toe [(7, (.m [1] 0 out7.length tInt.k)), (49, (.m [1] 0 out7.length tInt.k)), (50, (.m [2] 0 r_25.length tInt.k))] rfl ?_
    refine TO_st (σ' := [.box [(sl tRelation d0.relations), (sl tFact d0.facts)], .row (flat tInt.enc out7), .row (flat tInt.own r_25)]) rfl ?_
    refine Tp rfl rfl (pur_assign rfl) rfl ?_
    refine Tp rfl rfl (pur_assign rfl) rfl ?_
    refine TO_nil ?_
    refine te [(4, (.m [2] 0 r_25.length tInt.k)), (5, (boolA true))] rfl ?_
    refine T_ret ?_
    obtain rfl := some_inj H
    exact end_pick (.tmp (.tmp .nil)) rfl [2] (by decide) rfl rfl rfl rfl rfl rfl
theorem m_spec_NthRepair_ok (u : Nat) (d0 : Database) (k1 : Int) (r : ((List Int) × Bool)) (H : m_spec_NthRepair u d0 k1 = some r) : FnV prg 41 [(.g (tDatabase.enc d0)), (intA k1)] (.t [(sl tInt r.1), (boolA r.2)]) := (m_spec_NthRepair_own u d0 k1 r H).frz (frzOK_t (frz_cons (frzT (T := tInt) rfl) (frz_cons (frz_loose rfl) frz_nil)).1 (frz_cons (frzT (T := tInt) rfl) (frz_cons (frz_loose rfl) frz_nil)).2)

set_option maxHeartbeats 1000000 in
/-- spec.l1Byte -/
theorem m_spec_l1Byte_x (c0 : l1Cur) (r : (Int × l1Cur)) (H : m_spec_l1Byte c0 = some r) : FnS prg 109 [(.b 0 0)] [.box [(sl (tI .u8) c0.b), (intA c0.i), (intA c0.h)]] (intA r.1) [.box [(sl (tI .u8) r.2.b), (intA r.2.i), (intA r.2.h)]] := by
  unfold m_spec_l1Byte at H
  refine fnS_of_T Try.func109 rfl rfl (Nat.le_of_ble_eq_true rfl) ?_
  refine te [(0, (.b 0 0))] rfl ?_
  refine T_st (σ' := [.box [(sl (tI .u8) c0.b), (intA c0.i), (intA c0.h)]]) rfl ?_
  refine sr ?_
  refine Tp rfl rfl (pur_assign rfl) rfl ?_
  refine TO_nil ?_
  refine te [(0, (.b 0 0))] rfl ?_
  refine sr ?_
  refine Tp rfl rfl (pur_move rfl) rfl ?_
  refine Tp rfl rfl (pur_move rfl) rfl ?_
  refine Tp rfl rfl (pur_nil_b rfl rfl) rfl ?_
  refine Tp rfl rfl (pur_fa_b fld118_2 rfl rfl) rfl ?_
  refine Tp rfl rfl (pur_ld_b one3 rfl rfl rfl rfl) rfl ?_
  refine Tp rfl rfl (pur_wmul rfl rfl rfl) rfl ?_
  refine Tp rfl rfl (pur_wadd rfl rfl rfl) rfl ?_
  refine Tp rfl rfl (pur_nil_b rfl rfl) rfl ?_
  refine Tp rfl rfl (pur_fa_b fld118_2 rfl rfl) rfl ?_
  refine TO_cons rfl (TOp_storeB sz3 rfl rfl rfl rfl rfl rfl rfl (by decide) (lb rfl) rfl ?_)
  refine TO_st (σ' := [.box [(sl (tI .u8) c0.b), (intA c0.i), (intA (w64 ((w64 (c0.h * 6364136223846793005)) + 1442695040888963407)))]]) rfl ?_
  refine TO_nil ?_
  refine te [(0, (.b 0 0))] rfl ?_
  refine T_seq ?_
  refine T_regionD mixed (by kernel_rfl) ?_
  refine TQ_pure rfl (pur_move rfl) rfl ?_
  refine TQ_pure rfl (pur_nil_b rfl rfl) rfl ?_
  refine TQ_pure rfl (pur_fa_b fld118_2 rfl rfl) rfl ?_
  refine TQ_pure rfl (pur_ld_b one3 rfl rfl rfl rfl) rfl ?_
  refine TQ_pure rfl (pur_shr rfl rfl rfl (by decide)) rfl ?_
  refine TQ_pure rfl (pur_move rfl) rfl ?_
  refine TQ_pure rfl (pur_nil_b rfl rfl) rfl ?_
  refine TQ_pure rfl (pur_fa_b fld118_2 rfl rfl) rfl ?_
  refine tqe [(0, (.b 0 0)), (17, (intA (shrI .i64 (w64 ((w64 (c0.h * 6364136223846793005)) + 1442695040888963407)) 33))), (20, (.b 0 2))] rfl ?_
  refine TQ_pure rfl (pur_ld_b one3 rfl rfl rfl rfl) rfl ?_
  refine TQ_pure rfl (pur_shr rfl rfl rfl (by decide)) rfl ?_
  refine TQ_pure rfl (pur_xor rfl rfl rfl) rfl ?_
  refine TQ_pure rfl (pur_and rfl rfl rfl) rfl ?_
  refine TQ_pure rfl (pur_assign rfl) rfl ?_
  refine TQ_nil ?_
  refine te [(0, (.b 0 0)), (3, (intA (bitI .and .i64 (bitI .xor .i64 (shrI .i64 (w64 ((w64 (c0.h * 6364136223846793005)) + 1442695040888963407)) 33) (shrI .i64 (w64 ((w64 (c0.h * 6364136223846793005)) + 1442695040888963407)) 45)) 255)))] rfl ?_
  refine T_seq ?_
  refine T_seq ?_
  refine T_regionD mixed (by kernel_rfl) ?_
  refine TQ_pure rfl (pur_move rfl) rfl ?_
  refine TQ_pure rfl (pur_nil_b rfl rfl) rfl ?_
  refine TQ_pure rfl (pur_fa_b fld118_1 rfl rfl) rfl ?_
  refine TQ_pure rfl (pur_ld_b one3 rfl rfl rfl rfl) rfl ?_
  refine TQ_pure rfl (pur_move rfl) rfl ?_
  refine TQ_pure rfl (pur_nil_b rfl rfl) rfl ?_
  refine TQ_pure rfl (pur_fa_b fld118_0 rfl rfl) rfl ?_
  refine TQ_pure rfl (pur_ld_b one27 rfl rfl rfl rfl) rfl ?_
  refine TQ_pure rfl (pur_lenT (T := (tI .u8)) sl27 rfl rfl) rfl ?_
  refine TQ_pure rfl (pur_lss rfl rfl rfl) rfl ?_
  refine TQ_nil ?_
  refine te [(0, (.b 0 0)), (3, (intA (bitI .and .i64 (bitI .xor .i64 (shrI .i64 (w64 ((w64 (c0.h * 6364136223846793005)) + 1442695040888963407)) 33) (shrI .i64 (w64 ((w64 (c0.h * 6364136223846793005)) + 1442695040888963407)) 45)) 255))), (34, (boolA (decide (c0.i < (c0.b.length : Int)))))] rfl ?_
  refine T_cond (t := decide (c0.i < (c0.b.length : Int))) rfl (fun c_1 => ?_) (fun c_1 => ?_)
  ·replace H := cond_t c_1 H
   refine T_seq ?_
   refine T_regionD mixed (by kernel_rfl) ?_
   refine TQ_pure rfl (pur_move rfl) rfl ?_
   refine TQ_pure rfl (pur_move rfl) rfl ?_
   refine TQ_pure rfl (pur_nil_b rfl rfl) rfl ?_
   refine TQ_pure rfl (pur_fa_b fld118_0 rfl rfl) rfl ?_
   refine TQ_pure rfl (pur_ld_b one27 rfl rfl rfl rfl) rfl ?_
   refine TQ_pure rfl (pur_move rfl) rfl ?_
   refine TQ_pure rfl (pur_nil_b rfl rfl) rfl ?_
   refine TQ_pure rfl (pur_fa_b fld118_1 rfl rfl) rfl ?_
   refine tqe [(0, (.b 0 0)), (3, (intA (bitI .and .i64 (bitI .xor .i64 (shrI .i64 (w64 ((w64 (c0.h * 6364136223846793005)) + 1442695040888963407)) 33) (shrI .i64 (w64 ((w64 (c0.h * 6364136223846793005)) + 1442695040888963407)) 45)) 255))), (35, (intA (bitI .and .i64 (bitI .xor .i64 (shrI .i64 (w64 ((w64 (c0.h * 6364136223846793005)) + 1442695040888963407)) 33) (shrI .i64 (w64 ((w64 (c0.h * 6364136223846793005)) + 1442695040888963407)) 45)) 255))), (39, (sl (tI .u8) c0.b)), (42, (.b 0 1))] rfl ?_
   refine TQ_pure rfl (pur_ld_b one3 rfl rfl rfl rfl) rfl ?_
   obtain ⟨v_2, h_3, H⟩ := bind_inv H
   obtain ⟨n_4, hz_5, hv_6⟩ := getI_inv h_3
   refine TQ_pure rfl (pur_ixT (T := (tI .u8)) sl27 rfl rfl hz_5 hv_6 rfl) rfl ?_
   refine TQ_pure rfl (pur_ldT (T := (tI .u8)) (i := n_4) (off := 0) rfl one5 rfl rfl hv_6 rfl) rfl ?_
   refine TQ_pure rfl (pur_convI (k := .i64) (k' := .u8) ⟨_, Try.underlying5⟩ Try.underlying3 rfl rfl) rfl ?_
   refine TQ_pure rfl (pur_wadd rfl rfl rfl) rfl ?_
   refine TQ_pure rfl (pur_and rfl rfl rfl) rfl ?_
   refine TQ_pure rfl (pur_assign rfl) rfl ?_
   refine TQ_nil ?_
   refine te [(0, (.b 0 0)), (3, (intA (bitI .and .i64 (w64 ((bitI .and .i64 (bitI .xor .i64 (shrI .i64 (w64 ((w64 (c0.h * 6364136223846793005)) + 1442695040888963407)) 33) (shrI .i64 (w64 ((w64 (c0.h * 6364136223846793005)) + 1442695040888963407)) 45)) 255) + (w64 v_2))) 255)))] rfl ?_
   refine T_region ?_
   refine Tp rfl rfl (pur_move rfl) rfl ?_
   refine Tp rfl rfl (pur_move rfl) rfl ?_
   refine Tp rfl rfl (pur_nil_b rfl rfl) rfl ?_
   refine Tp rfl rfl (pur_fa_b fld118_1 rfl rfl) rfl ?_
   refine Tp rfl rfl (pur_ld_b one3 rfl rfl rfl rfl) rfl ?_
   refine Tp rfl rfl (pur_wadd rfl rfl rfl) rfl ?_
   refine Tp rfl rfl (pur_nil_b rfl rfl) rfl ?_
   refine Tp rfl rfl (pur_fa_b fld118_1 rfl rfl) rfl ?_
   refine TO_cons rfl (TOp_storeB sz3 rfl rfl rfl rfl rfl rfl rfl (by decide) (lb rfl) rfl ?_)
   refine TO_st (σ' := [.box [(sl (tI .u8) c0.b), (intA (w64 (c0.i + 1))), (intA (w64 ((w64 (c0.h * 6364136223846793005)) + 1442695040888963407)))]]) rfl ?_
   refine TO_nil ?_
   refine te [(3, (intA (bitI .and .i64 (w64 ((bitI .and .i64 (bitI .xor .i64 (shrI .i64 (w64 ((w64 (c0.h * 6364136223846793005)) + 1442695040888963407)) 33) (shrI .i64 (w64 ((w64 (c0.h * 6364136223846793005)) + 1442695040888963407)) 45)) 255) + (w64 v_2))) 255)))] rfl ?_
   refine sr ?_
   refine Tp rfl rfl (pur_move rfl) rfl ?_
   refine Tp rfl rfl (pur_assign rfl) rfl ?_
   refine TO_nil ?_
   refine te [(2, (intA (bitI .and .i64 (w64 ((bitI .and .i64 (bitI .xor .i64 (shrI .i64 (w64 ((w64 (c0.h * 6364136223846793005)) + 1442695040888963407)) 33) (shrI .i64 (w64 ((w64 (c0.h * 6364136223846793005)) + 1442695040888963407)) 45)) 255) + (w64 v_2))) 255)))] rfl ?_
   refine T_ret ?_
   obtain rfl := some_inj H
   exact end_pickX (.tmp .nil) rfl [0] (by decide) (lb rfl) rfl (lb rfl) rfl rfl rfl rfl rfl rfl
  ·replace H := cond_f c_1 H
   refine T_skip ?_
   refine te [(3, (intA (bitI .and .i64 (bitI .xor .i64 (shrI .i64 (w64 ((w64 (c0.h * 6364136223846793005)) + 1442695040888963407)) 33) (shrI .i64 (w64 ((w64 (c0.h * 6364136223846793005)) + 1442695040888963407)) 45)) 255)))] rfl ?_
   refine sr ?_
   refine Tp rfl rfl (pur_move rfl) rfl ?_
   refine Tp rfl rfl (pur_assign rfl) rfl ?_
   refine TO_nil ?_
   refine te [(2, (intA (bitI .and .i64 (bitI .xor .i64 (shrI .i64 (w64 ((w64 (c0.h * 6364136223846793005)) + 1442695040888963407)) 33) (shrI .i64 (w64 ((w64 (c0.h * 6364136223846793005)) + 1442695040888963407)) 45)) 255)))] rfl ?_
   refine T_ret ?_
   obtain rfl := some_inj H
   exact end_pickX (.tmp .nil) rfl [0] (by decide) (lb rfl) rfl (lb rfl) rfl rfl rfl rfl rfl rfl

set_option maxHeartbeats 1000000 in
/-- spec.l1Below -/
theorem m_spec_l1Below_x (c0 : l1Cur) (n1 : Int) (r : (Int × l1Cur)) (H : m_spec_l1Below c0 n1 = some r) : FnS prg 83 [(.b 0 0), (intA n1)] [.box [(sl (tI .u8) c0.b), (intA c0.i), (intA c0.h)]] (intA r.1) [.box [(sl (tI .u8) r.2.b), (intA r.2.i), (intA r.2.h)]] := by
  unfold m_spec_l1Below at H
  refine fnS_of_T Try.func83 rfl rfl (Nat.le_of_ble_eq_true rfl) ?_
  refine te [(0, (.b 0 0)), (1, (intA n1))] rfl ?_
  refine T_st (σ' := [.box [(sl (tI .u8) c0.b), (intA c0.i), (intA c0.h)]]) rfl ?_
  refine sr ?_
  refine Tp rfl rfl (pur_assign rfl) rfl ?_
  refine TO_nil ?_
  refine te [(0, (.b 0 0)), (1, (intA n1))] rfl ?_
  refine T_seq ?_
  refine sr ?_
  refine Tp rfl rfl (pur_move rfl) rfl ?_
  refine Tp rfl rfl (pur_leq rfl rfl rfl) rfl ?_
  refine TO_nil ?_
  refine te [(0, (.b 0 0)), (1, (intA n1)), (10, (boolA (decide (n1 ≤ 0))))] rfl ?_
  refine T_cond (t := decide (n1 ≤ 0)) rfl (fun c_1 => ?_) (fun c_1 => ?_)
  ·replace H := cond_t c_1 H
   refine sr ?_
   refine Tp rfl rfl (pur_assign rfl) rfl ?_
   refine TO_nil ?_
   refine te [(4, (intA 0))] rfl ?_
   refine T_ret ?_
   refine then_ret ?_
   obtain rfl := some_inj H
   exact end_pickX (.tmp .nil) rfl [0] (by decide) (lb rfl) rfl (lb rfl) rfl rfl rfl rfl rfl rfl
  ·replace H := cond_f c_1 H
   refine T_skip ?_
   refine te [(0, (.b 0 0)), (1, (intA n1))] rfl ?_
   refine T_seq ?_
   refine sr ?_
   refine Tp rfl rfl (pur_move rfl) rfl ?_
   refine Tp rfl rfl (pur_leq rfl rfl rfl) rfl ?_
   refine TO_nil ?_
   refine te [(0, (.b 0 0)), (1, (intA n1)), (12, (boolA (decide (n1 ≤ 256))))] rfl ?_
   refine T_cond (t := decide (n1 ≤ 256)) rfl (fun c_2 => ?_) (fun c_2 => ?_)
   ·replace H := cond_t c_2 H
    refine sr ?_
    refine Tp rfl rfl (pur_move rfl) rfl ?_
    obtain ⟨r_3, h_4, H⟩ := bind_inv H
    refine TO_cons rfl (TOp_callS [0] (call_static ent109 rfl) (by decide) rfl rfl rfl rfl rfl rfl (m_spec_l1Byte_x _ _ h_4) rfl rfl ?_)
    refine toe [(0, (.b 0 0)), (1, (intA n1)), (12, (boolA (decide (n1 ≤ 256)))), (13, (.b 0 0)), (14, (intA r_3.1))] rfl ?_
    refine TO_st (σ' := [.box [(sl (tI .u8) r_3.2.b), (intA r_3.2.i), (intA r_3.2.h)]]) rfl ?_
    refine Tp rfl rfl (pur_move rfl) rfl ?_
    obtain ⟨_u, h_5, H⟩ := bind_inv H
    refine Tp rfl rfl (pur_rem rfl rfl rfl (gD_inv h_5)) rfl ?_
    refine Tp rfl rfl (pur_assign rfl) rfl ?_
    refine TO_nil ?_
    refine te [(4, (intA (r_3.1.tmod n1)))] rfl ?_
    refine T_ret ?_
    refine then_ret ?_
    obtain rfl := some_inj H
    exact end_pickX (.tmp .nil) rfl [0] (by decide) (lb rfl) rfl (lb rfl) rfl rfl rfl rfl rfl rfl
   ·replace H := cond_f c_2 H
    refine T_skip ?_
    refine te [(0, (.b 0 0)), (1, (intA n1))] rfl ?_
    refine sr ?_
    refine Tp rfl rfl (pur_move rfl) rfl ?_
    obtain ⟨r_6, h_7, H⟩ := bind_inv H
    refine TO_cons rfl (TOp_callS [0] (call_static ent109 rfl) (by decide) rfl rfl rfl rfl rfl rfl (m_spec_l1Byte_x _ _ h_7) rfl rfl ?_)
    refine toe [(0, (.b 0 0)), (1, (intA n1)), (17, (.b 0 0)), (18, (intA r_6.1))] rfl ?_
    refine TO_st (σ' := [.box [(sl (tI .u8) r_6.2.b), (intA r_6.2.i), (intA r_6.2.h)]]) rfl ?_
    refine Tp rfl rfl (pur_assign rfl) rfl ?_
    refine TO_nil ?_
    refine te [(0, (.b 0 0)), (1, (intA n1)), (5, (intA r_6.1))] rfl ?_
    refine sr ?_
    refine Tp rfl rfl (pur_move rfl) rfl ?_
    obtain ⟨r_8, h_9, H⟩ := bind_inv H
    refine TO_cons rfl (TOp_callS [0] (call_static ent109 rfl) (by decide) rfl rfl rfl rfl rfl rfl (m_spec_l1Byte_x _ _ h_9) rfl rfl ?_)
    refine toe [(0, (.b 0 0)), (1, (intA n1)), (5, (intA r_6.1)), (19, (.b 0 0)), (20, (intA r_8.1))] rfl ?_
    refine TO_st (σ' := [.box [(sl (tI .u8) r_8.2.b), (intA r_8.2.i), (intA r_8.2.h)]]) rfl ?_
    refine Tp rfl rfl (pur_assign rfl) rfl ?_
    refine TO_nil ?_
    refine te [(0, (.b 0 0)), (1, (intA n1)), (5, (intA r_6.1)), (6, (intA r_8.1))] rfl ?_
    refine sr ?_
    refine Tp rfl rfl (pur_move rfl) rfl ?_
    obtain ⟨r_10, h_11, H⟩ := bind_inv H
    refine TO_cons rfl (TOp_callS [0] (call_static ent109 rfl) (by decide) rfl rfl rfl rfl rfl rfl (m_spec_l1Byte_x _ _ h_11) rfl rfl ?_)
    refine toe [(0, (.b 0 0)), (1, (intA n1)), (5, (intA r_6.1)), (6, (intA r_8.1)), (21, (.b 0 0)), (22, (intA r_10.1))] rfl ?_
    refine TO_st (σ' := [.box [(sl (tI .u8) r_10.2.b), (intA r_10.2.i), (intA r_10.2.h)]]) rfl ?_
    refine Tp rfl rfl (pur_assign rfl) rfl ?_
    refine TO_nil ?_
    refine te [(0, (.b 0 0)), (1, (intA n1)), (5, (intA r_6.1)), (6, (intA r_8.1)), (7, (intA r_10.1))] rfl ?_
    refine sr ?_
    refine Tp rfl rfl (pur_move rfl) rfl ?_
    obtain ⟨r_12, h_13, H⟩ := bind_inv H
    refine TO_cons rfl (TOp_callS [0] (call_static ent109 rfl) (by decide) rfl rfl rfl rfl rfl rfl (m_spec_l1Byte_x _ _ h_13) rfl rfl ?_)
    refine toe [(0, (.b 0 0)), (1, (intA n1)), (5, (intA r_6.1)), (6, (intA r_8.1)), (7, (intA r_10.1)), (23, (.b 0 0)), (24, (intA r_12.1))] rfl ?_
    refine TO_st (σ' := [.box [(sl (tI .u8) r_12.2.b), (intA r_12.2.i), (intA r_12.2.h)]]) rfl ?_
    refine Tp rfl rfl (pur_assign rfl) rfl ?_
    refine TO_nil ?_
    refine te [(1, (intA n1)), (5, (intA r_6.1)), (6, (intA r_8.1)), (7, (intA r_10.1)), (8, (intA r_12.1))] rfl ?_
    refine sr ?_
    refine Tp rfl rfl (pur_move rfl) rfl ?_
    refine Tp rfl rfl (pur_wmul rfl rfl rfl) rfl ?_
    refine Tp rfl rfl (pur_move rfl) rfl ?_
    refine Tp rfl rfl (pur_wmul rfl rfl rfl) rfl ?_
    refine Tp rfl rfl (pur_wadd rfl rfl rfl) rfl ?_
    refine Tp rfl rfl (pur_move rfl) rfl ?_
    refine Tp rfl rfl (pur_wmul rfl rfl rfl) rfl ?_
    refine Tp rfl rfl (pur_wadd rfl rfl rfl) rfl ?_
    refine toe [(1, (intA n1)), (8, (intA r_12.1)), (32, (intA (w64 ((w64 ((w64 (r_6.1 * 16777216)) + (w64 (r_8.1 * 65536)))) + (w64 (r_10.1 * 256))))))] rfl ?_
    refine Tp rfl rfl (pur_move rfl) rfl ?_
    refine Tp rfl rfl (pur_wadd rfl rfl rfl) rfl ?_
    refine Tp rfl rfl (pur_move rfl) rfl ?_
    obtain ⟨_u, h_14, H⟩ := bind_inv H
    refine Tp rfl rfl (pur_rem rfl rfl rfl (gD_inv h_14)) rfl ?_
    refine Tp rfl rfl (pur_assign rfl) rfl ?_
    refine TO_nil ?_
    refine te [(4, (intA ((w64 ((w64 ((w64 ((w64 (r_6.1 * 16777216)) + (w64 (r_8.1 * 65536)))) + (w64 (r_10.1 * 256)))) + r_12.1)).tmod n1)))] rfl ?_
    refine T_ret ?_
    obtain rfl := some_inj H
    exact end_pickX (.tmp .nil) rfl [0] (by decide) (lb rfl) rfl (lb rfl) rfl rfl rfl rfl rfl rfl

set_option maxHeartbeats 1000000 in
/-- spec.l1New -/
theorem m_spec_l1New_x (u : Nat) (code0 : (List Int)) (r : l1Cur) (H : m_spec_l1New u code0 = some r) : FnS prg 85 [(sl (tI .u8) code0)] [] (.b 0 0) [.box [(sl (tI .u8) r.b), (intA r.i), (intA r.h)]] := by
  unfold m_spec_l1New at H
  refine fnS_of_T Try.func85 rfl rfl (Nat.le_of_ble_eq_true rfl) ?_
  refine te [(0, (sl (tI .u8) code0))] rfl ?_
  refine T_st (σ' := []) rfl ?_
  refine sr ?_
  refine Tp rfl rfl (pur_assign rfl) rfl ?_
  refine TO_nil ?_
  refine te [(0, (sl (tI .u8) code0))] rfl ?_
  refine sr ?_
  refine Tp rfl rfl (pur_move rfl) rfl ?_
  refine Tp rfl rfl (pur_lenT (T := (tI .u8)) sl27 rfl rfl) rfl ?_
  refine Tp rfl rfl (pur_wadd rfl rfl rfl) rfl ?_
  refine Tp rfl rfl (pur_assign rfl) rfl ?_
  refine TO_nil ?_
  refine te [(0, (sl (tI .u8) code0)), (3, (intA (w64 (10101 + (code0.length : Int)))))] rfl ?_
  refine T_seq ?_
  refine sr ?_
  refine Tp rfl rfl (pur_assign rfl) rfl ?_
  refine TO_nil ?_
  refine te [(0, (sl (tI .u8) code0)), (3, (intA (w64 (10101 + (code0.length : Int))))), (4, (intA 0))] rfl ?_
  obtain ⟨O1_, L1_, N1_⟩ := bind_inv H
  clear H
  obtain ⟨B1_, hb1, L1_⟩ := gen_whileF L1_
  refine T_block ?_
  refine T_loopX (fun k => fun (x_ : Int × Int) => whileF B1_ k (x_.1, x_.2) = some O1_) (fun (x_ : Int × Int) => [(0, (sl (tI .u8) code0)), (3, (intA x_.1)), (4, (intA x_.2))]) (fun (x_ : Int × Int) => []) u ((w64 (10101 + (code0.length : Int))), 0) (wp 0 (lb rfl) rfl rfl rfl rfl rfl) L1_ ?_
  rintro _ ⟨h3, i4⟩ L1_
  obtain ⟨k1, rfl, C1_, H, K1_⟩ := while_step L1_
  rw [hb1] at H
  refine te [(0, (sl (tI .u8) code0)), (3, (intA h3)), (4, (intA i4))] rfl ?_
  refine T_st (σ' := []) rfl ?_
  refine T_seq ?_
  refine T_cutX (fun x => ((decide (i4 < (code0.length : Int))) && (decide (i4 < 4000))) = x) (fun (t15_2 : Bool) => [(0, (sl (tI .u8) code0)), (3, (intA h3)), (4, (intA i4)), (15, (boolA t15_2))]) (fun (t15_2 : Bool) => []) ?_ ?_
  ·skip
   refine T_region ?_
   refine Tp rfl rfl (pur_move rfl) rfl ?_
   refine Tp rfl rfl (pur_move rfl) rfl ?_
   refine Tp rfl rfl (pur_lenT (T := (tI .u8)) sl27 rfl rfl) rfl ?_
   refine Tp rfl rfl (pur_lss rfl rfl rfl) rfl ?_
   refine Tp rfl rfl (pur_move rfl) rfl ?_
   refine TO_split (t := decide (i4 < (code0.length : Int))) 12 rfl (fun g_4 => ?_) (fun g_4 => ?_)
   ·skip
    refine TO_on rfl rfl (by decide) rfl rfl (TOp_pure (pur_move rfl) rfl ?_)
    refine TO_on rfl rfl (by decide) rfl rfl (TOp_pure (pur_lss rfl rfl rfl) rfl ?_)
    refine Tp rfl rfl (pur_pick (t := true) rfl rfl rfl) rfl ?_
    refine TO_nil ?_
    exact joined (decide (i4 < 4000)) (wp 0 (lb rfl) rfl rfl rfl rfl rfl) (by first | exact Eq.symm ((and_T g_4 rfl)))
   ·skip
    refine TO_off rfl rfl (by decide) rfl rfl rfl ?_
    refine TO_off rfl rfl (by decide) rfl rfl rfl ?_
    refine Tp rfl rfl (pur_pick (t := false) rfl rfl rfl) rfl ?_
    refine TO_nil ?_
    exact joined false (wp 0 (lb rfl) rfl rfl rfl rfl rfl) (by first | exact Eq.symm ((and_F g_4 rfl)))
  ·rintro _ rfl
   refine te [(0, (sl (tI .u8) code0)), (3, (intA h3)), (4, (intA i4)), (15, (boolA ((decide (i4 < (code0.length : Int))) && (decide (i4 < 4000)))))] rfl ?_
   refine T_cond (t := ((decide (i4 < (code0.length : Int))) && (decide (i4 < 4000)))) rfl (fun c_5 => ?_) (fun c_5 => ?_)
   ·replace H := cond_t c_5 H
    refine T_skip ?_
    refine te [(0, (sl (tI .u8) code0)), (3, (intA h3)), (4, (intA i4))] rfl ?_
    refine T_seq ?_
    refine T_block ?_
    refine T_region ?_
    refine Tp rfl rfl (pur_move rfl) rfl ?_
    refine Tp rfl rfl (pur_wmul rfl rfl rfl) rfl ?_
    refine Tp rfl rfl (pur_move rfl) rfl ?_
    refine Tp rfl rfl (pur_move rfl) rfl ?_
    obtain ⟨v_6, h_7, H⟩ := bind_inv H
    obtain ⟨n_8, hz_9, hv_10⟩ := getI_inv h_7
    refine Tp rfl rfl (pur_ixT (T := (tI .u8)) sl27 rfl rfl hz_9 hv_10 rfl) rfl ?_
    refine Tp rfl rfl (pur_ldT (T := (tI .u8)) (i := n_8) (off := 0) rfl one5 rfl rfl hv_10 rfl) rfl ?_
    refine Tp rfl rfl (pur_convI (k := .i64) (k' := .u8) ⟨_, Try.underlying5⟩ Try.underlying3 rfl rfl) rfl ?_
    refine Tp rfl rfl (pur_wadd rfl rfl rfl) rfl ?_
    refine toe [(0, (sl (tI .u8) code0)), (3, (intA h3)), (4, (intA i4)), (25, (intA (w64 ((w64 (h3 * 131)) + (w64 v_6)))))] rfl ?_
    refine Tp rfl rfl (pur_wadd rfl rfl rfl) rfl ?_
    refine Tp rfl rfl (pur_and rfl rfl rfl) rfl ?_
    refine Tp rfl rfl (pur_assign rfl) rfl ?_
    refine TO_nil ?_
    refine te [(0, (sl (tI .u8) code0)), (3, (intA (bitI .and .i64 (w64 ((w64 ((w64 (h3 * 131)) + (w64 v_6))) + 7)) 1073741823))), (4, (intA i4))] rfl ?_
    refine T_region ?_
    refine Tp rfl rfl (pur_move rfl) rfl ?_
    refine Tp rfl rfl (pur_wadd rfl rfl rfl) rfl ?_
    refine Tp rfl rfl (pur_assign rfl) rfl ?_
    refine TO_nil ?_
    obtain rfl := some_inj H
    exact again k1 ((bitI .and .i64 (w64 ((w64 ((w64 (h3 * 131)) + (w64 v_6))) + 7)) 1073741823), (w64 (i4 + 1))) (Nat.lt_succ_self _) (wp 0 (lb rfl) rfl rfl rfl rfl rfl) K1_
   ·replace H := cond_f c_5 H
    refine T_exit ?_
    refine then_exit ?_
    refine then_exit ?_
    refine block_exit ?_
    obtain rfl := some_inj H
    obtain rfl := some_inj K1_
    replace H := onS_l N1_
    refine te [(0, (sl (tI .u8) code0)), (3, (intA h3))] rfl ?_
    refine sr ?_
    refine Tp rfl rfl (pur_move rfl) rfl ?_
    refine Tp rfl rfl (pur_move rfl) rfl ?_
    refine Tp rfl rfl (pur_build bld118 rfl rfl) rfl ?_
    refine TO_cons rfl (TOp_box rfl (boxAll rfl) rfl rfl ?_)
    refine Tp rfl rfl (pur_assign rfl) rfl ?_
    refine TO_nil ?_
    refine te [(2, (.b 0 0))] rfl ?_
    refine T_ret ?_
    obtain rfl := some_inj H
    exact end_pickX (.tmp .nil) rfl [0] (by decide) (lb rfl) rfl (lb rfl) rfl rfl rfl rfl rfl rfl

set_option maxHeartbeats 1000000 in
/-- spec.l1PickInt -/
theorem m_spec_l1PickInt_x (c0 : l1Cur) (list1 : (List Int)) (r : (Int × l1Cur)) (H : m_spec_l1PickInt c0 list1 = some r) : FnS prg 88 [(.b 0 0), (sl tInt list1)] [.box [(sl (tI .u8) c0.b), (intA c0.i), (intA c0.h)]] (intA r.1) [.box [(sl (tI .u8) r.2.b), (intA r.2.i), (intA r.2.h)]] := by
  unfold m_spec_l1PickInt at H
  refine fnS_of_T Try.func88 rfl rfl (Nat.le_of_ble_eq_true rfl) ?_
  refine te [(0, (.b 0 0)), (1, (sl tInt list1))] rfl ?_
  refine T_st (σ' := [.box [(sl (tI .u8) c0.b), (intA c0.i), (intA c0.h)]]) rfl ?_
  refine sr ?_
  refine Tp rfl rfl (pur_assign rfl) rfl ?_
  refine TO_nil ?_
  refine te [(0, (.b 0 0)), (1, (sl tInt list1))] rfl ?_
  refine sr ?_
  refine Tp rfl rfl (pur_move rfl) rfl ?_
  refine Tp rfl rfl (pur_move rfl) rfl ?_
  refine Tp rfl rfl (pur_move rfl) rfl ?_
  refine Tp rfl rfl (pur_lenT (T := tInt) sl33 rfl rfl) rfl ?_
  obtain ⟨r_1, h_2, H⟩ := bind_inv H
  refine TO_cons rfl (TOp_callS [0] (call_static ent83 rfl) (by decide) rfl rfl rfl rfl rfl rfl (m_spec_l1Below_x _ _ _ h_2) rfl rfl ?_)
  refine toe [(0, (.b 0 0)), (1, (sl tInt list1)), (5, (sl tInt list1)), (6, (.b 0 0)), (7, (sl tInt list1)), (8, (intA (list1.length : Int))), (9, (intA r_1.1))] rfl ?_
  refine TO_st (σ' := [.box [(sl (tI .u8) r_1.2.b), (intA r_1.2.i), (intA r_1.2.h)]]) rfl ?_
  obtain ⟨v_3, h_4, H⟩ := bind_inv H
  obtain ⟨n_5, hz_6, hv_7⟩ := getI_inv h_4
  refine Tp rfl rfl (pur_ixT (T := tInt) sl33 rfl rfl hz_6 hv_7 rfl) rfl ?_
  refine Tp rfl rfl (pur_ldT (T := tInt) (i := n_5) (off := 0) rfl one3 rfl rfl hv_7 rfl) rfl ?_
  refine Tp rfl rfl (pur_assign rfl) rfl ?_
  refine TO_nil ?_
  refine te [(4, (intA v_3))] rfl ?_
  refine T_ret ?_
  obtain rfl := some_inj H
  exact end_pickX (.tmp .nil) rfl [0] (by decide) (lb rfl) rfl (lb rfl) rfl rfl rfl rfl rfl rfl

set_option maxHeartbeats 1000000 in
/-- spec.l2Sigs -/
theorem m_spec_l2Sigs_x (c0 : l1Cur) (r : ((List Relation) × l1Cur)) (H : m_spec_l2Sigs c0 = some r) : FnS prg 126 [(.b 0 0)] [.box [(sl (tI .u8) c0.b), (intA c0.i), (intA c0.h)]] (.m [1] 0 r.1.length tRelation.k) [.box [(sl (tI .u8) r.2.b), (intA r.2.i), (intA r.2.h)], .row (flat tRelation.enc r.1)] := by
  unfold m_spec_l2Sigs at H
  refine fnS_of_T Try.func126 rfl rfl (Nat.le_of_ble_eq_true rfl) ?_
  refine te [(0, (.b 0 0))] rfl ?_
  refine T_st (σ' := [.box [(sl (tI .u8) c0.b), (intA c0.i), (intA c0.h)]]) rfl ?_
  refine sr ?_
  refine Tp rfl rfl (pur_assign rfl) rfl ?_
  refine TO_nil ?_
  refine te [(0, (.b 0 0))] rfl ?_
  refine sr ?_
  refine Tp rfl rfl (pur_build bld97 rfl rfl) rfl ?_
  refine Tp rfl rfl (pur_build bld97 rfl rfl) rfl ?_
  refine Tp rfl rfl (pur_move rfl) rfl ?_
  refine TO_cons rfl (TOp_lit (nn := 4) (k := 1) sl33 zero3 rfl rfl rfl rfl (by decide) ?_)
  refine TO_st (σ' := [.box [(sl (tI .u8) c0.b), (intA c0.i), (intA c0.h)], .row (flat tInt.enc ([1, 1, 2, 0] : (List Int)))]) rfl ?_
  refine TO_frz1 1 (E' := [(0, (.b 0 0)), (3, (.g [(strA (⟨#[114]⟩ : ByteArray)), (intA 2), (intA 1)])), (4, (.g [(strA (⟨#[115]⟩ : ByteArray)), (intA 2), (intA 1)])), (5, (.b 0 0)), (6, (sl tInt ([1, 1, 2, 0] : (List Int))))]) rfl rfl (lb rfl) ⟨(.keep rfl), (.keep rfl), (.keep rfl), (.keep rfl), fz1E, trivial⟩ ?_
  refine TO_st (σ' := [.box [(sl (tI .u8) c0.b), (intA c0.i), (intA c0.h)], .dead]) rfl ?_
  obtain ⟨r_1, h_2, H⟩ := bind_inv H
  refine TO_cons rfl (TOp_callS [0] (call_static ent88 rfl) (by decide) rfl rfl rfl rfl rfl rfl (m_spec_l1PickInt_x _ _ _ h_2) rfl rfl ?_)
  refine toe [(0, (.b 0 0)), (3, (.g [(strA (⟨#[114]⟩ : ByteArray)), (intA 2), (intA 1)])), (4, (.g [(strA (⟨#[115]⟩ : ByteArray)), (intA 2), (intA 1)])), (5, (.b 0 0)), (6, (sl tInt ([1, 1, 2, 0] : (List Int)))), (7, (intA r_1.1))] rfl ?_
  refine TO_st (σ' := [.box [(sl (tI .u8) r_1.2.b), (intA r_1.2.i), (intA r_1.2.h)], .dead]) rfl ?_
  refine Tp rfl rfl (pur_build bld97 rfl rfl) rfl ?_
  refine Tp rfl rfl (pur_move rfl) rfl ?_
  obtain ⟨r_3, h_4, H⟩ := bind_inv H
  refine TO_cons rfl (TOp_callS [0] (call_static ent83 rfl) (by decide) rfl rfl rfl rfl rfl rfl (m_spec_l1Below_x _ _ _ h_4) rfl rfl ?_)
  refine toe [(0, (.b 0 0)), (3, (.g [(strA (⟨#[114]⟩ : ByteArray)), (intA 2), (intA 1)])), (4, (.g [(strA (⟨#[115]⟩ : ByteArray)), (intA 2), (intA 1)])), (5, (.b 0 0)), (6, (sl tInt ([1, 1, 2, 0] : (List Int)))), (7, (intA r_1.1)), (8, (.g [(strA (⟨#[116]⟩ : ByteArray)), (intA 2), (intA r_1.1)])), (9, (.b 0 0)), (10, (intA r_3.1))] rfl ?_
  refine TO_st (σ' := [.box [(sl (tI .u8) r_3.2.b), (intA r_3.2.i), (intA r_3.2.h)], .dead]) rfl ?_
  refine toe [(3, (.g [(strA (⟨#[114]⟩ : ByteArray)), (intA 2), (intA 1)])), (4, (.g [(strA (⟨#[115]⟩ : ByteArray)), (intA 2), (intA 1)])), (8, (.g [(strA (⟨#[116]⟩ : ByteArray)), (intA 2), (intA r_1.1)])), (10, (intA r_3.1))] rfl ?_
  refine Tp rfl rfl (pur_wadd rfl rfl rfl) rfl ?_
  refine Tp rfl rfl (pur_build bld97 rfl rfl) rfl ?_
  refine TO_cons rfl (TOp_lit (nn := 4) (k := 3) sl29 zero97 rfl rfl rfl rfl (by decide) ?_)
  refine TO_st (σ' := [.box [(sl (tI .u8) r_3.2.b), (intA r_3.2.i), (intA r_3.2.h)], .dead, .row (flat tRelation.enc ([({ name := (⟨#[114]⟩ : ByteArray), arity := 2, keyLength := 1 } : Relation), ({ name := (⟨#[115]⟩ : ByteArray), arity := 2, keyLength := 1 } : Relation), ({ name := (⟨#[116]⟩ : ByteArray), arity := 2, keyLength := r_1.1 } : Relation), ({ name := (⟨#[117]⟩ : ByteArray), arity := 3, keyLength := (w64 (1 + r_3.1)) } : Relation)] : (List Relation)))]) rfl ?_
  refine Tp rfl rfl (pur_assign rfl) rfl ?_
  refine TO_nil ?_
  refine te [(2, (.m [2] 0 ([({ name := (⟨#[114]⟩ : ByteArray), arity := 2, keyLength := 1 } : Relation), ({ name := (⟨#[115]⟩ : ByteArray), arity := 2, keyLength := 1 } : Relation), ({ name := (⟨#[116]⟩ : ByteArray), arity := 2, keyLength := r_1.1 } : Relation), ({ name := (⟨#[117]⟩ : ByteArray), arity := 3, keyLength := (w64 (1 + r_3.1)) } : Relation)] : (List Relation)).length tRelation.k))] rfl ?_
  refine T_ret ?_
  obtain rfl := some_inj H
  exact end_pickX (.tmp .nil) rfl [0, 2] (by decide) (lb rfl) rfl (lb rfl) rfl rfl rfl rfl rfl rfl
end Go.Proofs.Ytlcpdlngbofgcaa

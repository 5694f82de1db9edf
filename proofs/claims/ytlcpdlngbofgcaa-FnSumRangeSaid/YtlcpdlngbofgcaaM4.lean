/- Walks. -/
import Derived.Test.YtlcpdlngbofgcaaM1
import Derived.Test.YtlcpdlngbofgcaaM3
set_option linter.unusedVariables false
set_option linter.unusedSimpArgs false
set_option maxRecDepth 4000
namespace Go.Proofs.Ytlcpdlngbofgcaa
open Go Go.Proofs Go.Sep
set_option maxHeartbeats 1000000 in
/-- spec.Blocks -/
theorem m_spec_Blocks_own (u : Nat) (d0 : Database) (r : (List (List Int))) (H : m_spec_Blocks u d0 = some r) : FnO prg 79 [(.g (tDatabase.enc d0))] (.m [0] 0 r.length (tSl tInt).k) [.row (flat (tSl tInt).own r)] := by
  unfold m_spec_Blocks at H
  refine fnO_of_T Try.func79 rfl rfl (Nat.le_of_ble_eq_true rfl) ?_
  refine T_env (E' := [(0, (.g (tDatabase.enc d0)))]) ⟨rfl, trivial⟩ ?_
  refine sr ?_
  refine TO_cons rfl (TOp_box rfl (boxAll rfl) rfl rfl ?_)
  refine Tp rfl rfl (pur_assign rfl) rfl ?_
  refine TO_nil ?_
  refine T_env (E' := [(1, (.b 0 0))]) ⟨rfl, trivial⟩ ?_
  refine sr ?_
  refine TO_cons rfl (TOp_lit (nn := 0) (k := 1) sl22 zero33 rfl rfl rfl rfl (by decide) ?_)
  refine TO_st (σ' := [.box [(sl tRelation d0.relations), (sl tFact d0.facts)], .row (flat (tSl tInt).own ([] : (List (List Int))))]) rfl ?_
  refine Tp rfl rfl (pur_assign rfl) rfl ?_
  refine TO_nil ?_
  refine T_env (E' := [(1, (.b 0 0)), (3, (.m [1] 0 ([] : (List (List Int))).length (tSl tInt).k))]) ⟨rfl, rfl, trivial⟩ ?_
  refine T_seq ?_
  refine sr ?_
  refine Tp rfl rfl (pur_assign rfl) rfl ?_
  refine TO_nil ?_
  refine T_env (E' := [(1, (.b 0 0)), (3, (.m [1] 0 ([] : (List (List Int))).length (tSl tInt).k)), (4, (intA 0))]) ⟨rfl, rfl, rfl, trivial⟩ ?_
  obtain ⟨O1_, L1_, N1_⟩ := bind_inv H
  clear H
  obtain ⟨B1_, hb1, L1_⟩ := gen_whileF L1_
  refine T_block ?_
  refine T_loopX (fun k => fun (x_ : (List (List Int)) × Int) => whileF B1_ k (x_.1, x_.2) = some O1_) (fun (x_ : (List (List Int)) × Int) => [(1, (.b 0 0)), (3, (.m [1] 0 x_.1.length (tSl tInt).k)), (4, (intA x_.2))]) (fun (x_ : (List (List Int)) × Int) => [.box [(sl tRelation d0.relations), (sl tFact d0.facts)], .row (flat (tSl tInt).own x_.1)]) u (([] : (List (List Int))), 0) (wp 2 (lb rfl) rfl rfl rfl rfl ⟨rfl, rfl, rfl, trivial⟩) L1_ ?_
  rintro _ ⟨out3, i4⟩ L1_
  obtain ⟨k1, rfl, C1_, H, K1_⟩ := while_step L1_
  rw [hb1] at H
  refine T_env (E' := [(1, (.b 0 0)), (3, (.m [1] 0 out3.length (tSl tInt).k)), (4, (intA i4))]) ⟨rfl, rfl, rfl, trivial⟩ ?_
  refine T_st (σ' := [.box [(sl tRelation d0.relations), (sl tFact d0.facts)], .row (flat (tSl tInt).own out3)]) rfl ?_
  refine T_seq ?_
  obtain ⟨t15_2, J_2, H_3⟩ := bind_inv H
  refine T_cutX (fun x => t15_2 = x) (fun (t15_2 : Bool) => [(1, (.b 0 0)), (3, (.m [1] 0 out3.length (tSl tInt).k)), (4, (intA i4)), (15, (boolA t15_2))]) (fun (t15_2 : Bool) => [.box [(sl tRelation d0.relations), (sl tFact d0.facts)], .row (flat (tSl tInt).own out3)]) ?_ ?_
  · replace H := J_2
    refine T_region ?_
    refine Tp rfl rfl (pur_move rfl) rfl ?_
    refine Tp rfl rfl (pur_fa_b fld32_1 rfl rfl) rfl ?_
    refine Tp rfl rfl (pur_ld_b one30 rfl rfl rfl rfl) rfl ?_
    refine Tp rfl rfl (pur_lenT (T := tFact) sl30 rfl rfl) rfl ?_
    refine Tp rfl rfl (pur_lss rfl rfl rfl) rfl ?_
    refine Tp rfl rfl (pur_move rfl) rfl ?_
    refine TO_split (t := decide (i4 < (d0.facts.length : Int))) 12 rfl (fun g_4 => ?_) (fun g_4 => ?_)
    · replace H := cond_t g_4 H
      refine TO_on rfl rfl (by decide) rfl rfl (TOp_pure (pur_ldK_b agg32 rfl rfl (lb rfl) rfl) rfl ?_)
      obtain ⟨r_5, h_6, H⟩ := bind_inv H
      refine TO_on rfl rfl (by decide) rfl rfl (TOp_callV (call_static ent76 rfl) (m_spec_IsValidDatabase_ok u _ _ h_6) rfl rfl rfl ?_)
      refine Tp rfl rfl (pur_pick (t := true) rfl rfl rfl) rfl ?_
      refine TO_nil ?_
      exact joined r_5 (wp 2 (lb rfl) rfl rfl rfl rfl ⟨rfl, rfl, rfl, rfl, trivial⟩) (some_inj H).symm
    · replace H := cond_f g_4 H
      refine TO_off rfl rfl (by decide) rfl rfl rfl ?_
      refine TO_off rfl rfl (by decide) rfl rfl rfl ?_
      refine Tp rfl rfl (pur_pick (t := false) rfl rfl rfl) rfl ?_
      refine TO_nil ?_
      exact joined false (wp 2 (lb rfl) rfl rfl rfl rfl ⟨rfl, rfl, rfl, rfl, trivial⟩) (some_inj H).symm
  · rintro _ rfl
    replace H := H_3
    refine T_env (E' := [(1, (.b 0 0)), (3, (.m [1] 0 out3.length (tSl tInt).k)), (4, (intA i4)), (15, (boolA t15_2))]) ⟨rfl, rfl, rfl, rfl, trivial⟩ ?_
    refine T_cond (t := t15_2) rfl (fun c_7 => ?_) (fun c_7 => ?_)
    · replace H := cond_t c_7 H
      refine T_skip ?_
      refine T_env (E' := [(1, (.b 0 0)), (3, (.m [1] 0 out3.length (tSl tInt).k)), (4, (intA i4))]) ⟨rfl, rfl, rfl, trivial⟩ ?_
      refine T_seq ?_
      refine T_block ?_
      refine sr ?_
      refine Tp rfl rfl (pur_ldK_b agg32 rfl rfl (lb rfl) rfl) rfl ?_
      refine Tp rfl rfl (pur_move rfl) rfl ?_
      obtain ⟨r_8, h_9, H⟩ := bind_inv H
      refine TO_cons rfl (TOp_callO (call_static ent105 rfl) rfl (m_spec_BlockOf_own u _ _ _ h_9) rfl rfl rfl ?_)
      refine TO_env (E' := [(1, (.b 0 0)), (3, (.m [1] 0 out3.length (tSl tInt).k)), (4, (intA i4)), (18, (.g (tDatabase.enc d0))), (19, (intA i4)), (20, (.m [2] 0 r_8.length tInt.k))]) ⟨rfl, rfl, rfl, rfl, rfl, rfl, trivial⟩ ?_
      refine TO_st (σ' := [.box [(sl tRelation d0.relations), (sl tFact d0.facts)], .row (flat (tSl tInt).own out3), .row (flat tInt.own r_8)]) rfl ?_
      refine Tp rfl rfl (pur_assign rfl) rfl ?_
      refine TO_nil ?_
      refine T_env (E' := [(1, (.b 0 0)), (3, (.m [1] 0 out3.length (tSl tInt).k)), (4, (intA i4)), (5, (.m [2] 0 r_8.length tInt.k))]) ⟨rfl, rfl, rfl, rfl, trivial⟩ ?_
      refine sr ?_
      refine Tp rfl rfl (pur_move rfl) rfl ?_
      obtain ⟨v_10, h_11, H⟩ := bind_inv H
      obtain ⟨n_12, hz_13, hv_14⟩ := getI_inv h_11
      refine Tp rfl rfl (pur_ixM (T := tInt) sl33 rfl rfl hz_13 hv_14 rfl) rfl ?_
      refine Tp rfl rfl (pur_ldE (f := tInt.own) (k := tInt.k) (i := n_12) (off := 0) tInt.lenO rfl one3 rfl rfl rfl hv_14 rfl rfl) rfl ?_
      refine Tp rfl rfl (pur_move rfl) rfl ?_
      refine Tp rfl rfl (pur_eql rfl rfl rfl) rfl ?_
      refine TO_nil ?_
      refine T_env (E' := [(1, (.b 0 0)), (3, (.m [1] 0 out3.length (tSl tInt).k)), (4, (intA i4)), (5, (.m [2] 0 r_8.length tInt.k)), (25, (boolA (decide (v_10 = i4))))]) ⟨rfl, rfl, rfl, rfl, rfl, trivial⟩ ?_
      refine T_cond (t := decide (v_10 = i4)) rfl (fun c_15 => ?_) (fun c_15 => ?_)
      · replace H := cond_t c_15 H
        refine T_region ?_
        refine Tp rfl rfl (pur_move rfl) rfl ?_
        refine Tp rfl rfl (pur_move rfl) rfl ?_
        refine TO_cons rfl (TOp_litB (nn := 1) (k := 1) sl22 zero33 rfl rfl rfl rfl (by decide) ?_)
        refine TO_st (σ' := [.box [(sl tRelation d0.relations), (sl tFact d0.facts)], .row (flat (tSl tInt).own out3), .row (flat tInt.own r_8), .box [(.m [2] 0 r_8.length tInt.k)]]) rfl ?_
        refine TO_boxify 1 rfl (lb rfl) ?_
        obtain ⟨us_16, h_17, H⟩ := bind_inv H
        refine TO_cons rfl (TOp_appB (T := (tSl tInt)) (xs := out3) (v := r_8) sl22 zero33 rfl bytes33 (by decide) rfl rfl rfl rfl rfl rfl rfl rfl h_17 (lb rfl) ?_)
        refine TO_env (E' := [(1, (.b 0 0)), (4, (intA i4)), (25, (boolA (decide (v_10 = i4)))), (29, .m [4] 0 (out3.length + 1) (tSl tInt).k)]) ⟨rfl, rfl, rfl, rfl, trivial⟩ ?_
        refine TO_st (σ' := [.box [(sl tRelation d0.relations), (sl tFact d0.facts)], .dead, .row (flat tInt.own r_8), .box [(.m [2] 0 r_8.length tInt.k)], .box (flat (tSl tInt).own out3 ++ [(.m [2] 0 r_8.length tInt.k)])]) rfl ?_
        refine TO_absorbA (pr := flat (tSl tInt).own out3) 4 0 2 rfl rfl rfl (by decide) tInt.pos (flat_len tInt.lenO _) (lb rfl) (lb rfl) rfl (nms_box rfl (nms_dead (nms_row (nms_box rfl (nms_box (namesA namesL_own rfl) nms_nil))))) ?_
        refine TO_st (σ' := [.box [(sl tRelation d0.relations), (sl tFact d0.facts)], .dead, .dead, .box [(.m [2] 0 r_8.length tInt.k)], .box (flat (tSl tInt).own out3 ++ [.o tInt.k (flat tInt.own r_8)])]) rfl ?_
        refine TO_rowifyT (T := (tSl tInt)) (xs := out3) (v := r_8) 4 rfl rfl h_17 (lb rfl) ?_
        refine TO_st (σ' := [.box [(sl tRelation d0.relations), (sl tFact d0.facts)], .dead, .dead, .box [(.m [2] 0 r_8.length tInt.k)], .row (flat (tSl tInt).own us_16)]) rfl ?_
        refine TO_move 1 4 (by decide) (lb rfl) rfl rfl (lb rfl) ?_
        refine TO_env (E' := [(1, (.b 0 0)), (4, (intA i4)), (25, (boolA (decide (v_10 = i4)))), (29, (.m [1] 0 us_16.length (tSl tInt).k))]) ⟨rfl, rfl, rfl, (congrArg (fun q => A.m [1] 0 q (tSl tInt).k) (app_len h_17)), trivial⟩ ?_
        refine TO_kill 3 (lb rfl) ?_
        refine TO_st (σ' := [.box [(sl tRelation d0.relations), (sl tFact d0.facts)], .row (flat (tSl tInt).own us_16), .dead, .dead, .dead]) rfl ?_
        refine Tp rfl rfl (pur_assign rfl) rfl ?_
        refine TO_nil ?_
        refine T_env (E' := [(1, (.b 0 0)), (3, (.m [1] 0 us_16.length (tSl tInt).k)), (4, (intA i4))]) ⟨rfl, rfl, rfl, trivial⟩ ?_
        refine T_region ?_
        refine Tp rfl rfl (pur_move rfl) rfl ?_
        refine Tp rfl rfl (pur_wadd rfl rfl rfl) rfl ?_
        refine Tp rfl rfl (pur_assign rfl) rfl ?_
        refine TO_nil ?_
        obtain rfl := some_inj H
        exact again k1 (us_16, (w64 (i4 + 1))) (Nat.lt_succ_self _) (wp 2 (lb rfl) rfl rfl rfl rfl ⟨rfl, rfl, rfl, trivial⟩) K1_
      · replace H := cond_f c_15 H
        refine T_skip ?_
        refine T_env (E' := [(1, (.b 0 0)), (3, (.m [1] 0 out3.length (tSl tInt).k)), (4, (intA i4))]) ⟨rfl, rfl, rfl, trivial⟩ ?_
        refine T_region ?_
        refine Tp rfl rfl (pur_move rfl) rfl ?_
        refine Tp rfl rfl (pur_wadd rfl rfl rfl) rfl ?_
        refine Tp rfl rfl (pur_assign rfl) rfl ?_
        refine TO_nil ?_
        obtain rfl := some_inj H
        exact again k1 (out3, (w64 (i4 + 1))) (Nat.lt_succ_self _) (wp 2 (lb rfl) rfl rfl rfl rfl ⟨rfl, rfl, rfl, trivial⟩) K1_
    · replace H := cond_f c_7 H
      refine T_exit ?_
      refine then_exit ?_
      refine then_exit ?_
      refine block_exit ?_
      obtain rfl := some_inj H
      obtain rfl := some_inj K1_
      replace H := onS_l N1_
      refine T_env (E' := [(3, (.m [1] 0 out3.length (tSl tInt).k))]) ⟨rfl, trivial⟩ ?_
      refine sr ?_
      refine Tp rfl rfl (pur_move rfl) rfl ?_
      refine Tp rfl rfl (pur_assign rfl) rfl ?_
      refine TO_nil ?_
      refine T_env (E' := [(2, (.m [1] 0 out3.length (tSl tInt).k))]) ⟨rfl, trivial⟩ ?_
      refine T_ret ?_
      obtain rfl := some_inj H
      exact end_pick (.tmp .nil) rfl [1] (by decide) rfl rfl rfl rfl rfl rfl
theorem m_spec_Blocks_ok (u : Nat) (d0 : Database) (r : (List (List Int))) (H : m_spec_Blocks u d0 = some r) : FnV prg 79 [(.g (tDatabase.enc d0))] (sl (tSl tInt) r) := (m_spec_Blocks_own u d0 r H).frz (frzT (T := (tSl tInt)) rfl)

set_option maxHeartbeats 1000000 in
/-- spec.l27Vals -/
theorem m_spec_l27Vals_own (u : Nat) (d0 : Database) (r1 : Int) (col2 : Int) (r : (List (List Int))) (H : m_spec_l27Vals u d0 r1 col2 = some r) : FnO prg 68 [(.g (tDatabase.enc d0)), (intA r1), (intA col2)] (.m [0] 0 r.length (tSl tInt).k) [.row (flat (tSl tInt).own r)] := by
  unfold m_spec_l27Vals at H
  refine fnO_of_T Try.func68 rfl rfl (Nat.le_of_ble_eq_true rfl) ?_
  refine T_env (E' := [(0, (.g (tDatabase.enc d0))), (1, (intA r1)), (2, (intA col2))]) ⟨rfl, rfl, rfl, trivial⟩ ?_
  refine sr ?_
  refine TO_cons rfl (TOp_box rfl (boxAll rfl) rfl rfl ?_)
  refine Tp rfl rfl (pur_assign rfl) rfl ?_
  refine TO_nil ?_
  refine T_env (E' := [(1, (intA r1)), (2, (intA col2)), (3, (.b 0 0))]) ⟨rfl, rfl, rfl, trivial⟩ ?_
  refine sr ?_
  refine TO_cons rfl (TOp_lit (nn := 0) (k := 1) sl22 zero33 rfl rfl rfl rfl (by decide) ?_)
  refine TO_st (σ' := [.box [(sl tRelation d0.relations), (sl tFact d0.facts)], .row (flat (tSl tInt).own ([] : (List (List Int))))]) rfl ?_
  refine Tp rfl rfl (pur_assign rfl) rfl ?_
  refine TO_nil ?_
  refine T_env (E' := [(1, (intA r1)), (2, (intA col2)), (3, (.b 0 0)), (7, (.m [1] 0 ([] : (List (List Int))).length (tSl tInt).k))]) ⟨rfl, rfl, rfl, rfl, trivial⟩ ?_
  refine sr ?_
  refine Tp rfl rfl (pur_ldK_b agg32 rfl rfl (lb rfl) rfl) rfl ?_
  obtain ⟨r_1, h_2, H⟩ := bind_inv H
  refine TO_cons rfl (TOp_callV (call_static ent79 rfl) (m_spec_Blocks_ok u _ _ h_2) rfl rfl rfl ?_)
  refine Tp rfl rfl (pur_assign rfl) rfl ?_
  refine TO_nil ?_
  refine T_env (E' := [(1, (intA r1)), (2, (intA col2)), (3, (.b 0 0)), (7, (.m [1] 0 ([] : (List (List Int))).length (tSl tInt).k)), (8, (sl (tSl tInt) r_1))]) ⟨rfl, rfl, rfl, rfl, rfl, trivial⟩ ?_
  refine T_seq ?_
  refine sr ?_
  refine Tp rfl rfl (pur_assign rfl) rfl ?_
  refine TO_nil ?_
  refine T_env (E' := [(1, (intA r1)), (2, (intA col2)), (3, (.b 0 0)), (7, (.m [1] 0 ([] : (List (List Int))).length (tSl tInt).k)), (8, (sl (tSl tInt) r_1)), (9, (intA 0))]) ⟨rfl, rfl, rfl, rfl, rfl, rfl, trivial⟩ ?_
  obtain ⟨O4_, L4_, N4_⟩ := bind_inv H
  clear H
  obtain ⟨B4_, hb4, L4_⟩ := gen_forS L4_
  refine T_block ?_
  refine T_loopX (fun k => fun (x_ : Nat × (List (List Int))) => k = r_1.length - x_.1 ∧ forS B4_ (r_1.drop x_.1) (x_.1 : Int) x_.2 = some O4_) (fun (x_ : Nat × (List (List Int))) => [(1, (intA r1)), (2, (intA col2)), (3, (.b 0 0)), (7, (.m [1] 0 x_.2.length (tSl tInt).k)), (8, (sl (tSl tInt) r_1)), (9, (intA (x_.1 : Int)))]) (fun (x_ : Nat × (List (List Int))) => [.box [(sl tRelation d0.relations), (sl tFact d0.facts)], .row (flat (tSl tInt).own x_.2)]) _ (0, ([] : (List (List Int)))) (wp 2 (lb rfl) rfl rfl rfl rfl ⟨rfl, rfl, rfl, rfl, rfl, rfl, trivial⟩) ⟨rfl, L4_⟩ ?_
  rintro _ ⟨i_3, out7⟩ ⟨rfl, L4_⟩
  refine T_env (E' := [(1, (intA r1)), (2, (intA col2)), (3, (.b 0 0)), (7, (.m [1] 0 out7.length (tSl tInt).k)), (8, (sl (tSl tInt) r_1)), (9, (intA (i_3 : Int)))]) ⟨rfl, rfl, rfl, rfl, rfl, rfl, trivial⟩ ?_
  refine T_st (σ' := [.box [(sl tRelation d0.relations), (sl tFact d0.facts)], .row (flat (tSl tInt).own out7)]) rfl ?_
  refine T_fact (len_sl (T := (tSl tInt)) (.tmp 8) rfl) (fun hl4 => ?_)
  refine T_seq ?_
  refine sr ?_
  refine Tp rfl rfl (pur_move rfl) rfl ?_
  refine Tp rfl rfl (pur_move rfl) rfl ?_
  refine Tp rfl rfl (pur_lenT (T := (tSl tInt)) sl22 rfl rfl) rfl ?_
  refine Tp rfl rfl (pur_lss rfl rfl rfl) rfl ?_
  refine TO_nil ?_
  refine T_env (E' := [(1, (intA r1)), (2, (intA col2)), (3, (.b 0 0)), (7, (.m [1] 0 out7.length (tSl tInt).k)), (8, (sl (tSl tInt) r_1)), (9, (intA (i_3 : Int))), (18, (boolA (decide ((i_3 : Int) < (r_1.length : Int)))))]) ⟨rfl, rfl, rfl, rfl, rfl, rfl, rfl, trivial⟩ ?_
  refine T_cond (t := decide ((i_3 : Int) < (r_1.length : Int))) rfl (fun d4 => ?_) (fun d4 => ?_)
  · replace d4 := of_decide_eq_true d4
    obtain ⟨x_i_3, hx_i_3⟩ : ∃ v, (r_1)[i_3]? = some v := ⟨_, List.getElem?_eq_getElem (by omega)⟩
    obtain ⟨C4_, H, K4_⟩ := forS_step L4_ hx_i_3
    rw [hb4] at H
    refine T_skip ?_
    refine T_env (E' := [(1, (intA r1)), (2, (intA col2)), (3, (.b 0 0)), (7, (.m [1] 0 out7.length (tSl tInt).k)), (8, (sl (tSl tInt) r_1)), (9, (intA (i_3 : Int)))]) ⟨rfl, rfl, rfl, rfl, rfl, rfl, trivial⟩ ?_
    refine T_seq ?_
    refine T_block ?_
    refine T_seq ?_
    refine T_seq ?_
    refine T_regionD mixed (by kernel_rfl) ?_
    refine TQ_pure rfl (pur_fa_b fld32_1 rfl rfl) rfl ?_
    refine TQ_pure rfl (pur_ld_b one30 rfl rfl rfl rfl) rfl ?_
    refine TQ_pure rfl (pur_move rfl) rfl ?_
    refine TQ_pure rfl (pur_move rfl) rfl ?_
    refine TQ_pure rfl (pur_ixT (T := (tSl tInt)) sl22 rfl rfl rfl hx_i_3 rfl) rfl ?_
    refine TQ_pure rfl (pur_ldT (T := (tSl tInt)) (i := i_3) (off := 0) rfl one33 rfl rfl hx_i_3 rfl) rfl ?_
    obtain ⟨v_5, h_6, H⟩ := bind_inv H
    obtain ⟨n_7, hz_8, hv_9⟩ := getI_inv h_6
    refine TQ_pure rfl (pur_ixT (T := tInt) sl33 rfl rfl hz_8 hv_9 rfl) rfl ?_
    refine TQ_pure rfl (pur_ldT (T := tInt) (i := n_7) (off := 0) rfl one3 rfl rfl hv_9 rfl) rfl ?_
    refine TQ_env (E' := [(1, (intA r1)), (2, (intA col2)), (3, (.b 0 0)), (7, (.m [1] 0 out7.length (tSl tInt).k)), (8, (sl (tSl tInt) r_1)), (9, (intA (i_3 : Int))), (22, (sl tFact d0.facts)), (28, (intA v_5))]) ⟨rfl, rfl, rfl, rfl, rfl, rfl, rfl, rfl, trivial⟩ ?_
    obtain ⟨v_10, h_11, H⟩ := bind_inv H
    obtain ⟨n_12, hz_13, hv_14⟩ := getI_inv h_11
    refine TQ_pure rfl (pur_ixT (T := tFact) sl30 rfl rfl hz_13 hv_14 rfl) rfl ?_
    refine TQ_pure rfl (pur_fa_q fld60_0 rfl rfl) rfl ?_
    refine TQ_pure rfl (pur_ldT (T := tFact) (i := n_12) (off := 0) rfl one3 rfl rfl hv_14 rfl) rfl ?_
    refine TQ_pure rfl (pur_move rfl) rfl ?_
    refine TQ_pure rfl (pur_neq rfl rfl rfl) rfl ?_
    refine TQ_nil ?_
    refine T_env (E' := [(1, (intA r1)), (2, (intA col2)), (3, (.b 0 0)), (7, (.m [1] 0 out7.length (tSl tInt).k)), (8, (sl (tSl tInt) r_1)), (9, (intA (i_3 : Int))), (33, (boolA (decide (v_10.relation ≠ r1))))]) ⟨rfl, rfl, rfl, rfl, rfl, rfl, rfl, trivial⟩ ?_
    refine T_cond (t := decide (v_10.relation ≠ r1)) rfl (fun c_15 => ?_) (fun c_15 => ?_)
    · replace H := cond_t c_15 H
      refine T_exit ?_
      refine then_exit ?_
      refine block_exit ?_
      refine T_env (E' := [(1, (intA r1)), (2, (intA col2)), (3, (.b 0 0)), (7, (.m [1] 0 out7.length (tSl tInt).k)), (8, (sl (tSl tInt) r_1)), (9, (intA (i_3 : Int)))]) ⟨rfl, rfl, rfl, rfl, rfl, rfl, trivial⟩ ?_
      refine T_region ?_
      refine Tp rfl rfl (pur_move rfl) rfl ?_
      refine Tp rfl rfl (pur_add rfl rfl rfl (fits64 (by omega) (by omega))) rfl ?_
      refine Tp rfl rfl (pur_assign rfl) rfl ?_
      refine TO_nil ?_
      obtain rfl := some_inj H
      exact again (r_1.length - (i_3 + 1)) (i_3 + 1, out7) (by omega) (wp 2 (lb rfl) rfl rfl rfl rfl ⟨rfl, rfl, rfl, rfl, rfl, rfl, trivial⟩) ⟨rfl, K4_⟩
    · replace H := cond_f c_15 H
      refine T_skip ?_
      refine T_env (E' := [(1, (intA r1)), (2, (intA col2)), (3, (.b 0 0)), (7, (.m [1] 0 out7.length (tSl tInt).k)), (8, (sl (tSl tInt) r_1)), (9, (intA (i_3 : Int)))]) ⟨rfl, rfl, rfl, rfl, rfl, rfl, trivial⟩ ?_
      refine sr ?_
      refine TO_cons rfl (TOp_lit (nn := 0) (k := 1) sl33 zero3 rfl rfl rfl rfl (by decide) ?_)
      refine TO_st (σ' := [.box [(sl tRelation d0.relations), (sl tFact d0.facts)], .row (flat (tSl tInt).own out7), .row (flat tInt.enc ([] : (List Int)))]) rfl ?_
      refine Tp rfl rfl (pur_assign rfl) rfl ?_
      refine TO_nil ?_
      refine T_env (E' := [(1, (intA r1)), (2, (intA col2)), (3, (.b 0 0)), (7, (.m [1] 0 out7.length (tSl tInt).k)), (8, (sl (tSl tInt) r_1)), (9, (intA (i_3 : Int))), (10, (.m [2] 0 ([] : (List Int)).length tInt.k))]) ⟨rfl, rfl, rfl, rfl, rfl, rfl, rfl, trivial⟩ ?_
      refine T_seq ?_
      refine sr ?_
      refine Tp rfl rfl (pur_assign rfl) rfl ?_
      refine TO_nil ?_
      refine T_env (E' := [(1, (intA r1)), (2, (intA col2)), (3, (.b 0 0)), (7, (.m [1] 0 out7.length (tSl tInt).k)), (8, (sl (tSl tInt) r_1)), (9, (intA (i_3 : Int))), (10, (.m [2] 0 ([] : (List Int)).length tInt.k)), (11, (intA 0))]) ⟨rfl, rfl, rfl, rfl, rfl, rfl, rfl, rfl, trivial⟩ ?_
      obtain ⟨O16_, L16_, N16_⟩ := bind_inv H
      clear H
      obtain ⟨B16_, hb16, L16_⟩ := gen_whileF L16_
      refine T_block ?_
      refine T_loopX (fun k => fun (x_ : (List Int) × Int) => whileF B16_ k (x_.1, x_.2) = some O16_) (fun (x_ : (List Int) × Int) => [(1, (intA r1)), (2, (intA col2)), (3, (.b 0 0)), (7, (.m [1] 0 out7.length (tSl tInt).k)), (8, (sl (tSl tInt) r_1)), (9, (intA (i_3 : Int))), (10, (.m [2] 0 x_.1.length tInt.k)), (11, (intA x_.2))]) (fun (x_ : (List Int) × Int) => [.box [(sl tRelation d0.relations), (sl tFact d0.facts)], .row (flat (tSl tInt).own out7), .row (flat tInt.enc x_.1)]) u (([] : (List Int)), 0) (wp 3 (lb rfl) rfl rfl rfl rfl ⟨rfl, rfl, rfl, rfl, rfl, rfl, rfl, rfl, trivial⟩) L16_ ?_
      rintro _ ⟨l10, k11⟩ L16_
      obtain ⟨k16, rfl, C16_, H, K16_⟩ := while_step L16_
      rw [hb16] at H
      refine T_env (E' := [(1, (intA r1)), (2, (intA col2)), (3, (.b 0 0)), (7, (.m [1] 0 out7.length (tSl tInt).k)), (8, (sl (tSl tInt) r_1)), (9, (intA (i_3 : Int))), (10, (.m [2] 0 l10.length tInt.k)), (11, (intA k11))]) ⟨rfl, rfl, rfl, rfl, rfl, rfl, rfl, rfl, trivial⟩ ?_
      refine T_st (σ' := [.box [(sl tRelation d0.relations), (sl tFact d0.facts)], .row (flat (tSl tInt).own out7), .row (flat tInt.enc l10)]) rfl ?_
      refine T_seq ?_
      refine sr ?_
      refine Tp rfl rfl (pur_move rfl) rfl ?_
      refine Tp rfl rfl (pur_move rfl) rfl ?_
      refine Tp rfl rfl (pur_move rfl) rfl ?_
      refine Tp rfl rfl (pur_ixT (T := (tSl tInt)) sl22 rfl rfl rfl hx_i_3 rfl) rfl ?_
      refine Tp rfl rfl (pur_ldT (T := (tSl tInt)) (i := i_3) (off := 0) rfl one33 rfl rfl hx_i_3 rfl) rfl ?_
      refine Tp rfl rfl (pur_lenT (T := tInt) sl33 rfl rfl) rfl ?_
      refine Tp rfl rfl (pur_lss rfl rfl rfl) rfl ?_
      refine TO_nil ?_
      refine T_env (E' := [(1, (intA r1)), (2, (intA col2)), (3, (.b 0 0)), (7, (.m [1] 0 out7.length (tSl tInt).k)), (8, (sl (tSl tInt) r_1)), (9, (intA (i_3 : Int))), (10, (.m [2] 0 l10.length tInt.k)), (11, (intA k11)), (41, (boolA (decide (k11 < (x_i_3.length : Int)))))]) ⟨rfl, rfl, rfl, rfl, rfl, rfl, rfl, rfl, rfl, trivial⟩ ?_
      refine T_cond (t := decide (k11 < (x_i_3.length : Int))) rfl (fun c_17 => ?_) (fun c_17 => ?_)
      · replace H := cond_t c_17 H
        refine T_skip ?_
        refine T_env (E' := [(1, (intA r1)), (2, (intA col2)), (3, (.b 0 0)), (7, (.m [1] 0 out7.length (tSl tInt).k)), (8, (sl (tSl tInt) r_1)), (9, (intA (i_3 : Int))), (10, (.m [2] 0 l10.length tInt.k)), (11, (intA k11))]) ⟨rfl, rfl, rfl, rfl, rfl, rfl, rfl, rfl, trivial⟩ ?_
        refine T_seq ?_
        refine T_block ?_
        obtain ⟨v_18, h_19, H⟩ := bind_inv H
        obtain ⟨n_20, hz_21, hv_22⟩ := getI_inv h_19
        obtain ⟨v_23, h_24, H⟩ := bind_inv H
        obtain ⟨n_25, hz_26, hv_27⟩ := getI_inv h_24
        obtain ⟨v_28, h_29, H⟩ := bind_inv H
        obtain ⟨n_30, hz_31, hv_32⟩ := getI_inv h_29
        obtain ⟨us_33, h_34, H⟩ := bind_inv H
        refine T_pad ?_
        refine T_regionP mixed ?_
        refine TA_have 8 #[true, true, true, true, true, true, true, true, true, true, false, false, false, true, false, false, false, false, false] [(1, (intA r1)), (2, (intA col2)), (3, (.b 0 0)), (7, (.m [1] 0 out7.length (tSl tInt).k)), (8, (sl (tSl tInt) r_1)), (9, (intA (i_3 : Int))), (10, (.m [2] 0 l10.length tInt.k)), (11, (intA k11)), (44, (.m [2] 0 l10.length tInt.k)), (46, (sl tFact d0.facts)), (53, (intA v_18)), (57, (intA col2))] [.box [(sl tRelation d0.relations), (sl tFact d0.facts)], .row (flat (tSl tInt).own out7), .row (flat tInt.enc l10), .dead] ?_ (fun hj0_11 => ?_)
        · skip
          refine tf 10 rfl (purI_ixT (T := tFact) sl30 rfl rfl hz_26 hv_27 rfl) rfl rfl (by kernel_rfl) ?_
          refine tf 11 rfl (purI_fa_q fld60_1 rfl rfl) rfl rfl (by kernel_rfl) ?_
          refine t1 12 (by kernel_rfl) rfl rfl (TOp_pure (pur_ldT (T := tFact) (i := n_25) (off := 1) rfl one33 rfl rfl hv_27 rfl) rfl ?_)
          refine tf 14 rfl (purI_ixT (T := tInt) sl33 rfl rfl hz_31 hv_32 rfl) rfl rfl (by kernel_rfl) ?_
          refine t1 15 (by kernel_rfl) rfl rfl (TOp_pure (pur_ldT (T := tInt) (i := n_30) (off := 0) rfl one3 rfl rfl hv_32 rfl) rfl ?_)
          refine t1 16 (by kernel_rfl) rfl rfl (TOp_lit (nn := 1) (k := 1) sl33 zero3 rfl rfl rfl rfl (by decide) ?_)
          refine tmv 3 4 (by decide) (lb rfl) rfl rfl (lb rfl) ?_
          refine t1 17 (by kernel_rfl) rfl rfl (TOp_appY (T := tInt) (f := tInt.enc) (xs := l10) (ys := ([v_28] : (List Int))) tInt.len sl33 zero3 rfl bytes3 (by decide) rfl rfl rfl rfl (src_mT (f := tInt.enc) tInt.len rfl rfl (flat_cell tInt _)) (flat_cell tInt _) h_34 ?_)
          refine tmv 2 5 (by decide) (lb rfl) rfl rfl (lb rfl) ?_
          refine tf 18 rfl (purI_assign rfl) rfl rfl (by kernel_rfl) ?_
          refine TA_env (E' := [(1, (intA r1)), (2, (intA col2)), (3, (.b 0 0)), (7, (.m [1] 0 out7.length (tSl tInt).k)), (8, (sl (tSl tInt) r_1)), (9, (intA (i_3 : Int))), (10, (.m [2] 0 us_33.length tInt.k)), (11, (intA k11))]) ⟨rfl, rfl, rfl, rfl, rfl, rfl, rfl, rfl, trivial⟩ ?_
          refine TA_nil (by kernel_rfl) ?_
          refine T_env (E' := [(1, (intA r1)), (2, (intA col2)), (3, (.b 0 0)), (7, (.m [1] 0 out7.length (tSl tInt).k)), (8, (sl (tSl tInt) r_1)), (9, (intA (i_3 : Int))), (10, (.m [2] 0 us_33.length tInt.k)), (11, (intA k11))]) ⟨rfl, rfl, rfl, rfl, rfl, rfl, rfl, rfl, trivial⟩ ?_
          refine T_region ?_
          refine Tp rfl rfl (pur_move rfl) rfl ?_
          refine Tp rfl rfl (pur_wadd rfl rfl rfl) rfl ?_
          refine Tp rfl rfl (pur_assign rfl) rfl ?_
          refine TO_nil ?_
          obtain rfl := some_inj H
          exact again k16 (us_33, (w64 (k11 + 1))) (Nat.lt_succ_self _) (wp 3 (lb rfl) rfl rfl rfl rfl ⟨rfl, rfl, rfl, rfl, rfl, rfl, rfl, rfl, trivial⟩) K16_
        refine TA_have 9 #[true, true, true, true, true, true, true, true, true, false, false, false, false, true, false, false, false, false, false] [(1, (intA r1)), (2, (intA col2)), (3, (.b 0 0)), (7, (.m [1] 0 out7.length (tSl tInt).k)), (8, (sl (tSl tInt) r_1)), (9, (intA (i_3 : Int))), (10, (.m [2] 0 l10.length tInt.k)), (11, (intA k11)), (44, (.m [2] 0 l10.length tInt.k)), (46, (sl tFact d0.facts)), (52, (.q (flat tInt.enc x_i_3) (n_20 * tInt.k))), (57, (intA col2))] [.box [(sl tRelation d0.relations), (sl tFact d0.facts)], .row (flat (tSl tInt).own out7), .row (flat tInt.enc l10), .dead] ?_ (fun hj1_11 => ?_)
        · skip
          refine t1 9 (by kernel_rfl) rfl rfl (TOp_pure (pur_ldT (T := tInt) (i := n_20) (off := 0) rfl one3 rfl rfl hv_22 rfl) rfl ?_)
          exact tj hj0_11 rfl (wp 4 (lb rfl) rfl rfl rfl rfl ⟨rfl, rfl, rfl, rfl, rfl, rfl, rfl, rfl, rfl, rfl, rfl, rfl, trivial⟩)
        refine tf 0 rfl (purI_move rfl) rfl rfl (by kernel_rfl) ?_
        refine tf 1 rfl (purI_fa_b fld32_1 rfl rfl) rfl rfl (by kernel_rfl) ?_
        refine tf 3 rfl (purI_move rfl) rfl rfl (by kernel_rfl) ?_
        refine tf 4 rfl (purI_move rfl) rfl rfl (by kernel_rfl) ?_
        refine tf 5 rfl (purI_ixT (T := (tSl tInt)) sl22 rfl rfl rfl hx_i_3 rfl) rfl rfl (by kernel_rfl) ?_
        refine tf 7 rfl (purI_move rfl) rfl rfl (by kernel_rfl) ?_
        refine TA_env (E' := [(1, (intA r1)), (2, (intA col2)), (3, (.b 0 0)), (7, (.m [1] 0 out7.length (tSl tInt).k)), (8, (sl (tSl tInt) r_1)), (9, (intA (i_3 : Int))), (10, (.m [2] 0 l10.length tInt.k)), (11, (intA k11)), (44, (.m [2] 0 l10.length tInt.k)), (45, (.b 0 1)), (49, (.q (flat (tSl tInt).enc r_1) (i_3 * (tSl tInt).k))), (51, (intA k11))]) ⟨rfl, rfl, rfl, rfl, rfl, rfl, rfl, rfl, rfl, rfl, rfl, rfl, trivial⟩ ?_
        refine tf 13 rfl (purI_move rfl) rfl rfl (by kernel_rfl) ?_
        refine TA_all [2, 6] (by kernel_rfl) (by decide) ⟨?_, ?_, trivial⟩
        · skip
          refine ⟨_, rfl, rfl, (TOp_pure (pur_ld_b one30 rfl rfl rfl rfl) rfl ?_)⟩
          refine t1 6 (by kernel_rfl) rfl rfl (TOp_pure (pur_ldT (T := (tSl tInt)) (i := i_3) (off := 0) rfl one33 rfl rfl hx_i_3 rfl) rfl ?_)
          refine tf 8 rfl (purI_ixT (T := tInt) sl33 rfl rfl hz_21 hv_22 rfl) rfl rfl (by kernel_rfl) ?_
          exact tj hj1_11 rfl (wp 4 (lb rfl) rfl rfl rfl rfl ⟨rfl, rfl, rfl, rfl, rfl, rfl, rfl, rfl, rfl, rfl, rfl, rfl, trivial⟩)
        · skip
          refine ⟨_, rfl, rfl, (TOp_pure (pur_ldT (T := (tSl tInt)) (i := i_3) (off := 0) rfl one33 rfl rfl hx_i_3 rfl) rfl ?_)⟩
          refine tf 8 rfl (purI_ixT (T := tInt) sl33 rfl rfl hz_21 hv_22 rfl) rfl rfl (by kernel_rfl) ?_
          refine TA_all [2, 9] (by kernel_rfl) (by decide) ⟨?_, ?_, trivial⟩
          · skip
            refine ⟨_, rfl, rfl, (TOp_pure (pur_ld_b one30 rfl rfl rfl rfl) rfl ?_)⟩
            exact tj hj1_11 rfl (wp 4 (lb rfl) rfl rfl rfl rfl ⟨rfl, rfl, rfl, rfl, rfl, rfl, rfl, rfl, rfl, rfl, rfl, rfl, trivial⟩)
          · skip
            refine ⟨_, rfl, rfl, (TOp_pure (pur_ldT (T := tInt) (i := n_20) (off := 0) rfl one3 rfl rfl hv_22 rfl) rfl ?_)⟩
            refine t1 2 (by kernel_rfl) rfl rfl (TOp_pure (pur_ld_b one30 rfl rfl rfl rfl) rfl ?_)
            exact tj hj0_11 rfl (wp 4 (lb rfl) rfl rfl rfl rfl ⟨rfl, rfl, rfl, rfl, rfl, rfl, rfl, rfl, rfl, rfl, rfl, rfl, trivial⟩)
      · replace H := cond_f c_17 H
        refine T_exit ?_
        refine then_exit ?_
        refine then_exit ?_
        refine block_exit ?_
        obtain rfl := some_inj H
        obtain rfl := some_inj K16_
        replace H := onS_l N16_
        refine T_env (E' := [(1, (intA r1)), (2, (intA col2)), (3, (.b 0 0)), (7, (.m [1] 0 out7.length (tSl tInt).k)), (8, (sl (tSl tInt) r_1)), (9, (intA (i_3 : Int))), (10, (.m [2] 0 l10.length tInt.k))]) ⟨rfl, rfl, rfl, rfl, rfl, rfl, rfl, trivial⟩ ?_
        refine T_region ?_
        refine Tp rfl rfl (pur_move rfl) rfl ?_
        refine Tp rfl rfl (pur_move rfl) rfl ?_
        refine TO_cons rfl (TOp_litB (nn := 1) (k := 1) sl22 zero33 rfl rfl rfl rfl (by decide) ?_)
        refine TO_st (σ' := [.box [(sl tRelation d0.relations), (sl tFact d0.facts)], .row (flat (tSl tInt).own out7), .row (flat tInt.enc l10), .box [(.m [2] 0 l10.length tInt.k)]]) rfl ?_
        refine TO_boxify 1 rfl (lb rfl) ?_
        obtain ⟨us_35, h_36, H⟩ := bind_inv H
        refine TO_cons rfl (TOp_appB (T := (tSl tInt)) (xs := out7) (v := l10) sl22 zero33 rfl bytes33 (by decide) rfl rfl rfl rfl rfl rfl rfl rfl h_36 (lb rfl) ?_)
        refine TO_env (E' := [(1, (intA r1)), (2, (intA col2)), (3, (.b 0 0)), (8, (sl (tSl tInt) r_1)), (9, (intA (i_3 : Int))), (65, .m [4] 0 (out7.length + 1) (tSl tInt).k)]) ⟨rfl, rfl, rfl, rfl, rfl, rfl, trivial⟩ ?_
        refine TO_st (σ' := [.box [(sl tRelation d0.relations), (sl tFact d0.facts)], .dead, .row (flat tInt.enc l10), .box [(.m [2] 0 l10.length tInt.k)], .box (flat (tSl tInt).own out7 ++ [(.m [2] 0 l10.length tInt.k)])]) rfl ?_
        refine TO_absorbA (pr := flat (tSl tInt).own out7) 4 0 2 rfl rfl rfl (by decide) tInt.pos (flat_len tInt.len _) (lb rfl) (lb rfl) rfl (nms_box rfl (nms_dead (nms_row (nms_box rfl (nms_box (namesA namesL_own rfl) nms_nil))))) ?_
        refine TO_st (σ' := [.box [(sl tRelation d0.relations), (sl tFact d0.facts)], .dead, .dead, .box [(.m [2] 0 l10.length tInt.k)], .box (flat (tSl tInt).own out7 ++ [.o tInt.k (flat tInt.enc l10)])]) rfl ?_
        refine TO_rowifyT (T := (tSl tInt)) (xs := out7) (v := l10) 4 rfl rfl h_36 (lb rfl) ?_
        refine TO_st (σ' := [.box [(sl tRelation d0.relations), (sl tFact d0.facts)], .dead, .dead, .box [(.m [2] 0 l10.length tInt.k)], .row (flat (tSl tInt).own us_35)]) rfl ?_
        refine TO_move 1 4 (by decide) (lb rfl) rfl rfl (lb rfl) ?_
        refine TO_env (E' := [(1, (intA r1)), (2, (intA col2)), (3, (.b 0 0)), (8, (sl (tSl tInt) r_1)), (9, (intA (i_3 : Int))), (65, (.m [1] 0 us_35.length (tSl tInt).k))]) ⟨rfl, rfl, rfl, rfl, rfl, (congrArg (fun q => A.m [1] 0 q (tSl tInt).k) (app_len h_36)), trivial⟩ ?_
        refine TO_kill 3 (lb rfl) ?_
        refine TO_st (σ' := [.box [(sl tRelation d0.relations), (sl tFact d0.facts)], .row (flat (tSl tInt).own us_35), .dead, .dead, .dead]) rfl ?_
        refine Tp rfl rfl (pur_assign rfl) rfl ?_
        refine TO_nil ?_
        refine T_env (E' := [(1, (intA r1)), (2, (intA col2)), (3, (.b 0 0)), (7, (.m [1] 0 us_35.length (tSl tInt).k)), (8, (sl (tSl tInt) r_1)), (9, (intA (i_3 : Int)))]) ⟨rfl, rfl, rfl, rfl, rfl, rfl, trivial⟩ ?_
        refine T_region ?_
        refine Tp rfl rfl (pur_move rfl) rfl ?_
        refine Tp rfl rfl (pur_add rfl rfl rfl (fits64 (by omega) (by omega))) rfl ?_
        refine Tp rfl rfl (pur_assign rfl) rfl ?_
        refine TO_nil ?_
        obtain rfl := some_inj H
        exact again (r_1.length - (i_3 + 1)) (i_3 + 1, us_35) (by omega) (wp 2 (lb rfl) rfl rfl rfl rfl ⟨rfl, rfl, rfl, rfl, rfl, rfl, trivial⟩) ⟨rfl, K4_⟩
  · replace d4 := of_decide_eq_false d4
    obtain rfl := forS_end L4_ (by omega)
    refine T_exit ?_
    refine then_exit ?_
    refine then_exit ?_
    refine block_exit ?_
    replace H := N4_
    refine T_env (E' := [(7, (.m [1] 0 out7.length (tSl tInt).k))]) ⟨rfl, trivial⟩ ?_
    refine sr ?_
    refine Tp rfl rfl (pur_move rfl) rfl ?_
    refine Tp rfl rfl (pur_assign rfl) rfl ?_
    refine TO_nil ?_
    refine T_env (E' := [(6, (.m [1] 0 out7.length (tSl tInt).k))]) ⟨rfl, trivial⟩ ?_
    refine T_ret ?_
    obtain rfl := some_inj H
    exact end_pick (.tmp .nil) rfl [1] (by decide) rfl rfl rfl rfl rfl rfl
theorem m_spec_l27Vals_ok (u : Nat) (d0 : Database) (r1 : Int) (col2 : Int) (r : (List (List Int))) (H : m_spec_l27Vals u d0 r1 col2 = some r) : FnV prg 68 [(.g (tDatabase.enc d0)), (intA r1), (intA col2)] (sl (tSl tInt) r) := (m_spec_l27Vals_own u d0 r1 col2 r H).frz (frzT (T := (tSl tInt)) rfl)

set_option maxHeartbeats 1000000 in
/-- spec.l27Least -/
theorem m_spec_l27Least_ok (l0 : (List Int)) (r : Int) (H : m_spec_l27Least l0 = some r) : FnV prg 69 [(sl tInt l0)] (intA r) := by
  unfold m_spec_l27Least at H
  refine fnV_of_T Try.func69 rfl rfl (Nat.le_of_ble_eq_true rfl) ?_
  refine T_env (E' := [(0, (sl tInt l0))]) ⟨rfl, trivial⟩ ?_
  refine sr ?_
  refine Tp rfl rfl (pur_assign rfl) rfl ?_
  refine TO_nil ?_
  refine T_env (E' := [(0, (sl tInt l0))]) ⟨rfl, trivial⟩ ?_
  refine sr ?_
  refine Tp rfl rfl (pur_move rfl) rfl ?_
  obtain ⟨v_1, h_2, H⟩ := bind_inv H
  obtain ⟨n_3, hz_4, hv_5⟩ := getI_inv h_2
  refine Tp rfl rfl (pur_ixT (T := tInt) sl33 rfl rfl hz_4 hv_5 rfl) rfl ?_
  refine Tp rfl rfl (pur_ldT (T := tInt) (i := n_3) (off := 0) rfl one3 rfl rfl hv_5 rfl) rfl ?_
  refine Tp rfl rfl (pur_assign rfl) rfl ?_
  refine TO_nil ?_
  refine T_env (E' := [(0, (sl tInt l0)), (3, (intA v_1))]) ⟨rfl, rfl, trivial⟩ ?_
  refine T_seq ?_
  refine sr ?_
  refine Tp rfl rfl (pur_assign rfl) rfl ?_
  refine TO_nil ?_
  refine T_env (E' := [(0, (sl tInt l0)), (3, (intA v_1)), (4, (intA 1))]) ⟨rfl, rfl, rfl, trivial⟩ ?_
  obtain ⟨O7_, L7_, N7_⟩ := bind_inv H
  clear H
  obtain ⟨B7_, hb7, L7_⟩ := gen_forS L7_
  refine T_block ?_
  refine T_loopX (fun k => fun (x_ : Nat × Int) => k = l0.length - x_.1 ∧ forS B7_ (l0.drop x_.1) (x_.1 : Int) x_.2 = some O7_) (fun (x_ : Nat × Int) => [(0, (sl tInt l0)), (3, (intA x_.2)), (4, (intA (x_.1 : Int)))]) (fun (x_ : Nat × Int) => []) _ (1, v_1) (wp 0 (lb rfl) rfl rfl rfl rfl ⟨rfl, rfl, rfl, trivial⟩) ⟨rfl, L7_⟩ ?_
  rintro _ ⟨i_6, n3⟩ ⟨rfl, L7_⟩
  refine T_env (E' := [(0, (sl tInt l0)), (3, (intA n3)), (4, (intA (i_6 : Int)))]) ⟨rfl, rfl, rfl, trivial⟩ ?_
  refine T_st (σ' := []) rfl ?_
  refine T_fact (len_sl (T := tInt) (.tmp 0) rfl) (fun hl7 => ?_)
  refine T_seq ?_
  refine sr ?_
  refine Tp rfl rfl (pur_move rfl) rfl ?_
  refine Tp rfl rfl (pur_move rfl) rfl ?_
  refine Tp rfl rfl (pur_lenT (T := tInt) sl33 rfl rfl) rfl ?_
  refine Tp rfl rfl (pur_lss rfl rfl rfl) rfl ?_
  refine TO_nil ?_
  refine T_env (E' := [(0, (sl tInt l0)), (3, (intA n3)), (4, (intA (i_6 : Int))), (11, (boolA (decide ((i_6 : Int) < (l0.length : Int)))))]) ⟨rfl, rfl, rfl, rfl, trivial⟩ ?_
  refine T_cond (t := decide ((i_6 : Int) < (l0.length : Int))) rfl (fun d7 => ?_) (fun d7 => ?_)
  · replace d7 := of_decide_eq_true d7
    obtain ⟨x_i_6, hx_i_6⟩ : ∃ v, (l0)[i_6]? = some v := ⟨_, List.getElem?_eq_getElem (by omega)⟩
    obtain ⟨C7_, H, K7_⟩ := forS_step L7_ hx_i_6
    rw [hb7] at H
    refine T_skip ?_
    refine T_env (E' := [(0, (sl tInt l0)), (3, (intA n3)), (4, (intA (i_6 : Int)))]) ⟨rfl, rfl, rfl, trivial⟩ ?_
    refine T_seq ?_
    refine T_block ?_
    refine T_region ?_
    refine Tp rfl rfl (pur_move rfl) rfl ?_
    refine Tp rfl rfl (pur_move rfl) rfl ?_
    refine Tp rfl rfl (pur_move rfl) rfl ?_
    refine Tp rfl rfl (pur_ixT (T := tInt) sl33 rfl rfl rfl hx_i_6 rfl) rfl ?_
    refine Tp rfl rfl (pur_ldT (T := tInt) (i := i_6) (off := 0) rfl one3 rfl rfl hx_i_6 rfl) rfl ?_
    refine Tp rfl rfl (pur_min rfl rfl rfl) rfl ?_
    refine Tp rfl rfl (pur_assign rfl) rfl ?_
    refine TO_nil ?_
    refine T_env (E' := [(0, (sl tInt l0)), (3, (intA (if x_i_6 < n3 then x_i_6 else n3))), (4, (intA (i_6 : Int)))]) ⟨rfl, rfl, rfl, trivial⟩ ?_
    refine T_region ?_
    refine Tp rfl rfl (pur_move rfl) rfl ?_
    refine Tp rfl rfl (pur_add rfl rfl rfl (fits64 (by omega) (by omega))) rfl ?_
    refine Tp rfl rfl (pur_assign rfl) rfl ?_
    refine TO_nil ?_
    obtain rfl := some_inj H
    exact again (l0.length - (i_6 + 1)) (i_6 + 1, (if x_i_6 < n3 then x_i_6 else n3)) (by omega) (wp 0 (lb rfl) rfl rfl rfl rfl ⟨rfl, rfl, rfl, trivial⟩) ⟨rfl, K7_⟩
  · replace d7 := of_decide_eq_false d7
    obtain rfl := forS_end L7_ (by omega)
    refine T_exit ?_
    refine then_exit ?_
    refine then_exit ?_
    refine block_exit ?_
    replace H := N7_
    refine T_env (E' := [(3, (intA n3))]) ⟨rfl, trivial⟩ ?_
    refine sr ?_
    refine Tp rfl rfl (pur_move rfl) rfl ?_
    refine Tp rfl rfl (pur_assign rfl) rfl ?_
    refine TO_nil ?_
    refine T_env (E' := [(2, (intA n3))]) ⟨rfl, trivial⟩ ?_
    refine T_ret ?_
    obtain rfl := some_inj H
    refine end_ret (.tmp .nil) rfl rfl ⟨?_, rfl⟩
    rfl

set_option maxHeartbeats 1000000 in
/-- spec.l27Most -/
theorem m_spec_l27Most_ok (l0 : (List Int)) (r : Int) (H : m_spec_l27Most l0 = some r) : FnV prg 70 [(sl tInt l0)] (intA r) := by
  unfold m_spec_l27Most at H
  refine fnV_of_T Try.func70 rfl rfl (Nat.le_of_ble_eq_true rfl) ?_
  refine T_env (E' := [(0, (sl tInt l0))]) ⟨rfl, trivial⟩ ?_
  refine sr ?_
  refine Tp rfl rfl (pur_assign rfl) rfl ?_
  refine TO_nil ?_
  refine T_env (E' := [(0, (sl tInt l0))]) ⟨rfl, trivial⟩ ?_
  refine sr ?_
  refine Tp rfl rfl (pur_move rfl) rfl ?_
  obtain ⟨v_1, h_2, H⟩ := bind_inv H
  obtain ⟨n_3, hz_4, hv_5⟩ := getI_inv h_2
  refine Tp rfl rfl (pur_ixT (T := tInt) sl33 rfl rfl hz_4 hv_5 rfl) rfl ?_
  refine Tp rfl rfl (pur_ldT (T := tInt) (i := n_3) (off := 0) rfl one3 rfl rfl hv_5 rfl) rfl ?_
  refine Tp rfl rfl (pur_assign rfl) rfl ?_
  refine TO_nil ?_
  refine T_env (E' := [(0, (sl tInt l0)), (3, (intA v_1))]) ⟨rfl, rfl, trivial⟩ ?_
  refine T_seq ?_
  refine sr ?_
  refine Tp rfl rfl (pur_assign rfl) rfl ?_
  refine TO_nil ?_
  refine T_env (E' := [(0, (sl tInt l0)), (3, (intA v_1)), (4, (intA 1))]) ⟨rfl, rfl, rfl, trivial⟩ ?_
  obtain ⟨O7_, L7_, N7_⟩ := bind_inv H
  clear H
  obtain ⟨B7_, hb7, L7_⟩ := gen_forS L7_
  refine T_block ?_
  refine T_loopX (fun k => fun (x_ : Nat × Int) => k = l0.length - x_.1 ∧ forS B7_ (l0.drop x_.1) (x_.1 : Int) x_.2 = some O7_) (fun (x_ : Nat × Int) => [(0, (sl tInt l0)), (3, (intA x_.2)), (4, (intA (x_.1 : Int)))]) (fun (x_ : Nat × Int) => []) _ (1, v_1) (wp 0 (lb rfl) rfl rfl rfl rfl ⟨rfl, rfl, rfl, trivial⟩) ⟨rfl, L7_⟩ ?_
  rintro _ ⟨i_6, n3⟩ ⟨rfl, L7_⟩
  refine T_env (E' := [(0, (sl tInt l0)), (3, (intA n3)), (4, (intA (i_6 : Int)))]) ⟨rfl, rfl, rfl, trivial⟩ ?_
  refine T_st (σ' := []) rfl ?_
  refine T_fact (len_sl (T := tInt) (.tmp 0) rfl) (fun hl7 => ?_)
  refine T_seq ?_
  refine sr ?_
  refine Tp rfl rfl (pur_move rfl) rfl ?_
  refine Tp rfl rfl (pur_move rfl) rfl ?_
  refine Tp rfl rfl (pur_lenT (T := tInt) sl33 rfl rfl) rfl ?_
  refine Tp rfl rfl (pur_lss rfl rfl rfl) rfl ?_
  refine TO_nil ?_
  refine T_env (E' := [(0, (sl tInt l0)), (3, (intA n3)), (4, (intA (i_6 : Int))), (11, (boolA (decide ((i_6 : Int) < (l0.length : Int)))))]) ⟨rfl, rfl, rfl, rfl, trivial⟩ ?_
  refine T_cond (t := decide ((i_6 : Int) < (l0.length : Int))) rfl (fun d7 => ?_) (fun d7 => ?_)
  · replace d7 := of_decide_eq_true d7
    obtain ⟨x_i_6, hx_i_6⟩ : ∃ v, (l0)[i_6]? = some v := ⟨_, List.getElem?_eq_getElem (by omega)⟩
    obtain ⟨C7_, H, K7_⟩ := forS_step L7_ hx_i_6
    rw [hb7] at H
    refine T_skip ?_
    refine T_env (E' := [(0, (sl tInt l0)), (3, (intA n3)), (4, (intA (i_6 : Int)))]) ⟨rfl, rfl, rfl, trivial⟩ ?_
    refine T_seq ?_
    refine T_block ?_
    refine T_region ?_
    refine Tp rfl rfl (pur_move rfl) rfl ?_
    refine Tp rfl rfl (pur_move rfl) rfl ?_
    refine Tp rfl rfl (pur_move rfl) rfl ?_
    refine Tp rfl rfl (pur_ixT (T := tInt) sl33 rfl rfl rfl hx_i_6 rfl) rfl ?_
    refine Tp rfl rfl (pur_ldT (T := tInt) (i := i_6) (off := 0) rfl one3 rfl rfl hx_i_6 rfl) rfl ?_
    refine Tp rfl rfl (pur_max rfl rfl rfl) rfl ?_
    refine Tp rfl rfl (pur_assign rfl) rfl ?_
    refine TO_nil ?_
    refine T_env (E' := [(0, (sl tInt l0)), (3, (intA (if n3 < x_i_6 then x_i_6 else n3))), (4, (intA (i_6 : Int)))]) ⟨rfl, rfl, rfl, trivial⟩ ?_
    refine T_region ?_
    refine Tp rfl rfl (pur_move rfl) rfl ?_
    refine Tp rfl rfl (pur_add rfl rfl rfl (fits64 (by omega) (by omega))) rfl ?_
    refine Tp rfl rfl (pur_assign rfl) rfl ?_
    refine TO_nil ?_
    obtain rfl := some_inj H
    exact again (l0.length - (i_6 + 1)) (i_6 + 1, (if n3 < x_i_6 then x_i_6 else n3)) (by omega) (wp 0 (lb rfl) rfl rfl rfl rfl ⟨rfl, rfl, rfl, trivial⟩) ⟨rfl, K7_⟩
  · replace d7 := of_decide_eq_false d7
    obtain rfl := forS_end L7_ (by omega)
    refine T_exit ?_
    refine then_exit ?_
    refine then_exit ?_
    refine block_exit ?_
    replace H := N7_
    refine T_env (E' := [(3, (intA n3))]) ⟨rfl, trivial⟩ ?_
    refine sr ?_
    refine Tp rfl rfl (pur_move rfl) rfl ?_
    refine Tp rfl rfl (pur_assign rfl) rfl ?_
    refine TO_nil ?_
    refine T_env (E' := [(2, (intA n3))]) ⟨rfl, trivial⟩ ?_
    refine T_ret ?_
    obtain rfl := some_inj H
    refine end_ret (.tmp .nil) rfl rfl ⟨?_, rfl⟩
    rfl

set_option maxHeartbeats 1000000 in
/-- spec.SumRange -/
theorem m_spec_SumRange_ok (u : Nat) (d0 : Database) (r1 : Int) (col2 : Int) (r : (Int × Int × Bool)) (H : m_spec_SumRange u d0 r1 col2 = some r) : FnV prg 31 [(.g (tDatabase.enc d0)), (intA r1), (intA col2)] (.t [(intA r.1), (intA r.2.1), (boolA r.2.2)]) := by
  unfold m_spec_SumRange at H
  refine fnV_of_T Try.func31 rfl rfl (Nat.le_of_ble_eq_true rfl) ?_
  refine T_env (E' := [(0, (.g (tDatabase.enc d0))), (1, (intA r1)), (2, (intA col2))]) ⟨rfl, rfl, rfl, trivial⟩ ?_
  refine sr ?_
  refine TO_cons rfl (TOp_box rfl (boxAll rfl) rfl rfl ?_)
  refine Tp rfl rfl (pur_assign rfl) rfl ?_
  refine Tp rfl rfl (pur_assign rfl) rfl ?_
  refine Tp rfl rfl (pur_assign rfl) rfl ?_
  refine TO_nil ?_
  refine T_env (E' := [(1, (intA r1)), (2, (intA col2)), (3, (.b 0 0))]) ⟨rfl, rfl, rfl, trivial⟩ ?_
  refine T_seq ?_
  refine sr ?_
  refine Tp rfl rfl (pur_ldK_b agg32 rfl rfl (lb rfl) rfl) rfl ?_
  refine Tp rfl rfl (pur_move rfl) rfl ?_
  refine Tp rfl rfl (pur_move rfl) rfl ?_
  obtain ⟨r_1, h_2, H⟩ := bind_inv H
  refine TO_cons rfl (TOp_callV (call_static ent59 rfl) (m_spec_l27Ok_ok u _ _ _ _ h_2) rfl rfl rfl ?_)
  refine Tp rfl rfl (pur_not rfl rfl) rfl ?_
  refine TO_nil ?_
  refine T_env (E' := [(1, (intA r1)), (2, (intA col2)), (3, (.b 0 0)), (17, (boolA (!r_1)))]) ⟨rfl, rfl, rfl, rfl, trivial⟩ ?_
  refine T_cond (t := (!r_1)) rfl (fun c_3 => ?_) (fun c_3 => ?_)
  · replace H := cond_t c_3 H
    refine sr ?_
    refine Tp rfl rfl (pur_assign rfl) rfl ?_
    refine Tp rfl rfl (pur_assign rfl) rfl ?_
    refine Tp rfl rfl (pur_assign rfl) rfl ?_
    refine TO_nil ?_
    refine T_env (E' := [(6, (intA 0)), (7, (intA 0)), (8, (boolA false))]) ⟨rfl, rfl, rfl, trivial⟩ ?_
    refine T_ret ?_
    refine then_ret ?_
    obtain rfl := some_inj H
    refine end_ret (.tmp (.tmp (.tmp .nil))) rfl rfl ⟨?_, rfl⟩
    rfl
  · replace H := cond_f c_3 H
    refine T_skip ?_
    refine T_env (E' := [(1, (intA r1)), (2, (intA col2)), (3, (.b 0 0))]) ⟨rfl, rfl, rfl, trivial⟩ ?_
    refine sr ?_
    refine Tp rfl rfl (pur_assign rfl) rfl ?_
    refine TO_nil ?_
    refine T_env (E' := [(1, (intA r1)), (2, (intA col2)), (3, (.b 0 0)), (9, (intA 0))]) ⟨rfl, rfl, rfl, rfl, trivial⟩ ?_
    refine sr ?_
    refine Tp rfl rfl (pur_assign rfl) rfl ?_
    refine TO_nil ?_
    refine T_env (E' := [(1, (intA r1)), (2, (intA col2)), (3, (.b 0 0)), (9, (intA 0)), (10, (intA 0))]) ⟨rfl, rfl, rfl, rfl, rfl, trivial⟩ ?_
    refine sr ?_
    refine Tp rfl rfl (pur_ldK_b agg32 rfl rfl (lb rfl) rfl) rfl ?_
    refine Tp rfl rfl (pur_move rfl) rfl ?_
    refine Tp rfl rfl (pur_move rfl) rfl ?_
    obtain ⟨r_4, h_5, H⟩ := bind_inv H
    refine TO_cons rfl (TOp_callV (call_static ent68 rfl) (m_spec_l27Vals_ok u _ _ _ _ h_5) rfl rfl rfl ?_)
    refine Tp rfl rfl (pur_assign rfl) rfl ?_
    refine TO_nil ?_
    refine T_env (E' := [(9, (intA 0)), (10, (intA 0)), (11, (sl (tSl tInt) r_4))]) ⟨rfl, rfl, rfl, trivial⟩ ?_
    refine T_seq ?_
    refine sr ?_
    refine Tp rfl rfl (pur_assign rfl) rfl ?_
    refine TO_nil ?_
    refine T_env (E' := [(9, (intA 0)), (10, (intA 0)), (11, (sl (tSl tInt) r_4)), (12, (intA 0))]) ⟨rfl, rfl, rfl, rfl, trivial⟩ ?_
    obtain ⟨O7_, L7_, N7_⟩ := bind_inv H
    clear H
    obtain ⟨B7_, hb7, L7_⟩ := gen_forS L7_
    refine T_block ?_
    refine T_loopX (fun k => fun (x_ : Nat × Int × Int) => k = r_4.length - x_.1 ∧ forS B7_ (r_4.drop x_.1) (x_.1 : Int) (x_.2.1, x_.2.2) = some O7_) (fun (x_ : Nat × Int × Int) => [(9, (intA x_.2.1)), (10, (intA x_.2.2)), (11, (sl (tSl tInt) r_4)), (12, (intA (x_.1 : Int)))]) (fun (x_ : Nat × Int × Int) => [.box [(sl tRelation d0.relations), (sl tFact d0.facts)]]) _ (0, (0, 0)) (wp 1 (lb rfl) rfl rfl rfl rfl ⟨rfl, rfl, rfl, rfl, trivial⟩) ⟨rfl, L7_⟩ ?_
    rintro _ ⟨i_6, lo9, hi10⟩ ⟨rfl, L7_⟩
    refine T_env (E' := [(9, (intA lo9)), (10, (intA hi10)), (11, (sl (tSl tInt) r_4)), (12, (intA (i_6 : Int)))]) ⟨rfl, rfl, rfl, rfl, trivial⟩ ?_
    refine T_st (σ' := [.box [(sl tRelation d0.relations), (sl tFact d0.facts)]]) rfl ?_
    refine T_fact (len_sl (T := (tSl tInt)) (.tmp 11) rfl) (fun hl7 => ?_)
    refine T_seq ?_
    refine sr ?_
    refine Tp rfl rfl (pur_move rfl) rfl ?_
    refine Tp rfl rfl (pur_move rfl) rfl ?_
    refine Tp rfl rfl (pur_lenT (T := (tSl tInt)) sl22 rfl rfl) rfl ?_
    refine Tp rfl rfl (pur_lss rfl rfl rfl) rfl ?_
    refine TO_nil ?_
    refine T_env (E' := [(9, (intA lo9)), (10, (intA hi10)), (11, (sl (tSl tInt) r_4)), (12, (intA (i_6 : Int))), (25, (boolA (decide ((i_6 : Int) < (r_4.length : Int)))))]) ⟨rfl, rfl, rfl, rfl, rfl, trivial⟩ ?_
    refine T_cond (t := decide ((i_6 : Int) < (r_4.length : Int))) rfl (fun d7 => ?_) (fun d7 => ?_)
    · replace d7 := of_decide_eq_true d7
      obtain ⟨x_i_6, hx_i_6⟩ : ∃ v, (r_4)[i_6]? = some v := ⟨_, List.getElem?_eq_getElem (by omega)⟩
      obtain ⟨C7_, H, K7_⟩ := forS_step L7_ hx_i_6
      rw [hb7] at H
      refine T_skip ?_
      refine T_env (E' := [(9, (intA lo9)), (10, (intA hi10)), (11, (sl (tSl tInt) r_4)), (12, (intA (i_6 : Int)))]) ⟨rfl, rfl, rfl, rfl, trivial⟩ ?_
      refine T_seq ?_
      refine T_block ?_
      refine sr ?_
      refine Tp rfl rfl (pur_move rfl) rfl ?_
      refine Tp rfl rfl (pur_move rfl) rfl ?_
      refine Tp rfl rfl (pur_move rfl) rfl ?_
      refine Tp rfl rfl (pur_ixT (T := (tSl tInt)) sl22 rfl rfl rfl hx_i_6 rfl) rfl ?_
      refine Tp rfl rfl (pur_ldT (T := (tSl tInt)) (i := i_6) (off := 0) rfl one33 rfl rfl hx_i_6 rfl) rfl ?_
      obtain ⟨r_8, h_9, H⟩ := bind_inv H
      refine TO_cons rfl (TOp_callV (call_static ent69 rfl) (m_spec_l27Least_ok _ _ h_9) rfl rfl rfl ?_)
      refine Tp rfl rfl (pur_wadd rfl rfl rfl) rfl ?_
      refine Tp rfl rfl (pur_assign rfl) rfl ?_
      refine TO_nil ?_
      refine T_env (E' := [(9, (intA (w64 (lo9 + r_8)))), (10, (intA hi10)), (11, (sl (tSl tInt) r_4)), (12, (intA (i_6 : Int)))]) ⟨rfl, rfl, rfl, rfl, trivial⟩ ?_
      refine T_region ?_
      refine Tp rfl rfl (pur_move rfl) rfl ?_
      refine Tp rfl rfl (pur_move rfl) rfl ?_
      refine Tp rfl rfl (pur_move rfl) rfl ?_
      refine Tp rfl rfl (pur_ixT (T := (tSl tInt)) sl22 rfl rfl rfl hx_i_6 rfl) rfl ?_
      refine Tp rfl rfl (pur_ldT (T := (tSl tInt)) (i := i_6) (off := 0) rfl one33 rfl rfl hx_i_6 rfl) rfl ?_
      obtain ⟨r_10, h_11, H⟩ := bind_inv H
      refine TO_cons rfl (TOp_callV (call_static ent70 rfl) (m_spec_l27Most_ok _ _ h_11) rfl rfl rfl ?_)
      refine Tp rfl rfl (pur_wadd rfl rfl rfl) rfl ?_
      refine Tp rfl rfl (pur_assign rfl) rfl ?_
      refine TO_nil ?_
      refine T_env (E' := [(9, (intA (w64 (lo9 + r_8)))), (10, (intA (w64 (hi10 + r_10)))), (11, (sl (tSl tInt) r_4)), (12, (intA (i_6 : Int)))]) ⟨rfl, rfl, rfl, rfl, trivial⟩ ?_
      refine T_region ?_
      refine Tp rfl rfl (pur_move rfl) rfl ?_
      refine Tp rfl rfl (pur_add rfl rfl rfl (fits64 (by omega) (by omega))) rfl ?_
      refine Tp rfl rfl (pur_assign rfl) rfl ?_
      refine TO_nil ?_
      obtain rfl := some_inj H
      exact again (r_4.length - (i_6 + 1)) (i_6 + 1, ((w64 (lo9 + r_8)), (w64 (hi10 + r_10)))) (by omega) (wp 1 (lb rfl) rfl rfl rfl rfl ⟨rfl, rfl, rfl, rfl, trivial⟩) ⟨rfl, K7_⟩
    · replace d7 := of_decide_eq_false d7
      obtain rfl := forS_end L7_ (by omega)
      refine T_exit ?_
      refine then_exit ?_
      refine then_exit ?_
      refine block_exit ?_
      replace H := N7_
      refine T_env (E' := [(9, (intA lo9)), (10, (intA hi10))]) ⟨rfl, rfl, trivial⟩ ?_
      refine sr ?_
      refine Tp rfl rfl (pur_move rfl) rfl ?_
      refine Tp rfl rfl (pur_move rfl) rfl ?_
      refine Tp rfl rfl (pur_assign rfl) rfl ?_
      refine Tp rfl rfl (pur_assign rfl) rfl ?_
      refine Tp rfl rfl (pur_assign rfl) rfl ?_
      refine TO_nil ?_
      refine T_env (E' := [(6, (intA lo9)), (7, (intA hi10)), (8, (boolA true))]) ⟨rfl, rfl, rfl, trivial⟩ ?_
      refine T_ret ?_
      obtain rfl := some_inj H
      refine end_ret (.tmp (.tmp (.tmp .nil))) rfl rfl ⟨?_, rfl⟩
      rfl

set_option maxHeartbeats 1000000 in
/-- impl.Fact] -/
theorem m_slices_IndexFunc_Simpl_Fact_impl_Fact_ok (s0 : (List Fact)) (f1 : (Fact → Option Bool)) (f1_g : Nat) (f1_c : List A) (f1_E : EnT prg f1_g) (f1_l : looseL f1_c = true) (f1_m : firmL f1_c = true ∧ fzL f1_c = f1_c) (f1_H : ∀ (x0 : Fact) r, f1 x0 = some r → FnV prg f1_g ([(.g (tFact.enc x0))] ++ f1_c) (boolA r)) (r : Int) (H : m_slices_IndexFunc_Simpl_Fact_impl_Fact s0 f1 = some r) : FnV prg 116 [(sl tFact s0), (.f f1_g f1_c)] (intA r) := by
  unfold m_slices_IndexFunc_Simpl_Fact_impl_Fact at H
  refine fnV_of_T Try.func116 rfl rfl (Nat.le_of_ble_eq_true rfl) ?_
  refine T_env (E' := [(0, (sl tFact s0)), (1, (.f f1_g f1_c))]) ⟨rfl, rfl, trivial⟩ ?_
  refine sr ?_
  refine Tp rfl rfl (pur_assign rfl) rfl ?_
  refine TO_nil ?_
  refine T_env (E' := [(0, (sl tFact s0)), (1, (.f f1_g f1_c))]) ⟨rfl, rfl, trivial⟩ ?_
  refine T_seq ?_
  refine sr ?_
  refine Tp rfl rfl (pur_move rfl) rfl ?_
  refine Tp rfl rfl (pur_lenT (T := tFact) sl30 rfl rfl) rfl ?_
  refine Tp rfl rfl (pur_move rfl) rfl ?_
  refine TO_nil ?_
  refine T_env (E' := [(0, (sl tFact s0)), (1, (.f f1_g f1_c)), (7, (intA (s0.length : Int))), (8, (intA 0))]) ⟨rfl, rfl, rfl, rfl, trivial⟩ ?_
  obtain ⟨O2_, L2_, N2_⟩ := bind_inv H
  clear H
  obtain ⟨B2_, hb2, L2_⟩ := gen_forL L2_
  refine T_block ?_
  refine T_loopX (fun k => fun (t_1 : Nat) => k = s0.length - t_1 ∧ forL B2_ (s0.drop t_1) (t_1 : Int) () = some O2_) (fun (t_1 : Nat) => [(0, (sl tFact s0)), (1, (.f f1_g f1_c)), (7, (intA (s0.length : Int))), (8, (intA (t_1 : Int)))]) (fun (t_1 : Nat) => []) _ (0 : Nat) (wp 0 (lb rfl) rfl rfl (by simp only [namesE, A.names, namesL_enc, Bool.false_or, Bool.or_false, looseL_names f1_l]) rfl ⟨rfl, rfl, rfl, rfl, trivial⟩) ⟨rfl, L2_⟩ ?_
  rintro _ t_1 ⟨rfl, L2_⟩
  refine T_env (E' := [(0, (sl tFact s0)), (1, (.f f1_g f1_c)), (7, (intA (s0.length : Int))), (8, (intA (t_1 : Int)))]) ⟨rfl, rfl, rfl, rfl, trivial⟩ ?_
  refine T_st (σ' := []) rfl ?_
  refine T_fact (len_sl (T := tFact) (.tmp 0) rfl) (fun hl2 => ?_)
  refine sr ?_
  refine Tp rfl rfl (pur_lss rfl rfl rfl) rfl ?_
  refine TO_nil ?_
  refine T_env (E' := [(0, (sl tFact s0)), (1, (.f f1_g f1_c)), (7, (intA (s0.length : Int))), (8, (intA (t_1 : Int))), (9, (boolA (decide ((t_1 : Int) < (s0.length : Int)))))]) ⟨rfl, rfl, rfl, rfl, rfl, trivial⟩ ?_
  refine T_seq ?_
  refine T_cond (t := decide ((t_1 : Int) < (s0.length : Int))) rfl (fun d2 => ?_) (fun d2 => ?_)
  · replace d2 := of_decide_eq_true d2
    obtain ⟨x_t_1, hx_t_1⟩ : ∃ v, (s0)[t_1]? = some v := ⟨_, List.getElem?_eq_getElem (by omega)⟩
    obtain ⟨C2_, H, K2_⟩ := forL_step L2_ hx_t_1
    rw [hb2] at H
    refine T_skip ?_
    refine T_env (E' := [(0, (sl tFact s0)), (1, (.f f1_g f1_c)), (7, (intA (s0.length : Int))), (8, (intA (t_1 : Int)))]) ⟨rfl, rfl, rfl, rfl, trivial⟩ ?_
    refine T_seq ?_
    refine T_block ?_
    refine sr ?_
    refine Tp rfl rfl (pur_move rfl) rfl ?_
    refine Tp rfl rfl (pur_assign rfl) rfl ?_
    refine TO_nil ?_
    refine T_env (E' := [(0, (sl tFact s0)), (1, (.f f1_g f1_c)), (5, (intA (t_1 : Int))), (7, (intA (s0.length : Int))), (8, (intA (t_1 : Int)))]) ⟨rfl, rfl, rfl, rfl, rfl, trivial⟩ ?_
    refine sr ?_
    refine Tp rfl rfl (pur_move rfl) rfl ?_
    refine Tp rfl rfl (pur_move rfl) rfl ?_
    refine Tp rfl rfl (pur_move rfl) rfl ?_
    refine Tp rfl rfl (pur_ixT (T := tFact) sl30 rfl rfl rfl hx_t_1 rfl) rfl ?_
    refine Tp rfl rfl (pur_ldTK (T := tFact) (i := t_1) (off := 0) rfl agg60 rfl rfl hx_t_1 (by decide) rfl) rfl ?_
    obtain ⟨r_3, h_4, H⟩ := bind_inv H
    refine TO_cons rfl (TOp_callV (call_closure f1_E rfl rfl) (f1_H _  _ h_4) (looseL_app rfl f1_l) rfl rfl ?_)
    refine TO_nil ?_
    refine T_env (E' := [(0, (sl tFact s0)), (1, (.f f1_g f1_c)), (5, (intA (t_1 : Int))), (7, (intA (s0.length : Int))), (8, (intA (t_1 : Int))), (16, (boolA r_3))]) ⟨rfl, rfl, rfl, rfl, rfl, rfl, trivial⟩ ?_
    refine T_cond (t := r_3) rfl (fun c_5 => ?_) (fun c_5 => ?_)
    · replace H := cond_t c_5 H
      refine sr ?_
      refine Tp rfl rfl (pur_move rfl) rfl ?_
      refine Tp rfl rfl (pur_assign rfl) rfl ?_
      refine TO_nil ?_
      refine T_env (E' := [(4, (intA (t_1 : Int)))]) ⟨rfl, trivial⟩ ?_
      refine T_ret ?_
      refine block_ret ?_
      refine then_ret ?_
      refine then_ret ?_
      refine block_ret ?_
      refine then_ret ?_
      obtain rfl := some_inj H
      obtain rfl := some_inj K2_
      replace H := onS_r N2_
      obtain rfl := some_inj H
      refine end_ret (.tmp .nil) rfl rfl ⟨?_, rfl⟩
      rfl
    · replace H := cond_f c_5 H
      refine T_skip ?_
      refine T_env (E' := [(0, (sl tFact s0)), (1, (.f f1_g f1_c)), (7, (intA (s0.length : Int))), (8, (intA (t_1 : Int)))]) ⟨rfl, rfl, rfl, rfl, trivial⟩ ?_
      refine T_region ?_
      refine Tp rfl rfl (pur_add rfl rfl rfl (fits64 (by omega) (by omega))) rfl ?_
      refine Tp rfl rfl (pur_move rfl) rfl ?_
      refine TO_nil ?_
      obtain rfl := some_inj H
      exact again (s0.length - (t_1 + 1)) (t_1 + 1) (by omega) (wp 0 (lb rfl) rfl rfl (by simp only [namesE, A.names, namesL_enc, Bool.false_or, Bool.or_false, looseL_names f1_l]) rfl ⟨rfl, rfl, rfl, rfl, trivial⟩) ⟨rfl, K2_⟩
  · replace d2 := of_decide_eq_false d2
    obtain rfl := forL_end L2_ (by omega)
    refine T_exit ?_
    refine then_exit ?_
    refine then_exit ?_
    refine block_exit ?_
    replace H := onS_l N2_
    refine T_env (E' := []) trivial ?_
    refine sr ?_
    refine Tp rfl rfl (pur_assign rfl) rfl ?_
    refine TO_nil ?_
    refine T_env (E' := [(4, (intA (-1)))]) ⟨rfl, trivial⟩ ?_
    refine T_ret ?_
    obtain rfl := some_inj H
    refine end_ret (.tmp .nil) rfl rfl ⟨?_, rfl⟩
    rfl

set_option maxHeartbeats 1000000 in
/-- impl.Fact] -/
theorem m_slices_ContainsFunc_Simpl_Fact_impl_Fact_ok (s0 : (List Fact)) (f1 : (Fact → Option Bool)) (f1_g : Nat) (f1_c : List A) (f1_E : EnT prg f1_g) (f1_l : looseL f1_c = true) (f1_m : firmL f1_c = true ∧ fzL f1_c = f1_c) (f1_H : ∀ (x0 : Fact) r, f1 x0 = some r → FnV prg f1_g ([(.g (tFact.enc x0))] ++ f1_c) (boolA r)) (r : Bool) (H : m_slices_ContainsFunc_Simpl_Fact_impl_Fact s0 f1 = some r) : FnV prg 97 [(sl tFact s0), (.f f1_g f1_c)] (boolA r) := by
  unfold m_slices_ContainsFunc_Simpl_Fact_impl_Fact at H
  refine fnV_of_T Try.func97 rfl rfl (Nat.le_of_ble_eq_true rfl) ?_
  refine T_env (E' := [(0, (sl tFact s0)), (1, (.f f1_g f1_c))]) ⟨rfl, rfl, trivial⟩ ?_
  refine sr ?_
  refine Tp rfl rfl (pur_assign rfl) rfl ?_
  refine TO_nil ?_
  refine T_env (E' := [(0, (sl tFact s0)), (1, (.f f1_g f1_c))]) ⟨rfl, rfl, trivial⟩ ?_
  refine sr ?_
  refine Tp rfl rfl (pur_move rfl) rfl ?_
  refine Tp rfl rfl (pur_move rfl) rfl ?_
  obtain ⟨r_1, h_2, H⟩ := bind_inv H
  refine TO_cons rfl (TOp_callV (call_static ent116 rfl) (m_slices_IndexFunc_Simpl_Fact_impl_Fact_ok _ f1 f1_g f1_c f1_E f1_l f1_m f1_H _ h_2) (looseC rfl (looseC f1_l rfl)) rfl rfl ?_)
  refine Tp rfl rfl (pur_geq rfl rfl rfl) rfl ?_
  refine Tp rfl rfl (pur_assign rfl) rfl ?_
  refine TO_nil ?_
  refine T_env (E' := [(4, (boolA (decide (0 ≤ r_1))))]) ⟨rfl, trivial⟩ ?_
  refine T_ret ?_
  obtain rfl := some_inj H
  refine end_ret (.tmp .nil) rfl rfl ⟨?_, rfl⟩
  rfl

set_option maxHeartbeats 1000000 in
/-- impl.columnRange$1 -/
theorem m_impl_columnRange_1_ok (f0 : Fact) (fv1 : Int) (r : Bool) (H : m_impl_columnRange_1 f0 fv1 = some r) : FnV prg 98 [(.g (tFact.enc f0)), (.q [(intA fv1)] 0)] (boolA r) := by
  unfold m_impl_columnRange_1 at H
  refine fnV_of_T Try.func98 rfl rfl (Nat.le_of_ble_eq_true rfl) ?_
  refine T_env (E' := [(0, (.g (tFact.enc f0))), (1, (.q [(intA fv1)] 0))]) ⟨rfl, rfl, trivial⟩ ?_
  refine sr ?_
  refine TO_cons rfl (TOp_box rfl (boxAll rfl) rfl rfl ?_)
  refine Tp rfl rfl (pur_assign rfl) rfl ?_
  refine TO_nil ?_
  refine T_env (E' := [(1, (.q [(intA fv1)] 0)), (2, (.b 0 0))]) ⟨rfl, rfl, trivial⟩ ?_
  refine sr ?_
  refine Tp rfl rfl (pur_fa_b fld60_0 rfl rfl) rfl ?_
  refine Tp rfl rfl (pur_ld_b one3 rfl rfl rfl rfl) rfl ?_
  refine Tp rfl rfl (pur_ld_q one3 rfl rfl rfl) rfl ?_
  refine Tp rfl rfl (pur_eql rfl rfl rfl) rfl ?_
  refine Tp rfl rfl (pur_assign rfl) rfl ?_
  refine TO_nil ?_
  refine T_env (E' := [(3, (boolA (decide (f0.relation = fv1))))]) ⟨rfl, trivial⟩ ?_
  refine T_ret ?_
  obtain rfl := some_inj H
  refine end_ret (.tmp .nil) rfl rfl ⟨?_, rfl⟩
  rfl

set_option maxHeartbeats 1000000 in
/-- slices.Equal[[]int,int] -/
theorem m_slices_Equal_Sint_int_ok (s10 : (List Int)) (s21 : (List Int)) (r : Bool) (H : m_slices_Equal_Sint_int s10 s21 = some r) : FnV prg 50 [(sl tInt s10), (sl tInt s21)] (boolA r) := by
  unfold m_slices_Equal_Sint_int at H
  refine fnV_of_T Try.func50 rfl rfl (Nat.le_of_ble_eq_true rfl) ?_
  refine T_env (E' := [(0, (sl tInt s10)), (1, (sl tInt s21))]) ⟨rfl, rfl, trivial⟩ ?_
  refine sr ?_
  refine Tp rfl rfl (pur_assign rfl) rfl ?_
  refine TO_nil ?_
  refine T_env (E' := [(0, (sl tInt s10)), (1, (sl tInt s21))]) ⟨rfl, rfl, trivial⟩ ?_
  refine T_seq ?_
  refine sr ?_
  refine Tp rfl rfl (pur_move rfl) rfl ?_
  refine Tp rfl rfl (pur_lenT (T := tInt) sl33 rfl rfl) rfl ?_
  refine Tp rfl rfl (pur_move rfl) rfl ?_
  refine Tp rfl rfl (pur_lenT (T := tInt) sl33 rfl rfl) rfl ?_
  refine Tp rfl rfl (pur_neq rfl rfl rfl) rfl ?_
  refine TO_nil ?_
  refine T_env (E' := [(0, (sl tInt s10)), (1, (sl tInt s21)), (10, (boolA (decide ((s10.length : Int) ≠ (s21.length : Int)))))]) ⟨rfl, rfl, rfl, trivial⟩ ?_
  refine T_cond (t := decide ((s10.length : Int) ≠ (s21.length : Int))) rfl (fun c_1 => ?_) (fun c_1 => ?_)
  · replace H := cond_t c_1 H
    refine sr ?_
    refine Tp rfl rfl (pur_assign rfl) rfl ?_
    refine TO_nil ?_
    refine T_env (E' := [(4, (boolA false))]) ⟨rfl, trivial⟩ ?_
    refine T_ret ?_
    refine then_ret ?_
    obtain rfl := some_inj H
    refine end_ret (.tmp .nil) rfl rfl ⟨?_, rfl⟩
    rfl
  · replace H := cond_f c_1 H
    refine T_skip ?_
    refine T_env (E' := [(0, (sl tInt s10)), (1, (sl tInt s21))]) ⟨rfl, rfl, trivial⟩ ?_
    refine T_seq ?_
    refine sr ?_
    refine Tp rfl rfl (pur_move rfl) rfl ?_
    refine Tp rfl rfl (pur_lenT (T := tInt) sl33 rfl rfl) rfl ?_
    refine Tp rfl rfl (pur_move rfl) rfl ?_
    refine TO_nil ?_
    refine T_env (E' := [(0, (sl tInt s10)), (1, (sl tInt s21)), (12, (intA (s10.length : Int))), (13, (intA 0))]) ⟨rfl, rfl, rfl, rfl, trivial⟩ ?_
    obtain ⟨O3_, L3_, N3_⟩ := bind_inv H
    clear H
    obtain ⟨B3_, hb3, L3_⟩ := gen_forL L3_
    refine T_block ?_
    refine T_loopX (fun k => fun (t_2 : Nat) => k = s10.length - t_2 ∧ forL B3_ (s10.drop t_2) (t_2 : Int) () = some O3_) (fun (t_2 : Nat) => [(0, (sl tInt s10)), (1, (sl tInt s21)), (12, (intA (s10.length : Int))), (13, (intA (t_2 : Int)))]) (fun (t_2 : Nat) => []) _ (0 : Nat) (wp 0 (lb rfl) rfl rfl rfl rfl ⟨rfl, rfl, rfl, rfl, trivial⟩) ⟨rfl, L3_⟩ ?_
    rintro _ t_2 ⟨rfl, L3_⟩
    refine T_env (E' := [(0, (sl tInt s10)), (1, (sl tInt s21)), (12, (intA (s10.length : Int))), (13, (intA (t_2 : Int)))]) ⟨rfl, rfl, rfl, rfl, trivial⟩ ?_
    refine T_st (σ' := []) rfl ?_
    refine T_fact (len_sl (T := tInt) (.tmp 0) rfl) (fun hl3 => ?_)
    refine sr ?_
    refine Tp rfl rfl (pur_lss rfl rfl rfl) rfl ?_
    refine TO_nil ?_
    refine T_env (E' := [(0, (sl tInt s10)), (1, (sl tInt s21)), (12, (intA (s10.length : Int))), (13, (intA (t_2 : Int))), (14, (boolA (decide ((t_2 : Int) < (s10.length : Int)))))]) ⟨rfl, rfl, rfl, rfl, rfl, trivial⟩ ?_
    refine T_seq ?_
    refine T_cond (t := decide ((t_2 : Int) < (s10.length : Int))) rfl (fun d3 => ?_) (fun d3 => ?_)
    · replace d3 := of_decide_eq_true d3
      obtain ⟨x_t_2, hx_t_2⟩ : ∃ v, (s10)[t_2]? = some v := ⟨_, List.getElem?_eq_getElem (by omega)⟩
      obtain ⟨C3_, H, K3_⟩ := forL_step L3_ hx_t_2
      rw [hb3] at H
      refine T_skip ?_
      refine T_env (E' := [(0, (sl tInt s10)), (1, (sl tInt s21)), (12, (intA (s10.length : Int))), (13, (intA (t_2 : Int)))]) ⟨rfl, rfl, rfl, rfl, trivial⟩ ?_
      refine T_seq ?_
      refine T_block ?_
      refine sr ?_
      refine Tp rfl rfl (pur_move rfl) rfl ?_
      refine Tp rfl rfl (pur_assign rfl) rfl ?_
      refine TO_nil ?_
      refine T_env (E' := [(0, (sl tInt s10)), (1, (sl tInt s21)), (5, (intA (t_2 : Int))), (12, (intA (s10.length : Int))), (13, (intA (t_2 : Int)))]) ⟨rfl, rfl, rfl, rfl, rfl, trivial⟩ ?_
      refine T_seq ?_
      refine T_regionD mixed (by kernel_rfl) ?_
      refine TQ_pure rfl (pur_move rfl) rfl ?_
      refine TQ_pure rfl (pur_move rfl) rfl ?_
      refine TQ_pure rfl (pur_ixT (T := tInt) sl33 rfl rfl rfl hx_t_2 rfl) rfl ?_
      refine TQ_pure rfl (pur_ldT (T := tInt) (i := t_2) (off := 0) rfl one3 rfl rfl hx_t_2 rfl) rfl ?_
      refine TQ_pure rfl (pur_move rfl) rfl ?_
      refine TQ_pure rfl (pur_move rfl) rfl ?_
      obtain ⟨v_4, h_5, H⟩ := bind_inv H
      obtain ⟨n_6, hz_7, hv_8⟩ := getI_inv h_5
      refine TQ_pure rfl (pur_ixT (T := tInt) sl33 rfl rfl hz_7 hv_8 rfl) rfl ?_
      refine TQ_pure rfl (pur_ldT (T := tInt) (i := n_6) (off := 0) rfl one3 rfl rfl hv_8 rfl) rfl ?_
      refine TQ_pure rfl (pur_neq rfl rfl rfl) rfl ?_
      refine TQ_nil ?_
      refine T_env (E' := [(0, (sl tInt s10)), (1, (sl tInt s21)), (12, (intA (s10.length : Int))), (13, (intA (t_2 : Int))), (24, (boolA (decide (x_t_2 ≠ v_4))))]) ⟨rfl, rfl, rfl, rfl, rfl, trivial⟩ ?_
      refine T_cond (t := decide (x_t_2 ≠ v_4)) rfl (fun c_9 => ?_) (fun c_9 => ?_)
      · replace H := cond_t c_9 H
        refine sr ?_
        refine Tp rfl rfl (pur_assign rfl) rfl ?_
        refine TO_nil ?_
        refine T_env (E' := [(4, (boolA false))]) ⟨rfl, trivial⟩ ?_
        refine T_ret ?_
        refine block_ret ?_
        refine then_ret ?_
        refine then_ret ?_
        refine block_ret ?_
        refine then_ret ?_
        obtain rfl := some_inj H
        obtain rfl := some_inj K3_
        replace H := onS_r N3_
        obtain rfl := some_inj H
        refine end_ret (.tmp .nil) rfl rfl ⟨?_, rfl⟩
        rfl
      · replace H := cond_f c_9 H
        refine T_skip ?_
        refine T_env (E' := [(0, (sl tInt s10)), (1, (sl tInt s21)), (12, (intA (s10.length : Int))), (13, (intA (t_2 : Int)))]) ⟨rfl, rfl, rfl, rfl, trivial⟩ ?_
        refine T_region ?_
        refine Tp rfl rfl (pur_add rfl rfl rfl (fits64 (by omega) (by omega))) rfl ?_
        refine Tp rfl rfl (pur_move rfl) rfl ?_
        refine TO_nil ?_
        obtain rfl := some_inj H
        exact again (s10.length - (t_2 + 1)) (t_2 + 1) (by omega) (wp 0 (lb rfl) rfl rfl rfl rfl ⟨rfl, rfl, rfl, rfl, trivial⟩) ⟨rfl, K3_⟩
    · replace d3 := of_decide_eq_false d3
      obtain rfl := forL_end L3_ (by omega)
      refine T_exit ?_
      refine then_exit ?_
      refine then_exit ?_
      refine block_exit ?_
      replace H := onS_l N3_
      refine T_env (E' := []) trivial ?_
      refine sr ?_
      refine Tp rfl rfl (pur_assign rfl) rfl ?_
      refine TO_nil ?_
      refine T_env (E' := [(4, (boolA true))]) ⟨rfl, trivial⟩ ?_
      refine T_ret ?_
      obtain rfl := some_inj H
      refine end_ret (.tmp .nil) rfl rfl ⟨?_, rfl⟩
      rfl

set_option maxHeartbeats 1000000 in
/-- impl.sameKey -/
theorem m_impl_sameKey_ok (relations0 : (List Relation)) (a1 : Fact) (b2 : Fact) (r : Bool) (H : m_impl_sameKey relations0 a1 b2 = some r) : FnV prg 134 [(sl tRelation relations0), (.g (tFact.enc a1)), (.g (tFact.enc b2))] (boolA r) := by
  unfold m_impl_sameKey at H
  refine fnV_of_T Try.func134 rfl rfl (Nat.le_of_ble_eq_true rfl) ?_
  refine T_env (E' := [(0, (sl tRelation relations0)), (1, (.g (tFact.enc a1))), (2, (.g (tFact.enc b2)))]) ⟨rfl, rfl, rfl, trivial⟩ ?_
  refine sr ?_
  refine TO_cons rfl (TOp_box rfl (boxAll rfl) rfl rfl ?_)
  refine TO_cons rfl (TOp_box rfl (boxAll rfl) rfl rfl ?_)
  refine Tp rfl rfl (pur_assign rfl) rfl ?_
  refine TO_nil ?_
  refine T_env (E' := [(0, (sl tRelation relations0)), (4, (.b 0 0)), (5, (.b 1 0))]) ⟨rfl, rfl, rfl, trivial⟩ ?_
  refine T_seq ?_
  refine sr ?_
  refine Tp rfl rfl (pur_fa_b fld60_0 rfl rfl) rfl ?_
  refine Tp rfl rfl (pur_ld_b one3 rfl rfl rfl rfl) rfl ?_
  refine Tp rfl rfl (pur_fa_b fld60_0 rfl rfl) rfl ?_
  refine Tp rfl rfl (pur_ld_b one3 rfl rfl rfl rfl) rfl ?_
  refine Tp rfl rfl (pur_neq rfl rfl rfl) rfl ?_
  refine TO_nil ?_
  refine T_env (E' := [(0, (sl tRelation relations0)), (4, (.b 0 0)), (5, (.b 1 0)), (12, (boolA (decide (a1.relation ≠ b2.relation))))]) ⟨rfl, rfl, rfl, rfl, trivial⟩ ?_
  refine T_cond (t := decide (a1.relation ≠ b2.relation)) rfl (fun c_1 => ?_) (fun c_1 => ?_)
  · replace H := cond_t c_1 H
    refine sr ?_
    refine Tp rfl rfl (pur_assign rfl) rfl ?_
    refine TO_nil ?_
    refine T_env (E' := [(6, (boolA false))]) ⟨rfl, trivial⟩ ?_
    refine T_ret ?_
    refine then_ret ?_
    obtain rfl := some_inj H
    refine end_ret (.tmp .nil) rfl rfl ⟨?_, rfl⟩
    rfl
  · replace H := cond_f c_1 H
    refine T_skip ?_
    refine T_env (E' := [(0, (sl tRelation relations0)), (4, (.b 0 0)), (5, (.b 1 0))]) ⟨rfl, rfl, rfl, trivial⟩ ?_
    refine sr ?_
    refine Tp rfl rfl (pur_move rfl) rfl ?_
    refine Tp rfl rfl (pur_fa_b fld60_0 rfl rfl) rfl ?_
    refine Tp rfl rfl (pur_ld_b one3 rfl rfl rfl rfl) rfl ?_
    obtain ⟨v_2, h_3, H⟩ := bind_inv H
    obtain ⟨n_4, hz_5, hv_6⟩ := getI_inv h_3
    refine Tp rfl rfl (pur_ixT (T := tRelation) sl29 rfl rfl hz_5 hv_6 rfl) rfl ?_
    refine Tp rfl rfl (pur_fa_q fld97_2 rfl rfl) rfl ?_
    refine Tp rfl rfl (pur_ldT (T := tRelation) (i := n_4) (off := 2) rfl one3 rfl rfl hv_6 rfl) rfl ?_
    refine Tp rfl rfl (pur_assign rfl) rfl ?_
    refine TO_nil ?_
    refine T_env (E' := [(4, (.b 0 0)), (5, (.b 1 0)), (7, (intA v_2.keyLength))]) ⟨rfl, rfl, rfl, trivial⟩ ?_
    refine T_seq ?_
    refine T_regionD mixed (by kernel_rfl) ?_
    refine TQ_pure rfl (pur_fa_b fld60_1 rfl rfl) rfl ?_
    refine TQ_pure rfl (pur_ld_b one33 rfl rfl rfl rfl) rfl ?_
    refine TQ_pure rfl (pur_move rfl) rfl ?_
    obtain ⟨ys_7, h_8, H⟩ := bind_inv H
    refine TQ_pure rfl (pur_cutT (T := tInt) (lo := none) (hi := (some (.tmp 21))) sl33 rfl rfl ⟨_, rfl⟩ h_8 rfl) rfl ?_
    refine TQ_pure rfl (pur_fa_b fld60_1 rfl rfl) rfl ?_
    refine TQ_pure rfl (pur_ld_b one33 rfl rfl rfl rfl) rfl ?_
    refine TQ_pure rfl (pur_move rfl) rfl ?_
    obtain ⟨ys_9, h_10, H⟩ := bind_inv H
    refine TQ_pure rfl (pur_cutT (T := tInt) (lo := none) (hi := (some (.tmp 25))) sl33 rfl rfl ⟨_, rfl⟩ h_10 rfl) rfl ?_
    obtain ⟨r_11, h_12, H⟩ := bind_inv H
    refine TQ_callV rfl (call_static ent50 rfl) (m_slices_Equal_Sint_int_ok _ _ _ h_12) rfl rfl ?_
    refine TQ_pure rfl (pur_assign rfl) rfl ?_
    refine TQ_nil ?_
    refine T_env (E' := [(6, (boolA r_11))]) ⟨rfl, trivial⟩ ?_
    refine T_ret ?_
    obtain rfl := some_inj H
    refine end_ret (.tmp .nil) rfl rfl ⟨?_, rfl⟩
    rfl

set_option maxHeartbeats 1000000 in
/-- impl.blocks -/
theorem m_impl_blocks_own (db0 : Database) (r : (List (List Int))) (H : m_impl_blocks db0 = some r) : FnO prg 117 [(.g (tDatabase.enc db0))] (.m [0] 0 r.length (tSl tInt).k) [.row (flat (tSl tInt).own r)] := by
  unfold m_impl_blocks at H
  refine fnO_of_T Try.func117 rfl rfl (Nat.le_of_ble_eq_true rfl) ?_
  refine T_env (E' := [(0, (.g (tDatabase.enc db0)))]) ⟨rfl, trivial⟩ ?_
  refine sr ?_
  refine TO_cons rfl (TOp_box rfl (boxAll rfl) rfl rfl ?_)
  refine Tp rfl rfl (pur_assign rfl) rfl ?_
  refine TO_nil ?_
  refine T_env (E' := [(1, (.b 0 0))]) ⟨rfl, trivial⟩ ?_
  refine sr ?_
  refine TO_cons rfl (TOp_lit (nn := 0) (k := 1) sl22 zero33 rfl rfl rfl rfl (by decide) ?_)
  refine TO_st (σ' := [.box [(sl tRelation db0.relations), (sl tFact db0.facts)], .row (flat (tSl tInt).own ([] : (List (List Int))))]) rfl ?_
  refine Tp rfl rfl (pur_assign rfl) rfl ?_
  refine TO_nil ?_
  refine T_env (E' := [(1, (.b 0 0)), (3, (.m [1] 0 ([] : (List (List Int))).length (tSl tInt).k))]) ⟨rfl, rfl, trivial⟩ ?_
  refine T_seq ?_
  refine sr ?_
  refine Tp rfl rfl (pur_fa_b fld32_1 rfl rfl) rfl ?_
  refine Tp rfl rfl (pur_ld_b one30 rfl rfl rfl rfl) rfl ?_
  refine Tp rfl rfl (pur_lenT (T := tFact) sl30 rfl rfl) rfl ?_
  refine Tp rfl rfl (pur_move rfl) rfl ?_
  refine TO_nil ?_
  refine T_env (E' := [(1, (.b 0 0)), (3, (.m [1] 0 ([] : (List (List Int))).length (tSl tInt).k)), (9, (sl tFact db0.facts)), (10, (intA (db0.facts.length : Int))), (11, (intA 0))]) ⟨rfl, rfl, rfl, rfl, rfl, trivial⟩ ?_
  obtain ⟨O2_, L2_, N2_⟩ := bind_inv H
  clear H
  obtain ⟨B2_, hb2, L2_⟩ := gen_forS L2_
  refine T_block ?_
  refine T_loopX (fun k => fun (x_ : Nat × (List (List Int))) => k = db0.facts.length - x_.1 ∧ forS B2_ (db0.facts.drop x_.1) (x_.1 : Int) x_.2 = some O2_) (fun (x_ : Nat × (List (List Int))) => [(1, (.b 0 0)), (3, (.m [1] 0 x_.2.length (tSl tInt).k)), (9, (sl tFact db0.facts)), (10, (intA (db0.facts.length : Int))), (11, (intA (x_.1 : Int)))]) (fun (x_ : Nat × (List (List Int))) => [.box [(sl tRelation db0.relations), (sl tFact db0.facts)], .row (flat (tSl tInt).own x_.2)]) _ (0, ([] : (List (List Int)))) (wp 2 (lb rfl) rfl rfl rfl rfl ⟨rfl, rfl, rfl, rfl, rfl, trivial⟩) ⟨rfl, L2_⟩ ?_
  rintro _ ⟨t_1, out3⟩ ⟨rfl, L2_⟩
  refine T_env (E' := [(1, (.b 0 0)), (3, (.m [1] 0 out3.length (tSl tInt).k)), (9, (sl tFact db0.facts)), (10, (intA (db0.facts.length : Int))), (11, (intA (t_1 : Int)))]) ⟨rfl, rfl, rfl, rfl, rfl, trivial⟩ ?_
  refine T_st (σ' := [.box [(sl tRelation db0.relations), (sl tFact db0.facts)], .row (flat (tSl tInt).own out3)]) rfl ?_
  refine T_fact (len_sl (T := tFact) (.tmp 9) rfl) (fun hl2 => ?_)
  refine sr ?_
  refine Tp rfl rfl (pur_lss rfl rfl rfl) rfl ?_
  refine TO_nil ?_
  refine T_env (E' := [(1, (.b 0 0)), (3, (.m [1] 0 out3.length (tSl tInt).k)), (9, (sl tFact db0.facts)), (10, (intA (db0.facts.length : Int))), (11, (intA (t_1 : Int))), (12, (boolA (decide ((t_1 : Int) < (db0.facts.length : Int)))))]) ⟨rfl, rfl, rfl, rfl, rfl, rfl, trivial⟩ ?_
  refine T_seq ?_
  refine T_cond (t := decide ((t_1 : Int) < (db0.facts.length : Int))) rfl (fun d2 => ?_) (fun d2 => ?_)
  · replace d2 := of_decide_eq_true d2
    obtain ⟨x_t_1, hx_t_1⟩ : ∃ v, (db0.facts)[t_1]? = some v := ⟨_, List.getElem?_eq_getElem (by omega)⟩
    obtain ⟨C2_, H, K2_⟩ := forS_step L2_ hx_t_1
    rw [hb2] at H
    refine T_skip ?_
    refine T_env (E' := [(1, (.b 0 0)), (3, (.m [1] 0 out3.length (tSl tInt).k)), (9, (sl tFact db0.facts)), (10, (intA (db0.facts.length : Int))), (11, (intA (t_1 : Int)))]) ⟨rfl, rfl, rfl, rfl, rfl, trivial⟩ ?_
    refine T_seq ?_
    refine T_block ?_
    refine sr ?_
    refine Tp rfl rfl (pur_move rfl) rfl ?_
    refine Tp rfl rfl (pur_ixT (T := tFact) sl30 rfl rfl rfl hx_t_1 rfl) rfl ?_
    refine Tp rfl rfl (pur_ldTK (T := tFact) (i := t_1) (off := 0) rfl agg60 rfl rfl hx_t_1 (by decide) rfl) rfl ?_
    refine TO_cons rfl (TOp_alloc zero60 rfl rfl ?_)
    refine Tp rfl rfl (pur_assign rfl) rfl ?_
    refine TO_cons rfl (TOp_storeB sz60 rfl rfl rfl rfl rfl rfl rfl (by decide) (lb rfl) rfl ?_)
    refine TO_st (σ' := [.box [(sl tRelation db0.relations), (sl tFact db0.facts)], .row (flat (tSl tInt).own out3), .box [(intA x_t_1.relation), (sl tInt x_t_1.values)]]) rfl ?_
    refine TO_nil ?_
    refine T_env (E' := [(1, (.b 0 0)), (3, (.m [1] 0 out3.length (tSl tInt).k)), (4, (intA (t_1 : Int))), (5, (.b 2 0)), (9, (sl tFact db0.facts)), (10, (intA (db0.facts.length : Int))), (11, (intA (t_1 : Int)))]) ⟨rfl, rfl, rfl, rfl, rfl, rfl, rfl, trivial⟩ ?_
    refine sr ?_
    refine Tp rfl rfl (pur_move rfl) rfl ?_
    refine Tp rfl rfl (pur_len_m sl22 rfl rfl) rfl ?_
    refine TO_fact (len_m (.tmp 3) rfl) (fun hl_3 => ?_)
    refine Tp rfl rfl (pur_sub rfl rfl rfl (fits64 (by omega) (by omega))) rfl ?_
    refine Tp rfl rfl (pur_assign rfl) rfl ?_
    refine TO_nil ?_
    refine T_env (E' := [(1, (.b 0 0)), (3, (.m [1] 0 out3.length (tSl tInt).k)), (4, (intA (t_1 : Int))), (5, (.b 2 0)), (6, (intA ((out3.length : Int) - 1))), (9, (sl tFact db0.facts)), (10, (intA (db0.facts.length : Int))), (11, (intA (t_1 : Int)))]) ⟨rfl, rfl, rfl, rfl, rfl, rfl, rfl, rfl, trivial⟩ ?_
    obtain ⟨t36_4, J_4, H_5⟩ := bind_inv H
    refine T_cutX (fun x => t36_4 = x) (fun (t36_4 : Bool) => [(1, (.b 0 0)), (3, (.m [1] 0 out3.length (tSl tInt).k)), (4, (intA (t_1 : Int))), (6, (intA ((out3.length : Int) - 1))), (9, (sl tFact db0.facts)), (10, (intA (db0.facts.length : Int))), (11, (intA (t_1 : Int))), (36, (boolA t36_4))]) (fun (t36_4 : Bool) => [.box [(sl tRelation db0.relations), (sl tFact db0.facts)], .row (flat (tSl tInt).own out3)]) ?_ ?_
    · replace H := J_4
      refine T_regionD mixed (by kernel_rfl) ?_
      refine TQ_pure rfl (pur_move rfl) rfl ?_
      refine TQ_pure rfl (pur_geq rfl rfl rfl) rfl ?_
      refine TQ_pure rfl (pur_move rfl) rfl ?_
      refine TQ_split (t := decide (0 ≤ ((out3.length : Int) - 1))) 21 rfl (fun g_6 => ?_) (fun g_6 => ?_)
      · replace H := cond_t g_6 H
        refine TQ_on rfl rfl (by decide) rfl (pur_fa_b fld32_0 rfl rfl) rfl ?_
        refine TQ_on rfl rfl (by decide) rfl (pur_ld_b one29 rfl rfl rfl rfl) rfl ?_
        refine TQ_on rfl rfl (by decide) rfl (pur_fa_b fld32_1 rfl rfl) rfl ?_
        refine TQ_on rfl rfl (by decide) rfl (pur_ld_b one30 rfl rfl rfl rfl) rfl ?_
        refine TQ_on rfl rfl (by decide) rfl (pur_move rfl) rfl ?_
        refine TQ_on rfl rfl (by decide) rfl (pur_move rfl) rfl ?_
        obtain ⟨v_7, h_8, H⟩ := bind_inv H
        obtain ⟨n_9, hz_10, hv_11⟩ := getI_inv h_8
        refine TQ_on rfl rfl (by decide) rfl (pur_ixM (T := (tSl tInt)) sl22 rfl rfl hz_10 hv_11 rfl) rfl ?_
        refine TQ_on rfl rfl (by decide) rfl (pur_ldE (f := (tSl tInt).own) (k := (tSl tInt).k) (i := n_9) (off := 0) (tSl tInt).lenO rfl one33 rfl rfl rfl hv_11 rfl cellVal_sl) rfl ?_
        refine TQ_env (E' := [(1, (.b 0 0)), (3, (.m [1] 0 out3.length (tSl tInt).k)), (4, (intA (t_1 : Int))), (5, (.b 2 0)), (6, (intA ((out3.length : Int) - 1))), (9, (sl tFact db0.facts)), (10, (intA (db0.facts.length : Int))), (11, (intA (t_1 : Int))), (21, (boolA true)), (23, (sl tRelation db0.relations)), (25, (sl tFact db0.facts)), (29, (.m [1, n_9 * (tSl tInt).k] 0 v_7.length tInt.k))]) ⟨rfl, rfl, rfl, rfl, rfl, rfl, rfl, rfl, rfl, rfl, rfl, rfl, trivial⟩ ?_
        obtain ⟨v_12, h_13, H⟩ := bind_inv H
        obtain ⟨n_14, hz_15, hv_16⟩ := getI_inv h_13
        refine TQ_on rfl rfl (by decide) rfl (pur_ixM (T := tInt) sl33 rfl rfl hz_15 hv_16 rfl) rfl ?_
        refine TQ_on rfl rfl (by decide) rfl (pur_ldE (f := tInt.own) (k := tInt.k) (i := n_14) (off := 0) tInt.lenO rfl one3 rfl (rowAt_el (f := (tSl tInt).own) (i := n_9) (off := 0) (tSl tInt).lenO rfl hv_11 rfl) rfl hv_16 rfl rfl) rfl ?_
        obtain ⟨v_17, h_18, H⟩ := bind_inv H
        obtain ⟨n_19, hz_20, hv_21⟩ := getI_inv h_18
        refine TQ_on rfl rfl (by decide) rfl (pur_ixT (T := tFact) sl30 rfl rfl hz_20 hv_21 rfl) rfl ?_
        refine TQ_on rfl rfl (by decide) rfl (pur_ldTK (T := tFact) (i := n_19) (off := 0) rfl agg60 rfl rfl hv_21 (by decide) rfl) rfl ?_
        refine TQ_on rfl rfl (by decide) rfl (pur_ldK_b agg60 rfl rfl (lb rfl) rfl) rfl ?_
        obtain ⟨r_22, h_23, H⟩ := bind_inv H
        refine TQ_onV rfl rfl (by decide) rfl (call_static ent134 rfl) (m_impl_sameKey_ok _ _ _ _ h_23) rfl rfl ?_
        refine TQ_pure rfl (pur_pick (t := true) rfl rfl rfl) rfl ?_
        refine TQ_nil ?_
        exact joined r_22 (wp 2 (lb rfl) rfl rfl rfl rfl ⟨rfl, rfl, rfl, rfl, rfl, rfl, rfl, rfl, trivial⟩) (some_inj H).symm
      · replace H := cond_f g_6 H
        refine TQ_off rfl rfl (by decide) rfl rfl rfl ?_
        refine TQ_off rfl rfl (by decide) rfl rfl rfl ?_
        refine TQ_off rfl rfl (by decide) rfl rfl rfl ?_
        refine TQ_off rfl rfl (by decide) rfl rfl rfl ?_
        refine TQ_off rfl rfl (by decide) rfl rfl rfl ?_
        refine TQ_off rfl rfl (by decide) rfl rfl rfl ?_
        refine TQ_off rfl rfl (by decide) rfl rfl rfl ?_
        refine TQ_off rfl rfl (by decide) rfl rfl rfl ?_
        refine TQ_env (E' := [(1, (.b 0 0)), (3, (.m [1] 0 out3.length (tSl tInt).k)), (4, (intA (t_1 : Int))), (5, (.b 2 0)), (6, (intA ((out3.length : Int) - 1))), (9, (sl tFact db0.facts)), (10, (intA (db0.facts.length : Int))), (11, (intA (t_1 : Int))), (21, (boolA false)), (23, (.v undef)), (25, (.v undef)), (29, (.v undef))]) ⟨rfl, rfl, rfl, rfl, rfl, rfl, rfl, rfl, rfl, rfl, rfl, rfl, trivial⟩ ?_
        refine TQ_off rfl rfl (by decide) rfl rfl rfl ?_
        refine TQ_off rfl rfl (by decide) rfl rfl rfl ?_
        refine TQ_off rfl rfl (by decide) rfl rfl rfl ?_
        refine TQ_off rfl rfl (by decide) rfl rfl rfl ?_
        refine TQ_off rfl rfl (by decide) rfl rfl rfl ?_
        refine TQ_off rfl rfl (by decide) rfl rfl rfl ?_
        refine TQ_pure rfl (pur_pick (t := false) rfl rfl rfl) rfl ?_
        refine TQ_nil ?_
        exact joined false (wp 2 (lb rfl) rfl rfl rfl rfl ⟨rfl, rfl, rfl, rfl, rfl, rfl, rfl, rfl, trivial⟩) (some_inj H).symm
    · rintro _ rfl
      replace H := H_5
      refine T_env (E' := [(1, (.b 0 0)), (3, (.m [1] 0 out3.length (tSl tInt).k)), (4, (intA (t_1 : Int))), (6, (intA ((out3.length : Int) - 1))), (9, (sl tFact db0.facts)), (10, (intA (db0.facts.length : Int))), (11, (intA (t_1 : Int))), (36, (boolA t36_4))]) ⟨rfl, rfl, rfl, rfl, rfl, rfl, rfl, rfl, trivial⟩ ?_
      refine T_cond (t := t36_4) rfl (fun c_24 => ?_) (fun c_24 => ?_)
      · replace H := cond_t c_24 H
        refine T_region ?_
        refine Tp rfl rfl (pur_move rfl) rfl ?_
        refine Tp rfl rfl (pur_move rfl) rfl ?_
        refine Tp rfl rfl (pur_move rfl) rfl ?_
        refine Tp rfl rfl (pur_move rfl) rfl ?_
        obtain ⟨v_25, h_26, H⟩ := bind_inv H
        obtain ⟨n_27, hz_28, hv_29⟩ := getI_inv h_26
        refine Tp rfl rfl (pur_ixM (T := (tSl tInt)) sl22 rfl rfl hz_28 hv_29 rfl) rfl ?_
        refine Tp rfl rfl (pur_ldE (f := (tSl tInt).own) (k := (tSl tInt).k) (i := n_27) (off := 0) (tSl tInt).lenO rfl one33 rfl rfl rfl hv_29 rfl cellVal_sl) rfl ?_
        refine Tp rfl rfl (pur_move rfl) rfl ?_
        refine TO_cons rfl (TOp_lit (nn := 1) (k := 1) sl33 zero3 rfl rfl rfl rfl (by decide) ?_)
        refine TO_st (σ' := [.box [(sl tRelation db0.relations), (sl tFact db0.facts)], .row (flat (tSl tInt).own out3), .row (flat tInt.enc ([(t_1 : Int)] : (List Int)))]) rfl ?_
        refine TO_env (E' := [(1, (.b 0 0)), (3, (.m [1] 0 out3.length (tSl tInt).k)), (9, (sl tFact db0.facts)), (10, (intA (db0.facts.length : Int))), (11, (intA (t_1 : Int))), (37, (.m [1] 0 out3.length (tSl tInt).k)), (38, (intA ((out3.length : Int) - 1))), (42, (.m [1, n_27 * (tSl tInt).k] 0 v_25.length tInt.k)), (44, (.m [2] 0 ([(t_1 : Int)] : (List Int)).length tInt.k))]) ⟨rfl, rfl, rfl, rfl, rfl, rfl, rfl, rfl, rfl, trivial⟩ ?_
        refine TO_boxify 1 rfl (lb rfl) ?_
        refine TO_detach (k := tInt.k) (xs := flat (tSl tInt).own out3) (ys := flat tInt.own v_25) (E' := [(1, (.b 0 0)), (3, (.m [1] 0 out3.length (tSl tInt).k)), (9, (sl tFact db0.facts)), (10, (intA (db0.facts.length : Int))), (11, (intA (t_1 : Int))), (37, (.m [1] 0 out3.length (tSl tInt).k)), (38, (intA ((out3.length : Int) - 1))), (42, (.m [3] 0 v_25.length tInt.k)), (44, (.m [2] 0 ([(t_1 : Int)] : (List Int)).length tInt.k))]) 1 (n_27 * (tSl tInt).k + 0) 42 rfl (flat_at' (tSl tInt).lenO hv_29 rfl) rfl (lb rfl) (nms_box rfl (nms_box namesL_own (nms_row nms_nil))) ⟨.inr ⟨rfl, rfl⟩, .inr ⟨rfl, rfl⟩, .inr ⟨rfl, rfl⟩, .inr ⟨rfl, rfl⟩, .inr ⟨rfl, rfl⟩, .inr ⟨rfl, rfl⟩, .inr ⟨rfl, rfl⟩, .inl ⟨rfl, rfl⟩, .inr ⟨rfl, rfl⟩, trivial⟩ ?_
        refine TO_st (σ' := [.box [(sl tRelation db0.relations), (sl tFact db0.facts)], .box (spl (flat (tSl tInt).own out3) (n_27 * (tSl tInt).k) [.j]), .row (flat tInt.enc ([(t_1 : Int)] : (List Int))), .row (flat tInt.own v_25)]) (by rw [open_T (T := (tSl tInt)) hv_29 (by decide)]; rfl) ?_
        obtain ⟨us_30, h_31, H⟩ := bind_inv H
        refine TO_cons rfl (TOp_appY (T := tInt) (f := tInt.own) (xs := v_25) (ys := ([(t_1 : Int)] : (List Int))) tInt.lenO sl33 zero3 rfl bytes3 (by decide) rfl rfl rfl rfl (src_mT (f := tInt.own) tInt.lenO rfl rfl (flat_cell tInt _)) (flat_cell tInt _) h_31 ?_)
        refine TO_env (E' := [(1, (.b 0 0)), (3, (.m [1] 0 out3.length (tSl tInt).k)), (9, (sl tFact db0.facts)), (10, (intA (db0.facts.length : Int))), (11, (intA (t_1 : Int))), (37, (.m [1] 0 out3.length (tSl tInt).k)), (38, (intA ((out3.length : Int) - 1))), (44, (.m [2] 0 ([(t_1 : Int)] : (List Int)).length tInt.k)), (45, (.m [4] 0 us_30.length tInt.k))]) ⟨rfl, rfl, rfl, rfl, rfl, rfl, rfl, rfl, rfl, trivial⟩ ?_
        refine TO_st (σ' := [.box [(sl tRelation db0.relations), (sl tFact db0.facts)], .box (spl (flat (tSl tInt).own out3) (n_27 * (tSl tInt).k) [.j]), .row (flat tInt.enc ([(t_1 : Int)] : (List Int))), .dead, .row (flat tInt.own us_30)]) rfl ?_
        refine Tp rfl rfl (pur_ixM (T := (tSl tInt)) sl22 rfl rfl hz_28 hv_29 rfl) rfl ?_
        refine TO_cons rfl (TOp_setH (T := (tSl tInt)) (i := n_27) (off := 0) (xs := out3) (v := v_25) (zs := [.j]) sz33 (by decide) rfl rfl rfl rfl rfl rfl hv_29 rfl rfl (lb rfl) rfl ?_)
        refine TO_env (E' := [(1, (.b 0 0)), (3, (.m [1] 0 out3.length (tSl tInt).k)), (9, (sl tFact db0.facts)), (10, (intA (db0.facts.length : Int))), (11, (intA (t_1 : Int))), (37, (.m [1] 0 out3.length (tSl tInt).k)), (38, (intA ((out3.length : Int) - 1))), (44, (.m [2] 0 ([(t_1 : Int)] : (List Int)).length tInt.k))]) ⟨rfl, rfl, rfl, rfl, rfl, rfl, rfl, rfl, trivial⟩ ?_
        refine TO_st (σ' := [.box [(sl tRelation db0.relations), (sl tFact db0.facts)], .box (spl (flat (tSl tInt).own out3) (n_27 * (tSl tInt).k) [(.m [4] 0 us_30.length tInt.k)]), .row (flat tInt.enc ([(t_1 : Int)] : (List Int))), .dead, .row (flat tInt.own us_30)]) rfl ?_
        refine TO_absorbS (T := (tSl tInt)) (i := n_27) (xs := out3) (v := v_25) 1 0 4 rfl hv_29 rfl rfl rfl (by decide) tInt.pos (flat_len tInt.lenO _) (lb rfl) (lb rfl) rfl (nms_box rfl (nms_box (namesL_spl namesL_own rfl) (nms_row (nms_dead (nms_row nms_nil))))) ?_
        refine TO_st (σ' := [.box [(sl tRelation db0.relations), (sl tFact db0.facts)], .box (spl (flat (tSl tInt).own out3) (n_27 * (tSl tInt).k) [.o tInt.k (flat tInt.own us_30)]), .row (flat tInt.enc ([(t_1 : Int)] : (List Int))), .dead, .dead]) rfl ?_
        refine TO_rowifyS (T := (tSl tInt)) (i := n_27) (xs := out3) 1 us_30 hz_28 rfl hv_29 rfl (lb rfl) ?_
        refine TO_env (E' := [(1, (.b 0 0)), (3, (.m [1] 0 (out3.set (((out3.length : Int) - 1)).toNat us_30).length (tSl tInt).k)), (9, (sl tFact db0.facts)), (10, (intA (db0.facts.length : Int))), (11, (intA (t_1 : Int))), (37, (.m [1] 0 (out3.set (((out3.length : Int) - 1)).toNat us_30).length (tSl tInt).k)), (38, (intA ((out3.length : Int) - 1))), (44, (.m [2] 0 ([(t_1 : Int)] : (List Int)).length tInt.k))]) ⟨rfl, (congrArg (fun q => A.m [1] 0 q (tSl tInt).k) (List.length_set ..).symm), rfl, rfl, rfl, (congrArg (fun q => A.m [1] 0 q (tSl tInt).k) (List.length_set ..).symm), rfl, rfl, trivial⟩ ?_
        refine TO_st (σ' := [.box [(sl tRelation db0.relations), (sl tFact db0.facts)], .row (flat (tSl tInt).own (out3.set (((out3.length : Int) - 1)).toNat us_30)), .row (flat tInt.enc ([(t_1 : Int)] : (List Int))), .dead, .dead]) rfl ?_
        refine TO_nil ?_
        refine T_env (E' := [(1, (.b 0 0)), (3, (.m [1] 0 (out3.set (((out3.length : Int) - 1)).toNat us_30).length (tSl tInt).k)), (9, (sl tFact db0.facts)), (10, (intA (db0.facts.length : Int))), (11, (intA (t_1 : Int)))]) ⟨rfl, rfl, rfl, rfl, rfl, trivial⟩ ?_
        refine T_region ?_
        refine Tp rfl rfl (pur_add rfl rfl rfl (fits64 (by omega) (by omega))) rfl ?_
        refine Tp rfl rfl (pur_move rfl) rfl ?_
        refine TO_nil ?_
        obtain rfl := some_inj H
        exact again (db0.facts.length - (t_1 + 1)) (t_1 + 1, (out3.set (((out3.length : Int) - 1)).toNat us_30)) (by omega) (wp 2 (lb rfl) rfl rfl rfl rfl ⟨rfl, rfl, rfl, rfl, rfl, trivial⟩) ⟨rfl, K2_⟩
      · replace H := cond_f c_24 H
        refine T_region ?_
        refine Tp rfl rfl (pur_move rfl) rfl ?_
        refine Tp rfl rfl (pur_move rfl) rfl ?_
        refine TO_cons rfl (TOp_lit (nn := 1) (k := 1) sl33 zero3 rfl rfl rfl rfl (by decide) ?_)
        refine TO_st (σ' := [.box [(sl tRelation db0.relations), (sl tFact db0.facts)], .row (flat (tSl tInt).own out3), .row (flat tInt.enc ([(t_1 : Int)] : (List Int)))]) rfl ?_
        refine TO_cons rfl (TOp_litB (nn := 1) (k := 1) sl22 zero33 rfl rfl rfl rfl (by decide) ?_)
        refine TO_st (σ' := [.box [(sl tRelation db0.relations), (sl tFact db0.facts)], .row (flat (tSl tInt).own out3), .row (flat tInt.enc ([(t_1 : Int)] : (List Int))), .box [(.m [2] 0 ([(t_1 : Int)] : (List Int)).length tInt.k)]]) rfl ?_
        refine TO_boxify 1 rfl (lb rfl) ?_
        obtain ⟨us_32, h_33, H⟩ := bind_inv H
        refine TO_cons rfl (TOp_appB (T := (tSl tInt)) (xs := out3) (v := ([(t_1 : Int)] : (List Int))) sl22 zero33 rfl bytes33 (by decide) rfl rfl rfl rfl rfl rfl rfl rfl h_33 (lb rfl) ?_)
        refine TO_env (E' := [(1, (.b 0 0)), (4, (intA (t_1 : Int))), (6, (intA ((out3.length : Int) - 1))), (9, (sl tFact db0.facts)), (10, (intA (db0.facts.length : Int))), (11, (intA (t_1 : Int))), (36, (boolA t36_4)), (48, (intA (t_1 : Int))), (51, .m [4] 0 (out3.length + 1) (tSl tInt).k)]) ⟨rfl, rfl, rfl, rfl, rfl, rfl, rfl, rfl, rfl, trivial⟩ ?_
        refine TO_st (σ' := [.box [(sl tRelation db0.relations), (sl tFact db0.facts)], .dead, .row (flat tInt.enc ([(t_1 : Int)] : (List Int))), .box [(.m [2] 0 ([(t_1 : Int)] : (List Int)).length tInt.k)], .box (flat (tSl tInt).own out3 ++ [(.m [2] 0 ([(t_1 : Int)] : (List Int)).length tInt.k)])]) rfl ?_
        refine TO_absorbA (pr := flat (tSl tInt).own out3) 4 0 2 rfl rfl rfl (by decide) tInt.pos (flat_len tInt.len _) (lb rfl) (lb rfl) rfl (nms_box rfl (nms_dead (nms_row (nms_box rfl (nms_box (namesA namesL_own rfl) nms_nil))))) ?_
        refine TO_st (σ' := [.box [(sl tRelation db0.relations), (sl tFact db0.facts)], .dead, .dead, .box [(.m [2] 0 ([(t_1 : Int)] : (List Int)).length tInt.k)], .box (flat (tSl tInt).own out3 ++ [.o tInt.k (flat tInt.enc ([(t_1 : Int)] : (List Int)))])]) rfl ?_
        refine TO_rowifyT (T := (tSl tInt)) (xs := out3) (v := ([(t_1 : Int)] : (List Int))) 4 rfl rfl h_33 (lb rfl) ?_
        refine TO_st (σ' := [.box [(sl tRelation db0.relations), (sl tFact db0.facts)], .dead, .dead, .box [(.m [2] 0 ([(t_1 : Int)] : (List Int)).length tInt.k)], .row (flat (tSl tInt).own us_32)]) rfl ?_
        refine TO_move 1 4 (by decide) (lb rfl) rfl rfl (lb rfl) ?_
        refine TO_env (E' := [(1, (.b 0 0)), (4, (intA (t_1 : Int))), (6, (intA ((out3.length : Int) - 1))), (9, (sl tFact db0.facts)), (10, (intA (db0.facts.length : Int))), (11, (intA (t_1 : Int))), (36, (boolA t36_4)), (48, (intA (t_1 : Int))), (51, (.m [1] 0 us_32.length (tSl tInt).k))]) ⟨rfl, rfl, rfl, rfl, rfl, rfl, rfl, rfl, (congrArg (fun q => A.m [1] 0 q (tSl tInt).k) (app_len h_33)), trivial⟩ ?_
        refine TO_kill 3 (lb rfl) ?_
        refine TO_st (σ' := [.box [(sl tRelation db0.relations), (sl tFact db0.facts)], .row (flat (tSl tInt).own us_32), .dead, .dead, .dead]) rfl ?_
        refine Tp rfl rfl (pur_assign rfl) rfl ?_
        refine TO_nil ?_
        refine T_env (E' := [(1, (.b 0 0)), (3, (.m [1] 0 us_32.length (tSl tInt).k)), (9, (sl tFact db0.facts)), (10, (intA (db0.facts.length : Int))), (11, (intA (t_1 : Int)))]) ⟨rfl, rfl, rfl, rfl, rfl, trivial⟩ ?_
        refine T_region ?_
        refine Tp rfl rfl (pur_add rfl rfl rfl (fits64 (by omega) (by omega))) rfl ?_
        refine Tp rfl rfl (pur_move rfl) rfl ?_
        refine TO_nil ?_
        obtain rfl := some_inj H
        exact again (db0.facts.length - (t_1 + 1)) (t_1 + 1, us_32) (by omega) (wp 2 (lb rfl) rfl rfl rfl rfl ⟨rfl, rfl, rfl, rfl, rfl, trivial⟩) ⟨rfl, K2_⟩
  · replace d2 := of_decide_eq_false d2
    obtain rfl := forS_end L2_ (by omega)
    refine T_exit ?_
    refine then_exit ?_
    refine then_exit ?_
    refine block_exit ?_
    replace H := N2_
    refine T_env (E' := [(3, (.m [1] 0 out3.length (tSl tInt).k))]) ⟨rfl, trivial⟩ ?_
    refine sr ?_
    refine Tp rfl rfl (pur_move rfl) rfl ?_
    refine Tp rfl rfl (pur_assign rfl) rfl ?_
    refine TO_nil ?_
    refine T_env (E' := [(2, (.m [1] 0 out3.length (tSl tInt).k))]) ⟨rfl, trivial⟩ ?_
    refine T_ret ?_
    obtain rfl := some_inj H
    exact end_pick (.tmp .nil) rfl [1] (by decide) rfl rfl rfl rfl rfl rfl
theorem m_impl_blocks_ok (db0 : Database) (r : (List (List Int))) (H : m_impl_blocks db0 = some r) : FnV prg 117 [(.g (tDatabase.enc db0))] (sl (tSl tInt) r) := (m_impl_blocks_own db0 r H).frz (frzT (T := (tSl tInt)) rfl)

set_option maxHeartbeats 1000000 in
/-- impl.nthRepair -/
theorem m_impl_nthRepair_own (u : Nat) (list0 : (List (List Int))) (rank1 : Int) (r : (List Int)) (H : m_impl_nthRepair u list0 rank1 = some r) : FnO prg 118 [(sl (tSl tInt) list0), (intA rank1)] (.m [0] 0 r.length tInt.k) [.row (flat tInt.own r)] := by
  unfold m_impl_nthRepair at H
  refine fnO_of_T Try.func118 rfl rfl (Nat.le_of_ble_eq_true rfl) ?_
  refine T_env (E' := [(0, (sl (tSl tInt) list0)), (1, (intA rank1))]) ⟨rfl, rfl, trivial⟩ ?_
  refine sr ?_
  refine Tp rfl rfl (pur_assign rfl) rfl ?_
  refine TO_nil ?_
  refine T_env (E' := [(0, (sl (tSl tInt) list0)), (1, (intA rank1))]) ⟨rfl, rfl, trivial⟩ ?_
  refine sr ?_
  refine Tp rfl rfl (pur_move rfl) rfl ?_
  refine Tp rfl rfl (pur_lenT (T := (tSl tInt)) sl22 rfl rfl) rfl ?_
  obtain ⟨us_1, h_2, H⟩ := bind_inv H
  refine TO_cons rfl (TOp_makeT (T := tInt) (z := (0 : Int)) rfl sl33 zero3 rfl bytes3 rfl rfl rfl rfl h_2 ?_)
  refine Tp rfl rfl (pur_assign rfl) rfl ?_
  refine TO_nil ?_
  refine T_env (E' := [(0, (sl (tSl tInt) list0)), (1, (intA rank1)), (5, (.m [0] 0 us_1.length tInt.k))]) ⟨rfl, rfl, rfl, trivial⟩ ?_
  refine T_seq ?_
  refine sr ?_
  refine Tp rfl rfl (pur_move rfl) rfl ?_
  refine Tp rfl rfl (pur_lenT (T := (tSl tInt)) sl22 rfl rfl) rfl ?_
  refine TO_fact (len_sl (T := (tSl tInt)) (.tmp 0) rfl) (fun hl_3 => ?_)
  refine Tp rfl rfl (pur_sub rfl rfl rfl (fits64 (by omega) (by omega))) rfl ?_
  refine Tp rfl rfl (pur_assign rfl) rfl ?_
  refine TO_nil ?_
  refine T_env (E' := [(0, (sl (tSl tInt) list0)), (1, (intA rank1)), (5, (.m [0] 0 us_1.length tInt.k)), (6, (intA ((list0.length : Int) - 1)))]) ⟨rfl, rfl, rfl, rfl, trivial⟩ ?_
  obtain ⟨O4_, L4_, N4_⟩ := bind_inv H
  clear H
  obtain ⟨B4_, hb4, L4_⟩ := gen_whileF L4_
  refine T_block ?_
  refine T_loopX (fun k => fun (x_ : Int × (List Int) × Int) => whileF B4_ k (x_.1, x_.2.1, x_.2.2) = some O4_) (fun (x_ : Int × (List Int) × Int) => [(0, (sl (tSl tInt) list0)), (1, (intA x_.1)), (5, (.m [0] 0 x_.2.1.length tInt.k)), (6, (intA x_.2.2))]) (fun (x_ : Int × (List Int) × Int) => [.row (flat tInt.enc x_.2.1)]) u (rank1, us_1, ((list0.length : Int) - 1)) (wp 1 (lb rfl) rfl rfl rfl rfl ⟨rfl, rfl, rfl, rfl, trivial⟩) L4_ ?_
  rintro _ ⟨rank1, out5, i6⟩ L4_
  obtain ⟨k4, rfl, C4_, H, K4_⟩ := while_step L4_
  rw [hb4] at H
  refine T_env (E' := [(0, (sl (tSl tInt) list0)), (1, (intA rank1)), (5, (.m [0] 0 out5.length tInt.k)), (6, (intA i6))]) ⟨rfl, rfl, rfl, rfl, trivial⟩ ?_
  refine T_st (σ' := [.row (flat tInt.enc out5)]) rfl ?_
  refine T_seq ?_
  refine sr ?_
  refine Tp rfl rfl (pur_move rfl) rfl ?_
  refine Tp rfl rfl (pur_geq rfl rfl rfl) rfl ?_
  refine TO_nil ?_
  refine T_env (E' := [(0, (sl (tSl tInt) list0)), (1, (intA rank1)), (5, (.m [0] 0 out5.length tInt.k)), (6, (intA i6)), (14, (boolA (decide (0 ≤ i6))))]) ⟨rfl, rfl, rfl, rfl, rfl, trivial⟩ ?_
  refine T_cond (t := decide (0 ≤ i6)) rfl (fun c_5 => ?_) (fun c_5 => ?_)
  · replace H := cond_t c_5 H
    refine T_skip ?_
    refine T_env (E' := [(0, (sl (tSl tInt) list0)), (1, (intA rank1)), (5, (.m [0] 0 out5.length tInt.k)), (6, (intA i6))]) ⟨rfl, rfl, rfl, rfl, trivial⟩ ?_
    refine T_seq ?_
    refine T_block ?_
    obtain ⟨v_6, h_7, H⟩ := bind_inv H
    obtain ⟨n_8, hz_9, hv_10⟩ := getI_inv h_7
    obtain ⟨_u, h_11, H⟩ := bind_inv H
    obtain ⟨v_12, h_13, H⟩ := bind_inv H
    obtain ⟨n_14, hz_15, hv_16⟩ := getI_inv h_13
    obtain ⟨v_17, h_18, H⟩ := bind_inv H
    obtain ⟨n_19, hz_20, hv_21⟩ := getI_inv h_18
    refine T_cutX (fun (_ : Unit) => True) (fun _ => [(0, (sl (tSl tInt) list0)), (1, (intA rank1)), (5, (.m [0] 0 (out5.set (i6).toNat v_12).length tInt.k)), (6, (intA i6))]) (fun _ => [.row (flat tInt.enc (out5.set (i6).toNat v_12))]) ?_ ?_
    · skip
      refine T_regionP mixed ?_
      refine TA_have 4 #[true, true, true, true, true, true, true, true, true, true, true, true, true, false, false, false, false] [(0, (sl (tSl tInt) list0)), (1, (intA rank1)), (5, (.m [0] 0 out5.length tInt.k)), (6, (intA i6)), (17, (.m [0] 0 out5.length tInt.k)), (18, (intA i6)), (22, (sl tInt v_6)), (29, (intA (rank1.tmod (v_6.length : Int))))] [.row (flat tInt.enc out5)] ?_ (fun hj0_5 => ?_)
      · skip
        refine tf 13 rfl (purI_ixT (T := tInt) sl33 rfl rfl hz_15 hv_16 rfl) rfl rfl (by kernel_rfl) ?_
        refine t1 14 (by kernel_rfl) rfl rfl (TOp_pure (pur_ldT (T := tInt) (i := n_14) (off := 0) rfl one3 rfl rfl hv_16 rfl) rfl ?_)
        refine tf 15 rfl (purI_ixM (T := tInt) sl33 rfl rfl hz_20 hv_21 rfl) rfl rfl (by kernel_rfl) ?_
        refine t1 16 (by kernel_rfl) rfl rfl (TOp_setT (f := tInt.enc) (z := i6) (y := v_12) tInt.len tInt.pos hz_20 sz3 rfl rfl rfl rfl rfl hv_21 rfl rfl ?_)
        refine TA_env (E' := [(0, (sl (tSl tInt) list0)), (1, (intA rank1)), (5, (.m [0] 0 (out5.set (i6).toNat v_12).length tInt.k)), (6, (intA i6)), (17, (.m [0] 0 (out5.set (i6).toNat v_12).length tInt.k)), (18, (intA i6)), (22, (sl tInt v_6)), (29, (intA (rank1.tmod (v_6.length : Int)))), (30, (.q (flat tInt.enc v_6) (n_14 * tInt.k))), (31, (intA v_12))]) ⟨rfl, rfl, (congrArg (fun q => A.m [0] 0 q tInt.k) (List.length_set ..).symm), rfl, (congrArg (fun q => A.m [0] 0 q tInt.k) (List.length_set ..).symm), rfl, rfl, rfl, rfl, rfl, trivial⟩ ?_
        refine TA_st (σ' := [.row (flat tInt.enc (out5.set (i6).toNat v_12))]) rfl ?_
        exact TA_nil (by kernel_rfl) (joined () (wp 1 (lb rfl) rfl rfl rfl rfl ⟨rfl, rfl, rfl, rfl, trivial⟩) trivial)
      refine TA_have 5 #[true, true, true, true, true, true, true, true, true, true, true, true, false, false, false, false, false] [(0, (sl (tSl tInt) list0)), (1, (intA rank1)), (5, (.m [0] 0 out5.length tInt.k)), (6, (intA i6)), (17, (.m [0] 0 out5.length tInt.k)), (18, (intA i6)), (22, (sl tInt v_6)), (23, (intA rank1)), (28, (intA (v_6.length : Int)))] [.row (flat tInt.enc out5)] ?_ (fun hj1_5 => ?_)
      · skip
        refine t1 12 (by kernel_rfl) rfl rfl (TOp_pure (pur_rem rfl rfl rfl (gD_inv h_11)) rfl ?_)
        exact tj hj0_5 rfl (wp 1 (lb rfl) rfl rfl rfl rfl ⟨rfl, rfl, rfl, rfl, rfl, rfl, rfl, rfl, trivial⟩)
      refine tf 0 rfl (purI_move rfl) rfl rfl (by kernel_rfl) ?_
      refine tf 1 rfl (purI_move rfl) rfl rfl (by kernel_rfl) ?_
      refine tf 2 rfl (purI_move rfl) rfl rfl (by kernel_rfl) ?_
      refine tf 3 rfl (purI_move rfl) rfl rfl (by kernel_rfl) ?_
      refine tf 4 rfl (purI_ixT (T := (tSl tInt)) sl22 rfl rfl hz_9 hv_10 rfl) rfl rfl (by kernel_rfl) ?_
      refine tf 6 rfl (purI_move rfl) rfl rfl (by kernel_rfl) ?_
      refine TA_env (E' := [(0, (sl (tSl tInt) list0)), (1, (intA rank1)), (5, (.m [0] 0 out5.length tInt.k)), (6, (intA i6)), (17, (.m [0] 0 out5.length tInt.k)), (18, (intA i6)), (21, (.q (flat (tSl tInt).enc list0) (n_8 * (tSl tInt).k))), (23, (intA rank1))]) ⟨rfl, rfl, rfl, rfl, rfl, rfl, rfl, rfl, trivial⟩ ?_
      refine tf 7 rfl (purI_move rfl) rfl rfl (by kernel_rfl) ?_
      refine tf 8 rfl (purI_move rfl) rfl rfl (by kernel_rfl) ?_
      refine tf 9 rfl (purI_ixT (T := (tSl tInt)) sl22 rfl rfl hz_9 hv_10 rfl) rfl rfl (by kernel_rfl) ?_
      refine TA_all [5, 10] (by kernel_rfl) (by decide) ⟨?_, ?_, trivial⟩
      · skip
        refine ⟨_, rfl, rfl, (TOp_pure (pur_ldT (T := (tSl tInt)) (i := n_8) (off := 0) rfl one33 rfl rfl hv_10 rfl) rfl ?_)⟩
        refine t1 10 (by kernel_rfl) rfl rfl (TOp_pure (pur_ldT (T := (tSl tInt)) (i := n_8) (off := 0) rfl one33 rfl rfl hv_10 rfl) rfl ?_)
        refine tf 11 rfl (purI_lenT (T := tInt) sl33 rfl rfl) rfl rfl (by kernel_rfl) ?_
        refine TA_env (E' := [(0, (sl (tSl tInt) list0)), (1, (intA rank1)), (5, (.m [0] 0 out5.length tInt.k)), (6, (intA i6)), (17, (.m [0] 0 out5.length tInt.k)), (18, (intA i6)), (22, (sl tInt v_6)), (23, (intA rank1)), (28, (intA (v_6.length : Int)))]) ⟨rfl, rfl, rfl, rfl, rfl, rfl, rfl, rfl, rfl, trivial⟩ ?_
        exact tj hj1_5 rfl (wp 1 (lb rfl) rfl rfl rfl rfl ⟨rfl, rfl, rfl, rfl, rfl, rfl, rfl, rfl, rfl, trivial⟩)
      · skip
        refine ⟨_, rfl, rfl, (TOp_pure (pur_ldT (T := (tSl tInt)) (i := n_8) (off := 0) rfl one33 rfl rfl hv_10 rfl) rfl ?_)⟩
        refine tf 11 rfl (purI_lenT (T := tInt) sl33 rfl rfl) rfl rfl (by kernel_rfl) ?_
        refine TA_env (E' := [(0, (sl (tSl tInt) list0)), (1, (intA rank1)), (5, (.m [0] 0 out5.length tInt.k)), (6, (intA i6)), (17, (.m [0] 0 out5.length tInt.k)), (18, (intA i6)), (21, (.q (flat (tSl tInt).enc list0) (n_8 * (tSl tInt).k))), (23, (intA rank1)), (28, (intA (v_6.length : Int)))]) ⟨rfl, rfl, rfl, rfl, rfl, rfl, rfl, rfl, rfl, trivial⟩ ?_
        refine TA_all [5, 12] (by kernel_rfl) (by decide) ⟨?_, ?_, trivial⟩
        · skip
          refine ⟨_, rfl, rfl, (TOp_pure (pur_ldT (T := (tSl tInt)) (i := n_8) (off := 0) rfl one33 rfl rfl hv_10 rfl) rfl ?_)⟩
          exact tj hj1_5 rfl (wp 1 (lb rfl) rfl rfl rfl rfl ⟨rfl, rfl, rfl, rfl, rfl, rfl, rfl, rfl, rfl, trivial⟩)
        · skip
          refine ⟨_, rfl, rfl, (TOp_pure (pur_rem rfl rfl rfl (gD_inv h_11)) rfl ?_)⟩
          refine t1 5 (by kernel_rfl) rfl rfl (TOp_pure (pur_ldT (T := (tSl tInt)) (i := n_8) (off := 0) rfl one33 rfl rfl hv_10 rfl) rfl ?_)
          exact tj hj0_5 rfl (wp 1 (lb rfl) rfl rfl rfl rfl ⟨rfl, rfl, rfl, rfl, rfl, rfl, rfl, rfl, trivial⟩)
    · rintro _ _
      refine T_env (E' := [(0, (sl (tSl tInt) list0)), (1, (intA rank1)), (5, (.m [0] 0 (out5.set (i6).toNat v_12).length tInt.k)), (6, (intA i6))]) ⟨rfl, rfl, rfl, rfl, trivial⟩ ?_
      refine T_region ?_
      refine Tp rfl rfl (pur_move rfl) rfl ?_
      refine Tp rfl rfl (pur_move rfl) rfl ?_
      refine Tp rfl rfl (pur_move rfl) rfl ?_
      refine Tp rfl rfl (pur_ixT (T := (tSl tInt)) sl22 rfl rfl hz_9 hv_10 rfl) rfl ?_
      refine Tp rfl rfl (pur_ldT (T := (tSl tInt)) (i := n_8) (off := 0) rfl one33 rfl rfl hv_10 rfl) rfl ?_
      refine Tp rfl rfl (pur_lenT (T := tInt) sl33 rfl rfl) rfl ?_
      obtain ⟨_u, h_22, H⟩ := bind_inv H
      refine Tp rfl rfl (pur_wquo rfl rfl rfl (gD_inv h_22)) rfl ?_
      refine Tp rfl rfl (pur_assign rfl) rfl ?_
      refine TO_nil ?_
      refine T_env (E' := [(0, (sl (tSl tInt) list0)), (1, (intA (w64 (rank1.tdiv (v_6.length : Int))))), (5, (.m [0] 0 (out5.set (i6).toNat v_12).length tInt.k)), (6, (intA i6))]) ⟨rfl, rfl, rfl, rfl, trivial⟩ ?_
      refine T_region ?_
      refine Tp rfl rfl (pur_move rfl) rfl ?_
      refine Tp rfl rfl (pur_wsub rfl rfl rfl) rfl ?_
      refine Tp rfl rfl (pur_assign rfl) rfl ?_
      refine TO_nil ?_
      obtain rfl := some_inj H
      exact again k4 ((w64 (rank1.tdiv (v_6.length : Int))), (out5.set (i6).toNat v_12), (w64 (i6 - 1))) (Nat.lt_succ_self _) (wp 1 (lb rfl) rfl rfl rfl rfl ⟨rfl, rfl, rfl, rfl, trivial⟩) K4_
  · replace H := cond_f c_5 H
    refine T_exit ?_
    refine then_exit ?_
    refine then_exit ?_
    refine block_exit ?_
    obtain rfl := some_inj H
    obtain rfl := some_inj K4_
    replace H := onS_l N4_
    refine T_env (E' := [(5, (.m [0] 0 out5.length tInt.k))]) ⟨rfl, trivial⟩ ?_
    refine sr ?_
    refine Tp rfl rfl (pur_move rfl) rfl ?_
    refine Tp rfl rfl (pur_assign rfl) rfl ?_
    refine TO_nil ?_
    refine T_env (E' := [(4, (.m [0] 0 out5.length tInt.k))]) ⟨rfl, trivial⟩ ?_
    refine T_ret ?_
    obtain rfl := some_inj H
    exact end_pick (.tmp .nil) rfl [0] (by decide) rfl rfl rfl rfl rfl rfl
theorem m_impl_nthRepair_ok (u : Nat) (list0 : (List (List Int))) (rank1 : Int) (r : (List Int)) (H : m_impl_nthRepair u list0 rank1 = some r) : FnV prg 118 [(sl (tSl tInt) list0), (intA rank1)] (sl tInt r) := (m_impl_nthRepair_own u list0 rank1 r H).frz (frzT (T := tInt) rfl)

set_option maxHeartbeats 1000000 in
/-- impl.countRepairs -/
theorem m_impl_countRepairs_ok (list0 : (List (List Int))) (r : Int) (H : m_impl_countRepairs list0 = some r) : FnV prg 119 [(sl (tSl tInt) list0)] (intA r) := by
  unfold m_impl_countRepairs at H
  refine fnV_of_T Try.func119 rfl rfl (Nat.le_of_ble_eq_true rfl) ?_
  refine T_env (E' := [(0, (sl (tSl tInt) list0))]) ⟨rfl, trivial⟩ ?_
  refine sr ?_
  refine Tp rfl rfl (pur_assign rfl) rfl ?_
  refine TO_nil ?_
  refine T_env (E' := [(0, (sl (tSl tInt) list0))]) ⟨rfl, trivial⟩ ?_
  refine sr ?_
  refine Tp rfl rfl (pur_assign rfl) rfl ?_
  refine TO_nil ?_
  refine T_env (E' := [(0, (sl (tSl tInt) list0)), (3, (intA 1))]) ⟨rfl, rfl, trivial⟩ ?_
  refine T_seq ?_
  refine sr ?_
  refine Tp rfl rfl (pur_move rfl) rfl ?_
  refine Tp rfl rfl (pur_lenT (T := (tSl tInt)) sl22 rfl rfl) rfl ?_
  refine Tp rfl rfl (pur_move rfl) rfl ?_
  refine TO_nil ?_
  refine T_env (E' := [(3, (intA 1)), (6, (sl (tSl tInt) list0)), (7, (intA (list0.length : Int))), (8, (intA 0))]) ⟨rfl, rfl, rfl, rfl, trivial⟩ ?_
  obtain ⟨O2_, L2_, N2_⟩ := bind_inv H
  clear H
  obtain ⟨B2_, hb2, L2_⟩ := gen_forS L2_
  refine T_block ?_
  refine T_loopX (fun k => fun (x_ : Nat × Int) => k = list0.length - x_.1 ∧ forS B2_ (list0.drop x_.1) (x_.1 : Int) x_.2 = some O2_) (fun (x_ : Nat × Int) => [(3, (intA x_.2)), (6, (sl (tSl tInt) list0)), (7, (intA (list0.length : Int))), (8, (intA (x_.1 : Int)))]) (fun (x_ : Nat × Int) => []) _ (0, 1) (wp 0 (lb rfl) rfl rfl rfl rfl ⟨rfl, rfl, rfl, rfl, trivial⟩) ⟨rfl, L2_⟩ ?_
  rintro _ ⟨t_1, out3⟩ ⟨rfl, L2_⟩
  refine T_env (E' := [(3, (intA out3)), (6, (sl (tSl tInt) list0)), (7, (intA (list0.length : Int))), (8, (intA (t_1 : Int)))]) ⟨rfl, rfl, rfl, rfl, trivial⟩ ?_
  refine T_st (σ' := []) rfl ?_
  refine T_fact (len_sl (T := (tSl tInt)) (.tmp 6) rfl) (fun hl2 => ?_)
  refine sr ?_
  refine Tp rfl rfl (pur_lss rfl rfl rfl) rfl ?_
  refine TO_nil ?_
  refine T_env (E' := [(3, (intA out3)), (6, (sl (tSl tInt) list0)), (7, (intA (list0.length : Int))), (8, (intA (t_1 : Int))), (9, (boolA (decide ((t_1 : Int) < (list0.length : Int)))))]) ⟨rfl, rfl, rfl, rfl, rfl, trivial⟩ ?_
  refine T_seq ?_
  refine T_cond (t := decide ((t_1 : Int) < (list0.length : Int))) rfl (fun d2 => ?_) (fun d2 => ?_)
  · replace d2 := of_decide_eq_true d2
    obtain ⟨x_t_1, hx_t_1⟩ : ∃ v, (list0)[t_1]? = some v := ⟨_, List.getElem?_eq_getElem (by omega)⟩
    obtain ⟨C2_, H, K2_⟩ := forS_step L2_ hx_t_1
    rw [hb2] at H
    refine T_skip ?_
    refine T_env (E' := [(3, (intA out3)), (6, (sl (tSl tInt) list0)), (7, (intA (list0.length : Int))), (8, (intA (t_1 : Int)))]) ⟨rfl, rfl, rfl, rfl, trivial⟩ ?_
    refine T_seq ?_
    refine T_block ?_
    refine sr ?_
    refine Tp rfl rfl (pur_ixT (T := (tSl tInt)) sl22 rfl rfl rfl hx_t_1 rfl) rfl ?_
    refine Tp rfl rfl (pur_ldT (T := (tSl tInt)) (i := t_1) (off := 0) rfl one33 rfl rfl hx_t_1 rfl) rfl ?_
    refine Tp rfl rfl (pur_assign rfl) rfl ?_
    refine TO_nil ?_
    refine T_env (E' := [(3, (intA out3)), (5, (sl tInt x_t_1)), (6, (sl (tSl tInt) list0)), (7, (intA (list0.length : Int))), (8, (intA (t_1 : Int)))]) ⟨rfl, rfl, rfl, rfl, rfl, trivial⟩ ?_
    refine T_region ?_
    refine Tp rfl rfl (pur_move rfl) rfl ?_
    refine Tp rfl rfl (pur_move rfl) rfl ?_
    refine Tp rfl rfl (pur_lenT (T := tInt) sl33 rfl rfl) rfl ?_
    refine Tp rfl rfl (pur_wmul rfl rfl rfl) rfl ?_
    refine Tp rfl rfl (pur_assign rfl) rfl ?_
    refine TO_nil ?_
    refine T_env (E' := [(3, (intA (w64 (out3 * (x_t_1.length : Int))))), (6, (sl (tSl tInt) list0)), (7, (intA (list0.length : Int))), (8, (intA (t_1 : Int)))]) ⟨rfl, rfl, rfl, rfl, trivial⟩ ?_
    refine T_region ?_
    refine Tp rfl rfl (pur_add rfl rfl rfl (fits64 (by omega) (by omega))) rfl ?_
    refine Tp rfl rfl (pur_move rfl) rfl ?_
    refine TO_nil ?_
    obtain rfl := some_inj H
    exact again (list0.length - (t_1 + 1)) (t_1 + 1, (w64 (out3 * (x_t_1.length : Int)))) (by omega) (wp 0 (lb rfl) rfl rfl rfl rfl ⟨rfl, rfl, rfl, rfl, trivial⟩) ⟨rfl, K2_⟩
  · replace d2 := of_decide_eq_false d2
    obtain rfl := forS_end L2_ (by omega)
    refine T_exit ?_
    refine then_exit ?_
    refine then_exit ?_
    refine block_exit ?_
    replace H := N2_
    refine T_env (E' := [(3, (intA out3))]) ⟨rfl, trivial⟩ ?_
    refine sr ?_
    refine Tp rfl rfl (pur_move rfl) rfl ?_
    refine Tp rfl rfl (pur_assign rfl) rfl ?_
    refine TO_nil ?_
    refine T_env (E' := [(2, (intA out3))]) ⟨rfl, trivial⟩ ?_
    refine T_ret ?_
    obtain rfl := some_inj H
    refine end_ret (.tmp .nil) rfl rfl ⟨?_, rfl⟩
    rfl

set_option maxHeartbeats 1000000 in
/-- impl.rangeOf -/
theorem m_impl_rangeOf_ok (u : Nat) (db0 : Database) (aggregate1 : ((List Int) → Option Int)) (aggregate1_g : Nat) (aggregate1_c : List A) (aggregate1_E : EnT prg aggregate1_g) (aggregate1_l : looseL aggregate1_c = true) (aggregate1_m : firmL aggregate1_c = true ∧ fzL aggregate1_c = aggregate1_c) (aggregate1_H : ∀ (x0 : (List Int)) r, aggregate1 x0 = some r → FnV prg aggregate1_g ([(sl tInt x0)] ++ aggregate1_c) (intA r)) (r : (Int × Int)) (H : m_impl_rangeOf u db0 aggregate1 = some r) : FnV prg 99 [(.g (tDatabase.enc db0)), (.f aggregate1_g aggregate1_c)] (.t [(intA r.1), (intA r.2)]) := by
  unfold m_impl_rangeOf at H
  refine fnV_of_T Try.func99 rfl rfl (Nat.le_of_ble_eq_true rfl) ?_
  refine T_env (E' := [(0, (.g (tDatabase.enc db0))), (1, (.f aggregate1_g aggregate1_c))]) ⟨rfl, rfl, trivial⟩ ?_
  refine sr ?_
  refine TO_cons rfl (TOp_box rfl (boxAll rfl) rfl rfl ?_)
  refine Tp rfl rfl (pur_assign rfl) rfl ?_
  refine Tp rfl rfl (pur_assign rfl) rfl ?_
  refine TO_nil ?_
  refine T_env (E' := [(1, (.f aggregate1_g aggregate1_c)), (2, (.b 0 0))]) ⟨rfl, rfl, trivial⟩ ?_
  refine sr ?_
  refine Tp rfl rfl (pur_ldK_b agg32 rfl rfl (lb rfl) rfl) rfl ?_
  obtain ⟨r_1, h_2, H⟩ := bind_inv H
  refine TO_cons rfl (TOp_callV (call_static ent117 rfl) (m_impl_blocks_ok _ _ h_2) rfl rfl rfl ?_)
  refine Tp rfl rfl (pur_assign rfl) rfl ?_
  refine TO_nil ?_
  refine T_env (E' := [(1, (.f aggregate1_g aggregate1_c)), (6, (sl (tSl tInt) r_1))]) ⟨rfl, rfl, trivial⟩ ?_
  refine sr ?_
  refine Tp rfl rfl (pur_move rfl) rfl ?_
  refine Tp rfl rfl (pur_move rfl) rfl ?_
  obtain ⟨r_3, h_4, H⟩ := bind_inv H
  refine TO_cons rfl (TOp_callV (call_static ent118 rfl) (m_impl_nthRepair_ok u _ _ _ h_4) rfl rfl rfl ?_)
  obtain ⟨r_5, h_6, H⟩ := bind_inv H
  refine TO_cons rfl (TOp_callV (call_closure aggregate1_E rfl rfl) (aggregate1_H _  _ h_6) (looseL_app rfl aggregate1_l) rfl rfl ?_)
  refine Tp rfl rfl (pur_assign rfl) rfl ?_
  refine TO_nil ?_
  refine T_env (E' := [(1, (.f aggregate1_g aggregate1_c)), (6, (sl (tSl tInt) r_1)), (7, (intA r_5))]) ⟨rfl, rfl, rfl, trivial⟩ ?_
  refine sr ?_
  refine Tp rfl rfl (pur_move rfl) rfl ?_
  refine Tp rfl rfl (pur_assign rfl) rfl ?_
  refine TO_nil ?_
  refine T_env (E' := [(1, (.f aggregate1_g aggregate1_c)), (6, (sl (tSl tInt) r_1)), (7, (intA r_5)), (8, (intA r_5))]) ⟨rfl, rfl, rfl, rfl, trivial⟩ ?_
  refine T_seq ?_
  refine sr ?_
  refine Tp rfl rfl (pur_move rfl) rfl ?_
  obtain ⟨r_7, h_8, H⟩ := bind_inv H
  refine TO_cons rfl (TOp_callV (call_static ent119 rfl) (m_impl_countRepairs_ok _ _ h_8) rfl rfl rfl ?_)
  refine Tp rfl rfl (pur_move rfl) rfl ?_
  refine TO_nil ?_
  refine T_env (E' := [(1, (.f aggregate1_g aggregate1_c)), (6, (sl (tSl tInt) r_1)), (7, (intA r_5)), (8, (intA r_5)), (19, (intA r_7)), (20, (intA 0))]) ⟨rfl, rfl, rfl, rfl, rfl, rfl, trivial⟩ ?_
  obtain ⟨_, h_11, H⟩ := bind_inv H
  replace h_11 := gN_inv h_11
  obtain ⟨O10_, L10_, N10_⟩ := bind_inv H
  clear H
  obtain ⟨B10_, hb10, L10_⟩ := gen_forM L10_
  refine T_block ?_
  refine T_loopX (fun k => fun (x_ : Int × Int × Int) => k = (r_7 - x_.1).toNat ∧ 0 ≤ x_.1 ∧ forM B10_ (r_7 - x_.1).toNat x_.1 (x_.2.1, x_.2.2) = some O10_) (fun (x_ : Int × Int × Int) => [(1, (.f aggregate1_g aggregate1_c)), (6, (sl (tSl tInt) r_1)), (7, (intA x_.2.1)), (8, (intA x_.2.2)), (19, (intA r_7)), (20, (intA (x_.1 : Int)))]) (fun (x_ : Int × Int × Int) => [.box [(sl tRelation db0.relations), (sl tFact db0.facts)]]) _ (0, (r_5, r_5)) (wp 1 (lb rfl) rfl rfl (by simp only [namesE, A.names, namesL_enc, Bool.false_or, Bool.or_false, looseL_names aggregate1_l]) rfl ⟨rfl, rfl, rfl, rfl, rfl, rfl, trivial⟩) ⟨rfl, Int.le_refl _, L10_⟩ ?_
  rintro _ ⟨t_9, least7, most8⟩ ⟨rfl, hi10, L10_⟩
  refine T_env (E' := [(1, (.f aggregate1_g aggregate1_c)), (6, (sl (tSl tInt) r_1)), (7, (intA least7)), (8, (intA most8)), (19, (intA r_7)), (20, (intA (t_9 : Int)))]) ⟨rfl, rfl, rfl, rfl, rfl, rfl, trivial⟩ ?_
  refine T_st (σ' := [.box [(sl tRelation db0.relations), (sl tFact db0.facts)]]) rfl ?_
  refine sr ?_
  refine Tp rfl rfl (pur_lss rfl rfl rfl) rfl ?_
  refine TO_nil ?_
  refine T_env (E' := [(1, (.f aggregate1_g aggregate1_c)), (6, (sl (tSl tInt) r_1)), (7, (intA least7)), (8, (intA most8)), (19, (intA r_7)), (20, (intA (t_9 : Int))), (21, (boolA (decide ((t_9 : Int) < r_7))))]) ⟨rfl, rfl, rfl, rfl, rfl, rfl, rfl, trivial⟩ ?_
  refine T_seq ?_
  refine T_cond (t := decide ((t_9 : Int) < r_7)) rfl (fun d10 => ?_) (fun d10 => ?_)
  · replace d10 := of_decide_eq_true d10
    obtain ⟨C10_, H, K10_⟩ := forM_step L10_ d10
    rw [hb10] at H
    refine T_skip ?_
    refine T_env (E' := [(1, (.f aggregate1_g aggregate1_c)), (6, (sl (tSl tInt) r_1)), (7, (intA least7)), (8, (intA most8)), (19, (intA r_7)), (20, (intA (t_9 : Int)))]) ⟨rfl, rfl, rfl, rfl, rfl, rfl, trivial⟩ ?_
    refine T_seq ?_
    refine T_block ?_
    refine sr ?_
    refine Tp rfl rfl (pur_move rfl) rfl ?_
    refine Tp rfl rfl (pur_assign rfl) rfl ?_
    refine TO_nil ?_
    refine T_env (E' := [(1, (.f aggregate1_g aggregate1_c)), (6, (sl (tSl tInt) r_1)), (7, (intA least7)), (8, (intA most8)), (9, (intA (t_9 : Int))), (19, (intA r_7)), (20, (intA (t_9 : Int)))]) ⟨rfl, rfl, rfl, rfl, rfl, rfl, rfl, trivial⟩ ?_
    refine sr ?_
    refine Tp rfl rfl (pur_move rfl) rfl ?_
    refine Tp rfl rfl (pur_move rfl) rfl ?_
    refine Tp rfl rfl (pur_move rfl) rfl ?_
    obtain ⟨r_12, h_13, H⟩ := bind_inv H
    refine TO_cons rfl (TOp_callV (call_static ent118 rfl) (m_impl_nthRepair_ok u _ _ _ h_13) rfl rfl rfl ?_)
    obtain ⟨r_14, h_15, H⟩ := bind_inv H
    refine TO_cons rfl (TOp_callV (call_closure aggregate1_E rfl rfl) (aggregate1_H _  _ h_15) (looseL_app rfl aggregate1_l) rfl rfl ?_)
    refine Tp rfl rfl (pur_assign rfl) rfl ?_
    refine TO_nil ?_
    refine T_env (E' := [(1, (.f aggregate1_g aggregate1_c)), (6, (sl (tSl tInt) r_1)), (7, (intA least7)), (8, (intA most8)), (10, (intA r_14)), (19, (intA r_7)), (20, (intA (t_9 : Int)))]) ⟨rfl, rfl, rfl, rfl, rfl, rfl, rfl, trivial⟩ ?_
    refine T_region ?_
    refine Tp rfl rfl (pur_move rfl) rfl ?_
    refine Tp rfl rfl (pur_move rfl) rfl ?_
    refine Tp rfl rfl (pur_min rfl rfl rfl) rfl ?_
    refine Tp rfl rfl (pur_move rfl) rfl ?_
    refine Tp rfl rfl (pur_move rfl) rfl ?_
    refine Tp rfl rfl (pur_max rfl rfl rfl) rfl ?_
    refine Tp rfl rfl (pur_assign rfl) rfl ?_
    refine Tp rfl rfl (pur_assign rfl) rfl ?_
    refine TO_nil ?_
    refine T_env (E' := [(1, (.f aggregate1_g aggregate1_c)), (6, (sl (tSl tInt) r_1)), (7, (intA (if r_14 < least7 then r_14 else least7))), (8, (intA (if most8 < r_14 then r_14 else most8))), (19, (intA r_7)), (20, (intA (t_9 : Int)))]) ⟨rfl, rfl, rfl, rfl, rfl, rfl, trivial⟩ ?_
    refine T_region ?_
    refine Tp rfl rfl (pur_add rfl rfl rfl (fits64 (by omega) (by omega))) rfl ?_
    refine Tp rfl rfl (pur_move rfl) rfl ?_
    refine TO_nil ?_
    obtain rfl := some_inj H
    exact again (r_7 - (t_9 + 1)).toNat (t_9 + 1, ((if r_14 < least7 then r_14 else least7), (if most8 < r_14 then r_14 else most8))) (by omega) (wp 1 (lb rfl) rfl rfl (by simp only [namesE, A.names, namesL_enc, Bool.false_or, Bool.or_false, looseL_names aggregate1_l]) rfl ⟨rfl, rfl, rfl, rfl, rfl, rfl, trivial⟩) ⟨rfl, by omega, K10_⟩
  · replace d10 := of_decide_eq_false d10
    obtain rfl := forM_end L10_ (by omega)
    refine T_exit ?_
    refine then_exit ?_
    refine then_exit ?_
    refine block_exit ?_
    replace H := N10_
    refine T_env (E' := [(7, (intA least7)), (8, (intA most8))]) ⟨rfl, rfl, trivial⟩ ?_
    refine sr ?_
    refine Tp rfl rfl (pur_move rfl) rfl ?_
    refine Tp rfl rfl (pur_move rfl) rfl ?_
    refine Tp rfl rfl (pur_assign rfl) rfl ?_
    refine Tp rfl rfl (pur_assign rfl) rfl ?_
    refine TO_nil ?_
    refine T_env (E' := [(4, (intA least7)), (5, (intA most8))]) ⟨rfl, rfl, trivial⟩ ?_
    refine T_ret ?_
    obtain rfl := some_inj H
    refine end_ret (.tmp (.tmp .nil)) rfl rfl ⟨?_, rfl⟩
    rfl
end Go.Proofs.Ytlcpdlngbofgcaa

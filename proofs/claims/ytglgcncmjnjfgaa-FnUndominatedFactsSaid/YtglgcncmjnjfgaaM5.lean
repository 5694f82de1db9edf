/- Walks. -/
import Derived.Test.YtglgcncmjnjfgaaM1
import Derived.Test.YtglgcncmjnjfgaaM2
import Derived.Test.YtglgcncmjnjfgaaM3
import Derived.Test.YtglgcncmjnjfgaaM4
set_option linter.unusedVariables false
set_option linter.unusedSimpArgs false
set_option maxRecDepth 4000
namespace Go.Proofs.Ytglgcncmjnjfgaa
open Go Go.Proofs Go.Sep
set_option maxHeartbeats 1000000 in
/-- spec.l28Draw -/
theorem m_spec_l28Draw_x (c0 : l1Cur) (most1 : Int) (r : ((Int × (List ConflictEdge) × (List ConflictEdge)) × l1Cur)) (H : m_spec_l28Draw c0 most1 = some r) : FnS prg 61 [(.b 0 0), (intA most1)] [.box [(sl (tI .u8) c0.b), (intA c0.i), (intA c0.h)]] (.t [(intA r.1.1), (.m [1] 0 r.1.2.1.length tConflictEdge.k), (.m [2] 0 r.1.2.2.length tConflictEdge.k)]) [.box [(sl (tI .u8) r.2.b), (intA r.2.i), (intA r.2.h)], .row (flat tConflictEdge.enc r.1.2.1), .row (flat tConflictEdge.enc r.1.2.2)] := by
  unfold m_spec_l28Draw at H
  refine fnS_of_T Try.func61 rfl rfl (Nat.le_of_ble_eq_true rfl) ?_
  refine te [(0, (.b 0 0)), (1, (intA most1))] rfl ?_
  refine T_st (σ' := [.box [(sl (tI .u8) c0.b), (intA c0.i), (intA c0.h)]]) rfl ?_
  refine sr ?_
  refine Tp rfl rfl (pur_assign rfl) rfl ?_
  refine Tp rfl rfl (pur_assign rfl) rfl ?_
  refine Tp rfl rfl (pur_assign rfl) rfl ?_
  refine TO_nil ?_
  refine te [(0, (.b 0 0)), (1, (intA most1))] rfl ?_
  refine sr ?_
  refine Tp rfl rfl (pur_move rfl) rfl ?_
  obtain ⟨r_1, h_2, H⟩ := bind_inv H
  refine TO_cons rfl (TOp_callS [0] (call_static ent86 rfl) (by decide) rfl rfl rfl rfl rfl rfl (m_spec_l8Edges_x _ _ h_2) rfl rfl ?_)
  refine toe [(0, (.b 0 0)), (1, (intA most1)), (14, (.b 0 0)), (15, (.t [(intA r_1.1.1), (.m [1] 0 r_1.1.2.length tConflictEdge.k)]))] rfl ?_
  refine TO_st (σ' := [.box [(sl (tI .u8) r_1.2.b), (intA r_1.2.i), (intA r_1.2.h)], .row (flat tConflictEdge.enc r_1.1.2)]) rfl ?_
  refine Tp rfl rfl (pur_move rfl) rfl ?_
  refine Tp rfl rfl (pur_extract rfl rfl rfl) rfl ?_
  refine Tp rfl rfl (pur_extract rfl rfl rfl) rfl ?_
  refine Tp rfl rfl (pur_assign rfl) rfl ?_
  refine Tp rfl rfl (pur_assign rfl) rfl ?_
  refine TO_nil ?_
  refine te [(0, (.b 0 0)), (1, (intA most1)), (7, (intA r_1.1.1)), (8, (.m [1] 0 r_1.1.2.length tConflictEdge.k))] rfl ?_
  refine T_seq ?_
  refine sr ?_
  refine Tp rfl rfl (pur_move rfl) rfl ?_
  refine Tp rfl rfl (pur_move rfl) rfl ?_
  refine Tp rfl rfl (pur_gtr rfl rfl rfl) rfl ?_
  refine TO_nil ?_
  refine te [(0, (.b 0 0)), (1, (intA most1)), (7, (intA r_1.1.1)), (8, (.m [1] 0 r_1.1.2.length tConflictEdge.k)), (20, (boolA (decide (most1 < r_1.1.1))))] rfl ?_
  refine T_cond (t := decide (most1 < r_1.1.1)) rfl (fun c_3 => ?_) (fun c_3 => ?_)
  ·replace H := cond_t c_3 H
   refine sr ?_
   refine Tp rfl rfl (pur_move rfl) rfl ?_
   refine Tp rfl rfl (pur_assign rfl) rfl ?_
   refine TO_nil ?_
   refine te [(0, (.b 0 0)), (7, (intA most1)), (8, (.m [1] 0 r_1.1.2.length tConflictEdge.k))] rfl ?_
   refine sr ?_
   refine TO_cons rfl (TOp_lit (nn := 0) (k := 2) sl25 zero52 rfl rfl rfl rfl (by decide) ?_)
   refine TO_st (σ' := [.box [(sl (tI .u8) r_1.2.b), (intA r_1.2.i), (intA r_1.2.h)], .row (flat tConflictEdge.enc r_1.1.2), .row (flat tConflictEdge.enc ([] : (List ConflictEdge)))]) rfl ?_
   refine Tp rfl rfl (pur_assign rfl) rfl ?_
   refine TO_nil ?_
   refine te [(0, (.b 0 0)), (7, (intA most1)), (8, (.m [1] 0 r_1.1.2.length tConflictEdge.k)), (9, (.m [2] 0 ([] : (List ConflictEdge)).length tConflictEdge.k))] rfl ?_
   refine T_seq ?_
   refine sr ?_
   refine Tp rfl rfl (pur_assign rfl) rfl ?_
   refine TO_nil ?_
   refine te [(0, (.b 0 0)), (7, (intA most1)), (8, (.m [1] 0 r_1.1.2.length tConflictEdge.k)), (9, (.m [2] 0 ([] : (List ConflictEdge)).length tConflictEdge.k)), (10, (intA 0))] rfl ?_
   obtain ⟨O5_, L5_, N5_⟩ := bind_inv H
   clear H
   obtain ⟨B5_, hb5, L5_⟩ := gen_forS L5_
   refine T_block ?_
   refine T_loopX (fun k => fun (x_ : Nat × (List ConflictEdge)) => k = r_1.1.2.length - x_.1 ∧ forS B5_ (r_1.1.2.drop x_.1) (x_.1 : Int) x_.2 = some O5_) (fun (x_ : Nat × (List ConflictEdge)) => [(0, (.b 0 0)), (7, (intA most1)), (8, (.m [1] 0 r_1.1.2.length tConflictEdge.k)), (9, (.m [2] 0 x_.2.length tConflictEdge.k)), (10, (intA (x_.1 : Int)))]) (fun (x_ : Nat × (List ConflictEdge)) => [.box [(sl (tI .u8) r_1.2.b), (intA r_1.2.i), (intA r_1.2.h)], .row (flat tConflictEdge.enc r_1.1.2), .row (flat tConflictEdge.enc x_.2)]) _ (0, ([] : (List ConflictEdge))) (wp 3 (lb rfl) rfl rfl rfl rfl rfl) ⟨rfl, L5_⟩ ?_
   rintro _ ⟨i_4, keep9⟩ ⟨rfl, L5_⟩
   refine te [(0, (.b 0 0)), (7, (intA most1)), (8, (.m [1] 0 r_1.1.2.length tConflictEdge.k)), (9, (.m [2] 0 keep9.length tConflictEdge.k)), (10, (intA (i_4 : Int)))] rfl ?_
   refine T_st (σ' := [.box [(sl (tI .u8) r_1.2.b), (intA r_1.2.i), (intA r_1.2.h)], .row (flat tConflictEdge.enc r_1.1.2), .row (flat tConflictEdge.enc keep9)]) rfl ?_
   refine T_fact (len_m (.tmp 8) rfl) (fun hl5 => ?_)
   refine T_seq ?_
   refine sr ?_
   refine Tp rfl rfl (pur_move rfl) rfl ?_
   refine Tp rfl rfl (pur_move rfl) rfl ?_
   refine Tp rfl rfl (pur_len_m sl25 rfl rfl) rfl ?_
   refine Tp rfl rfl (pur_lss rfl rfl rfl) rfl ?_
   refine TO_nil ?_
   refine te [(0, (.b 0 0)), (7, (intA most1)), (8, (.m [1] 0 r_1.1.2.length tConflictEdge.k)), (9, (.m [2] 0 keep9.length tConflictEdge.k)), (10, (intA (i_4 : Int))), (26, (boolA (decide ((i_4 : Int) < (r_1.1.2.length : Int)))))] rfl ?_
   refine T_cond (t := decide ((i_4 : Int) < (r_1.1.2.length : Int))) rfl (fun d5 => ?_) (fun d5 => ?_)
   ·replace d5 := of_decide_eq_true d5
    obtain ⟨x_i_4, hx_i_4⟩ : ∃ v, (r_1.1.2)[i_4]? = some v := ⟨_, List.getElem?_eq_getElem (by omega)⟩
    obtain ⟨C5_, H, K5_⟩ := forS_step L5_ hx_i_4
    rw [hb5] at H
    refine T_skip ?_
    refine te [(0, (.b 0 0)), (7, (intA most1)), (8, (.m [1] 0 r_1.1.2.length tConflictEdge.k)), (9, (.m [2] 0 keep9.length tConflictEdge.k)), (10, (intA (i_4 : Int)))] rfl ?_
    refine T_seq ?_
    refine T_block ?_
    refine sr ?_
    refine Tp rfl rfl (pur_move rfl) rfl ?_
    refine Tp rfl rfl (pur_move rfl) rfl ?_
    refine Tp rfl rfl (pur_ixM (T := tConflictEdge) sl25 rfl rfl rfl hx_i_4 rfl) rfl ?_
    refine Tp rfl rfl (pur_fa_e fld52_1 rfl rfl) rfl ?_
    refine Tp rfl rfl (pur_ldE (f := tConflictEdge.enc) (k := tConflictEdge.k) (i := i_4) (off := 1) tConflictEdge.len rfl one3 rfl rfl rfl hx_i_4 rfl rfl) rfl ?_
    refine Tp rfl rfl (pur_move rfl) rfl ?_
    refine Tp rfl rfl (pur_lss rfl rfl rfl) rfl ?_
    refine TO_nil ?_
    refine te [(0, (.b 0 0)), (7, (intA most1)), (8, (.m [1] 0 r_1.1.2.length tConflictEdge.k)), (9, (.m [2] 0 keep9.length tConflictEdge.k)), (10, (intA (i_4 : Int))), (35, (boolA (decide (x_i_4.b < most1))))] rfl ?_
    refine T_cond (t := decide (x_i_4.b < most1)) rfl (fun c_6 => ?_) (fun c_6 => ?_)
    ·replace H := cond_t c_6 H
     refine T_region ?_
     refine Tp rfl rfl (pur_move rfl) rfl ?_
     refine Tp rfl rfl (pur_move rfl) rfl ?_
     refine Tp rfl rfl (pur_move rfl) rfl ?_
     refine Tp rfl rfl (pur_ixM (T := tConflictEdge) sl25 rfl rfl rfl hx_i_4 rfl) rfl ?_
     refine Tp rfl rfl (pur_ldEK (f := tConflictEdge.enc) (k := tConflictEdge.k) (i := i_4) (off := 0) tConflictEdge.len rfl agg52 rfl rfl rfl hx_i_4 (by decide) rfl) rfl ?_
     refine TO_cons rfl (TOp_lit (nn := 1) (k := 2) sl25 zero52 rfl rfl rfl rfl (by decide) ?_)
     refine TO_st (σ' := [.box [(sl (tI .u8) r_1.2.b), (intA r_1.2.i), (intA r_1.2.h)], .row (flat tConflictEdge.enc r_1.1.2), .row (flat tConflictEdge.enc keep9), .row (flat tConflictEdge.enc ([x_i_4] : (List ConflictEdge)))]) rfl ?_
     obtain ⟨us_7, h_8, H⟩ := bind_inv H
     refine TO_cons rfl (TOp_appZ (T := tConflictEdge) (f := tConflictEdge.enc) (xs := keep9) (ys := ([x_i_4] : (List ConflictEdge))) tConflictEdge.len sl25 zero52 rfl bytes52 (by decide) rfl rfl rfl rfl (src_mT (f := tConflictEdge.enc) tConflictEdge.len rfl rfl (flat_cell tConflictEdge _)) (flat_cell tConflictEdge _) h_8 (lb rfl) ?_)
     refine toe [(0, (.b 0 0)), (7, (intA most1)), (8, (.m [1] 0 r_1.1.2.length tConflictEdge.k)), (10, (intA (i_4 : Int))), (35, (boolA (decide (x_i_4.b < most1)))), (37, (.m [1] 0 r_1.1.2.length tConflictEdge.k)), (38, (intA (i_4 : Int))), (39, (.e [1] (i_4 * tConflictEdge.k))), (40, (.g (tConflictEdge.enc x_i_4))), (41, (.m [3] 0 ([x_i_4] : (List ConflictEdge)).length tConflictEdge.k)), (42, (.m [2] 0 us_7.length tConflictEdge.k))] rfl ?_
     refine TO_st (σ' := [.box [(sl (tI .u8) r_1.2.b), (intA r_1.2.i), (intA r_1.2.h)], .row (flat tConflictEdge.enc r_1.1.2), .row (flat tConflictEdge.enc us_7), .row (flat tConflictEdge.enc ([x_i_4] : (List ConflictEdge))), .dead]) rfl ?_
     refine Tp rfl rfl (pur_assign rfl) rfl ?_
     refine TO_nil ?_
     refine te [(0, (.b 0 0)), (7, (intA most1)), (8, (.m [1] 0 r_1.1.2.length tConflictEdge.k)), (9, (.m [2] 0 us_7.length tConflictEdge.k)), (10, (intA (i_4 : Int)))] rfl ?_
     refine T_region ?_
     refine Tp rfl rfl (pur_move rfl) rfl ?_
     refine Tp rfl rfl (pur_add rfl rfl rfl (fits64 (by omega) (by omega))) rfl ?_
     refine Tp rfl rfl (pur_assign rfl) rfl ?_
     refine TO_nil ?_
     obtain rfl := some_inj H
     exact again (r_1.1.2.length - (i_4 + 1)) (i_4 + 1, us_7) (by omega) (wp 3 (lb rfl) rfl rfl rfl rfl rfl) ⟨rfl, K5_⟩
    ·replace H := cond_f c_6 H
     refine T_skip ?_
     refine te [(0, (.b 0 0)), (7, (intA most1)), (8, (.m [1] 0 r_1.1.2.length tConflictEdge.k)), (9, (.m [2] 0 keep9.length tConflictEdge.k)), (10, (intA (i_4 : Int)))] rfl ?_
     refine T_region ?_
     refine Tp rfl rfl (pur_move rfl) rfl ?_
     refine Tp rfl rfl (pur_add rfl rfl rfl (fits64 (by omega) (by omega))) rfl ?_
     refine Tp rfl rfl (pur_assign rfl) rfl ?_
     refine TO_nil ?_
     obtain rfl := some_inj H
     exact again (r_1.1.2.length - (i_4 + 1)) (i_4 + 1, keep9) (by omega) (wp 3 (lb rfl) rfl rfl rfl rfl rfl) ⟨rfl, K5_⟩
   ·replace d5 := of_decide_eq_false d5
    obtain rfl := forS_end L5_ (by omega)
    refine T_exit ?_
    refine then_exit ?_
    refine then_exit ?_
    refine block_exit ?_
    replace H := N5_
    refine te [(0, (.b 0 0)), (7, (intA most1)), (9, (.m [2] 0 keep9.length tConflictEdge.k))] rfl ?_
    refine T_region ?_
    refine Tp rfl rfl (pur_move rfl) rfl ?_
    refine Tp rfl rfl (pur_assign rfl) rfl ?_
    refine TO_nil ?_
    refine te [(0, (.b 0 0)), (7, (intA most1)), (8, (.m [2] 0 keep9.length tConflictEdge.k))] rfl ?_
    refine sr ?_
    refine TO_cons rfl (TOp_lit (nn := 0) (k := 2) sl25 zero52 rfl rfl rfl rfl (by decide) ?_)
    refine TO_st (σ' := [.box [(sl (tI .u8) r_1.2.b), (intA r_1.2.i), (intA r_1.2.h)], .row (flat tConflictEdge.enc r_1.1.2), .row (flat tConflictEdge.enc keep9), .row (flat tConflictEdge.enc ([] : (List ConflictEdge)))]) rfl ?_
    refine Tp rfl rfl (pur_assign rfl) rfl ?_
    refine TO_nil ?_
    refine te [(0, (.b 0 0)), (7, (intA most1)), (8, (.m [2] 0 keep9.length tConflictEdge.k)), (11, (.m [3] 0 ([] : (List ConflictEdge)).length tConflictEdge.k))] rfl ?_
    refine T_seq ?_
    refine sr ?_
    refine Tp rfl rfl (pur_assign rfl) rfl ?_
    refine TO_nil ?_
    refine te [(0, (.b 0 0)), (7, (intA most1)), (8, (.m [2] 0 keep9.length tConflictEdge.k)), (11, (.m [3] 0 ([] : (List ConflictEdge)).length tConflictEdge.k)), (12, (intA 0))] rfl ?_
    obtain ⟨O10_, L10_, N10_⟩ := bind_inv H
    clear H
    obtain ⟨B10_, hb10, L10_⟩ := gen_forS L10_
    refine T_block ?_
    refine T_loopX (fun k => fun (x_ : Nat × (List ConflictEdge) × l1Cur) => k = keep9.length - x_.1 ∧ forS B10_ (keep9.drop x_.1) (x_.1 : Int) (x_.2.1, x_.2.2) = some O10_) (fun (x_ : Nat × (List ConflictEdge) × l1Cur) => [(0, (.b 0 0)), (7, (intA most1)), (8, (.m [2] 0 keep9.length tConflictEdge.k)), (11, (.m [3] 0 x_.2.1.length tConflictEdge.k)), (12, (intA (x_.1 : Int)))]) (fun (x_ : Nat × (List ConflictEdge) × l1Cur) => [.box [(sl (tI .u8) x_.2.2.b), (intA x_.2.2.i), (intA x_.2.2.h)], .row (flat tConflictEdge.enc r_1.1.2), .row (flat tConflictEdge.enc keep9), .row (flat tConflictEdge.enc x_.2.1)]) _ (0, (([] : (List ConflictEdge)), r_1.2)) (wp 4 (lb rfl) rfl rfl rfl rfl rfl) ⟨rfl, L10_⟩ ?_
    rintro _ ⟨i_9, p11, box0⟩ ⟨rfl, L10_⟩
    refine te [(0, (.b 0 0)), (7, (intA most1)), (8, (.m [2] 0 keep9.length tConflictEdge.k)), (11, (.m [3] 0 p11.length tConflictEdge.k)), (12, (intA (i_9 : Int)))] rfl ?_
    refine T_st (σ' := [.box [(sl (tI .u8) box0.b), (intA box0.i), (intA box0.h)], .row (flat tConflictEdge.enc r_1.1.2), .row (flat tConflictEdge.enc keep9), .row (flat tConflictEdge.enc p11)]) rfl ?_
    refine T_fact (len_m (.tmp 8) rfl) (fun hl10 => ?_)
    refine T_seq ?_
    refine sr ?_
    refine Tp rfl rfl (pur_move rfl) rfl ?_
    refine Tp rfl rfl (pur_move rfl) rfl ?_
    refine Tp rfl rfl (pur_len_m sl25 rfl rfl) rfl ?_
    refine Tp rfl rfl (pur_lss rfl rfl rfl) rfl ?_
    refine TO_nil ?_
    refine te [(0, (.b 0 0)), (7, (intA most1)), (8, (.m [2] 0 keep9.length tConflictEdge.k)), (11, (.m [3] 0 p11.length tConflictEdge.k)), (12, (intA (i_9 : Int))), (48, (boolA (decide ((i_9 : Int) < (keep9.length : Int)))))] rfl ?_
    refine T_cond (t := decide ((i_9 : Int) < (keep9.length : Int))) rfl (fun d10 => ?_) (fun d10 => ?_)
    ·replace d10 := of_decide_eq_true d10
     obtain ⟨x_i_9, hx_i_9⟩ : ∃ v, (keep9)[i_9]? = some v := ⟨_, List.getElem?_eq_getElem (by omega)⟩
     obtain ⟨C10_, H, K10_⟩ := forS_step L10_ hx_i_9
     rw [hb10] at H
     refine T_skip ?_
     refine te [(0, (.b 0 0)), (7, (intA most1)), (8, (.m [2] 0 keep9.length tConflictEdge.k)), (11, (.m [3] 0 p11.length tConflictEdge.k)), (12, (intA (i_9 : Int)))] rfl ?_
     refine T_seq ?_
     refine T_block ?_
     refine sr ?_
     refine Tp rfl rfl (pur_move rfl) rfl ?_
     obtain ⟨r_11, h_12, H⟩ := bind_inv H
     refine TO_cons rfl (TOp_callS [0] (call_static ent64 rfl) (by decide) rfl rfl rfl rfl rfl rfl (m_spec_l1Below_x _ _ _ h_12) rfl rfl ?_)
     refine toe [(0, (.b 0 0)), (7, (intA most1)), (8, (.m [2] 0 keep9.length tConflictEdge.k)), (11, (.m [3] 0 p11.length tConflictEdge.k)), (12, (intA (i_9 : Int))), (51, (.b 0 0)), (52, (intA r_11.1))] rfl ?_
     refine TO_st (σ' := [.box [(sl (tI .u8) r_11.2.b), (intA r_11.2.i), (intA r_11.2.h)], .row (flat tConflictEdge.enc r_1.1.2), .row (flat tConflictEdge.enc keep9), .row (flat tConflictEdge.enc p11)]) rfl ?_
     refine TO_nil ?_
     refine te [(0, (.b 0 0)), (7, (intA most1)), (8, (.m [2] 0 keep9.length tConflictEdge.k)), (11, (.m [3] 0 p11.length tConflictEdge.k)), (12, (intA (i_9 : Int))), (52, (intA r_11.1))] rfl ?_
     refine T_block ?_
     refine sr ?_
     refine Tp rfl rfl (pur_eql rfl rfl rfl) rfl ?_
     refine Tp rfl rfl (pur_assign rfl) rfl ?_
     refine TO_nil ?_
     refine te [(0, (.b 0 0)), (7, (intA most1)), (8, (.m [2] 0 keep9.length tConflictEdge.k)), (11, (.m [3] 0 p11.length tConflictEdge.k)), (12, (intA (i_9 : Int))), (52, (intA r_11.1)), (53, (boolA (decide (r_11.1 = 0))))] rfl ?_
     refine T_cond (t := decide (r_11.1 = 0)) rfl (fun c_13 => ?_) (fun c_13 => ?_)
     ·replace H := cond_t c_13 H
      refine T_region ?_
      refine Tp rfl rfl (pur_move rfl) rfl ?_
      refine Tp rfl rfl (pur_move rfl) rfl ?_
      refine Tp rfl rfl (pur_move rfl) rfl ?_
      refine Tp rfl rfl (pur_ixM (T := tConflictEdge) sl25 rfl rfl rfl hx_i_9 rfl) rfl ?_
      refine Tp rfl rfl (pur_ldEK (f := tConflictEdge.enc) (k := tConflictEdge.k) (i := i_9) (off := 0) tConflictEdge.len rfl agg52 rfl rfl rfl hx_i_9 (by decide) rfl) rfl ?_
      refine TO_cons rfl (TOp_lit (nn := 1) (k := 2) sl25 zero52 rfl rfl rfl rfl (by decide) ?_)
      refine TO_st (σ' := [.box [(sl (tI .u8) r_11.2.b), (intA r_11.2.i), (intA r_11.2.h)], .row (flat tConflictEdge.enc r_1.1.2), .row (flat tConflictEdge.enc keep9), .row (flat tConflictEdge.enc p11), .row (flat tConflictEdge.enc ([x_i_9] : (List ConflictEdge)))]) rfl ?_
      obtain ⟨us_14, h_15, H⟩ := bind_inv H
      refine TO_cons rfl (TOp_appZ (T := tConflictEdge) (f := tConflictEdge.enc) (xs := p11) (ys := ([x_i_9] : (List ConflictEdge))) tConflictEdge.len sl25 zero52 rfl bytes52 (by decide) rfl rfl rfl rfl (src_mT (f := tConflictEdge.enc) tConflictEdge.len rfl rfl (flat_cell tConflictEdge _)) (flat_cell tConflictEdge _) h_15 (lb rfl) ?_)
      refine toe [(0, (.b 0 0)), (7, (intA most1)), (8, (.m [2] 0 keep9.length tConflictEdge.k)), (12, (intA (i_9 : Int))), (52, (intA r_11.1)), (53, (boolA (decide (r_11.1 = 0)))), (56, (.m [2] 0 keep9.length tConflictEdge.k)), (57, (intA (i_9 : Int))), (58, (.e [2] (i_9 * tConflictEdge.k))), (59, (.g (tConflictEdge.enc x_i_9))), (60, (.m [4] 0 ([x_i_9] : (List ConflictEdge)).length tConflictEdge.k)), (61, (.m [3] 0 us_14.length tConflictEdge.k))] rfl ?_
      refine TO_st (σ' := [.box [(sl (tI .u8) r_11.2.b), (intA r_11.2.i), (intA r_11.2.h)], .row (flat tConflictEdge.enc r_1.1.2), .row (flat tConflictEdge.enc keep9), .row (flat tConflictEdge.enc us_14), .row (flat tConflictEdge.enc ([x_i_9] : (List ConflictEdge))), .dead]) rfl ?_
      refine Tp rfl rfl (pur_assign rfl) rfl ?_
      refine TO_nil ?_
      refine te [(0, (.b 0 0)), (7, (intA most1)), (8, (.m [2] 0 keep9.length tConflictEdge.k)), (11, (.m [3] 0 us_14.length tConflictEdge.k)), (12, (intA (i_9 : Int)))] rfl ?_
      refine T_region ?_
      refine Tp rfl rfl (pur_move rfl) rfl ?_
      refine Tp rfl rfl (pur_add rfl rfl rfl (fits64 (by omega) (by omega))) rfl ?_
      refine Tp rfl rfl (pur_assign rfl) rfl ?_
      refine TO_nil ?_
      obtain rfl := some_inj H
      exact again (keep9.length - (i_9 + 1)) (i_9 + 1, (us_14, r_11.2)) (by omega) (wp 4 (lb rfl) rfl rfl rfl rfl rfl) ⟨rfl, K10_⟩
     ·replace H := cond_f c_13 H
      refine sr ?_
      refine Tp rfl rfl (pur_eql rfl rfl rfl) rfl ?_
      refine Tp rfl rfl (pur_assign rfl) rfl ?_
      refine TO_nil ?_
      refine te [(0, (.b 0 0)), (7, (intA most1)), (8, (.m [2] 0 keep9.length tConflictEdge.k)), (11, (.m [3] 0 p11.length tConflictEdge.k)), (12, (intA (i_9 : Int))), (62, (boolA (decide (r_11.1 = 1))))] rfl ?_
      refine T_cond (t := decide (r_11.1 = 1)) rfl (fun c_16 => ?_) (fun c_16 => ?_)
      ·replace H := cond_t c_16 H
       refine sr ?_
       refine Tp rfl rfl (pur_move rfl) rfl ?_
       obtain ⟨r_17, h_18, H⟩ := bind_inv H
       refine TO_cons rfl (TOp_callS [0] (call_static ent63 rfl) (by decide) rfl rfl rfl rfl rfl rfl (m_spec_l1Once_x _ _ _ h_18) rfl rfl ?_)
       refine toe [(0, (.b 0 0)), (7, (intA most1)), (8, (.m [2] 0 keep9.length tConflictEdge.k)), (11, (.m [3] 0 p11.length tConflictEdge.k)), (12, (intA (i_9 : Int))), (62, (boolA (decide (r_11.1 = 1)))), (64, (.b 0 0)), (65, (boolA r_17.1))] rfl ?_
       refine TO_st (σ' := [.box [(sl (tI .u8) r_17.2.b), (intA r_17.2.i), (intA r_17.2.h)], .row (flat tConflictEdge.enc r_1.1.2), .row (flat tConflictEdge.enc keep9), .row (flat tConflictEdge.enc p11)]) rfl ?_
       refine TO_nil ?_
       refine te [(0, (.b 0 0)), (7, (intA most1)), (8, (.m [2] 0 keep9.length tConflictEdge.k)), (11, (.m [3] 0 p11.length tConflictEdge.k)), (12, (intA (i_9 : Int))), (65, (boolA r_17.1))] rfl ?_
       refine T_cond (t := r_17.1) rfl (fun c_19 => ?_) (fun c_19 => ?_)
       ·replace H := cond_t c_19 H
        obtain ⟨us_20, h_21, H⟩ := bind_inv H
        refine T_pad ?_
        refine T_regionP mixed ?_
        refine TA_have 4 #[true, true, true, true, true, true, true, true, true, true, true, false, false, false, false] [(0, (.b 0 0)), (7, (intA most1)), (8, (.m [2] 0 keep9.length tConflictEdge.k)), (11, (.m [3] 0 p11.length tConflictEdge.k)), (12, (intA (i_9 : Int))), (66, (.m [3] 0 p11.length tConflictEdge.k)), (71, (intA x_i_9.b)), (76, (intA x_i_9.a))] [.box [(sl (tI .u8) r_17.2.b), (intA r_17.2.i), (intA r_17.2.h)], .row (flat tConflictEdge.enc r_1.1.2), .row (flat tConflictEdge.enc keep9), .row (flat tConflictEdge.enc p11), .dead] ?_ (fun hj0_20 => ?_)
        ·skip
         refine tf 11 rfl (purI_build bld52 rfl rfl) rfl rfl (by kernel_rfl) ?_
         refine t1 12 (by kernel_rfl) rfl rfl (TOp_lit (nn := 1) (k := 2) sl25 zero52 rfl rfl rfl rfl (by decide) ?_)
         refine tmv 4 5 (by decide) (lb rfl) rfl rfl (lb rfl) ?_
         refine t1 13 (by kernel_rfl) rfl rfl (TOp_appY (T := tConflictEdge) (f := tConflictEdge.enc) (xs := p11) (ys := ([({ a := x_i_9.b, b := x_i_9.a } : ConflictEdge)] : (List ConflictEdge))) tConflictEdge.len sl25 zero52 rfl bytes52 (by decide) rfl rfl rfl rfl (src_mT (f := tConflictEdge.enc) tConflictEdge.len rfl rfl (flat_cell tConflictEdge _)) (flat_cell tConflictEdge _) h_21 ?_)
         refine tmv 3 6 (by decide) (lb rfl) rfl rfl (lb rfl) ?_
         refine tf 14 rfl (purI_assign rfl) rfl rfl (by kernel_rfl) ?_
         refine TA_nil (by kernel_rfl) ?_
         refine te [(0, (.b 0 0)), (7, (intA most1)), (8, (.m [2] 0 keep9.length tConflictEdge.k)), (11, (.m [3] 0 us_20.length tConflictEdge.k)), (12, (intA (i_9 : Int)))] rfl ?_
         refine T_region ?_
         refine Tp rfl rfl (pur_move rfl) rfl ?_
         refine Tp rfl rfl (pur_add rfl rfl rfl (fits64 (by omega) (by omega))) rfl ?_
         refine Tp rfl rfl (pur_assign rfl) rfl ?_
         refine TO_nil ?_
         obtain rfl := some_inj H
         exact again (keep9.length - (i_9 + 1)) (i_9 + 1, (us_20, r_17.2)) (by omega) (wp 4 (lb rfl) rfl rfl rfl rfl rfl) ⟨rfl, K10_⟩
        refine tf 0 rfl (purI_move rfl) rfl rfl (by kernel_rfl) ?_
        refine tf 1 rfl (purI_move rfl) rfl rfl (by kernel_rfl) ?_
        refine tf 2 rfl (purI_move rfl) rfl rfl (by kernel_rfl) ?_
        refine tf 3 rfl (purI_ixM (T := tConflictEdge) sl25 rfl rfl rfl hx_i_9 rfl) rfl rfl (by kernel_rfl) ?_
        refine tf 4 rfl (purI_fa_e fld52_1 rfl rfl) rfl rfl (by kernel_rfl) ?_
        refine tf 6 rfl (purI_move rfl) rfl rfl (by kernel_rfl) ?_
        refine tae [(0, (.b 0 0)), (7, (intA most1)), (8, (.m [2] 0 keep9.length tConflictEdge.k)), (11, (.m [3] 0 p11.length tConflictEdge.k)), (12, (intA (i_9 : Int))), (66, (.m [3] 0 p11.length tConflictEdge.k)), (70, (.e [2] (i_9 * tConflictEdge.k + 1))), (72, (.m [2] 0 keep9.length tConflictEdge.k))] rfl ?_
        refine tf 7 rfl (purI_move rfl) rfl rfl (by kernel_rfl) ?_
        refine tf 8 rfl (purI_ixM (T := tConflictEdge) sl25 rfl rfl rfl hx_i_9 rfl) rfl rfl (by kernel_rfl) ?_
        refine tf 9 rfl (purI_fa_e fld52_0 rfl rfl) rfl rfl (by kernel_rfl) ?_
        refine TA_all [5, 10] (by kernel_rfl) (by decide) ⟨?_, ?_, trivial⟩
        ·skip
         refine ⟨_, rfl, rfl, (TOp_pure (pur_ldE (f := tConflictEdge.enc) (k := tConflictEdge.k) (i := i_9) (off := 1) tConflictEdge.len rfl one3 rfl rfl rfl hx_i_9 rfl rfl) rfl ?_)⟩
         refine t1 10 (by kernel_rfl) rfl rfl (TOp_pure (pur_ldE (f := tConflictEdge.enc) (k := tConflictEdge.k) (i := i_9) (off := 0) tConflictEdge.len rfl one3 rfl rfl rfl hx_i_9 rfl rfl) rfl ?_)
         exact tj hj0_20 rfl (wp 5 (lb rfl) rfl rfl rfl rfl rfl)
        ·skip
         refine ⟨_, rfl, rfl, (TOp_pure (pur_ldE (f := tConflictEdge.enc) (k := tConflictEdge.k) (i := i_9) (off := 0) tConflictEdge.len rfl one3 rfl rfl rfl hx_i_9 rfl rfl) rfl ?_)⟩
         refine t1 5 (by kernel_rfl) rfl rfl (TOp_pure (pur_ldE (f := tConflictEdge.enc) (k := tConflictEdge.k) (i := i_9) (off := 1) tConflictEdge.len rfl one3 rfl rfl rfl hx_i_9 rfl rfl) rfl ?_)
         exact tj hj0_20 rfl (wp 5 (lb rfl) rfl rfl rfl rfl rfl)
       ·replace H := cond_f c_19 H
        refine T_skip ?_
        refine te [(0, (.b 0 0)), (7, (intA most1)), (8, (.m [2] 0 keep9.length tConflictEdge.k)), (11, (.m [3] 0 p11.length tConflictEdge.k)), (12, (intA (i_9 : Int)))] rfl ?_
        refine T_region ?_
        refine Tp rfl rfl (pur_move rfl) rfl ?_
        refine Tp rfl rfl (pur_add rfl rfl rfl (fits64 (by omega) (by omega))) rfl ?_
        refine Tp rfl rfl (pur_assign rfl) rfl ?_
        refine TO_nil ?_
        obtain rfl := some_inj H
        exact again (keep9.length - (i_9 + 1)) (i_9 + 1, (p11, r_17.2)) (by omega) (wp 4 (lb rfl) rfl rfl rfl rfl rfl) ⟨rfl, K10_⟩
      ·replace H := cond_f c_16 H
       refine T_skip ?_
       refine te [(0, (.b 0 0)), (7, (intA most1)), (8, (.m [2] 0 keep9.length tConflictEdge.k)), (11, (.m [3] 0 p11.length tConflictEdge.k)), (12, (intA (i_9 : Int)))] rfl ?_
       refine T_region ?_
       refine Tp rfl rfl (pur_move rfl) rfl ?_
       refine Tp rfl rfl (pur_add rfl rfl rfl (fits64 (by omega) (by omega))) rfl ?_
       refine Tp rfl rfl (pur_assign rfl) rfl ?_
       refine TO_nil ?_
       obtain rfl := some_inj H
       exact again (keep9.length - (i_9 + 1)) (i_9 + 1, (p11, r_11.2)) (by omega) (wp 4 (lb rfl) rfl rfl rfl rfl rfl) ⟨rfl, K10_⟩
    ·replace d10 := of_decide_eq_false d10
     obtain rfl := forS_end L10_ (by omega)
     refine T_exit ?_
     refine then_exit ?_
     refine then_exit ?_
     refine block_exit ?_
     replace H := N10_
     refine te [(0, (.b 0 0)), (7, (intA most1)), (8, (.m [2] 0 keep9.length tConflictEdge.k)), (11, (.m [3] 0 p11.length tConflictEdge.k))] rfl ?_
     refine T_seq ?_
     refine sr ?_
     refine Tp rfl rfl (pur_move rfl) rfl ?_
     obtain ⟨r_22, h_23, H⟩ := bind_inv H
     refine TO_cons rfl (TOp_callS [0] (call_static ent63 rfl) (by decide) rfl rfl rfl rfl rfl rfl (m_spec_l1Once_x _ _ _ h_23) rfl rfl ?_)
     refine toe [(0, (.b 0 0)), (7, (intA most1)), (8, (.m [2] 0 keep9.length tConflictEdge.k)), (11, (.m [3] 0 p11.length tConflictEdge.k)), (80, (.b 0 0)), (81, (boolA r_22.1))] rfl ?_
     refine TO_st (σ' := [.box [(sl (tI .u8) r_22.2.b), (intA r_22.2.i), (intA r_22.2.h)], .row (flat tConflictEdge.enc r_1.1.2), .row (flat tConflictEdge.enc keep9), .row (flat tConflictEdge.enc p11)]) rfl ?_
     refine TO_nil ?_
     refine te [(0, (.b 0 0)), (7, (intA most1)), (8, (.m [2] 0 keep9.length tConflictEdge.k)), (11, (.m [3] 0 p11.length tConflictEdge.k)), (81, (boolA r_22.1))] rfl ?_
     refine T_cond (t := r_22.1) rfl (fun c_24 => ?_) (fun c_24 => ?_)
     ·replace H := cond_t c_24 H
      refine T_region ?_
      refine Tp rfl rfl (pur_move rfl) rfl ?_
      refine Tp rfl rfl (pur_move rfl) rfl ?_
      obtain ⟨r_25, h_26, H⟩ := bind_inv H
      refine TO_cons rfl (TOp_callS [0] (call_static ent64 rfl) (by decide) rfl rfl rfl rfl rfl rfl (m_spec_l1Below_x _ _ _ h_26) rfl rfl ?_)
      refine toe [(0, (.b 0 0)), (7, (intA most1)), (8, (.m [2] 0 keep9.length tConflictEdge.k)), (11, (.m [3] 0 p11.length tConflictEdge.k)), (81, (boolA r_22.1)), (82, (.m [3] 0 p11.length tConflictEdge.k)), (83, (.b 0 0)), (84, (intA r_25.1))] rfl ?_
      refine TO_st (σ' := [.box [(sl (tI .u8) r_25.2.b), (intA r_25.2.i), (intA r_25.2.h)], .row (flat tConflictEdge.enc r_1.1.2), .row (flat tConflictEdge.enc keep9), .row (flat tConflictEdge.enc p11)]) rfl ?_
      refine Tp rfl rfl (pur_move rfl) rfl ?_
      obtain ⟨r_27, h_28, H⟩ := bind_inv H
      refine TO_cons rfl (TOp_callS [0] (call_static ent64 rfl) (by decide) rfl rfl rfl rfl rfl rfl (m_spec_l1Below_x _ _ _ h_28) rfl rfl ?_)
      refine toe [(0, (.b 0 0)), (7, (intA most1)), (8, (.m [2] 0 keep9.length tConflictEdge.k)), (11, (.m [3] 0 p11.length tConflictEdge.k)), (81, (boolA r_22.1)), (82, (.m [3] 0 p11.length tConflictEdge.k)), (83, (.b 0 0)), (84, (intA r_25.1)), (85, (.b 0 0)), (86, (intA r_27.1))] rfl ?_
      refine TO_st (σ' := [.box [(sl (tI .u8) r_27.2.b), (intA r_27.2.i), (intA r_27.2.h)], .row (flat tConflictEdge.enc r_1.1.2), .row (flat tConflictEdge.enc keep9), .row (flat tConflictEdge.enc p11)]) rfl ?_
      refine Tp rfl rfl (pur_build bld52 rfl rfl) rfl ?_
      refine TO_cons rfl (TOp_lit (nn := 1) (k := 2) sl25 zero52 rfl rfl rfl rfl (by decide) ?_)
      refine TO_st (σ' := [.box [(sl (tI .u8) r_27.2.b), (intA r_27.2.i), (intA r_27.2.h)], .row (flat tConflictEdge.enc r_1.1.2), .row (flat tConflictEdge.enc keep9), .row (flat tConflictEdge.enc p11), .row (flat tConflictEdge.enc ([({ a := r_25.1, b := r_27.1 } : ConflictEdge)] : (List ConflictEdge)))]) rfl ?_
      obtain ⟨us_29, h_30, H⟩ := bind_inv H
      refine TO_cons rfl (TOp_appZ (T := tConflictEdge) (f := tConflictEdge.enc) (xs := p11) (ys := ([({ a := r_25.1, b := r_27.1 } : ConflictEdge)] : (List ConflictEdge))) tConflictEdge.len sl25 zero52 rfl bytes52 (by decide) rfl rfl rfl rfl (src_mT (f := tConflictEdge.enc) tConflictEdge.len rfl rfl (flat_cell tConflictEdge _)) (flat_cell tConflictEdge _) h_30 (lb rfl) ?_)
      refine toe [(0, (.b 0 0)), (7, (intA most1)), (8, (.m [2] 0 keep9.length tConflictEdge.k)), (81, (boolA r_22.1)), (83, (.b 0 0)), (84, (intA r_25.1)), (85, (.b 0 0)), (86, (intA r_27.1)), (87, (.g [(intA r_25.1), (intA r_27.1)])), (88, (.m [4] 0 ([({ a := r_25.1, b := r_27.1 } : ConflictEdge)] : (List ConflictEdge)).length tConflictEdge.k)), (89, (.m [3] 0 us_29.length tConflictEdge.k))] rfl ?_
      refine TO_st (σ' := [.box [(sl (tI .u8) r_27.2.b), (intA r_27.2.i), (intA r_27.2.h)], .row (flat tConflictEdge.enc r_1.1.2), .row (flat tConflictEdge.enc keep9), .row (flat tConflictEdge.enc us_29), .row (flat tConflictEdge.enc ([({ a := r_25.1, b := r_27.1 } : ConflictEdge)] : (List ConflictEdge))), .dead]) rfl ?_
      refine Tp rfl rfl (pur_assign rfl) rfl ?_
      refine TO_nil ?_
      refine te [(7, (intA most1)), (8, (.m [2] 0 keep9.length tConflictEdge.k)), (11, (.m [3] 0 us_29.length tConflictEdge.k))] rfl ?_
      refine sr ?_
      refine Tp rfl rfl (pur_move rfl) rfl ?_
      refine Tp rfl rfl (pur_move rfl) rfl ?_
      refine Tp rfl rfl (pur_move rfl) rfl ?_
      refine Tp rfl rfl (pur_assign rfl) rfl ?_
      refine Tp rfl rfl (pur_assign rfl) rfl ?_
      refine Tp rfl rfl (pur_assign rfl) rfl ?_
      refine TO_nil ?_
      refine te [(4, (intA most1)), (5, (.m [2] 0 keep9.length tConflictEdge.k)), (6, (.m [3] 0 us_29.length tConflictEdge.k))] rfl ?_
      refine T_ret ?_
      obtain rfl := some_inj H
      exact end_pickX (.tmp (.tmp (.tmp .nil))) rfl [0, 2, 3] (by decide) (lb rfl) rfl (lb rfl) rfl rfl rfl rfl rfl rfl
     ·replace H := cond_f c_24 H
      refine T_skip ?_
      refine te [(7, (intA most1)), (8, (.m [2] 0 keep9.length tConflictEdge.k)), (11, (.m [3] 0 p11.length tConflictEdge.k))] rfl ?_
      refine sr ?_
      refine Tp rfl rfl (pur_move rfl) rfl ?_
      refine Tp rfl rfl (pur_move rfl) rfl ?_
      refine Tp rfl rfl (pur_move rfl) rfl ?_
      refine Tp rfl rfl (pur_assign rfl) rfl ?_
      refine Tp rfl rfl (pur_assign rfl) rfl ?_
      refine Tp rfl rfl (pur_assign rfl) rfl ?_
      refine TO_nil ?_
      refine te [(4, (intA most1)), (5, (.m [2] 0 keep9.length tConflictEdge.k)), (6, (.m [3] 0 p11.length tConflictEdge.k))] rfl ?_
      refine T_ret ?_
      obtain rfl := some_inj H
      exact end_pickX (.tmp (.tmp (.tmp .nil))) rfl [0, 2, 3] (by decide) (lb rfl) rfl (lb rfl) rfl rfl rfl rfl rfl rfl
  ·replace H := cond_f c_3 H
   refine T_skip ?_
   refine te [(0, (.b 0 0)), (7, (intA r_1.1.1)), (8, (.m [1] 0 r_1.1.2.length tConflictEdge.k))] rfl ?_
   refine sr ?_
   refine TO_cons rfl (TOp_lit (nn := 0) (k := 2) sl25 zero52 rfl rfl rfl rfl (by decide) ?_)
   refine TO_st (σ' := [.box [(sl (tI .u8) r_1.2.b), (intA r_1.2.i), (intA r_1.2.h)], .row (flat tConflictEdge.enc r_1.1.2), .row (flat tConflictEdge.enc ([] : (List ConflictEdge)))]) rfl ?_
   refine Tp rfl rfl (pur_assign rfl) rfl ?_
   refine TO_nil ?_
   refine te [(0, (.b 0 0)), (7, (intA r_1.1.1)), (8, (.m [1] 0 r_1.1.2.length tConflictEdge.k)), (11, (.m [2] 0 ([] : (List ConflictEdge)).length tConflictEdge.k))] rfl ?_
   refine T_seq ?_
   refine sr ?_
   refine Tp rfl rfl (pur_assign rfl) rfl ?_
   refine TO_nil ?_
   refine te [(0, (.b 0 0)), (7, (intA r_1.1.1)), (8, (.m [1] 0 r_1.1.2.length tConflictEdge.k)), (11, (.m [2] 0 ([] : (List ConflictEdge)).length tConflictEdge.k)), (12, (intA 0))] rfl ?_
   obtain ⟨O32_, L32_, N32_⟩ := bind_inv H
   clear H
   obtain ⟨B32_, hb32, L32_⟩ := gen_forS L32_
   refine T_block ?_
   refine T_loopX (fun k => fun (x_ : Nat × (List ConflictEdge) × l1Cur) => k = r_1.1.2.length - x_.1 ∧ forS B32_ (r_1.1.2.drop x_.1) (x_.1 : Int) (x_.2.1, x_.2.2) = some O32_) (fun (x_ : Nat × (List ConflictEdge) × l1Cur) => [(0, (.b 0 0)), (7, (intA r_1.1.1)), (8, (.m [1] 0 r_1.1.2.length tConflictEdge.k)), (11, (.m [2] 0 x_.2.1.length tConflictEdge.k)), (12, (intA (x_.1 : Int)))]) (fun (x_ : Nat × (List ConflictEdge) × l1Cur) => [.box [(sl (tI .u8) x_.2.2.b), (intA x_.2.2.i), (intA x_.2.2.h)], .row (flat tConflictEdge.enc r_1.1.2), .row (flat tConflictEdge.enc x_.2.1)]) _ (0, (([] : (List ConflictEdge)), r_1.2)) (wp 3 (lb rfl) rfl rfl rfl rfl rfl) ⟨rfl, L32_⟩ ?_
   rintro _ ⟨i_31, p11, box0⟩ ⟨rfl, L32_⟩
   refine te [(0, (.b 0 0)), (7, (intA r_1.1.1)), (8, (.m [1] 0 r_1.1.2.length tConflictEdge.k)), (11, (.m [2] 0 p11.length tConflictEdge.k)), (12, (intA (i_31 : Int)))] rfl ?_
   refine T_st (σ' := [.box [(sl (tI .u8) box0.b), (intA box0.i), (intA box0.h)], .row (flat tConflictEdge.enc r_1.1.2), .row (flat tConflictEdge.enc p11)]) rfl ?_
   refine T_fact (len_m (.tmp 8) rfl) (fun hl32 => ?_)
   refine T_seq ?_
   refine sr ?_
   refine Tp rfl rfl (pur_move rfl) rfl ?_
   refine Tp rfl rfl (pur_move rfl) rfl ?_
   refine Tp rfl rfl (pur_len_m sl25 rfl rfl) rfl ?_
   refine Tp rfl rfl (pur_lss rfl rfl rfl) rfl ?_
   refine TO_nil ?_
   refine te [(0, (.b 0 0)), (7, (intA r_1.1.1)), (8, (.m [1] 0 r_1.1.2.length tConflictEdge.k)), (11, (.m [2] 0 p11.length tConflictEdge.k)), (12, (intA (i_31 : Int))), (48, (boolA (decide ((i_31 : Int) < (r_1.1.2.length : Int)))))] rfl ?_
   refine T_cond (t := decide ((i_31 : Int) < (r_1.1.2.length : Int))) rfl (fun d32 => ?_) (fun d32 => ?_)
   ·replace d32 := of_decide_eq_true d32
    obtain ⟨x_i_31, hx_i_31⟩ : ∃ v, (r_1.1.2)[i_31]? = some v := ⟨_, List.getElem?_eq_getElem (by omega)⟩
    obtain ⟨C32_, H, K32_⟩ := forS_step L32_ hx_i_31
    rw [hb32] at H
    refine T_skip ?_
    refine te [(0, (.b 0 0)), (7, (intA r_1.1.1)), (8, (.m [1] 0 r_1.1.2.length tConflictEdge.k)), (11, (.m [2] 0 p11.length tConflictEdge.k)), (12, (intA (i_31 : Int)))] rfl ?_
    refine T_seq ?_
    refine T_block ?_
    refine sr ?_
    refine Tp rfl rfl (pur_move rfl) rfl ?_
    obtain ⟨r_33, h_34, H⟩ := bind_inv H
    refine TO_cons rfl (TOp_callS [0] (call_static ent64 rfl) (by decide) rfl rfl rfl rfl rfl rfl (m_spec_l1Below_x _ _ _ h_34) rfl rfl ?_)
    refine toe [(0, (.b 0 0)), (7, (intA r_1.1.1)), (8, (.m [1] 0 r_1.1.2.length tConflictEdge.k)), (11, (.m [2] 0 p11.length tConflictEdge.k)), (12, (intA (i_31 : Int))), (51, (.b 0 0)), (52, (intA r_33.1))] rfl ?_
    refine TO_st (σ' := [.box [(sl (tI .u8) r_33.2.b), (intA r_33.2.i), (intA r_33.2.h)], .row (flat tConflictEdge.enc r_1.1.2), .row (flat tConflictEdge.enc p11)]) rfl ?_
    refine TO_nil ?_
    refine te [(0, (.b 0 0)), (7, (intA r_1.1.1)), (8, (.m [1] 0 r_1.1.2.length tConflictEdge.k)), (11, (.m [2] 0 p11.length tConflictEdge.k)), (12, (intA (i_31 : Int))), (52, (intA r_33.1))] rfl ?_
    refine T_block ?_
    refine sr ?_
    refine Tp rfl rfl (pur_eql rfl rfl rfl) rfl ?_
    refine Tp rfl rfl (pur_assign rfl) rfl ?_
    refine TO_nil ?_
    refine te [(0, (.b 0 0)), (7, (intA r_1.1.1)), (8, (.m [1] 0 r_1.1.2.length tConflictEdge.k)), (11, (.m [2] 0 p11.length tConflictEdge.k)), (12, (intA (i_31 : Int))), (52, (intA r_33.1)), (53, (boolA (decide (r_33.1 = 0))))] rfl ?_
    refine T_cond (t := decide (r_33.1 = 0)) rfl (fun c_35 => ?_) (fun c_35 => ?_)
    ·replace H := cond_t c_35 H
     refine T_region ?_
     refine Tp rfl rfl (pur_move rfl) rfl ?_
     refine Tp rfl rfl (pur_move rfl) rfl ?_
     refine Tp rfl rfl (pur_move rfl) rfl ?_
     refine Tp rfl rfl (pur_ixM (T := tConflictEdge) sl25 rfl rfl rfl hx_i_31 rfl) rfl ?_
     refine Tp rfl rfl (pur_ldEK (f := tConflictEdge.enc) (k := tConflictEdge.k) (i := i_31) (off := 0) tConflictEdge.len rfl agg52 rfl rfl rfl hx_i_31 (by decide) rfl) rfl ?_
     refine TO_cons rfl (TOp_lit (nn := 1) (k := 2) sl25 zero52 rfl rfl rfl rfl (by decide) ?_)
     refine TO_st (σ' := [.box [(sl (tI .u8) r_33.2.b), (intA r_33.2.i), (intA r_33.2.h)], .row (flat tConflictEdge.enc r_1.1.2), .row (flat tConflictEdge.enc p11), .row (flat tConflictEdge.enc ([x_i_31] : (List ConflictEdge)))]) rfl ?_
     obtain ⟨us_36, h_37, H⟩ := bind_inv H
     refine TO_cons rfl (TOp_appZ (T := tConflictEdge) (f := tConflictEdge.enc) (xs := p11) (ys := ([x_i_31] : (List ConflictEdge))) tConflictEdge.len sl25 zero52 rfl bytes52 (by decide) rfl rfl rfl rfl (src_mT (f := tConflictEdge.enc) tConflictEdge.len rfl rfl (flat_cell tConflictEdge _)) (flat_cell tConflictEdge _) h_37 (lb rfl) ?_)
     refine toe [(0, (.b 0 0)), (7, (intA r_1.1.1)), (8, (.m [1] 0 r_1.1.2.length tConflictEdge.k)), (12, (intA (i_31 : Int))), (52, (intA r_33.1)), (53, (boolA (decide (r_33.1 = 0)))), (56, (.m [1] 0 r_1.1.2.length tConflictEdge.k)), (57, (intA (i_31 : Int))), (58, (.e [1] (i_31 * tConflictEdge.k))), (59, (.g (tConflictEdge.enc x_i_31))), (60, (.m [3] 0 ([x_i_31] : (List ConflictEdge)).length tConflictEdge.k)), (61, (.m [2] 0 us_36.length tConflictEdge.k))] rfl ?_
     refine TO_st (σ' := [.box [(sl (tI .u8) r_33.2.b), (intA r_33.2.i), (intA r_33.2.h)], .row (flat tConflictEdge.enc r_1.1.2), .row (flat tConflictEdge.enc us_36), .row (flat tConflictEdge.enc ([x_i_31] : (List ConflictEdge))), .dead]) rfl ?_
     refine Tp rfl rfl (pur_assign rfl) rfl ?_
     refine TO_nil ?_
     refine te [(0, (.b 0 0)), (7, (intA r_1.1.1)), (8, (.m [1] 0 r_1.1.2.length tConflictEdge.k)), (11, (.m [2] 0 us_36.length tConflictEdge.k)), (12, (intA (i_31 : Int)))] rfl ?_
     refine T_region ?_
     refine Tp rfl rfl (pur_move rfl) rfl ?_
     refine Tp rfl rfl (pur_add rfl rfl rfl (fits64 (by omega) (by omega))) rfl ?_
     refine Tp rfl rfl (pur_assign rfl) rfl ?_
     refine TO_nil ?_
     obtain rfl := some_inj H
     exact again (r_1.1.2.length - (i_31 + 1)) (i_31 + 1, (us_36, r_33.2)) (by omega) (wp 3 (lb rfl) rfl rfl rfl rfl rfl) ⟨rfl, K32_⟩
    ·replace H := cond_f c_35 H
     refine sr ?_
     refine Tp rfl rfl (pur_eql rfl rfl rfl) rfl ?_
     refine Tp rfl rfl (pur_assign rfl) rfl ?_
     refine TO_nil ?_
     refine te [(0, (.b 0 0)), (7, (intA r_1.1.1)), (8, (.m [1] 0 r_1.1.2.length tConflictEdge.k)), (11, (.m [2] 0 p11.length tConflictEdge.k)), (12, (intA (i_31 : Int))), (62, (boolA (decide (r_33.1 = 1))))] rfl ?_
     refine T_cond (t := decide (r_33.1 = 1)) rfl (fun c_38 => ?_) (fun c_38 => ?_)
     ·replace H := cond_t c_38 H
      refine sr ?_
      refine Tp rfl rfl (pur_move rfl) rfl ?_
      obtain ⟨r_39, h_40, H⟩ := bind_inv H
      refine TO_cons rfl (TOp_callS [0] (call_static ent63 rfl) (by decide) rfl rfl rfl rfl rfl rfl (m_spec_l1Once_x _ _ _ h_40) rfl rfl ?_)
      refine toe [(0, (.b 0 0)), (7, (intA r_1.1.1)), (8, (.m [1] 0 r_1.1.2.length tConflictEdge.k)), (11, (.m [2] 0 p11.length tConflictEdge.k)), (12, (intA (i_31 : Int))), (62, (boolA (decide (r_33.1 = 1)))), (64, (.b 0 0)), (65, (boolA r_39.1))] rfl ?_
      refine TO_st (σ' := [.box [(sl (tI .u8) r_39.2.b), (intA r_39.2.i), (intA r_39.2.h)], .row (flat tConflictEdge.enc r_1.1.2), .row (flat tConflictEdge.enc p11)]) rfl ?_
      refine TO_nil ?_
      refine te [(0, (.b 0 0)), (7, (intA r_1.1.1)), (8, (.m [1] 0 r_1.1.2.length tConflictEdge.k)), (11, (.m [2] 0 p11.length tConflictEdge.k)), (12, (intA (i_31 : Int))), (65, (boolA r_39.1))] rfl ?_
      refine T_cond (t := r_39.1) rfl (fun c_41 => ?_) (fun c_41 => ?_)
      ·replace H := cond_t c_41 H
       obtain ⟨us_42, h_43, H⟩ := bind_inv H
       refine T_pad ?_
       refine T_regionP mixed ?_
       refine TA_have 4 #[true, true, true, true, true, true, true, true, true, true, true, false, false, false, false] [(0, (.b 0 0)), (7, (intA r_1.1.1)), (8, (.m [1] 0 r_1.1.2.length tConflictEdge.k)), (11, (.m [2] 0 p11.length tConflictEdge.k)), (12, (intA (i_31 : Int))), (66, (.m [2] 0 p11.length tConflictEdge.k)), (71, (intA x_i_31.b)), (76, (intA x_i_31.a))] [.box [(sl (tI .u8) r_39.2.b), (intA r_39.2.i), (intA r_39.2.h)], .row (flat tConflictEdge.enc r_1.1.2), .row (flat tConflictEdge.enc p11), .dead] ?_ (fun hj0_20 => ?_)
       ·skip
        refine tf 11 rfl (purI_build bld52 rfl rfl) rfl rfl (by kernel_rfl) ?_
        refine t1 12 (by kernel_rfl) rfl rfl (TOp_lit (nn := 1) (k := 2) sl25 zero52 rfl rfl rfl rfl (by decide) ?_)
        refine tmv 3 4 (by decide) (lb rfl) rfl rfl (lb rfl) ?_
        refine t1 13 (by kernel_rfl) rfl rfl (TOp_appY (T := tConflictEdge) (f := tConflictEdge.enc) (xs := p11) (ys := ([({ a := x_i_31.b, b := x_i_31.a } : ConflictEdge)] : (List ConflictEdge))) tConflictEdge.len sl25 zero52 rfl bytes52 (by decide) rfl rfl rfl rfl (src_mT (f := tConflictEdge.enc) tConflictEdge.len rfl rfl (flat_cell tConflictEdge _)) (flat_cell tConflictEdge _) h_43 ?_)
        refine tmv 2 5 (by decide) (lb rfl) rfl rfl (lb rfl) ?_
        refine tf 14 rfl (purI_assign rfl) rfl rfl (by kernel_rfl) ?_
        refine TA_nil (by kernel_rfl) ?_
        refine te [(0, (.b 0 0)), (7, (intA r_1.1.1)), (8, (.m [1] 0 r_1.1.2.length tConflictEdge.k)), (11, (.m [2] 0 us_42.length tConflictEdge.k)), (12, (intA (i_31 : Int)))] rfl ?_
        refine T_region ?_
        refine Tp rfl rfl (pur_move rfl) rfl ?_
        refine Tp rfl rfl (pur_add rfl rfl rfl (fits64 (by omega) (by omega))) rfl ?_
        refine Tp rfl rfl (pur_assign rfl) rfl ?_
        refine TO_nil ?_
        obtain rfl := some_inj H
        exact again (r_1.1.2.length - (i_31 + 1)) (i_31 + 1, (us_42, r_39.2)) (by omega) (wp 3 (lb rfl) rfl rfl rfl rfl rfl) ⟨rfl, K32_⟩
       refine tf 0 rfl (purI_move rfl) rfl rfl (by kernel_rfl) ?_
       refine tf 1 rfl (purI_move rfl) rfl rfl (by kernel_rfl) ?_
       refine tf 2 rfl (purI_move rfl) rfl rfl (by kernel_rfl) ?_
       refine tf 3 rfl (purI_ixM (T := tConflictEdge) sl25 rfl rfl rfl hx_i_31 rfl) rfl rfl (by kernel_rfl) ?_
       refine tf 4 rfl (purI_fa_e fld52_1 rfl rfl) rfl rfl (by kernel_rfl) ?_
       refine tf 6 rfl (purI_move rfl) rfl rfl (by kernel_rfl) ?_
       refine tae [(0, (.b 0 0)), (7, (intA r_1.1.1)), (8, (.m [1] 0 r_1.1.2.length tConflictEdge.k)), (11, (.m [2] 0 p11.length tConflictEdge.k)), (12, (intA (i_31 : Int))), (66, (.m [2] 0 p11.length tConflictEdge.k)), (70, (.e [1] (i_31 * tConflictEdge.k + 1))), (72, (.m [1] 0 r_1.1.2.length tConflictEdge.k))] rfl ?_
       refine tf 7 rfl (purI_move rfl) rfl rfl (by kernel_rfl) ?_
       refine tf 8 rfl (purI_ixM (T := tConflictEdge) sl25 rfl rfl rfl hx_i_31 rfl) rfl rfl (by kernel_rfl) ?_
       refine tf 9 rfl (purI_fa_e fld52_0 rfl rfl) rfl rfl (by kernel_rfl) ?_
       refine TA_all [5, 10] (by kernel_rfl) (by decide) ⟨?_, ?_, trivial⟩
       ·skip
        refine ⟨_, rfl, rfl, (TOp_pure (pur_ldE (f := tConflictEdge.enc) (k := tConflictEdge.k) (i := i_31) (off := 1) tConflictEdge.len rfl one3 rfl rfl rfl hx_i_31 rfl rfl) rfl ?_)⟩
        refine t1 10 (by kernel_rfl) rfl rfl (TOp_pure (pur_ldE (f := tConflictEdge.enc) (k := tConflictEdge.k) (i := i_31) (off := 0) tConflictEdge.len rfl one3 rfl rfl rfl hx_i_31 rfl rfl) rfl ?_)
        exact tj hj0_20 rfl (wp 4 (lb rfl) rfl rfl rfl rfl rfl)
       ·skip
        refine ⟨_, rfl, rfl, (TOp_pure (pur_ldE (f := tConflictEdge.enc) (k := tConflictEdge.k) (i := i_31) (off := 0) tConflictEdge.len rfl one3 rfl rfl rfl hx_i_31 rfl rfl) rfl ?_)⟩
        refine t1 5 (by kernel_rfl) rfl rfl (TOp_pure (pur_ldE (f := tConflictEdge.enc) (k := tConflictEdge.k) (i := i_31) (off := 1) tConflictEdge.len rfl one3 rfl rfl rfl hx_i_31 rfl rfl) rfl ?_)
        exact tj hj0_20 rfl (wp 4 (lb rfl) rfl rfl rfl rfl rfl)
      ·replace H := cond_f c_41 H
       refine T_skip ?_
       refine te [(0, (.b 0 0)), (7, (intA r_1.1.1)), (8, (.m [1] 0 r_1.1.2.length tConflictEdge.k)), (11, (.m [2] 0 p11.length tConflictEdge.k)), (12, (intA (i_31 : Int)))] rfl ?_
       refine T_region ?_
       refine Tp rfl rfl (pur_move rfl) rfl ?_
       refine Tp rfl rfl (pur_add rfl rfl rfl (fits64 (by omega) (by omega))) rfl ?_
       refine Tp rfl rfl (pur_assign rfl) rfl ?_
       refine TO_nil ?_
       obtain rfl := some_inj H
       exact again (r_1.1.2.length - (i_31 + 1)) (i_31 + 1, (p11, r_39.2)) (by omega) (wp 3 (lb rfl) rfl rfl rfl rfl rfl) ⟨rfl, K32_⟩
     ·replace H := cond_f c_38 H
      refine T_skip ?_
      refine te [(0, (.b 0 0)), (7, (intA r_1.1.1)), (8, (.m [1] 0 r_1.1.2.length tConflictEdge.k)), (11, (.m [2] 0 p11.length tConflictEdge.k)), (12, (intA (i_31 : Int)))] rfl ?_
      refine T_region ?_
      refine Tp rfl rfl (pur_move rfl) rfl ?_
      refine Tp rfl rfl (pur_add rfl rfl rfl (fits64 (by omega) (by omega))) rfl ?_
      refine Tp rfl rfl (pur_assign rfl) rfl ?_
      refine TO_nil ?_
      obtain rfl := some_inj H
      exact again (r_1.1.2.length - (i_31 + 1)) (i_31 + 1, (p11, r_33.2)) (by omega) (wp 3 (lb rfl) rfl rfl rfl rfl rfl) ⟨rfl, K32_⟩
   ·replace d32 := of_decide_eq_false d32
    obtain rfl := forS_end L32_ (by omega)
    refine T_exit ?_
    refine then_exit ?_
    refine then_exit ?_
    refine block_exit ?_
    replace H := N32_
    refine te [(0, (.b 0 0)), (7, (intA r_1.1.1)), (8, (.m [1] 0 r_1.1.2.length tConflictEdge.k)), (11, (.m [2] 0 p11.length tConflictEdge.k))] rfl ?_
    refine T_seq ?_
    refine sr ?_
    refine Tp rfl rfl (pur_move rfl) rfl ?_
    obtain ⟨r_44, h_45, H⟩ := bind_inv H
    refine TO_cons rfl (TOp_callS [0] (call_static ent63 rfl) (by decide) rfl rfl rfl rfl rfl rfl (m_spec_l1Once_x _ _ _ h_45) rfl rfl ?_)
    refine toe [(0, (.b 0 0)), (7, (intA r_1.1.1)), (8, (.m [1] 0 r_1.1.2.length tConflictEdge.k)), (11, (.m [2] 0 p11.length tConflictEdge.k)), (80, (.b 0 0)), (81, (boolA r_44.1))] rfl ?_
    refine TO_st (σ' := [.box [(sl (tI .u8) r_44.2.b), (intA r_44.2.i), (intA r_44.2.h)], .row (flat tConflictEdge.enc r_1.1.2), .row (flat tConflictEdge.enc p11)]) rfl ?_
    refine TO_nil ?_
    refine te [(0, (.b 0 0)), (7, (intA r_1.1.1)), (8, (.m [1] 0 r_1.1.2.length tConflictEdge.k)), (11, (.m [2] 0 p11.length tConflictEdge.k)), (81, (boolA r_44.1))] rfl ?_
    refine T_cond (t := r_44.1) rfl (fun c_46 => ?_) (fun c_46 => ?_)
    ·replace H := cond_t c_46 H
     refine T_region ?_
     refine Tp rfl rfl (pur_move rfl) rfl ?_
     refine Tp rfl rfl (pur_move rfl) rfl ?_
     obtain ⟨r_47, h_48, H⟩ := bind_inv H
     refine TO_cons rfl (TOp_callS [0] (call_static ent64 rfl) (by decide) rfl rfl rfl rfl rfl rfl (m_spec_l1Below_x _ _ _ h_48) rfl rfl ?_)
     refine toe [(0, (.b 0 0)), (7, (intA r_1.1.1)), (8, (.m [1] 0 r_1.1.2.length tConflictEdge.k)), (11, (.m [2] 0 p11.length tConflictEdge.k)), (81, (boolA r_44.1)), (82, (.m [2] 0 p11.length tConflictEdge.k)), (83, (.b 0 0)), (84, (intA r_47.1))] rfl ?_
     refine TO_st (σ' := [.box [(sl (tI .u8) r_47.2.b), (intA r_47.2.i), (intA r_47.2.h)], .row (flat tConflictEdge.enc r_1.1.2), .row (flat tConflictEdge.enc p11)]) rfl ?_
     refine Tp rfl rfl (pur_move rfl) rfl ?_
     obtain ⟨r_49, h_50, H⟩ := bind_inv H
     refine TO_cons rfl (TOp_callS [0] (call_static ent64 rfl) (by decide) rfl rfl rfl rfl rfl rfl (m_spec_l1Below_x _ _ _ h_50) rfl rfl ?_)
     refine toe [(0, (.b 0 0)), (7, (intA r_1.1.1)), (8, (.m [1] 0 r_1.1.2.length tConflictEdge.k)), (11, (.m [2] 0 p11.length tConflictEdge.k)), (81, (boolA r_44.1)), (82, (.m [2] 0 p11.length tConflictEdge.k)), (83, (.b 0 0)), (84, (intA r_47.1)), (85, (.b 0 0)), (86, (intA r_49.1))] rfl ?_
     refine TO_st (σ' := [.box [(sl (tI .u8) r_49.2.b), (intA r_49.2.i), (intA r_49.2.h)], .row (flat tConflictEdge.enc r_1.1.2), .row (flat tConflictEdge.enc p11)]) rfl ?_
     refine Tp rfl rfl (pur_build bld52 rfl rfl) rfl ?_
     refine TO_cons rfl (TOp_lit (nn := 1) (k := 2) sl25 zero52 rfl rfl rfl rfl (by decide) ?_)
     refine TO_st (σ' := [.box [(sl (tI .u8) r_49.2.b), (intA r_49.2.i), (intA r_49.2.h)], .row (flat tConflictEdge.enc r_1.1.2), .row (flat tConflictEdge.enc p11), .row (flat tConflictEdge.enc ([({ a := r_47.1, b := r_49.1 } : ConflictEdge)] : (List ConflictEdge)))]) rfl ?_
     obtain ⟨us_51, h_52, H⟩ := bind_inv H
     refine TO_cons rfl (TOp_appZ (T := tConflictEdge) (f := tConflictEdge.enc) (xs := p11) (ys := ([({ a := r_47.1, b := r_49.1 } : ConflictEdge)] : (List ConflictEdge))) tConflictEdge.len sl25 zero52 rfl bytes52 (by decide) rfl rfl rfl rfl (src_mT (f := tConflictEdge.enc) tConflictEdge.len rfl rfl (flat_cell tConflictEdge _)) (flat_cell tConflictEdge _) h_52 (lb rfl) ?_)
     refine toe [(0, (.b 0 0)), (7, (intA r_1.1.1)), (8, (.m [1] 0 r_1.1.2.length tConflictEdge.k)), (81, (boolA r_44.1)), (83, (.b 0 0)), (84, (intA r_47.1)), (85, (.b 0 0)), (86, (intA r_49.1)), (87, (.g [(intA r_47.1), (intA r_49.1)])), (88, (.m [3] 0 ([({ a := r_47.1, b := r_49.1 } : ConflictEdge)] : (List ConflictEdge)).length tConflictEdge.k)), (89, (.m [2] 0 us_51.length tConflictEdge.k))] rfl ?_
     refine TO_st (σ' := [.box [(sl (tI .u8) r_49.2.b), (intA r_49.2.i), (intA r_49.2.h)], .row (flat tConflictEdge.enc r_1.1.2), .row (flat tConflictEdge.enc us_51), .row (flat tConflictEdge.enc ([({ a := r_47.1, b := r_49.1 } : ConflictEdge)] : (List ConflictEdge))), .dead]) rfl ?_
     refine Tp rfl rfl (pur_assign rfl) rfl ?_
     refine TO_nil ?_
     refine te [(7, (intA r_1.1.1)), (8, (.m [1] 0 r_1.1.2.length tConflictEdge.k)), (11, (.m [2] 0 us_51.length tConflictEdge.k))] rfl ?_
     refine sr ?_
     refine Tp rfl rfl (pur_move rfl) rfl ?_
     refine Tp rfl rfl (pur_move rfl) rfl ?_
     refine Tp rfl rfl (pur_move rfl) rfl ?_
     refine Tp rfl rfl (pur_assign rfl) rfl ?_
     refine Tp rfl rfl (pur_assign rfl) rfl ?_
     refine Tp rfl rfl (pur_assign rfl) rfl ?_
     refine TO_nil ?_
     refine te [(4, (intA r_1.1.1)), (5, (.m [1] 0 r_1.1.2.length tConflictEdge.k)), (6, (.m [2] 0 us_51.length tConflictEdge.k))] rfl ?_
     refine T_ret ?_
     obtain rfl := some_inj H
     exact end_pickX (.tmp (.tmp (.tmp .nil))) rfl [0, 1, 2] (by decide) (lb rfl) rfl (lb rfl) rfl rfl rfl rfl rfl rfl
    ·replace H := cond_f c_46 H
     refine T_skip ?_
     refine te [(7, (intA r_1.1.1)), (8, (.m [1] 0 r_1.1.2.length tConflictEdge.k)), (11, (.m [2] 0 p11.length tConflictEdge.k))] rfl ?_
     refine sr ?_
     refine Tp rfl rfl (pur_move rfl) rfl ?_
     refine Tp rfl rfl (pur_move rfl) rfl ?_
     refine Tp rfl rfl (pur_move rfl) rfl ?_
     refine Tp rfl rfl (pur_assign rfl) rfl ?_
     refine Tp rfl rfl (pur_assign rfl) rfl ?_
     refine Tp rfl rfl (pur_assign rfl) rfl ?_
     refine TO_nil ?_
     refine te [(4, (intA r_1.1.1)), (5, (.m [1] 0 r_1.1.2.length tConflictEdge.k)), (6, (.m [2] 0 p11.length tConflictEdge.k))] rfl ?_
     refine T_ret ?_
     obtain rfl := some_inj H
     exact end_pickX (.tmp (.tmp (.tmp .nil))) rfl [0, 1, 2] (by decide) (lb rfl) rfl (lb rfl) rfl rfl rfl rfl rfl rfl

set_option maxHeartbeats 1000000 in
/-- spec.l8Some -/
theorem m_spec_l8Some_x (c0 : l1Cur) (n1 : Int) (l2 : (List ConflictEdge)) (r : ((List Int) × l1Cur)) (H : m_spec_l8Some c0 n1 l2 = some r) : FnS prg 62 [(.b 0 0), (intA n1), (sl tConflictEdge l2)] [.box [(sl (tI .u8) c0.b), (intA c0.i), (intA c0.h)]] (.m [1] 0 r.1.length tInt.k) [.box [(sl (tI .u8) r.2.b), (intA r.2.i), (intA r.2.h)], .row (flat tInt.enc r.1)] := by
  unfold m_spec_l8Some at H
  refine fnS_of_T Try.func62 rfl rfl (Nat.le_of_ble_eq_true rfl) ?_
  refine te [(0, (.b 0 0)), (1, (intA n1)), (2, (sl tConflictEdge l2))] rfl ?_
  refine T_st (σ' := [.box [(sl (tI .u8) c0.b), (intA c0.i), (intA c0.h)]]) rfl ?_
  refine sr ?_
  refine Tp rfl rfl (pur_assign rfl) rfl ?_
  refine TO_nil ?_
  refine te [(0, (.b 0 0)), (1, (intA n1)), (2, (sl tConflictEdge l2))] rfl ?_
  refine sr ?_
  refine TO_cons rfl (TOp_lit (nn := 0) (k := 1) sl31 zero3 rfl rfl rfl rfl (by decide) ?_)
  refine TO_st (σ' := [.box [(sl (tI .u8) c0.b), (intA c0.i), (intA c0.h)], .row (flat tInt.enc ([] : (List Int)))]) rfl ?_
  refine Tp rfl rfl (pur_assign rfl) rfl ?_
  refine TO_nil ?_
  refine te [(0, (.b 0 0)), (1, (intA n1)), (2, (sl tConflictEdge l2)), (7, (.m [1] 0 ([] : (List Int)).length tInt.k))] rfl ?_
  refine T_seq ?_
  refine sr ?_
  refine Tp rfl rfl (pur_assign rfl) rfl ?_
  refine TO_nil ?_
  refine te [(0, (.b 0 0)), (1, (intA n1)), (2, (sl tConflictEdge l2)), (7, (.m [1] 0 ([] : (List Int)).length tInt.k)), (8, (intA 0))] rfl ?_
  obtain ⟨_, h_3, H⟩ := bind_inv H
  replace h_3 := gN_inv h_3
  obtain ⟨O2_, L2_, N2_⟩ := bind_inv H
  clear H
  obtain ⟨B2_, hb2, L2_⟩ := gen_forM L2_
  refine T_block ?_
  refine T_loopX (fun k => fun (x_ : Int × (List Int) × l1Cur) => k = (n1 - x_.1).toNat ∧ 0 ≤ x_.1 ∧ forM B2_ (n1 - x_.1).toNat x_.1 (x_.2.1, x_.2.2) = some O2_) (fun (x_ : Int × (List Int) × l1Cur) => [(0, (.b 0 0)), (1, (intA n1)), (2, (sl tConflictEdge l2)), (7, (.m [1] 0 x_.2.1.length tInt.k)), (8, (intA (x_.1 : Int)))]) (fun (x_ : Int × (List Int) × l1Cur) => [.box [(sl (tI .u8) x_.2.2.b), (intA x_.2.2.i), (intA x_.2.2.h)], .row (flat tInt.enc x_.2.1)]) _ (0, (([] : (List Int)), c0)) (wp 2 (lb rfl) rfl rfl rfl rfl rfl) ⟨rfl, Int.le_refl _, L2_⟩ ?_
  rintro _ ⟨x_1, s7, box0⟩ ⟨rfl, hi2, L2_⟩
  refine te [(0, (.b 0 0)), (1, (intA n1)), (2, (sl tConflictEdge l2)), (7, (.m [1] 0 s7.length tInt.k)), (8, (intA (x_1 : Int)))] rfl ?_
  refine T_st (σ' := [.box [(sl (tI .u8) box0.b), (intA box0.i), (intA box0.h)], .row (flat tInt.enc s7)]) rfl ?_
  refine T_seq ?_
  refine sr ?_
  refine Tp rfl rfl (pur_move rfl) rfl ?_
  refine Tp rfl rfl (pur_move rfl) rfl ?_
  refine Tp rfl rfl (pur_lss rfl rfl rfl) rfl ?_
  refine TO_nil ?_
  refine te [(0, (.b 0 0)), (1, (intA n1)), (2, (sl tConflictEdge l2)), (7, (.m [1] 0 s7.length tInt.k)), (8, (intA (x_1 : Int))), (12, (boolA (decide ((x_1 : Int) < n1))))] rfl ?_
  refine T_cond (t := decide ((x_1 : Int) < n1)) rfl (fun d2 => ?_) (fun d2 => ?_)
  ·replace d2 := of_decide_eq_true d2
   obtain ⟨C2_, H, K2_⟩ := forM_step L2_ d2
   rw [hb2] at H
   refine T_skip ?_
   refine te [(0, (.b 0 0)), (1, (intA n1)), (2, (sl tConflictEdge l2)), (7, (.m [1] 0 s7.length tInt.k)), (8, (intA (x_1 : Int)))] rfl ?_
   refine T_seq ?_
   refine T_block ?_
   obtain ⟨⟨t26_4, box0_4⟩, J_4, H_5⟩ := bind_inv H
   refine T_cutX (fun x => (t26_4, box0_4) = x) (fun (x_ : Bool × l1Cur) => [(0, (.b 0 0)), (1, (intA n1)), (2, (sl tConflictEdge l2)), (7, (.m [1] 0 s7.length tInt.k)), (8, (intA (x_1 : Int))), (26, (boolA x_.1))]) (fun (x_ : Bool × l1Cur) => [.box [(sl (tI .u8) x_.2.b), (intA x_.2.i), (intA x_.2.h)], .row (flat tInt.enc s7)]) ?_ ?_
   ·replace H := J_4
    refine T_region ?_
    refine Tp rfl rfl (pur_move rfl) rfl ?_
    obtain ⟨r_6, h_7, H⟩ := bind_inv H
    refine TO_cons rfl (TOp_callS [0] (call_static ent63 rfl) (by decide) rfl rfl rfl rfl rfl rfl (m_spec_l1Once_x _ _ _ h_7) rfl rfl ?_)
    refine toe [(0, (.b 0 0)), (1, (intA n1)), (2, (sl tConflictEdge l2)), (7, (.m [1] 0 s7.length tInt.k)), (8, (intA (x_1 : Int))), (15, (.b 0 0)), (16, (boolA r_6.1))] rfl ?_
    refine TO_st (σ' := [.box [(sl (tI .u8) r_6.2.b), (intA r_6.2.i), (intA r_6.2.h)], .row (flat tInt.enc s7)]) rfl ?_
    refine Tp rfl rfl (pur_move rfl) rfl ?_
    refine TO_split (t := r_6.1) 17 rfl (fun g_8 => ?_) (fun g_8 => ?_)
    ·replace H := cond_t g_8 H
     refine TO_on rfl rfl (by decide) rfl rfl (TOp_pure (pur_move rfl) rfl ?_)
     obtain ⟨r_9, h_10, H⟩ := bind_inv H
     refine TO_on rfl rfl (by decide) rfl rfl (TOp_callS [0] (call_static ent63 rfl) (by decide) rfl rfl rfl rfl rfl rfl (m_spec_l1Once_x _ _ _ h_10) rfl rfl ?_)
     refine toe [(0, (.b 0 0)), (1, (intA n1)), (2, (sl tConflictEdge l2)), (7, (.m [1] 0 s7.length tInt.k)), (8, (intA (x_1 : Int))), (15, (.b 0 0)), (16, (boolA r_6.1)), (17, (boolA true)), (18, (.b 0 0)), (19, (boolA r_9.1))] rfl ?_
     refine TO_st (σ' := [.box [(sl (tI .u8) r_9.2.b), (intA r_9.2.i), (intA r_9.2.h)], .row (flat tInt.enc s7)]) rfl ?_
     refine TO_on rfl rfl (by decide) rfl rfl (TOp_pure (pur_move rfl) rfl ?_)
     refine TO_split (t := r_9.1) 20 rfl (fun g_11 => ?_) (fun g_11 => ?_)
     ·replace H := cond_t g_11 H
      refine TO_off rfl rfl (by decide) rfl rfl rfl ?_
      refine TO_off rfl rfl (by decide) rfl rfl rfl ?_
      refine TO_off rfl rfl (by decide) rfl rfl rfl ?_
      refine TO_off rfl rfl (by decide) rfl rfl rfl ?_
      refine TO_on rfl rfl (by decide) rfl rfl (TOp_pure (pur_pick (t := true) rfl rfl rfl) rfl ?_)
      refine Tp rfl rfl (pur_pick (t := true) rfl rfl rfl) rfl ?_
      refine TO_nil ?_
      exact joined (true, r_9.2) (wp 2 (lb rfl) rfl rfl rfl rfl rfl) (some_inj H).symm
     ·replace H := cond_f g_11 H
      refine TO_on rfl rfl (by decide) rfl rfl (TOp_pure (pur_move rfl) rfl ?_)
      refine TO_on rfl rfl (by decide) rfl rfl (TOp_pure (pur_move rfl) rfl ?_)
      refine TO_on rfl rfl (by decide) rfl rfl (TOp_pure (pur_move rfl) rfl ?_)
      obtain ⟨r_12, h_13, H⟩ := bind_inv H
      refine TO_on rfl rfl (by decide) rfl rfl (TOp_callB (call_static ent81 rfl) (frz_cons (frz_loose rfl) (frz_cons (frzTE (T := tInt) rfl) (frz_cons (frz_loose rfl) frz_nil))).1 (frz_cons (frz_loose rfl) (frz_cons (frzTE (T := tInt) rfl) (frz_cons (frz_loose rfl) frz_nil))).2 (m_spec_l8Fits_ok _ _ _ _ h_13) rfl ?_)
      refine TO_on rfl rfl (by decide) rfl rfl (TOp_pure (pur_pick (t := false) rfl rfl rfl) rfl ?_)
      refine Tp rfl rfl (pur_pick (t := true) rfl rfl rfl) rfl ?_
      refine TO_nil ?_
      exact joined (r_12, r_9.2) (wp 2 (lb rfl) rfl rfl rfl rfl rfl) (some_inj H).symm
    ·replace H := cond_f g_8 H
     refine TO_off rfl rfl (by decide) rfl rfl rfl ?_
     refine TO_off rfl rfl (by decide) rfl rfl rfl ?_
     refine TO_off rfl rfl (by decide) rfl rfl rfl ?_
     refine TO_off rfl rfl (by decide) rfl rfl rfl ?_
     refine TO_off rfl rfl (by decide) rfl rfl rfl ?_
     refine TO_off rfl rfl (by decide) rfl rfl rfl ?_
     refine TO_off rfl rfl (by decide) rfl rfl rfl ?_
     refine TO_off rfl rfl (by decide) rfl rfl rfl ?_
     refine Tp rfl rfl (pur_pick (t := false) rfl rfl rfl) rfl ?_
     refine TO_nil ?_
     exact joined (false, r_6.2) (wp 2 (lb rfl) rfl rfl rfl rfl rfl) (some_inj H).symm
   ·rintro _ rfl
    replace H := H_5
    refine te [(0, (.b 0 0)), (1, (intA n1)), (2, (sl tConflictEdge l2)), (7, (.m [1] 0 s7.length tInt.k)), (8, (intA (x_1 : Int))), (26, (boolA t26_4))] rfl ?_
    refine T_cond (t := t26_4) rfl (fun c_14 => ?_) (fun c_14 => ?_)
    ·replace H := cond_t c_14 H
     refine T_region ?_
     refine Tp rfl rfl (pur_move rfl) rfl ?_
     refine Tp rfl rfl (pur_move rfl) rfl ?_
     refine TO_cons rfl (TOp_lit (nn := 1) (k := 1) sl31 zero3 rfl rfl rfl rfl (by decide) ?_)
     refine TO_st (σ' := [.box [(sl (tI .u8) box0_4.b), (intA box0_4.i), (intA box0_4.h)], .row (flat tInt.enc s7), .row (flat tInt.enc ([(x_1 : Int)] : (List Int)))]) rfl ?_
     obtain ⟨us_15, h_16, H⟩ := bind_inv H
     refine TO_cons rfl (TOp_appZ (T := tInt) (f := tInt.enc) (xs := s7) (ys := ([(x_1 : Int)] : (List Int))) tInt.len sl31 zero3 rfl bytes3 (by decide) rfl rfl rfl rfl (src_mT (f := tInt.enc) tInt.len rfl rfl (flat_cell tInt _)) (flat_cell tInt _) h_16 (lb rfl) ?_)
     refine toe [(0, (.b 0 0)), (1, (intA n1)), (2, (sl tConflictEdge l2)), (8, (intA (x_1 : Int))), (26, (boolA t26_4)), (28, (intA (x_1 : Int))), (29, (.m [2] 0 ([(x_1 : Int)] : (List Int)).length tInt.k)), (30, (.m [1] 0 us_15.length tInt.k))] rfl ?_
     refine TO_st (σ' := [.box [(sl (tI .u8) box0_4.b), (intA box0_4.i), (intA box0_4.h)], .row (flat tInt.enc us_15), .row (flat tInt.enc ([(x_1 : Int)] : (List Int))), .dead]) rfl ?_
     refine Tp rfl rfl (pur_assign rfl) rfl ?_
     refine TO_nil ?_
     refine te [(0, (.b 0 0)), (1, (intA n1)), (2, (sl tConflictEdge l2)), (7, (.m [1] 0 us_15.length tInt.k)), (8, (intA (x_1 : Int)))] rfl ?_
     refine T_region ?_
     refine Tp rfl rfl (pur_move rfl) rfl ?_
     refine Tp rfl rfl (pur_add rfl rfl rfl (fits64 (by omega) (by omega))) rfl ?_
     refine Tp rfl rfl (pur_assign rfl) rfl ?_
     refine TO_nil ?_
     obtain rfl := some_inj H
     exact again (n1 - (x_1 + 1)).toNat (x_1 + 1, (us_15, box0_4)) (by omega) (wp 2 (lb rfl) rfl rfl rfl rfl rfl) ⟨rfl, by omega, K2_⟩
    ·replace H := cond_f c_14 H
     refine T_skip ?_
     refine te [(0, (.b 0 0)), (1, (intA n1)), (2, (sl tConflictEdge l2)), (7, (.m [1] 0 s7.length tInt.k)), (8, (intA (x_1 : Int)))] rfl ?_
     refine T_region ?_
     refine Tp rfl rfl (pur_move rfl) rfl ?_
     refine Tp rfl rfl (pur_add rfl rfl rfl (fits64 (by omega) (by omega))) rfl ?_
     refine Tp rfl rfl (pur_assign rfl) rfl ?_
     refine TO_nil ?_
     obtain rfl := some_inj H
     exact again (n1 - (x_1 + 1)).toNat (x_1 + 1, (s7, box0_4)) (by omega) (wp 2 (lb rfl) rfl rfl rfl rfl rfl) ⟨rfl, by omega, K2_⟩
  ·replace d2 := of_decide_eq_false d2
   obtain rfl := forM_end L2_ (by omega)
   refine T_exit ?_
   refine then_exit ?_
   refine then_exit ?_
   refine block_exit ?_
   replace H := N2_
   refine te [(0, (.b 0 0)), (1, (intA n1)), (7, (.m [1] 0 s7.length tInt.k))] rfl ?_
   refine T_seq ?_
   refine sr ?_
   refine Tp rfl rfl (pur_move rfl) rfl ?_
   obtain ⟨r_17, h_18, H⟩ := bind_inv H
   refine TO_cons rfl (TOp_callS [0] (call_static ent63 rfl) (by decide) rfl rfl rfl rfl rfl rfl (m_spec_l1Once_x _ _ _ h_18) rfl rfl ?_)
   refine toe [(0, (.b 0 0)), (1, (intA n1)), (7, (.m [1] 0 s7.length tInt.k)), (31, (.b 0 0)), (32, (boolA r_17.1))] rfl ?_
   refine TO_st (σ' := [.box [(sl (tI .u8) r_17.2.b), (intA r_17.2.i), (intA r_17.2.h)], .row (flat tInt.enc s7)]) rfl ?_
   refine TO_nil ?_
   refine te [(1, (intA n1)), (7, (.m [1] 0 s7.length tInt.k)), (32, (boolA r_17.1))] rfl ?_
   refine T_cond (t := r_17.1) rfl (fun c_19 => ?_) (fun c_19 => ?_)
   ·replace H := cond_t c_19 H
    refine sr ?_
    refine Tp rfl rfl (pur_move rfl) rfl ?_
    refine Tp rfl rfl (pur_move rfl) rfl ?_
    refine TO_cons rfl (TOp_lit (nn := 1) (k := 1) sl31 zero3 rfl rfl rfl rfl (by decide) ?_)
    refine TO_st (σ' := [.box [(sl (tI .u8) r_17.2.b), (intA r_17.2.i), (intA r_17.2.h)], .row (flat tInt.enc s7), .row (flat tInt.enc ([n1] : (List Int)))]) rfl ?_
    obtain ⟨us_20, h_21, H⟩ := bind_inv H
    refine TO_cons rfl (TOp_appZ (T := tInt) (f := tInt.enc) (xs := s7) (ys := ([n1] : (List Int))) tInt.len sl31 zero3 rfl bytes3 (by decide) rfl rfl rfl rfl (src_mT (f := tInt.enc) tInt.len rfl rfl (flat_cell tInt _)) (flat_cell tInt _) h_21 (lb rfl) ?_)
    refine toe [(1, (intA n1)), (32, (boolA r_17.1)), (34, (intA n1)), (35, (.m [2] 0 ([n1] : (List Int)).length tInt.k)), (36, (.m [1] 0 us_20.length tInt.k))] rfl ?_
    refine TO_st (σ' := [.box [(sl (tI .u8) r_17.2.b), (intA r_17.2.i), (intA r_17.2.h)], .row (flat tInt.enc us_20), .row (flat tInt.enc ([n1] : (List Int))), .dead]) rfl ?_
    refine Tp rfl rfl (pur_assign rfl) rfl ?_
    refine TO_nil ?_
    refine te [(6, (.m [1] 0 us_20.length tInt.k))] rfl ?_
    refine T_ret ?_
    refine then_ret ?_
    obtain rfl := some_inj H
    exact end_pickX (.tmp .nil) rfl [0, 1] (by decide) (lb rfl) rfl (lb rfl) rfl rfl rfl rfl rfl rfl
   ·replace H := cond_f c_19 H
    refine T_skip ?_
    refine te [(7, (.m [1] 0 s7.length tInt.k))] rfl ?_
    refine sr ?_
    refine Tp rfl rfl (pur_move rfl) rfl ?_
    refine Tp rfl rfl (pur_assign rfl) rfl ?_
    refine TO_nil ?_
    refine te [(6, (.m [1] 0 s7.length tInt.k))] rfl ?_
    refine T_ret ?_
    obtain rfl := some_inj H
    exact end_pickX (.tmp .nil) rfl [0, 1] (by decide) (lb rfl) rfl (lb rfl) rfl rfl rfl rfl rfl rfl

set_option maxHeartbeats 1000000 in
/-- spec.DrawUndominatedFacts -/
theorem m_spec_DrawUndominatedFacts_own (u : Nat) (code0 : (List Int)) (r : (Int × (List ConflictEdge) × (List ConflictEdge) × (List Int))) (H : m_spec_DrawUndominatedFacts u code0 = some r) : FnO prg 33 [(sl (tI .u8) code0)] (.t [(intA r.1), (.m [0] 0 r.2.1.length tConflictEdge.k), (.m [1] 0 r.2.2.1.length tConflictEdge.k), (.m [2] 0 r.2.2.2.length tInt.k)]) [.row (flat tConflictEdge.own r.2.1), .row (flat tConflictEdge.own r.2.2.1), .row (flat tInt.own r.2.2.2)] := by
  unfold m_spec_DrawUndominatedFacts at H
  refine fnO_of_T Try.func33 rfl rfl (Nat.le_of_ble_eq_true rfl) ?_
  refine te [(0, (sl (tI .u8) code0))] rfl ?_
  refine sr ?_
  refine Tp rfl rfl (pur_assign rfl) rfl ?_
  refine Tp rfl rfl (pur_assign rfl) rfl ?_
  refine Tp rfl rfl (pur_assign rfl) rfl ?_
  refine Tp rfl rfl (pur_assign rfl) rfl ?_
  refine TO_nil ?_
  refine te [(0, (sl (tI .u8) code0))] rfl ?_
  refine sr ?_
  refine Tp rfl rfl (pur_move rfl) rfl ?_
  obtain ⟨r_1, h_2, H⟩ := bind_inv H
  refine TO_cons rfl (TOp_callS [] (call_static ent60 rfl) (by decide) rfl rfl rfl rfl rfl rfl (m_spec_l1New_x u _ _ h_2) rfl rfl ?_)
  refine toe [(0, (sl (tI .u8) code0)), (10, (sl (tI .u8) code0)), (11, (.b 0 0))] rfl ?_
  refine TO_st (σ' := [.box [(sl (tI .u8) r_1.b), (intA r_1.i), (intA r_1.h)]]) rfl ?_
  refine Tp rfl rfl (pur_assign rfl) rfl ?_
  refine TO_nil ?_
  refine te [(6, (.b 0 0))] rfl ?_
  refine sr ?_
  refine Tp rfl rfl (pur_move rfl) rfl ?_
  obtain ⟨r_3, h_4, H⟩ := bind_inv H
  refine TO_cons rfl (TOp_callS [0] (call_static ent61 rfl) (by decide) rfl rfl rfl rfl rfl rfl (m_spec_l28Draw_x _ _ _ h_4) rfl rfl ?_)
  refine toe [(6, (.b 0 0)), (13, (.b 0 0)), (14, (.t [(intA r_3.1.1), (.m [1] 0 r_3.1.2.1.length tConflictEdge.k), (.m [2] 0 r_3.1.2.2.length tConflictEdge.k)]))] rfl ?_
  refine TO_st (σ' := [.box [(sl (tI .u8) r_3.2.b), (intA r_3.2.i), (intA r_3.2.h)], .row (flat tConflictEdge.enc r_3.1.2.1), .row (flat tConflictEdge.enc r_3.1.2.2)]) rfl ?_
  refine Tp rfl rfl (pur_move rfl) rfl ?_
  refine Tp rfl rfl (pur_extract rfl rfl rfl) rfl ?_
  refine Tp rfl rfl (pur_extract rfl rfl rfl) rfl ?_
  refine Tp rfl rfl (pur_extract rfl rfl rfl) rfl ?_
  refine Tp rfl rfl (pur_assign rfl) rfl ?_
  refine Tp rfl rfl (pur_assign rfl) rfl ?_
  refine Tp rfl rfl (pur_assign rfl) rfl ?_
  refine TO_nil ?_
  refine te [(6, (.b 0 0)), (7, (intA r_3.1.1)), (8, (.m [1] 0 r_3.1.2.1.length tConflictEdge.k)), (9, (.m [2] 0 r_3.1.2.2.length tConflictEdge.k))] rfl ?_
  refine sr ?_
  refine Tp rfl rfl (pur_move rfl) rfl ?_
  refine Tp rfl rfl (pur_move rfl) rfl ?_
  refine Tp rfl rfl (pur_move rfl) rfl ?_
  refine Tp rfl rfl (pur_move rfl) rfl ?_
  refine Tp rfl rfl (pur_move rfl) rfl ?_
  obtain ⟨r_5, h_6, H⟩ := bind_inv H
  refine TO_cons rfl (TOp_callS [0] (CallOp.le (call_static ent62 rfl) (leCons (leR rfl) (leCons (leR rfl) (leCons leN leNil)))) (by decide) rfl rfl rfl rfl rfl rfl (m_spec_l8Some_x _ _ _ _ h_6) rfl rfl ?_)
  refine toe [(6, (.b 0 0)), (7, (intA r_3.1.1)), (8, (.m [1] 0 r_3.1.2.1.length tConflictEdge.k)), (9, (.m [2] 0 r_3.1.2.2.length tConflictEdge.k)), (18, (intA r_3.1.1)), (19, (.m [1] 0 r_3.1.2.1.length tConflictEdge.k)), (20, (.m [2] 0 r_3.1.2.2.length tConflictEdge.k)), (21, (.b 0 0)), (22, (intA r_3.1.1)), (23, (.m [3] 0 r_5.1.length tInt.k))] rfl ?_
  refine TO_st (σ' := [.box [(sl (tI .u8) r_5.2.b), (intA r_5.2.i), (intA r_5.2.h)], .row (flat tConflictEdge.enc r_3.1.2.1), .row (flat tConflictEdge.enc r_3.1.2.2), .row (flat tInt.enc r_5.1)]) rfl ?_
  refine Tp rfl rfl (pur_assign rfl) rfl ?_
  refine Tp rfl rfl (pur_assign rfl) rfl ?_
  refine Tp rfl rfl (pur_assign rfl) rfl ?_
  refine Tp rfl rfl (pur_assign rfl) rfl ?_
  refine TO_nil ?_
  refine te [(2, (intA r_3.1.1)), (3, (.m [1] 0 r_3.1.2.1.length tConflictEdge.k)), (4, (.m [2] 0 r_3.1.2.2.length tConflictEdge.k)), (5, (.m [3] 0 r_5.1.length tInt.k))] rfl ?_
  refine T_ret ?_
  obtain rfl := some_inj H
  exact end_pick (.tmp (.tmp (.tmp (.tmp .nil)))) rfl [1, 2, 3] (by decide) rfl rfl rfl rfl rfl rfl
theorem m_spec_DrawUndominatedFacts_ok (u : Nat) (code0 : (List Int)) (r : (Int × (List ConflictEdge) × (List ConflictEdge) × (List Int))) (H : m_spec_DrawUndominatedFacts u code0 = some r) : FnV prg 33 [(sl (tI .u8) code0)] (.t [(intA r.1), (sl tConflictEdge r.2.1), (sl tConflictEdge r.2.2.1), (sl tInt r.2.2.2)]) := (m_spec_DrawUndominatedFacts_own u code0 r H).frz (frzOK_t (frz_cons (frz_loose rfl) (frz_cons (frzT (T := tConflictEdge) rfl) (frz_cons (frzT (T := tConflictEdge) rfl) (frz_cons (frzT (T := tInt) rfl) frz_nil)))).1 (frz_cons (frz_loose rfl) (frz_cons (frzT (T := tConflictEdge) rfl) (frz_cons (frzT (T := tConflictEdge) rfl) (frz_cons (frzT (T := tInt) rfl) frz_nil)))).2)

set_option maxHeartbeats 1000000 in
/-- spec.DrawIsPreferred -/
theorem m_spec_DrawIsPreferred_own (u : Nat) (code0 : (List Int)) (r : ((List ConflictEdge) × Int × Int)) (H : m_spec_DrawIsPreferred u code0 = some r) : FnO prg 34 [(sl (tI .u8) code0)] (.t [(.m [0] 0 r.1.length tConflictEdge.k), (intA r.2.1), (intA r.2.2)]) [.row (flat tConflictEdge.own r.1)] := by
  unfold m_spec_DrawIsPreferred at H
  refine fnO_of_T Try.func34 rfl rfl (Nat.le_of_ble_eq_true rfl) ?_
  refine te [(0, (sl (tI .u8) code0))] rfl ?_
  refine sr ?_
  refine Tp rfl rfl (pur_assign rfl) rfl ?_
  refine Tp rfl rfl (pur_assign rfl) rfl ?_
  refine Tp rfl rfl (pur_assign rfl) rfl ?_
  refine TO_nil ?_
  refine te [(0, (sl (tI .u8) code0))] rfl ?_
  refine sr ?_
  refine Tp rfl rfl (pur_move rfl) rfl ?_
  obtain ⟨r_1, h_2, H⟩ := bind_inv H
  refine TO_cons rfl (TOp_callS [] (call_static ent60 rfl) (by decide) rfl rfl rfl rfl rfl rfl (m_spec_l1New_x u _ _ h_2) rfl rfl ?_)
  refine toe [(0, (sl (tI .u8) code0)), (9, (sl (tI .u8) code0)), (10, (.b 0 0))] rfl ?_
  refine TO_st (σ' := [.box [(sl (tI .u8) r_1.b), (intA r_1.i), (intA r_1.h)]]) rfl ?_
  refine Tp rfl rfl (pur_assign rfl) rfl ?_
  refine TO_nil ?_
  refine te [(5, (.b 0 0))] rfl ?_
  refine sr ?_
  refine Tp rfl rfl (pur_move rfl) rfl ?_
  obtain ⟨r_3, h_4, H⟩ := bind_inv H
  refine TO_cons rfl (TOp_callS [0] (call_static ent61 rfl) (by decide) rfl rfl rfl rfl rfl rfl (m_spec_l28Draw_x _ _ _ h_4) rfl rfl ?_)
  refine toe [(5, (.b 0 0)), (12, (.b 0 0)), (13, (.t [(intA r_3.1.1), (.m [1] 0 r_3.1.2.1.length tConflictEdge.k), (.m [2] 0 r_3.1.2.2.length tConflictEdge.k)]))] rfl ?_
  refine TO_st (σ' := [.box [(sl (tI .u8) r_3.2.b), (intA r_3.2.i), (intA r_3.2.h)], .row (flat tConflictEdge.enc r_3.1.2.1), .row (flat tConflictEdge.enc r_3.1.2.2)]) rfl ?_
  refine Tp rfl rfl (pur_move rfl) rfl ?_
  refine Tp rfl rfl (pur_extract rfl rfl rfl) rfl ?_
  refine Tp rfl rfl (pur_extract rfl rfl rfl) rfl ?_
  refine Tp rfl rfl (pur_extract rfl rfl rfl) rfl ?_
  refine Tp rfl rfl (pur_assign rfl) rfl ?_
  refine Tp rfl rfl (pur_assign rfl) rfl ?_
  refine Tp rfl rfl (pur_assign rfl) rfl ?_
  refine TO_nil ?_
  refine te [(5, (.b 0 0)), (8, (.m [2] 0 r_3.1.2.2.length tConflictEdge.k))] rfl ?_
  refine T_seq ?_
  obtain ⟨⟨t23_5, box0_5⟩, J_5, H_6⟩ := bind_inv H
  refine T_cutX (fun x => (t23_5, box0_5) = x) (fun (x_ : Bool × l1Cur) => [(5, (.b 0 0)), (8, (.m [2] 0 r_3.1.2.2.length tConflictEdge.k)), (23, (boolA x_.1))]) (fun (x_ : Bool × l1Cur) => [.box [(sl (tI .u8) x_.2.b), (intA x_.2.i), (intA x_.2.h)], .row (flat tConflictEdge.enc r_3.1.2.1), .row (flat tConflictEdge.enc r_3.1.2.2)]) ?_ ?_
  ·replace H := J_5
   refine T_region ?_
   refine Tp rfl rfl (pur_move rfl) rfl ?_
   refine Tp rfl rfl (pur_len_m sl25 rfl rfl) rfl ?_
   refine Tp rfl rfl (pur_gtr rfl rfl rfl) rfl ?_
   refine Tp rfl rfl (pur_move rfl) rfl ?_
   refine TO_split (t := decide (0 < (r_3.1.2.2.length : Int))) 20 rfl (fun g_7 => ?_) (fun g_7 => ?_)
   ·replace H := cond_t g_7 H
    refine TO_on rfl rfl (by decide) rfl rfl (TOp_pure (pur_move rfl) rfl ?_)
    obtain ⟨r_8, h_9, H⟩ := bind_inv H
    refine TO_on rfl rfl (by decide) rfl rfl (TOp_callS [0] (call_static ent63 rfl) (by decide) rfl rfl rfl rfl rfl rfl (m_spec_l1Once_x _ _ _ h_9) rfl rfl ?_)
    refine toe [(5, (.b 0 0)), (8, (.m [2] 0 r_3.1.2.2.length tConflictEdge.k)), (17, (.m [2] 0 r_3.1.2.2.length tConflictEdge.k)), (18, (intA (r_3.1.2.2.length : Int))), (19, (boolA (decide (0 < (r_3.1.2.2.length : Int))))), (20, (boolA true)), (21, (.b 0 0)), (22, (boolA r_8.1))] rfl ?_
    refine TO_st (σ' := [.box [(sl (tI .u8) r_8.2.b), (intA r_8.2.i), (intA r_8.2.h)], .row (flat tConflictEdge.enc r_3.1.2.1), .row (flat tConflictEdge.enc r_3.1.2.2)]) rfl ?_
    refine Tp rfl rfl (pur_pick (t := true) rfl rfl rfl) rfl ?_
    refine TO_nil ?_
    exact joined (r_8.1, r_8.2) (wp 3 (lb rfl) rfl rfl rfl rfl rfl) (some_inj H).symm
   ·replace H := cond_f g_7 H
    refine TO_off rfl rfl (by decide) rfl rfl rfl ?_
    refine TO_off rfl rfl (by decide) rfl rfl rfl ?_
    refine Tp rfl rfl (pur_pick (t := false) rfl rfl rfl) rfl ?_
    refine TO_nil ?_
    exact joined (false, r_3.2) (wp 3 (lb rfl) rfl rfl rfl rfl rfl) (some_inj H).symm
  ·rintro _ rfl
   replace H := H_6
   refine te [(5, (.b 0 0)), (8, (.m [2] 0 r_3.1.2.2.length tConflictEdge.k)), (23, (boolA t23_5))] rfl ?_
   refine T_cond (t := t23_5) rfl (fun c_10 => ?_) (fun c_10 => ?_)
   ·replace H := cond_t c_10 H
    refine T_seq ?_
    refine T_regionD mixed (by kernel_rfl) ?_
    refine TQ_pure rfl (pur_move rfl) rfl ?_
    refine TQ_pure rfl (pur_move rfl) rfl ?_
    obtain ⟨v_11, h_12, H⟩ := bind_inv H
    obtain ⟨n_13, hz_14, hv_15⟩ := getI_inv h_12
    refine TQ_pure rfl (pur_ixM (T := tConflictEdge) sl25 rfl rfl hz_14 hv_15 rfl) rfl ?_
    refine TQ_pure rfl (pur_fa_e fld52_0 rfl rfl) rfl ?_
    refine TQ_pure rfl (pur_ldE (f := tConflictEdge.enc) (k := tConflictEdge.k) (i := n_13) (off := 0) tConflictEdge.len rfl one3 rfl rfl rfl hv_15 rfl rfl) rfl ?_
    refine TQ_pure rfl (pur_move rfl) rfl ?_
    refine TQ_pure rfl (pur_ixM (T := tConflictEdge) sl25 rfl rfl hz_14 hv_15 rfl) rfl ?_
    refine TQ_pure rfl (pur_fa_e fld52_1 rfl rfl) rfl ?_
    refine tqe [(24, (.m [2] 0 r_3.1.2.2.length tConflictEdge.k)), (28, (intA v_11.a)), (31, (.e [2] (n_13 * tConflictEdge.k + 1)))] rfl ?_
    refine TQ_pure rfl (pur_ldE (f := tConflictEdge.enc) (k := tConflictEdge.k) (i := n_13) (off := 1) tConflictEdge.len rfl one3 rfl rfl rfl hv_15 rfl rfl) rfl ?_
    refine TQ_pure rfl (pur_assign rfl) rfl ?_
    refine TQ_pure rfl (pur_assign rfl) rfl ?_
    refine TQ_pure rfl (pur_assign rfl) rfl ?_
    refine TQ_nil ?_
    refine te [(2, (.m [2] 0 r_3.1.2.2.length tConflictEdge.k)), (3, (intA v_11.a)), (4, (intA v_11.b))] rfl ?_
    refine T_ret ?_
    refine then_ret ?_
    obtain rfl := some_inj H
    exact end_pick (.tmp (.tmp (.tmp .nil))) rfl [2] (by decide) rfl rfl rfl rfl rfl rfl
   ·replace H := cond_f c_10 H
    refine T_skip ?_
    refine te [(5, (.b 0 0)), (8, (.m [2] 0 r_3.1.2.2.length tConflictEdge.k))] rfl ?_
    refine sr ?_
    refine Tp rfl rfl (pur_move rfl) rfl ?_
    refine Tp rfl rfl (pur_move rfl) rfl ?_
    obtain ⟨r_16, h_17, H⟩ := bind_inv H
    refine TO_cons rfl (TOp_callS [0] (call_static ent64 rfl) (by decide) rfl rfl rfl rfl rfl rfl (m_spec_l1Below_x _ _ _ h_17) rfl rfl ?_)
    refine toe [(5, (.b 0 0)), (8, (.m [2] 0 r_3.1.2.2.length tConflictEdge.k)), (33, (.m [2] 0 r_3.1.2.2.length tConflictEdge.k)), (34, (.b 0 0)), (35, (intA r_16.1))] rfl ?_
    refine TO_st (σ' := [.box [(sl (tI .u8) r_16.2.b), (intA r_16.2.i), (intA r_16.2.h)], .row (flat tConflictEdge.enc r_3.1.2.1), .row (flat tConflictEdge.enc r_3.1.2.2)]) rfl ?_
    refine Tp rfl rfl (pur_move rfl) rfl ?_
    obtain ⟨r_18, h_19, H⟩ := bind_inv H
    refine TO_cons rfl (TOp_callS [0] (call_static ent64 rfl) (by decide) rfl rfl rfl rfl rfl rfl (m_spec_l1Below_x _ _ _ h_19) rfl rfl ?_)
    refine toe [(5, (.b 0 0)), (8, (.m [2] 0 r_3.1.2.2.length tConflictEdge.k)), (33, (.m [2] 0 r_3.1.2.2.length tConflictEdge.k)), (34, (.b 0 0)), (35, (intA r_16.1)), (36, (.b 0 0)), (37, (intA r_18.1))] rfl ?_
    refine TO_st (σ' := [.box [(sl (tI .u8) r_18.2.b), (intA r_18.2.i), (intA r_18.2.h)], .row (flat tConflictEdge.enc r_3.1.2.1), .row (flat tConflictEdge.enc r_3.1.2.2)]) rfl ?_
    refine Tp rfl rfl (pur_assign rfl) rfl ?_
    refine Tp rfl rfl (pur_assign rfl) rfl ?_
    refine Tp rfl rfl (pur_assign rfl) rfl ?_
    refine TO_nil ?_
    refine te [(2, (.m [2] 0 r_3.1.2.2.length tConflictEdge.k)), (3, (intA r_16.1)), (4, (intA r_18.1))] rfl ?_
    refine T_ret ?_
    obtain rfl := some_inj H
    exact end_pick (.tmp (.tmp (.tmp .nil))) rfl [2] (by decide) rfl rfl rfl rfl rfl rfl
theorem m_spec_DrawIsPreferred_ok (u : Nat) (code0 : (List Int)) (r : ((List ConflictEdge) × Int × Int)) (H : m_spec_DrawIsPreferred u code0 = some r) : FnV prg 34 [(sl (tI .u8) code0)] (.t [(sl tConflictEdge r.1), (intA r.2.1), (intA r.2.2)]) := (m_spec_DrawIsPreferred_own u code0 r H).frz (frzOK_t (frz_cons (frzT (T := tConflictEdge) rfl) (frz_cons (frz_loose rfl) (frz_cons (frz_loose rfl) frz_nil))).1 (frz_cons (frzT (T := tConflictEdge) rfl) (frz_cons (frz_loose rfl) (frz_cons (frz_loose rfl) frz_nil))).2)

set_option maxHeartbeats 1000000 in
/-- spec.l28All -/
theorem m_spec_l28All_own (u : Nat) (n0 : Int) (r : (List Int)) (H : m_spec_l28All u n0 = some r) : FnO prg 69 [(intA n0)] (.m [0] 0 r.length tInt.k) [.row (flat tInt.own r)] := by
  unfold m_spec_l28All at H
  refine fnO_of_T Try.func69 rfl rfl (Nat.le_of_ble_eq_true rfl) ?_
  refine te [(0, (intA n0))] rfl ?_
  refine sr ?_
  refine Tp rfl rfl (pur_assign rfl) rfl ?_
  refine TO_nil ?_
  refine te [(0, (intA n0))] rfl ?_
  refine sr ?_
  refine TO_cons rfl (TOp_lit (nn := 0) (k := 1) sl31 zero3 rfl rfl rfl rfl (by decide) ?_)
  refine TO_st (σ' := [.row (flat tInt.enc ([] : (List Int)))]) rfl ?_
  refine Tp rfl rfl (pur_assign rfl) rfl ?_
  refine TO_nil ?_
  refine te [(0, (intA n0)), (3, (.m [0] 0 ([] : (List Int)).length tInt.k))] rfl ?_
  obtain ⟨O1_, L1_, N1_⟩ := bind_inv H
  clear H
  obtain ⟨B1_, hb1, L1_⟩ := gen_whileF L1_
  refine T_cutX (fun (x : (List Int)) => O1_ = .inl x) (fun (l3 : (List Int)) => [(3, (.m [0] 0 l3.length tInt.k))]) (fun (l3 : (List Int)) => [.row (flat tInt.enc l3)]) ?_ ?_
  ·skip
   refine T_block ?_
   refine T_loopX (fun k => fun (l3 : (List Int)) => whileF B1_ k l3 = some O1_) (fun (l3 : (List Int)) => [(0, (intA n0)), (3, (.m [0] 0 l3.length tInt.k))]) (fun (l3 : (List Int)) => [.row (flat tInt.enc l3)]) u ([] : (List Int)) (wp 1 (lb rfl) rfl rfl rfl rfl rfl) L1_ ?_
   rintro _ l3 L1_
   obtain ⟨k1, rfl, C1_, H, K1_⟩ := while_step L1_
   rw [hb1] at H
   refine te [(0, (intA n0)), (3, (.m [0] 0 l3.length tInt.k))] rfl ?_
   refine T_st (σ' := [.row (flat tInt.enc l3)]) rfl ?_
   refine T_seq ?_
   refine sr ?_
   refine Tp rfl rfl (pur_move rfl) rfl ?_
   refine Tp rfl rfl (pur_len_m sl31 rfl rfl) rfl ?_
   refine Tp rfl rfl (pur_move rfl) rfl ?_
   refine Tp rfl rfl (pur_lss rfl rfl rfl) rfl ?_
   refine TO_nil ?_
   refine te [(0, (intA n0)), (3, (.m [0] 0 l3.length tInt.k)), (8, (boolA (decide ((l3.length : Int) < n0))))] rfl ?_
   refine T_cond (t := decide ((l3.length : Int) < n0)) rfl (fun c_2 => ?_) (fun c_2 => ?_)
   ·replace H := cond_t c_2 H
    refine T_skip ?_
    refine te [(0, (intA n0)), (3, (.m [0] 0 l3.length tInt.k))] rfl ?_
    refine T_block ?_
    refine T_region ?_
    refine Tp rfl rfl (pur_move rfl) rfl ?_
    refine Tp rfl rfl (pur_move rfl) rfl ?_
    refine Tp rfl rfl (pur_len_m sl31 rfl rfl) rfl ?_
    refine TO_cons rfl (TOp_lit (nn := 1) (k := 1) sl31 zero3 rfl rfl rfl rfl (by decide) ?_)
    refine TO_st (σ' := [.row (flat tInt.enc l3), .row (flat tInt.enc ([(l3.length : Int)] : (List Int)))]) rfl ?_
    obtain ⟨us_3, h_4, H⟩ := bind_inv H
    refine TO_cons rfl (TOp_appZ (T := tInt) (f := tInt.enc) (xs := l3) (ys := ([(l3.length : Int)] : (List Int))) tInt.len sl31 zero3 rfl bytes3 (by decide) rfl rfl rfl rfl (src_mT (f := tInt.enc) tInt.len rfl rfl (flat_cell tInt _)) (flat_cell tInt _) h_4 (lb rfl) ?_)
    refine toe [(0, (intA n0)), (11, (intA (l3.length : Int))), (12, (.m [1] 0 ([(l3.length : Int)] : (List Int)).length tInt.k)), (13, (.m [0] 0 us_3.length tInt.k))] rfl ?_
    refine TO_st (σ' := [.row (flat tInt.enc us_3), .row (flat tInt.enc ([(l3.length : Int)] : (List Int))), .dead]) rfl ?_
    refine Tp rfl rfl (pur_assign rfl) rfl ?_
    refine TO_nil ?_
    obtain rfl := some_inj H
    exact again k1 us_3 (Nat.lt_succ_self _) (wp 1 (lb rfl) rfl rfl rfl rfl rfl) K1_
   ·replace H := cond_f c_2 H
    refine T_exit ?_
    refine then_exit ?_
    refine then_exit ?_
    refine block_exit ?_
    obtain rfl := some_inj H
    obtain rfl := some_inj K1_
    exact joined l3 (wp 1 (lb rfl) rfl rfl rfl rfl rfl) rfl
  ·rintro l3 rfl
   replace H := onS_l N1_
   refine te [(3, (.m [0] 0 l3.length tInt.k))] rfl ?_
   refine sr ?_
   refine Tp rfl rfl (pur_move rfl) rfl ?_
   refine Tp rfl rfl (pur_assign rfl) rfl ?_
   refine TO_nil ?_
   refine te [(2, (.m [0] 0 l3.length tInt.k))] rfl ?_
   refine T_ret ?_
   obtain rfl := some_inj H
   exact end_pick (.tmp .nil) rfl [0] (by decide) rfl rfl rfl rfl rfl rfl
theorem m_spec_l28All_ok (u : Nat) (n0 : Int) (r : (List Int)) (H : m_spec_l28All u n0 = some r) : FnV prg 69 [(intA n0)] (sl tInt r) := (m_spec_l28All_own u n0 r H).frz (frzT (T := tInt) rfl)

set_option maxHeartbeats 1000000 in
/-- spec.l28Rest -/
theorem m_spec_l28Rest_own (l0 : (List ConflictEdge)) (left1 : (List Int)) (x2 : Int) (r : (List Int)) (H : m_spec_l28Rest l0 left1 x2 = some r) : FnO prg 70 [(sl tConflictEdge l0), (sl tInt left1), (intA x2)] (.m [0] 0 r.length tInt.k) [.row (flat tInt.own r)] := by
  unfold m_spec_l28Rest at H
  refine fnO_of_T Try.func70 rfl rfl (Nat.le_of_ble_eq_true rfl) ?_
  refine te [(0, (sl tConflictEdge l0)), (1, (sl tInt left1)), (2, (intA x2))] rfl ?_
  refine sr ?_
  refine Tp rfl rfl (pur_assign rfl) rfl ?_
  refine TO_nil ?_
  refine te [(0, (sl tConflictEdge l0)), (1, (sl tInt left1)), (2, (intA x2))] rfl ?_
  refine sr ?_
  refine TO_cons rfl (TOp_lit (nn := 0) (k := 1) sl31 zero3 rfl rfl rfl rfl (by decide) ?_)
  refine TO_st (σ' := [.row (flat tInt.enc ([] : (List Int)))]) rfl ?_
  refine Tp rfl rfl (pur_assign rfl) rfl ?_
  refine TO_nil ?_
  refine te [(0, (sl tConflictEdge l0)), (1, (sl tInt left1)), (2, (intA x2)), (7, (.m [0] 0 ([] : (List Int)).length tInt.k))] rfl ?_
  refine T_seq ?_
  refine sr ?_
  refine Tp rfl rfl (pur_assign rfl) rfl ?_
  refine TO_nil ?_
  refine te [(0, (sl tConflictEdge l0)), (1, (sl tInt left1)), (2, (intA x2)), (7, (.m [0] 0 ([] : (List Int)).length tInt.k)), (8, (intA 0))] rfl ?_
  obtain ⟨O2_, L2_, N2_⟩ := bind_inv H
  clear H
  obtain ⟨B2_, hb2, L2_⟩ := gen_forS L2_
  refine T_block ?_
  refine T_loopX (fun k => fun (x_ : Nat × (List Int)) => k = left1.length - x_.1 ∧ forS B2_ (left1.drop x_.1) (x_.1 : Int) x_.2 = some O2_) (fun (x_ : Nat × (List Int)) => [(0, (sl tConflictEdge l0)), (1, (sl tInt left1)), (2, (intA x2)), (7, (.m [0] 0 x_.2.length tInt.k)), (8, (intA (x_.1 : Int)))]) (fun (x_ : Nat × (List Int)) => [.row (flat tInt.enc x_.2)]) _ (0, ([] : (List Int))) (wp 1 (lb rfl) rfl rfl rfl rfl rfl) ⟨rfl, L2_⟩ ?_
  rintro _ ⟨i_1, out7⟩ ⟨rfl, L2_⟩
  refine te [(0, (sl tConflictEdge l0)), (1, (sl tInt left1)), (2, (intA x2)), (7, (.m [0] 0 out7.length tInt.k)), (8, (intA (i_1 : Int)))] rfl ?_
  refine T_st (σ' := [.row (flat tInt.enc out7)]) rfl ?_
  refine T_fact (len_sl (T := tInt) (.tmp 1) rfl) (fun hl2 => ?_)
  refine T_seq ?_
  refine sr ?_
  refine Tp rfl rfl (pur_move rfl) rfl ?_
  refine Tp rfl rfl (pur_move rfl) rfl ?_
  refine Tp rfl rfl (pur_lenT (T := tInt) sl31 rfl rfl) rfl ?_
  refine Tp rfl rfl (pur_lss rfl rfl rfl) rfl ?_
  refine TO_nil ?_
  refine te [(0, (sl tConflictEdge l0)), (1, (sl tInt left1)), (2, (intA x2)), (7, (.m [0] 0 out7.length tInt.k)), (8, (intA (i_1 : Int))), (13, (boolA (decide ((i_1 : Int) < (left1.length : Int)))))] rfl ?_
  refine T_cond (t := decide ((i_1 : Int) < (left1.length : Int))) rfl (fun d2 => ?_) (fun d2 => ?_)
  ·replace d2 := of_decide_eq_true d2
   obtain ⟨x_i_1, hx_i_1⟩ : ∃ v, (left1)[i_1]? = some v := ⟨_, List.getElem?_eq_getElem (by omega)⟩
   obtain ⟨C2_, H, K2_⟩ := forS_step L2_ hx_i_1
   rw [hb2] at H
   refine T_skip ?_
   refine te [(0, (sl tConflictEdge l0)), (1, (sl tInt left1)), (2, (intA x2)), (7, (.m [0] 0 out7.length tInt.k)), (8, (intA (i_1 : Int)))] rfl ?_
   refine T_seq ?_
   refine T_block ?_
   obtain ⟨t31_3, J_3, H_4⟩ := bind_inv H
   refine T_cutX (fun x => t31_3 = x) (fun (t31_3 : Bool) => [(0, (sl tConflictEdge l0)), (1, (sl tInt left1)), (2, (intA x2)), (7, (.m [0] 0 out7.length tInt.k)), (8, (intA (i_1 : Int))), (31, (boolA t31_3))]) (fun (t31_3 : Bool) => [.row (flat tInt.enc out7)]) ?_ ?_
   ·replace H := J_3
    refine T_region ?_
    refine Tp rfl rfl (pur_move rfl) rfl ?_
    refine Tp rfl rfl (pur_move rfl) rfl ?_
    refine Tp rfl rfl (pur_ixT (T := tInt) sl31 rfl rfl rfl hx_i_1 rfl) rfl ?_
    refine Tp rfl rfl (pur_ldT (T := tInt) (i := i_1) (off := 0) rfl one3 rfl rfl hx_i_1 rfl) rfl ?_
    refine Tp rfl rfl (pur_move rfl) rfl ?_
    refine Tp rfl rfl (pur_neq rfl rfl rfl) rfl ?_
    refine Tp rfl rfl (pur_move rfl) rfl ?_
    refine TO_split (t := decide (x_i_1 ≠ x2)) 22 rfl (fun g_5 => ?_) (fun g_5 => ?_)
    ·replace H := cond_t g_5 H
     refine TO_on rfl rfl (by decide) rfl rfl (TOp_pure (pur_move rfl) rfl ?_)
     refine TO_on rfl rfl (by decide) rfl rfl (TOp_pure (pur_move rfl) rfl ?_)
     refine TO_on rfl rfl (by decide) rfl rfl (TOp_pure (pur_move rfl) rfl ?_)
     refine TO_on rfl rfl (by decide) rfl rfl (TOp_pure (pur_ixT (T := tInt) sl31 rfl rfl rfl hx_i_1 rfl) rfl ?_)
     refine TO_on rfl rfl (by decide) rfl rfl (TOp_pure (pur_ldT (T := tInt) (i := i_1) (off := 0) rfl one3 rfl rfl hx_i_1 rfl) rfl ?_)
     refine TO_on rfl rfl (by decide) rfl rfl (TOp_pure (pur_move rfl) rfl ?_)
     obtain ⟨r_6, h_7, H⟩ := bind_inv H
     refine TO_on rfl rfl (by decide) rfl rfl (TOp_callV (call_static ent46 rfl) (m_spec_l28Edge_ok _ _ _ _ h_7) rfl rfl rfl ?_)
     refine TO_on rfl rfl (by decide) rfl rfl (TOp_pure (pur_not rfl rfl) rfl ?_)
     refine Tp rfl rfl (pur_pick (t := true) rfl rfl rfl) rfl ?_
     refine TO_nil ?_
     exact joined (!r_6) (wp 1 (lb rfl) rfl rfl rfl rfl rfl) (some_inj H).symm
    ·replace H := cond_f g_5 H
     refine TO_off rfl rfl (by decide) rfl rfl rfl ?_
     refine TO_off rfl rfl (by decide) rfl rfl rfl ?_
     refine TO_off rfl rfl (by decide) rfl rfl rfl ?_
     refine TO_off rfl rfl (by decide) rfl rfl rfl ?_
     refine TO_off rfl rfl (by decide) rfl rfl rfl ?_
     refine TO_off rfl rfl (by decide) rfl rfl rfl ?_
     refine TO_off rfl rfl (by decide) rfl rfl rfl ?_
     refine TO_off rfl rfl (by decide) rfl rfl rfl ?_
     refine Tp rfl rfl (pur_pick (t := false) rfl rfl rfl) rfl ?_
     refine TO_nil ?_
     exact joined false (wp 1 (lb rfl) rfl rfl rfl rfl rfl) (some_inj H).symm
   ·rintro _ rfl
    replace H := H_4
    refine te [(0, (sl tConflictEdge l0)), (1, (sl tInt left1)), (2, (intA x2)), (7, (.m [0] 0 out7.length tInt.k)), (8, (intA (i_1 : Int))), (31, (boolA t31_3))] rfl ?_
    refine T_cond (t := t31_3) rfl (fun c_8 => ?_) (fun c_8 => ?_)
    ·replace H := cond_t c_8 H
     refine T_region ?_
     refine Tp rfl rfl (pur_move rfl) rfl ?_
     refine Tp rfl rfl (pur_move rfl) rfl ?_
     refine Tp rfl rfl (pur_move rfl) rfl ?_
     refine Tp rfl rfl (pur_ixT (T := tInt) sl31 rfl rfl rfl hx_i_1 rfl) rfl ?_
     refine Tp rfl rfl (pur_ldT (T := tInt) (i := i_1) (off := 0) rfl one3 rfl rfl hx_i_1 rfl) rfl ?_
     refine TO_cons rfl (TOp_lit (nn := 1) (k := 1) sl31 zero3 rfl rfl rfl rfl (by decide) ?_)
     refine TO_st (σ' := [.row (flat tInt.enc out7), .row (flat tInt.enc ([x_i_1] : (List Int)))]) rfl ?_
     obtain ⟨us_9, h_10, H⟩ := bind_inv H
     refine TO_cons rfl (TOp_appZ (T := tInt) (f := tInt.enc) (xs := out7) (ys := ([x_i_1] : (List Int))) tInt.len sl31 zero3 rfl bytes3 (by decide) rfl rfl rfl rfl (src_mT (f := tInt.enc) tInt.len rfl rfl (flat_cell tInt _)) (flat_cell tInt _) h_10 (lb rfl) ?_)
     refine toe [(0, (sl tConflictEdge l0)), (1, (sl tInt left1)), (2, (intA x2)), (8, (intA (i_1 : Int))), (31, (boolA t31_3)), (33, (sl tInt left1)), (34, (intA (i_1 : Int))), (35, (.q (flat tInt.enc left1) (i_1 * tInt.k))), (36, (intA x_i_1)), (37, (.m [1] 0 ([x_i_1] : (List Int)).length tInt.k)), (38, (.m [0] 0 us_9.length tInt.k))] rfl ?_
     refine TO_st (σ' := [.row (flat tInt.enc us_9), .row (flat tInt.enc ([x_i_1] : (List Int))), .dead]) rfl ?_
     refine Tp rfl rfl (pur_assign rfl) rfl ?_
     refine TO_nil ?_
     refine te [(0, (sl tConflictEdge l0)), (1, (sl tInt left1)), (2, (intA x2)), (7, (.m [0] 0 us_9.length tInt.k)), (8, (intA (i_1 : Int)))] rfl ?_
     refine T_region ?_
     refine Tp rfl rfl (pur_move rfl) rfl ?_
     refine Tp rfl rfl (pur_add rfl rfl rfl (fits64 (by omega) (by omega))) rfl ?_
     refine Tp rfl rfl (pur_assign rfl) rfl ?_
     refine TO_nil ?_
     obtain rfl := some_inj H
     exact again (left1.length - (i_1 + 1)) (i_1 + 1, us_9) (by omega) (wp 1 (lb rfl) rfl rfl rfl rfl rfl) ⟨rfl, K2_⟩
    ·replace H := cond_f c_8 H
     refine T_skip ?_
     refine te [(0, (sl tConflictEdge l0)), (1, (sl tInt left1)), (2, (intA x2)), (7, (.m [0] 0 out7.length tInt.k)), (8, (intA (i_1 : Int)))] rfl ?_
     refine T_region ?_
     refine Tp rfl rfl (pur_move rfl) rfl ?_
     refine Tp rfl rfl (pur_add rfl rfl rfl (fits64 (by omega) (by omega))) rfl ?_
     refine Tp rfl rfl (pur_assign rfl) rfl ?_
     refine TO_nil ?_
     obtain rfl := some_inj H
     exact again (left1.length - (i_1 + 1)) (i_1 + 1, out7) (by omega) (wp 1 (lb rfl) rfl rfl rfl rfl rfl) ⟨rfl, K2_⟩
  ·replace d2 := of_decide_eq_false d2
   obtain rfl := forS_end L2_ (by omega)
   refine T_exit ?_
   refine then_exit ?_
   refine then_exit ?_
   refine block_exit ?_
   replace H := N2_
   refine te [(7, (.m [0] 0 out7.length tInt.k))] rfl ?_
   refine sr ?_
   refine Tp rfl rfl (pur_move rfl) rfl ?_
   refine Tp rfl rfl (pur_assign rfl) rfl ?_
   refine TO_nil ?_
   refine te [(6, (.m [0] 0 out7.length tInt.k))] rfl ?_
   refine T_ret ?_
   obtain rfl := some_inj H
   exact end_pick (.tmp .nil) rfl [0] (by decide) rfl rfl rfl rfl rfl rfl
theorem m_spec_l28Rest_ok (l0 : (List ConflictEdge)) (left1 : (List Int)) (x2 : Int) (r : (List Int)) (H : m_spec_l28Rest l0 left1 x2 = some r) : FnV prg 70 [(sl tConflictEdge l0), (sl tInt left1), (intA x2)] (sl tInt r) := (m_spec_l28Rest_own l0 left1 x2 r H).frz (frzT (T := tInt) rfl)

set_option maxHeartbeats 1000000 in
/-- spec.l7Sorted -/
theorem m_spec_l7Sorted_own (u : Nat) (l0 : (List Int)) (r : (List Int)) (H : m_spec_l7Sorted u l0 = some r) : FnO prg 71 [(sl tInt l0)] (.m [0] 0 r.length tInt.k) [.row (flat tInt.own r)] := by
  unfold m_spec_l7Sorted at H
  refine fnO_of_T Try.func71 rfl rfl (Nat.le_of_ble_eq_true rfl) ?_
  refine te [(0, (sl tInt l0))] rfl ?_
  refine sr ?_
  refine Tp rfl rfl (pur_assign rfl) rfl ?_
  refine TO_nil ?_
  refine te [(0, (sl tInt l0))] rfl ?_
  refine sr ?_
  refine TO_cons rfl (TOp_lit (nn := 0) (k := 1) sl31 zero3 rfl rfl rfl rfl (by decide) ?_)
  refine TO_st (σ' := [.row (flat tInt.enc ([] : (List Int)))]) rfl ?_
  refine Tp rfl rfl (pur_assign rfl) rfl ?_
  refine TO_nil ?_
  refine te [(0, (sl tInt l0)), (3, (.m [0] 0 ([] : (List Int)).length tInt.k))] rfl ?_
  refine T_seq ?_
  refine sr ?_
  refine Tp rfl rfl (pur_assign rfl) rfl ?_
  refine TO_nil ?_
  refine te [(0, (sl tInt l0)), (3, (.m [0] 0 ([] : (List Int)).length tInt.k)), (4, (intA 0))] rfl ?_
  obtain ⟨O2_, L2_, N2_⟩ := bind_inv H
  clear H
  obtain ⟨B2_, hb2, L2_⟩ := gen_forS L2_
  refine T_block ?_
  refine T_loopX (fun k => fun (x_ : Nat × (List Int)) => k = l0.length - x_.1 ∧ forS B2_ (l0.drop x_.1) (x_.1 : Int) x_.2 = some O2_) (fun (x_ : Nat × (List Int)) => [(0, (sl tInt l0)), (3, (.m [0] 0 x_.2.length tInt.k)), (4, (intA (x_.1 : Int)))]) (fun (x_ : Nat × (List Int)) => [.row (flat tInt.enc x_.2)]) _ (0, ([] : (List Int))) (wp 1 (lb rfl) rfl rfl rfl rfl rfl) ⟨rfl, L2_⟩ ?_
  rintro _ ⟨i_1, out3⟩ ⟨rfl, L2_⟩
  refine te [(0, (sl tInt l0)), (3, (.m [0] 0 out3.length tInt.k)), (4, (intA (i_1 : Int)))] rfl ?_
  refine T_st (σ' := [.row (flat tInt.enc out3)]) rfl ?_
  refine T_fact (len_sl (T := tInt) (.tmp 0) rfl) (fun hl2 => ?_)
  refine T_seq ?_
  refine sr ?_
  refine Tp rfl rfl (pur_move rfl) rfl ?_
  refine Tp rfl rfl (pur_move rfl) rfl ?_
  refine Tp rfl rfl (pur_lenT (T := tInt) sl31 rfl rfl) rfl ?_
  refine Tp rfl rfl (pur_lss rfl rfl rfl) rfl ?_
  refine TO_nil ?_
  refine te [(0, (sl tInt l0)), (3, (.m [0] 0 out3.length tInt.k)), (4, (intA (i_1 : Int))), (10, (boolA (decide ((i_1 : Int) < (l0.length : Int)))))] rfl ?_
  refine T_cond (t := decide ((i_1 : Int) < (l0.length : Int))) rfl (fun d2 => ?_) (fun d2 => ?_)
  ·replace d2 := of_decide_eq_true d2
   obtain ⟨x_i_1, hx_i_1⟩ : ∃ v, (l0)[i_1]? = some v := ⟨_, List.getElem?_eq_getElem (by omega)⟩
   obtain ⟨C2_, H, K2_⟩ := forS_step L2_ hx_i_1
   rw [hb2] at H
   refine T_skip ?_
   refine te [(0, (sl tInt l0)), (3, (.m [0] 0 out3.length tInt.k)), (4, (intA (i_1 : Int)))] rfl ?_
   refine T_seq ?_
   refine T_block ?_
   refine sr ?_
   refine Tp rfl rfl (pur_move rfl) rfl ?_
   refine Tp rfl rfl (pur_len_m sl31 rfl rfl) rfl ?_
   refine Tp rfl rfl (pur_assign rfl) rfl ?_
   refine TO_nil ?_
   refine te [(0, (sl tInt l0)), (3, (.m [0] 0 out3.length tInt.k)), (4, (intA (i_1 : Int))), (5, (intA (out3.length : Int)))] rfl ?_
   obtain ⟨O3_, L3_, N3_⟩ := bind_inv H
   clear H
   obtain ⟨B3_, hb3, L3_⟩ := gen_whileF L3_
   refine T_cutX (fun (x : Int) => O3_ = .inl x) (fun (k5 : Int) => [(0, (sl tInt l0)), (3, (.m [0] 0 out3.length tInt.k)), (4, (intA (i_1 : Int))), (5, (intA k5))]) (fun (k5 : Int) => [.row (flat tInt.enc out3)]) ?_ ?_
   ·skip
    refine T_block ?_
    refine T_loopX (fun k => fun (k5 : Int) => whileF B3_ k k5 = some O3_) (fun (k5 : Int) => [(0, (sl tInt l0)), (3, (.m [0] 0 out3.length tInt.k)), (4, (intA (i_1 : Int))), (5, (intA k5))]) (fun (k5 : Int) => [.row (flat tInt.enc out3)]) u (out3.length : Int) (wp 1 (lb rfl) rfl rfl rfl rfl rfl) L3_ ?_
    rintro _ k5 L3_
    obtain ⟨k3, rfl, C3_, H, K3_⟩ := while_step L3_
    rw [hb3] at H
    refine te [(0, (sl tInt l0)), (3, (.m [0] 0 out3.length tInt.k)), (4, (intA (i_1 : Int))), (5, (intA k5))] rfl ?_
    refine T_st (σ' := [.row (flat tInt.enc out3)]) rfl ?_
    refine T_seq ?_
    obtain ⟨t28_4, J_4, H_5⟩ := bind_inv H
    refine T_cutX (fun x => t28_4 = x) (fun (t28_4 : Bool) => [(0, (sl tInt l0)), (3, (.m [0] 0 out3.length tInt.k)), (4, (intA (i_1 : Int))), (5, (intA k5)), (28, (boolA t28_4))]) (fun (t28_4 : Bool) => [.row (flat tInt.enc out3)]) ?_ ?_
    ·replace H := J_4
     refine T_regionD mixed (by kernel_rfl) ?_
     refine TQ_pure rfl (pur_move rfl) rfl ?_
     refine TQ_pure rfl (pur_gtr rfl rfl rfl) rfl ?_
     refine TQ_pure rfl (pur_move rfl) rfl ?_
     refine TQ_split (t := decide (0 < k5)) 17 rfl (fun g_6 => ?_) (fun g_6 => ?_)
     ·replace H := cond_t g_6 H
      refine TQ_on rfl rfl (by decide) rfl (pur_move rfl) rfl ?_
      refine TQ_on rfl rfl (by decide) rfl (pur_move rfl) rfl ?_
      refine TQ_on rfl rfl (by decide) rfl (pur_wsub rfl rfl rfl) rfl ?_
      obtain ⟨v_7, h_8, H⟩ := bind_inv H
      obtain ⟨n_9, hz_10, hv_11⟩ := getI_inv h_8
      refine TQ_on rfl rfl (by decide) rfl (pur_ixM (T := tInt) sl31 rfl rfl hz_10 hv_11 rfl) rfl ?_
      refine TQ_on rfl rfl (by decide) rfl (pur_ldE (f := tInt.enc) (k := tInt.k) (i := n_9) (off := 0) tInt.len rfl one3 rfl rfl rfl hv_11 rfl rfl) rfl ?_
      refine TQ_on rfl rfl (by decide) rfl (pur_move rfl) rfl ?_
      refine TQ_on rfl rfl (by decide) rfl (pur_move rfl) rfl ?_
      refine TQ_on rfl rfl (by decide) rfl (pur_ixT (T := tInt) sl31 rfl rfl rfl hx_i_1 rfl) rfl ?_
      refine tqe [(0, (sl tInt l0)), (3, (.m [0] 0 out3.length tInt.k)), (4, (intA (i_1 : Int))), (5, (intA k5)), (17, (boolA true)), (22, (intA v_7)), (25, (.q (flat tInt.enc l0) (i_1 * tInt.k)))] rfl ?_
      refine TQ_on rfl rfl (by decide) rfl (pur_ldT (T := tInt) (i := i_1) (off := 0) rfl one3 rfl rfl hx_i_1 rfl) rfl ?_
      refine TQ_on rfl rfl (by decide) rfl (pur_gtr rfl rfl rfl) rfl ?_
      refine TQ_pure rfl (pur_pick (t := true) rfl rfl rfl) rfl ?_
      refine TQ_nil ?_
      exact joined (decide (x_i_1 < v_7)) (wp 1 (lb rfl) rfl rfl rfl rfl rfl) (some_inj H).symm
     ·replace H := cond_f g_6 H
      refine TQ_off rfl rfl (by decide) rfl rfl rfl ?_
      refine TQ_off rfl rfl (by decide) rfl rfl rfl ?_
      refine TQ_off rfl rfl (by decide) rfl rfl rfl ?_
      refine TQ_off rfl rfl (by decide) rfl rfl rfl ?_
      refine TQ_off rfl rfl (by decide) rfl rfl rfl ?_
      refine TQ_off rfl rfl (by decide) rfl rfl rfl ?_
      refine TQ_off rfl rfl (by decide) rfl rfl rfl ?_
      refine TQ_off rfl rfl (by decide) rfl rfl rfl ?_
      refine tqe [(0, (sl tInt l0)), (3, (.m [0] 0 out3.length tInt.k)), (4, (intA (i_1 : Int))), (5, (intA k5)), (17, (boolA false)), (22, (.v undef)), (25, (.v undef))] rfl ?_
      refine TQ_off rfl rfl (by decide) rfl rfl rfl ?_
      refine TQ_off rfl rfl (by decide) rfl rfl rfl ?_
      refine TQ_pure rfl (pur_pick (t := false) rfl rfl rfl) rfl ?_
      refine TQ_nil ?_
      exact joined false (wp 1 (lb rfl) rfl rfl rfl rfl rfl) (some_inj H).symm
    ·rintro _ rfl
     replace H := H_5
     refine te [(0, (sl tInt l0)), (3, (.m [0] 0 out3.length tInt.k)), (4, (intA (i_1 : Int))), (5, (intA k5)), (28, (boolA t28_4))] rfl ?_
     refine T_cond (t := t28_4) rfl (fun c_12 => ?_) (fun c_12 => ?_)
     ·replace H := cond_t c_12 H
      refine T_skip ?_
      refine te [(0, (sl tInt l0)), (3, (.m [0] 0 out3.length tInt.k)), (4, (intA (i_1 : Int))), (5, (intA k5))] rfl ?_
      refine T_block ?_
      refine T_region ?_
      refine Tp rfl rfl (pur_move rfl) rfl ?_
      refine Tp rfl rfl (pur_wsub rfl rfl rfl) rfl ?_
      refine Tp rfl rfl (pur_assign rfl) rfl ?_
      refine TO_nil ?_
      obtain rfl := some_inj H
      exact again k3 (w64 (k5 - 1)) (Nat.lt_succ_self _) (wp 1 (lb rfl) rfl rfl rfl rfl rfl) K3_
     ·replace H := cond_f c_12 H
      refine T_exit ?_
      refine then_exit ?_
      refine then_exit ?_
      refine block_exit ?_
      obtain rfl := some_inj H
      obtain rfl := some_inj K3_
      exact joined k5 (wp 1 (lb rfl) rfl rfl rfl rfl rfl) rfl
   ·rintro k5 rfl
    replace H := onS_l N3_
    refine te [(0, (sl tInt l0)), (3, (.m [0] 0 out3.length tInt.k)), (4, (intA (i_1 : Int))), (5, (intA k5))] rfl ?_
    obtain ⟨ys_13, h_14, H⟩ := bind_inv H
    obtain ⟨i_15, j_16, hi_17, hj_18, hij_19, hjl_20, hys_21, _⟩ := cutI_inv h_14
    obtain ⟨us_22, h_23, H⟩ := bind_inv H
    obtain ⟨us_24, h_25, H⟩ := bind_inv H
    obtain ⟨ys_26, h_27, H⟩ := bind_inv H
    obtain ⟨i_28, j_29, hi_30, hj_31, hij_32, hjl_33, hys_34, _⟩ := cutI_inv h_27
    obtain ⟨us_35, h_36, H⟩ := bind_inv H
    refine T_pad ?_
    refine T_pad ?_
    refine T_pad ?_
    refine T_regionP mixed ?_
    refine TA_have 3 #[true, true, true, true, true, true, true, true, true, true, false, true, true, true, false, false] [(0, (sl tInt l0)), (3, (.m [0] 0 out3.length tInt.k)), (4, (intA (i_1 : Int))), (35, (.m [2] 0 us_22.length tInt.k)), (40, (.m [3] 0 ([x_i_1] : (List Int)).length tInt.k)), (44, (.m [0] (i_28 * tInt.k) (j_29 - i_28) tInt.k))] [.row (flat tInt.enc out3), .dead, .row (flat tInt.enc us_22), .row (flat tInt.enc ([x_i_1] : (List Int)))] ?_ (fun hj0_8 => ?_)
    ·skip
     refine t1 10 (by kernel_rfl) rfl rfl (TOp_appY (T := tInt) (f := tInt.enc) (xs := us_22) (ys := ([x_i_1] : (List Int))) tInt.len sl31 zero3 rfl bytes3 (by decide) rfl rfl rfl rfl (src_mT (f := tInt.enc) tInt.len rfl rfl (flat_cell tInt _)) (flat_cell tInt _) h_25 ?_)
     refine tmv 2 4 (by decide) (lb rfl) rfl rfl (lb rfl) ?_
     refine t1 14 (by kernel_rfl) rfl rfl (TOp_appY (T := tInt) (f := tInt.enc) (xs := us_24) (ys := ys_26) tInt.len sl31 zero3 rfl bytes3 (by decide) rfl rfl rfl rfl (src_cut (T := tInt) (xs := out3) (i := i_28) (j := j_29) rfl rfl hij_32 hjl_33 hys_34) (flat_cell tInt _) h_36 ?_)
     refine tmv 2 5 (by decide) (lb rfl) rfl rfl (lb rfl) ?_
     refine tf 15 rfl (purI_assign rfl) rfl rfl (by kernel_rfl) ?_
     refine TA_ghost (E' := [(0, (sl tInt l0)), (3, (.m [1] 0 us_35.length tInt.k)), (4, (intA (i_1 : Int)))]) (σ' := [.row (flat tInt.enc out3), .row (flat tInt.enc us_35), .dead, .row (flat tInt.enc ([x_i_1] : (List Int))), .dead, .dead]) (Ghost.move 1 2 (by decide) (lb rfl) rfl rfl (lb rfl) (Ghost.weak (WeakL.to 6 (lb rfl) rfl rfl rfl rfl ⟨leR rfl, leR rfl, leR rfl, trivial⟩))) ?_
     refine TA_nil (by kernel_rfl) ?_
     refine te [(0, (sl tInt l0)), (3, (.m [1] 0 us_35.length tInt.k)), (4, (intA (i_1 : Int)))] rfl ?_
     refine T_move' 0 1 (by decide) (lb rfl) rfl rfl (lb rfl) ?_
     refine te [(0, (sl tInt l0)), (3, (.m [0] 0 us_35.length tInt.k)), (4, (intA (i_1 : Int)))] rfl ?_
     refine T_st (σ' := [.row (flat tInt.enc us_35), .dead, .dead, .row (flat tInt.enc ([x_i_1] : (List Int))), .dead, .dead]) rfl ?_
     refine T_region ?_
     refine Tp rfl rfl (pur_move rfl) rfl ?_
     refine Tp rfl rfl (pur_add rfl rfl rfl (fits64 (by omega) (by omega))) rfl ?_
     refine Tp rfl rfl (pur_assign rfl) rfl ?_
     refine TO_nil ?_
     obtain rfl := some_inj H
     exact again (l0.length - (i_1 + 1)) (i_1 + 1, us_35) (by omega) (wp 1 (lb rfl) rfl rfl rfl rfl rfl) ⟨rfl, K2_⟩
    refine TA_have 4 #[true, true, true, true, false, true, true, true, true, true, false, true, true, true, false, false] [(0, (sl tInt l0)), (3, (.m [0] 0 out3.length tInt.k)), (4, (intA (i_1 : Int))), (31, (.m [2] 0 ([] : (List Int)).length tInt.k)), (34, (.m [0] (i_15 * tInt.k) (j_16 - i_15) tInt.k)), (40, (.m [3] 0 ([x_i_1] : (List Int)).length tInt.k)), (44, (.m [0] (i_28 * tInt.k) (j_29 - i_28) tInt.k))] [.row (flat tInt.enc out3), .dead, .row (flat tInt.enc ([] : (List Int))), .row (flat tInt.enc ([x_i_1] : (List Int)))] ?_ (fun hj1_8 => ?_)
    ·skip
     refine t1 4 (by kernel_rfl) rfl rfl (TOp_appY (T := tInt) (f := tInt.enc) (xs := ([] : (List Int))) (ys := ys_13) tInt.len sl31 zero3 rfl bytes3 (by decide) rfl rfl rfl rfl (src_cut (T := tInt) (xs := out3) (i := i_15) (j := j_16) rfl rfl hij_19 hjl_20 hys_21) (flat_cell tInt _) h_23 ?_)
     refine tmv 2 4 (by decide) (lb rfl) rfl rfl (lb rfl) ?_
     exact tj hj0_8 rfl (wp 4 (lb rfl) rfl rfl rfl rfl rfl)
    refine TA_have 4 #[true, true, true, true, true, true, true, true, true, false, false, true, true, true, false, false] [(0, (sl tInt l0)), (3, (.m [0] 0 out3.length tInt.k)), (4, (intA (i_1 : Int))), (35, (.m [2] 0 us_22.length tInt.k)), (39, (intA x_i_1)), (44, (.m [0] (i_28 * tInt.k) (j_29 - i_28) tInt.k))] [.row (flat tInt.enc out3), .dead, .row (flat tInt.enc us_22), .dead] ?_ (fun hj2_8 => ?_)
    ·skip
     refine t1 9 (by kernel_rfl) rfl rfl (TOp_lit (nn := 1) (k := 1) sl31 zero3 rfl rfl rfl rfl (by decide) ?_)
     refine tmv 3 4 (by decide) (lb rfl) rfl rfl (lb rfl) ?_
     exact tj hj0_8 rfl (wp 4 (lb rfl) rfl rfl rfl rfl rfl)
    refine TA_have 5 #[true, true, true, true, false, true, true, true, true, false, false, true, true, true, false, false] [(0, (sl tInt l0)), (3, (.m [0] 0 out3.length tInt.k)), (4, (intA (i_1 : Int))), (31, (.m [2] 0 ([] : (List Int)).length tInt.k)), (34, (.m [0] (i_15 * tInt.k) (j_16 - i_15) tInt.k)), (39, (intA x_i_1)), (44, (.m [0] (i_28 * tInt.k) (j_29 - i_28) tInt.k))] [.row (flat tInt.enc out3), .dead, .row (flat tInt.enc ([] : (List Int))), .dead] ?_ (fun hj3_8 => ?_)
    ·skip
     refine TA_all [4, 9] (by kernel_rfl) (by decide) ⟨?_, ?_, trivial⟩
     ·skip
      refine ⟨_, rfl, rfl, (TOp_appY (T := tInt) (f := tInt.enc) (xs := ([] : (List Int))) (ys := ys_13) tInt.len sl31 zero3 rfl bytes3 (by decide) rfl rfl rfl rfl (src_cut (T := tInt) (xs := out3) (i := i_15) (j := j_16) rfl rfl hij_19 hjl_20 hys_21) (flat_cell tInt _) h_23 ?_)⟩
      refine tmv 2 4 (by decide) (lb rfl) rfl rfl (lb rfl) ?_
      exact tj hj2_8 rfl (wp 4 (lb rfl) rfl rfl rfl rfl rfl)
     ·skip
      refine ⟨_, rfl, rfl, (TOp_lit (nn := 1) (k := 1) sl31 zero3 rfl rfl rfl rfl (by decide) ?_)⟩
      refine tmv 3 4 (by decide) (lb rfl) rfl rfl (lb rfl) ?_
      exact tj hj1_8 rfl (wp 4 (lb rfl) rfl rfl rfl rfl rfl)
    refine tf 1 rfl (purI_move rfl) rfl rfl (by kernel_rfl) ?_
    refine tf 2 rfl (purI_move rfl) rfl rfl (by kernel_rfl) ?_
    refine tf 3 rfl (purI_cutM (lo := none) (hi := (some (.tmp 33))) sl31 rfl hi_17.symm ⟨_, congrArg (fun z => A.v (.int .i64 z)) hj_18⟩ hij_19 hjl_20 rfl) rfl rfl (by kernel_rfl) ?_
    refine tf 5 rfl (purI_move rfl) rfl rfl (by kernel_rfl) ?_
    refine tf 6 rfl (purI_move rfl) rfl rfl (by kernel_rfl) ?_
    refine tf 7 rfl (purI_ixT (T := tInt) sl31 rfl rfl rfl hx_i_1 rfl) rfl rfl (by kernel_rfl) ?_
    refine tae [(0, (sl tInt l0)), (3, (.m [0] 0 out3.length tInt.k)), (4, (intA (i_1 : Int))), (5, (intA k5)), (34, (.m [0] (i_15 * tInt.k) (j_16 - i_15) tInt.k)), (38, (.q (flat tInt.enc l0) (i_1 * tInt.k)))] rfl ?_
    refine tf 11 rfl (purI_move rfl) rfl rfl (by kernel_rfl) ?_
    refine tf 12 rfl (purI_move rfl) rfl rfl (by kernel_rfl) ?_
    refine tf 13 rfl (purI_cutM (lo := (some (.tmp 43))) (hi := none) sl31 rfl ⟨_, congrArg (fun z => A.v (.int .i64 z)) hi_30⟩ hj_31.symm hij_32 hjl_33 rfl) rfl rfl (by kernel_rfl) ?_
    refine TA_all [0, 8] (by kernel_rfl) (by decide) ⟨?_, ?_, trivial⟩
    ·skip
     refine ⟨_, rfl, rfl, (TOp_lit (nn := 0) (k := 1) sl31 zero3 rfl rfl rfl rfl (by decide) ?_)⟩
     refine tmv 2 4 (by decide) (lb rfl) rfl rfl (lb rfl) ?_
     refine TA_all [4, 8] (by kernel_rfl) (by decide) ⟨?_, ?_, trivial⟩
     ·skip
      refine ⟨_, rfl, rfl, (TOp_appY (T := tInt) (f := tInt.enc) (xs := ([] : (List Int))) (ys := ys_13) tInt.len sl31 zero3 rfl bytes3 (by decide) rfl rfl rfl rfl (src_cut (T := tInt) (xs := out3) (i := i_15) (j := j_16) rfl rfl hij_19 hjl_20 hys_21) (flat_cell tInt _) h_23 ?_)⟩
      refine tmv 2 5 (by decide) (lb rfl) rfl rfl (lb rfl) ?_
      refine t1 8 (by kernel_rfl) rfl rfl (TOp_pure (pur_ldT (T := tInt) (i := i_1) (off := 0) rfl one3 rfl rfl hx_i_1 rfl) rfl ?_)
      exact tj hj2_8 rfl (wp 4 (lb rfl) rfl rfl rfl rfl rfl)
     ·skip
      refine ⟨_, rfl, rfl, (TOp_pure (pur_ldT (T := tInt) (i := i_1) (off := 0) rfl one3 rfl rfl hx_i_1 rfl) rfl ?_)⟩
      exact tj hj3_8 rfl (wp 4 (lb rfl) rfl rfl rfl rfl rfl)
    ·skip
     refine ⟨_, rfl, rfl, (TOp_pure (pur_ldT (T := tInt) (i := i_1) (off := 0) rfl one3 rfl rfl hx_i_1 rfl) rfl ?_)⟩
     refine TA_all [0, 9] (by kernel_rfl) (by decide) ⟨?_, ?_, trivial⟩
     ·skip
      refine ⟨_, rfl, rfl, (TOp_lit (nn := 0) (k := 1) sl31 zero3 rfl rfl rfl rfl (by decide) ?_)⟩
      refine tmv 2 4 (by decide) (lb rfl) rfl rfl (lb rfl) ?_
      exact tj hj3_8 rfl (wp 4 (lb rfl) rfl rfl rfl rfl rfl)
     ·skip
      refine ⟨_, rfl, rfl, (TOp_lit (nn := 1) (k := 1) sl31 zero3 rfl rfl rfl rfl (by decide) ?_)⟩
      refine tmv 3 4 (by decide) (lb rfl) rfl rfl (lb rfl) ?_
      refine t1 0 (by kernel_rfl) rfl rfl (TOp_lit (nn := 0) (k := 1) sl31 zero3 rfl rfl rfl rfl (by decide) ?_)
      refine tmv 2 5 (by decide) (lb rfl) rfl rfl (lb rfl) ?_
      exact tj hj1_8 rfl (wp 4 (lb rfl) rfl rfl rfl rfl rfl)
  ·replace d2 := of_decide_eq_false d2
   obtain rfl := forS_end L2_ (by omega)
   refine T_exit ?_
   refine then_exit ?_
   refine then_exit ?_
   refine block_exit ?_
   replace H := N2_
   refine te [(3, (.m [0] 0 out3.length tInt.k))] rfl ?_
   refine sr ?_
   refine Tp rfl rfl (pur_move rfl) rfl ?_
   refine Tp rfl rfl (pur_assign rfl) rfl ?_
   refine TO_nil ?_
   refine te [(2, (.m [0] 0 out3.length tInt.k))] rfl ?_
   refine T_ret ?_
   obtain rfl := some_inj H
   exact end_pick (.tmp .nil) rfl [0] (by decide) rfl rfl rfl rfl rfl rfl
theorem m_spec_l7Sorted_ok (u : Nat) (l0 : (List Int)) (r : (List Int)) (H : m_spec_l7Sorted u l0 = some r) : FnV prg 71 [(sl tInt l0)] (sl tInt r) := (m_spec_l7Sorted_own u l0 r H).frz (frzT (T := tInt) rfl)

set_option maxHeartbeats 1000000 in
/-- spec.GreedyRepair -/
theorem m_spec_GreedyRepair_own (u : Nat) (n0 : Int) (l1 : (List ConflictEdge)) (p2 : (List ConflictEdge)) (r : (List Int)) (H : m_spec_GreedyRepair u n0 l1 p2 = some r) : FnO prg 38 [(intA n0), (sl tConflictEdge l1), (sl tConflictEdge p2)] (.m [0] 0 r.length tInt.k) [.row (flat tInt.own r)] := by
  unfold m_spec_GreedyRepair at H
  refine fnO_of_T Try.func38 rfl rfl (Nat.le_of_ble_eq_true rfl) ?_
  refine te [(0, (intA n0)), (1, (sl tConflictEdge l1)), (2, (sl tConflictEdge p2))] rfl ?_
  refine sr ?_
  refine Tp rfl rfl (pur_assign rfl) rfl ?_
  refine TO_nil ?_
  refine te [(0, (intA n0)), (1, (sl tConflictEdge l1)), (2, (sl tConflictEdge p2))] rfl ?_
  refine sr ?_
  refine TO_cons rfl (TOp_lit (nn := 0) (k := 1) sl31 zero3 rfl rfl rfl rfl (by decide) ?_)
  refine TO_st (σ' := [.row (flat tInt.enc ([] : (List Int)))]) rfl ?_
  refine Tp rfl rfl (pur_assign rfl) rfl ?_
  refine TO_nil ?_
  refine te [(0, (intA n0)), (1, (sl tConflictEdge l1)), (2, (sl tConflictEdge p2)), (7, (.m [0] 0 ([] : (List Int)).length tInt.k))] rfl ?_
  refine T_seq ?_
  refine sr ?_
  refine Tp rfl rfl (pur_move rfl) rfl ?_
  refine Tp rfl rfl (pur_move rfl) rfl ?_
  refine Tp rfl rfl (pur_move rfl) rfl ?_
  obtain ⟨r_1, h_2, H⟩ := bind_inv H
  refine TO_cons rfl (TOp_callV (call_static ent16 rfl) (m_spec_IsValidPreference_ok _ _ _ _ h_2) rfl rfl rfl ?_)
  refine Tp rfl rfl (pur_not rfl rfl) rfl ?_
  refine TO_nil ?_
  refine te [(0, (intA n0)), (1, (sl tConflictEdge l1)), (2, (sl tConflictEdge p2)), (7, (.m [0] 0 ([] : (List Int)).length tInt.k)), (15, (boolA (!r_1)))] rfl ?_
  refine T_cond (t := (!r_1)) rfl (fun c_3 => ?_) (fun c_3 => ?_)
  ·replace H := cond_t c_3 H
   refine sr ?_
   refine Tp rfl rfl (pur_move rfl) rfl ?_
   refine Tp rfl rfl (pur_assign rfl) rfl ?_
   refine TO_nil ?_
   refine te [(6, (.m [0] 0 ([] : (List Int)).length tInt.k))] rfl ?_
   refine T_ret ?_
   refine then_ret ?_
   obtain rfl := some_inj H
   exact end_pick (.tmp .nil) rfl [0] (by decide) rfl rfl rfl rfl rfl rfl
  ·replace H := cond_f c_3 H
   refine T_skip ?_
   refine te [(0, (intA n0)), (1, (sl tConflictEdge l1)), (2, (sl tConflictEdge p2)), (7, (.m [0] 0 ([] : (List Int)).length tInt.k))] rfl ?_
   refine sr ?_
   refine Tp rfl rfl (pur_move rfl) rfl ?_
   obtain ⟨r_4, h_5, H⟩ := bind_inv H
   refine TO_cons rfl (TOp_callV (call_static ent69 rfl) (m_spec_l28All_ok u _ _ h_5) rfl rfl rfl ?_)
   refine Tp rfl rfl (pur_assign rfl) rfl ?_
   refine TO_nil ?_
   refine te [(0, (intA n0)), (1, (sl tConflictEdge l1)), (2, (sl tConflictEdge p2)), (7, (.m [0] 0 ([] : (List Int)).length tInt.k)), (8, (sl tInt r_4))] rfl ?_
   obtain ⟨O6_, L6_, N6_⟩ := bind_inv H
   clear H
   obtain ⟨B6_, hb6, L6_⟩ := gen_whileF L6_
   refine T_cutX (fun (x : (List Int) × (List Int)) => O6_ = .inl x) (fun (x_ : (List Int) × (List Int)) => [(7, (.m [0] 0 x_.1.length tInt.k))]) (fun (x_ : (List Int) × (List Int)) => [.row (flat tInt.enc x_.1)]) ?_ ?_
   ·skip
    refine T_block ?_
    refine T_loopX (fun k => fun (x_ : (List Int) × (List Int)) => whileF B6_ k (x_.1, x_.2) = some O6_) (fun (x_ : (List Int) × (List Int)) => [(0, (intA n0)), (1, (sl tConflictEdge l1)), (2, (sl tConflictEdge p2)), (7, (.m [0] 0 x_.1.length tInt.k)), (8, (sl tInt x_.2))]) (fun (x_ : (List Int) × (List Int)) => [.row (flat tInt.enc x_.1)]) u (([] : (List Int)), r_4) (wp 1 (lb rfl) rfl rfl rfl rfl rfl) L6_ ?_
    rintro _ ⟨out7, left8⟩ L6_
    obtain ⟨k6, rfl, C6_, H, K6_⟩ := while_step L6_
    rw [hb6] at H
    refine te [(0, (intA n0)), (1, (sl tConflictEdge l1)), (2, (sl tConflictEdge p2)), (7, (.m [0] 0 out7.length tInt.k)), (8, (sl tInt left8))] rfl ?_
    refine T_st (σ' := [.row (flat tInt.enc out7)]) rfl ?_
    refine T_seq ?_
    refine sr ?_
    refine Tp rfl rfl (pur_move rfl) rfl ?_
    refine Tp rfl rfl (pur_lenT (T := tInt) sl31 rfl rfl) rfl ?_
    refine Tp rfl rfl (pur_gtr rfl rfl rfl) rfl ?_
    refine TO_nil ?_
    refine te [(0, (intA n0)), (1, (sl tConflictEdge l1)), (2, (sl tConflictEdge p2)), (7, (.m [0] 0 out7.length tInt.k)), (8, (sl tInt left8)), (21, (boolA (decide (0 < (left8.length : Int)))))] rfl ?_
    refine T_cond (t := decide (0 < (left8.length : Int))) rfl (fun c_7 => ?_) (fun c_7 => ?_)
    ·replace H := cond_t c_7 H
     refine T_skip ?_
     refine te [(0, (intA n0)), (1, (sl tConflictEdge l1)), (2, (sl tConflictEdge p2)), (7, (.m [0] 0 out7.length tInt.k)), (8, (sl tInt left8))] rfl ?_
     refine T_block ?_
     refine sr ?_
     refine Tp rfl rfl (pur_move rfl) rfl ?_
     refine Tp rfl rfl (pur_move rfl) rfl ?_
     refine Tp rfl rfl (pur_move rfl) rfl ?_
     refine Tp rfl rfl (pur_move rfl) rfl ?_
     obtain ⟨r_8, h_9, H⟩ := bind_inv H
     refine TO_cons rfl (TOp_callV (call_static ent18 rfl) (m_spec_UndominatedFacts_ok _ _ _ _ _ h_9) rfl rfl rfl ?_)
     refine Tp rfl rfl (pur_assign rfl) rfl ?_
     refine TO_nil ?_
     refine te [(0, (intA n0)), (1, (sl tConflictEdge l1)), (2, (sl tConflictEdge p2)), (7, (.m [0] 0 out7.length tInt.k)), (8, (sl tInt left8)), (9, (sl tInt r_8))] rfl ?_
     refine sr ?_
     refine Tp rfl rfl (pur_move rfl) rfl ?_
     refine Tp rfl rfl (pur_move rfl) rfl ?_
     obtain ⟨v_10, h_11, H⟩ := bind_inv H
     obtain ⟨n_12, hz_13, hv_14⟩ := getI_inv h_11
     refine Tp rfl rfl (pur_ixT (T := tInt) sl31 rfl rfl hz_13 hv_14 rfl) rfl ?_
     refine Tp rfl rfl (pur_ldT (T := tInt) (i := n_12) (off := 0) rfl one3 rfl rfl hv_14 rfl) rfl ?_
     refine TO_cons rfl (TOp_lit (nn := 1) (k := 1) sl31 zero3 rfl rfl rfl rfl (by decide) ?_)
     refine TO_st (σ' := [.row (flat tInt.enc out7), .row (flat tInt.enc ([v_10] : (List Int)))]) rfl ?_
     obtain ⟨us_15, h_16, H⟩ := bind_inv H
     refine TO_cons rfl (TOp_appZ (T := tInt) (f := tInt.enc) (xs := out7) (ys := ([v_10] : (List Int))) tInt.len sl31 zero3 rfl bytes3 (by decide) rfl rfl rfl rfl (src_mT (f := tInt.enc) tInt.len rfl rfl (flat_cell tInt _)) (flat_cell tInt _) h_16 (lb rfl) ?_)
     refine toe [(0, (intA n0)), (1, (sl tConflictEdge l1)), (2, (sl tConflictEdge p2)), (8, (sl tInt left8)), (9, (sl tInt r_8)), (28, (sl tInt r_8)), (29, (.q (flat tInt.enc r_8) (n_12 * tInt.k))), (30, (intA v_10)), (31, (.m [1] 0 ([v_10] : (List Int)).length tInt.k)), (32, (.m [0] 0 us_15.length tInt.k))] rfl ?_
     refine TO_st (σ' := [.row (flat tInt.enc us_15), .row (flat tInt.enc ([v_10] : (List Int))), .dead]) rfl ?_
     refine Tp rfl rfl (pur_assign rfl) rfl ?_
     refine TO_nil ?_
     refine te [(0, (intA n0)), (1, (sl tConflictEdge l1)), (2, (sl tConflictEdge p2)), (7, (.m [0] 0 us_15.length tInt.k)), (8, (sl tInt left8)), (9, (sl tInt r_8))] rfl ?_
     refine T_region ?_
     refine Tp rfl rfl (pur_move rfl) rfl ?_
     refine Tp rfl rfl (pur_move rfl) rfl ?_
     refine Tp rfl rfl (pur_move rfl) rfl ?_
     refine Tp rfl rfl (pur_ixT (T := tInt) sl31 rfl rfl hz_13 hv_14 rfl) rfl ?_
     refine Tp rfl rfl (pur_ldT (T := tInt) (i := n_12) (off := 0) rfl one3 rfl rfl hv_14 rfl) rfl ?_
     obtain ⟨r_17, h_18, H⟩ := bind_inv H
     refine TO_cons rfl (TOp_callV (call_static ent70 rfl) (m_spec_l28Rest_ok _ _ _ _ h_18) rfl rfl rfl ?_)
     refine Tp rfl rfl (pur_assign rfl) rfl ?_
     refine TO_nil ?_
     obtain rfl := some_inj H
     exact again k6 (us_15, r_17) (Nat.lt_succ_self _) (wp 1 (lb rfl) rfl rfl rfl rfl rfl) K6_
    ·replace H := cond_f c_7 H
     refine T_exit ?_
     refine then_exit ?_
     refine then_exit ?_
     refine block_exit ?_
     obtain rfl := some_inj H
     obtain rfl := some_inj K6_
     exact joined (out7, left8) (wp 1 (lb rfl) rfl rfl rfl rfl rfl) rfl
   ·rintro ⟨out7, left8⟩ rfl
    replace H := onS_l N6_
    refine te [(7, (.m [0] 0 out7.length tInt.k))] rfl ?_
    refine sr ?_
    refine Tp rfl rfl (pur_move rfl) rfl ?_
    obtain ⟨r_19, h_20, H⟩ := bind_inv H
    refine TO_cons rfl (TOp_callOG (call_static ent71 rfl) (frz_cons (frzTE (T := tInt) rfl) frz_nil).1 (frz_cons (frzTE (T := tInt) rfl) frz_nil).2 (m_spec_l7Sorted_own u _ _ h_20) rfl (ownC_of (ownSB_cons (flat_ownR tInt _) ownSB_nil)) rfl rfl rfl ?_)
    refine toe [(7, (.m [0] 0 out7.length tInt.k)), (39, (.m [0] 0 out7.length tInt.k)), (40, (.m [1] 0 r_19.length tInt.k))] rfl ?_
    refine TO_st (σ' := [.row (flat tInt.enc out7), .row (flat tInt.own r_19)]) rfl ?_
    refine Tp rfl rfl (pur_assign rfl) rfl ?_
    refine TO_nil ?_
    refine te [(6, (.m [1] 0 r_19.length tInt.k))] rfl ?_
    refine T_ret ?_
    obtain rfl := some_inj H
    exact end_pick (.tmp .nil) rfl [1] (by decide) rfl rfl rfl rfl rfl rfl
theorem m_spec_GreedyRepair_ok (u : Nat) (n0 : Int) (l1 : (List ConflictEdge)) (p2 : (List ConflictEdge)) (r : (List Int)) (H : m_spec_GreedyRepair u n0 l1 p2 = some r) : FnV prg 38 [(intA n0), (sl tConflictEdge l1), (sl tConflictEdge p2)] (sl tInt r) := (m_spec_GreedyRepair_own u n0 l1 p2 r H).frz (frzT (T := tInt) rfl)
end Go.Proofs.Ytglgcncmjnjfgaa

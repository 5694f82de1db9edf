import Derived.Test.YtglgcncmjnjfgaaGreatM1
import Derived.Test.YtglgcncmjnjfgaaGreatM2
import Derived.Test.YtglgcncmjnjfgaaGreatM3
set_option linter.unusedVariables false
set_option linter.unusedSimpArgs false
set_option maxRecDepth 4000
namespace Go.Proofs.YtglgcncmjnjfgaaGreat
open Go Go.Proofs Go.Sep
set_option maxHeartbeats 1000000 in
theorem m_spec_l28Draw_x (c0 : l1Cur) (most1 : Int) (r : ((Int × (List ConflictEdge) × (List ConflictEdge)) × l1Cur)) (H : m_spec_l28Draw c0 most1 = some r) : FnS prg 20 [(.b 0 0), (intA most1)] [.box [(sl (tI .u8) c0.b), (intA c0.i), (intA c0.h)]] (.t [(intA r.1.1), (.m [1] 0 r.1.2.1.length tConflictEdge.k), (.m [2] 0 r.1.2.2.length tConflictEdge.k)]) [.box [(sl (tI .u8) r.2.b), (intA r.2.i), (intA r.2.h)], .row (flat tConflictEdge.enc r.1.2.1), .row (flat tConflictEdge.enc r.1.2.2)] := by
  unfold m_spec_l28Draw at H
  refine fnS_of_T Tryz.func20 rfl rfl (Nat.le_of_ble_eq_true rfl) ?_
  refine te [(0, (.b 0 0)), (1, (intA most1))] rfl ?_
  refine T_st (σ' := [.box [(sl (tI .u8) c0.b), (intA c0.i), (intA c0.h)]]) rfl ?_
  refine sr ?_
  refine pv tb 3 rfl ?_
  refine TO_nil ?_
  refine sr ?_
  obtain ⟨r_1, h_2, H⟩ := bind_inv H
  refine pv tb 1 rfl ?_
  refine TO_cons rfl (TOp_callS [0] (call_static ent46 rfl) (by decide) rfl rfl rfl rfl rfl rfl (m_spec_l8Edges_x _ _ h_2) rfl rfl ?_)
  refine toe [(0, (.b 0 0)), (1, (intA most1)), (14, (.b 0 0)), (15, (.t [(intA r_1.1.1), (.m [1] 0 r_1.1.2.length tConflictEdge.k)]))] rfl ?_
  refine TO_st (σ' := [.box [(sl (tI .u8) r_1.2.b), (intA r_1.2.i), (intA r_1.2.h)], .row (flat tConflictEdge.enc r_1.1.2)]) rfl ?_
  refine pv tb 5 rfl ?_
  refine TO_nil ?_
  refine T_seq ?_
  refine sr ?_
  refine pv tb 3 rfl ?_
  refine TO_nil ?_
  refine T_cond (t := decide (most1 < r_1.1.1)) rfl (fun c_3 => ?_) (fun c_3 => ?_)
  ·replace H := cond_t c_3 H
   refine sr ?_
   refine pv tb 2 rfl ?_
   refine TO_nil ?_
   refine sr ?_
   refine TO_cons rfl (TOp_lit (nn := 0) (k := 2) sl24 zero45 rfl rfl rfl rfl (by decide) ?_)
   refine TO_st (σ' := [.box [(sl (tI .u8) r_1.2.b), (intA r_1.2.i), (intA r_1.2.h)], .row (flat tConflictEdge.enc r_1.1.2), .row (flat tConflictEdge.enc ([] : (List ConflictEdge)))]) rfl ?_
   refine pv tb 1 rfl ?_
   refine TO_nil ?_
   refine T_seq ?_
   refine sr ?_
   refine pv tb 1 rfl ?_
   refine TO_nil ?_
   obtain ⟨O5_, L5_, N5_⟩ := bind_inv H
   clear H
   obtain ⟨B5_, hb5, L5_⟩ := gen_forS L5_
   refine T_block ?_
   refine T_loopX (fun k => fun (⟨i_4, keep9⟩ : Nat × (List ConflictEdge)) => k = r_1.1.2.length - i_4 ∧ forS B5_ (r_1.1.2.drop i_4) (i_4 : Int) keep9 = some O5_) (fun (⟨i_4, keep9⟩ : Nat × (List ConflictEdge)) => [(0, (.b 0 0)), (7, (intA most1)), (8, (.m [1] 0 r_1.1.2.length tConflictEdge.k)), (9, (.m [2] 0 keep9.length tConflictEdge.k)), (10, (intA (i_4 : Int)))]) (fun (⟨i_4, keep9⟩ : Nat × (List ConflictEdge)) => [.box [(sl (tI .u8) r_1.2.b), (intA r_1.2.i), (intA r_1.2.h)], .row (flat tConflictEdge.enc r_1.1.2), .row (flat tConflictEdge.enc keep9)]) _ (0, ([] : (List ConflictEdge))) (w0 3) ⟨rfl, L5_⟩ ?_
   rintro _ ⟨i_4, keep9⟩ ⟨rfl, L5_⟩
   refine T_fact (len_m (.tmp 8) rfl) (fun hl5 => ?_)
   refine T_seq ?_
   refine sr ?_
   refine pv tb 2 rfl ?_
   refine Tp rfl rfl (pur_len_m sl24 rfl rfl) rfl ?_
   refine pv tb 1 rfl ?_
   refine TO_nil ?_
   refine T_cond (t := decide ((i_4 : Int) < (r_1.1.2.length : Int))) rfl (fun d5 => ?_) (fun d5 => ?_)
   ·replace d5 := of_decide_eq_true d5
    obtain ⟨x_i_4, hx_i_4⟩ : ∃ v, (r_1.1.2)[i_4]? = some v := ⟨_, List.getElem?_eq_getElem (by omega)⟩
    obtain ⟨C5_, H, K5_⟩ := forS_step L5_ hx_i_4
    rw [hb5] at H
    refine T_skip ?_
    refine T_seq ?_
    refine T_block ?_
    refine sr ?_
    refine pv tb 2 rfl ?_
    refine Tp rfl rfl (pur_ixM (T := tConflictEdge) sl24 rfl rfl rfl hx_i_4 rfl) rfl ?_
    refine pv tb 1 rfl ?_
    refine Tp rfl rfl (pur_ldE (f := tConflictEdge.enc) (k := tConflictEdge.k) (i := i_4) (off := 1) tConflictEdge.len rfl one3 rfl rfl rfl hx_i_4 rfl rfl) rfl ?_
    refine pv tb 2 rfl ?_
    refine TO_nil ?_
    refine T_cond (t := decide (x_i_4.b < most1)) rfl (fun c_6 => ?_) (fun c_6 => ?_)
    ·replace H := cond_t c_6 H
     refine T_region ?_
     refine pv tb 3 rfl ?_
     refine Tp rfl rfl (pur_ixM (T := tConflictEdge) sl24 rfl rfl rfl hx_i_4 rfl) rfl ?_
     refine Tp rfl rfl (pur_ldEK (f := tConflictEdge.enc) (k := tConflictEdge.k) (i := i_4) (off := 0) tConflictEdge.len rfl agg45 rfl rfl rfl hx_i_4 (by decide) rfl) rfl ?_
     refine TO_cons rfl (TOp_lit (nn := 1) (k := 2) sl24 zero45 rfl rfl rfl rfl (by decide) ?_)
     refine TO_st (σ' := [.box [(sl (tI .u8) r_1.2.b), (intA r_1.2.i), (intA r_1.2.h)], .row (flat tConflictEdge.enc r_1.1.2), .row (flat tConflictEdge.enc keep9), .row (flat tConflictEdge.enc ([x_i_4] : (List ConflictEdge)))]) rfl ?_
     obtain ⟨us_7, h_8, H⟩ := bind_inv H
     refine TO_cons rfl (TOp_appZ (T := tConflictEdge) (f := tConflictEdge.enc) (xs := keep9) (ys := ([x_i_4] : (List ConflictEdge))) tConflictEdge.len sl24 zero45 rfl bytes45 (by decide) rfl rfl rfl rfl (src_mT (f := tConflictEdge.enc) tConflictEdge.len rfl rfl (flat_cell tConflictEdge _)) (flat_cell tConflictEdge _) h_8 (lb rfl) ?_)
     refine toe [(0, (.b 0 0)), (7, (intA most1)), (8, (.m [1] 0 r_1.1.2.length tConflictEdge.k)), (10, (intA (i_4 : Int))), (35, (boolA (decide (x_i_4.b < most1)))), (37, (.m [1] 0 r_1.1.2.length tConflictEdge.k)), (38, (intA (i_4 : Int))), (39, (.e [1] (i_4 * tConflictEdge.k))), (40, (.g (tConflictEdge.enc x_i_4))), (41, (.m [3] 0 ([x_i_4] : (List ConflictEdge)).length tConflictEdge.k)), (42, (.m [2] 0 us_7.length tConflictEdge.k))] rfl ?_
     refine TO_st (σ' := [.box [(sl (tI .u8) r_1.2.b), (intA r_1.2.i), (intA r_1.2.h)], .row (flat tConflictEdge.enc r_1.1.2), .row (flat tConflictEdge.enc us_7), .row (flat tConflictEdge.enc ([x_i_4] : (List ConflictEdge))), .dead]) rfl ?_
     refine pv tb 1 rfl ?_
     refine TO_nil ?_
     refine T_region ?_
     refine pv tb 1 rfl ?_
     refine Tp rfl rfl (pur_add rfl rfl rfl (fits64 (by omega) (by omega))) rfl ?_
     refine pv tb 1 rfl ?_
     refine TO_nil ?_
     obtain rfl := some_inj H
     exact again (r_1.1.2.length - (i_4 + 1)) (i_4 + 1, us_7) (by omega) (w0 3) ⟨rfl, K5_⟩
    ·replace H := cond_f c_6 H
     refine T_skip ?_
     refine T_region ?_
     refine pv tb 1 rfl ?_
     refine Tp rfl rfl (pur_add rfl rfl rfl (fits64 (by omega) (by omega))) rfl ?_
     refine pv tb 1 rfl ?_
     refine TO_nil ?_
     obtain rfl := some_inj H
     exact again (r_1.1.2.length - (i_4 + 1)) (i_4 + 1, keep9) (by omega) (w0 3) ⟨rfl, K5_⟩
   ·replace d5 := of_decide_eq_false d5
    obtain rfl := forS_end L5_ (by omega)
    refine T_exit ?_
    refine then_exit ?_
    refine then_exit ?_
    refine block_exit ?_
    replace H := N5_
    refine T_region ?_
    refine pv tb 2 rfl ?_
    refine TO_nil ?_
    refine sr ?_
    refine TO_cons rfl (TOp_lit (nn := 0) (k := 2) sl24 zero45 rfl rfl rfl rfl (by decide) ?_)
    refine TO_st (σ' := [.box [(sl (tI .u8) r_1.2.b), (intA r_1.2.i), (intA r_1.2.h)], .row (flat tConflictEdge.enc r_1.1.2), .row (flat tConflictEdge.enc keep9), .row (flat tConflictEdge.enc ([] : (List ConflictEdge)))]) rfl ?_
    refine pv tb 1 rfl ?_
    refine TO_nil ?_
    refine T_seq ?_
    refine sr ?_
    refine pv tb 1 rfl ?_
    refine TO_nil ?_
    obtain ⟨O10_, L10_, N10_⟩ := bind_inv H
    clear H
    obtain ⟨B10_, hb10, L10_⟩ := gen_forS L10_
    refine T_block ?_
    refine T_loopX (fun k => fun (⟨i_9, p11, box0⟩ : Nat × (List ConflictEdge) × l1Cur) => k = keep9.length - i_9 ∧ forS B10_ (keep9.drop i_9) (i_9 : Int) (p11, box0) = some O10_) (fun (⟨i_9, p11, box0⟩ : Nat × (List ConflictEdge) × l1Cur) => [(0, (.b 0 0)), (7, (intA most1)), (8, (.m [2] 0 keep9.length tConflictEdge.k)), (11, (.m [3] 0 p11.length tConflictEdge.k)), (12, (intA (i_9 : Int)))]) (fun (⟨i_9, p11, box0⟩ : Nat × (List ConflictEdge) × l1Cur) => [.box [(sl (tI .u8) box0.b), (intA box0.i), (intA box0.h)], .row (flat tConflictEdge.enc r_1.1.2), .row (flat tConflictEdge.enc keep9), .row (flat tConflictEdge.enc p11)]) _ (0, (([] : (List ConflictEdge)), r_1.2)) (w0 4) ⟨rfl, L10_⟩ ?_
    rintro _ ⟨i_9, p11, box0⟩ ⟨rfl, L10_⟩
    refine T_fact (len_m (.tmp 8) rfl) (fun hl10 => ?_)
    refine T_seq ?_
    refine sr ?_
    refine pv tb 2 rfl ?_
    refine Tp rfl rfl (pur_len_m sl24 rfl rfl) rfl ?_
    refine pv tb 1 rfl ?_
    refine TO_nil ?_
    refine T_cond (t := decide ((i_9 : Int) < (keep9.length : Int))) rfl (fun d10 => ?_) (fun d10 => ?_)
    ·replace d10 := of_decide_eq_true d10
     obtain ⟨x_i_9, hx_i_9⟩ : ∃ v, (keep9)[i_9]? = some v := ⟨_, List.getElem?_eq_getElem (by omega)⟩
     obtain ⟨C10_, H, K10_⟩ := forS_step L10_ hx_i_9
     rw [hb10] at H
     refine T_skip ?_
     refine T_seq ?_
     refine T_block ?_
     refine sr ?_
     obtain ⟨r_11, h_12, H⟩ := bind_inv H
     refine pv tb 1 rfl ?_
     refine TO_cons rfl (TOp_callS [0] (call_static ent47 rfl) (by decide) rfl rfl rfl rfl rfl rfl (m_spec_l1Below_x _ _ _ h_12) rfl rfl ?_)
     refine toe [(0, (.b 0 0)), (7, (intA most1)), (8, (.m [2] 0 keep9.length tConflictEdge.k)), (11, (.m [3] 0 p11.length tConflictEdge.k)), (12, (intA (i_9 : Int))), (51, (.b 0 0)), (52, (intA r_11.1))] rfl ?_
     refine TO_st (σ' := [.box [(sl (tI .u8) r_11.2.b), (intA r_11.2.i), (intA r_11.2.h)], .row (flat tConflictEdge.enc r_1.1.2), .row (flat tConflictEdge.enc keep9), .row (flat tConflictEdge.enc p11)]) rfl ?_
     refine TO_nil ?_
     refine T_block ?_
     refine sr ?_
     refine pv tb 2 rfl ?_
     refine TO_nil ?_
     refine T_cond (t := decide (r_11.1 = 0)) rfl (fun c_13 => ?_) (fun c_13 => ?_)
     ·replace H := cond_t c_13 H
      refine T_region ?_
      refine pv tb 3 rfl ?_
      refine Tp rfl rfl (pur_ixM (T := tConflictEdge) sl24 rfl rfl rfl hx_i_9 rfl) rfl ?_
      refine Tp rfl rfl (pur_ldEK (f := tConflictEdge.enc) (k := tConflictEdge.k) (i := i_9) (off := 0) tConflictEdge.len rfl agg45 rfl rfl rfl hx_i_9 (by decide) rfl) rfl ?_
      refine TO_cons rfl (TOp_lit (nn := 1) (k := 2) sl24 zero45 rfl rfl rfl rfl (by decide) ?_)
      refine TO_st (σ' := [.box [(sl (tI .u8) r_11.2.b), (intA r_11.2.i), (intA r_11.2.h)], .row (flat tConflictEdge.enc r_1.1.2), .row (flat tConflictEdge.enc keep9), .row (flat tConflictEdge.enc p11), .row (flat tConflictEdge.enc ([x_i_9] : (List ConflictEdge)))]) rfl ?_
      obtain ⟨us_14, h_15, H⟩ := bind_inv H
      refine TO_cons rfl (TOp_appZ (T := tConflictEdge) (f := tConflictEdge.enc) (xs := p11) (ys := ([x_i_9] : (List ConflictEdge))) tConflictEdge.len sl24 zero45 rfl bytes45 (by decide) rfl rfl rfl rfl (src_mT (f := tConflictEdge.enc) tConflictEdge.len rfl rfl (flat_cell tConflictEdge _)) (flat_cell tConflictEdge _) h_15 (lb rfl) ?_)
      refine toe [(0, (.b 0 0)), (7, (intA most1)), (8, (.m [2] 0 keep9.length tConflictEdge.k)), (12, (intA (i_9 : Int))), (52, (intA r_11.1)), (53, (boolA (decide (r_11.1 = 0)))), (56, (.m [2] 0 keep9.length tConflictEdge.k)), (57, (intA (i_9 : Int))), (58, (.e [2] (i_9 * tConflictEdge.k))), (59, (.g (tConflictEdge.enc x_i_9))), (60, (.m [4] 0 ([x_i_9] : (List ConflictEdge)).length tConflictEdge.k)), (61, (.m [3] 0 us_14.length tConflictEdge.k))] rfl ?_
      refine TO_st (σ' := [.box [(sl (tI .u8) r_11.2.b), (intA r_11.2.i), (intA r_11.2.h)], .row (flat tConflictEdge.enc r_1.1.2), .row (flat tConflictEdge.enc keep9), .row (flat tConflictEdge.enc us_14), .row (flat tConflictEdge.enc ([x_i_9] : (List ConflictEdge))), .dead]) rfl ?_
      refine pv tb 1 rfl ?_
      refine TO_nil ?_
      refine T_region ?_
      refine pv tb 1 rfl ?_
      refine Tp rfl rfl (pur_add rfl rfl rfl (fits64 (by omega) (by omega))) rfl ?_
      refine pv tb 1 rfl ?_
      refine TO_nil ?_
      obtain rfl := some_inj H
      exact again (keep9.length - (i_9 + 1)) (i_9 + 1, (us_14, r_11.2)) (by omega) (w0 4) ⟨rfl, K10_⟩
     ·replace H := cond_f c_13 H
      refine sr ?_
      refine pv tb 2 rfl ?_
      refine TO_nil ?_
      refine T_cond (t := decide (r_11.1 = 1)) rfl (fun c_16 => ?_) (fun c_16 => ?_)
      ·replace H := cond_t c_16 H
       refine sr ?_
       obtain ⟨r_17, h_18, H⟩ := bind_inv H
       refine pv tb 1 rfl ?_
       refine TO_cons rfl (TOp_callS [0] (call_static ent48 rfl) (by decide) rfl rfl rfl rfl rfl rfl (m_spec_l1Once_x _ _ _ h_18) rfl rfl ?_)
       refine toe [(0, (.b 0 0)), (7, (intA most1)), (8, (.m [2] 0 keep9.length tConflictEdge.k)), (11, (.m [3] 0 p11.length tConflictEdge.k)), (12, (intA (i_9 : Int))), (62, (boolA (decide (r_11.1 = 1)))), (64, (.b 0 0)), (65, (boolA r_17.1))] rfl ?_
       refine TO_st (σ' := [.box [(sl (tI .u8) r_17.2.b), (intA r_17.2.i), (intA r_17.2.h)], .row (flat tConflictEdge.enc r_1.1.2), .row (flat tConflictEdge.enc keep9), .row (flat tConflictEdge.enc p11)]) rfl ?_
       refine TO_nil ?_
       refine T_cond (t := r_17.1) rfl (fun c_19 => ?_) (fun c_19 => ?_)
       ·replace H := cond_t c_19 H
        obtain ⟨us_20, h_21, H⟩ := bind_inv H
        refine T_pad ?_
        refine T_pad ?_
        refine T_regionPh 4 14 mixed rfl (by kernel_rfl) ?_
        refine TA_have 3 #[true, true, true, true, true, true, true, true, true, true, true, false, false, false] [(0, (.b 0 0)), (7, (intA most1)), (8, (.m [2] 0 keep9.length tConflictEdge.k)), (11, (.m [3] 0 p11.length tConflictEdge.k)), (12, (intA (i_9 : Int))), (66, (.m [3] 0 p11.length tConflictEdge.k)), (71, (intA x_i_9.b)), (76, (intA x_i_9.a))] [.dead, .row (flat tConflictEdge.enc r_1.1.2), .row (flat tConflictEdge.enc keep9), .row (flat tConflictEdge.enc p11), .dead, .dead] ?_ (fun hj0_20 => ?_)
        ·skip
         refine tf 11 rfl (pur_build bld45 rfl rfl) rfl rfl (by kernel_rfl) ?_
         refine t1 12 (by kernel_rfl) rfl rfl (TOp_lit (nn := 1) (k := 2) sl24 zero45 rfl rfl rfl rfl (by decide) ?_)
         refine tmw 4 6 (by decide) (lb rfl) rfl rfl (lb rfl) rfl ?_
         refine t1 13 (by kernel_rfl) rfl rfl (TOp_appY (T := tConflictEdge) (f := tConflictEdge.enc) (xs := p11) (ys := ([({ a := x_i_9.b, b := x_i_9.a } : ConflictEdge)] : (List ConflictEdge))) tConflictEdge.len sl24 zero45 rfl bytes45 (by decide) rfl rfl rfl rfl (src_mT (f := tConflictEdge.enc) tConflictEdge.len rfl rfl (flat_cell tConflictEdge _)) (flat_cell tConflictEdge _) h_21 ?_)
         refine tmw 5 7 (by decide) (lb rfl) rfl rfl (lb rfl) rfl ?_
         refine tae [(0, (.b 0 0)), (7, (intA most1)), (8, (.m [2] 0 keep9.length tConflictEdge.k)), (12, (intA (i_9 : Int))), (79, (.m [5] 0 us_20.length tConflictEdge.k))] rfl ?_
         refine TA_st (σ' := [.dead, .row (flat tConflictEdge.enc r_1.1.2), .row (flat tConflictEdge.enc keep9), .dead, .row (flat tConflictEdge.enc ([({ a := x_i_9.b, b := x_i_9.a } : ConflictEdge)] : (List ConflictEdge))), .row (flat tConflictEdge.enc us_20), .dead, .dead]) rfl ?_
         refine TA_nil (by kernel_rfl) ?_
         refine TA_st (σ' := [.box [(sl (tI .u8) r_17.2.b), (intA r_17.2.i), (intA r_17.2.h)], .row (flat tConflictEdge.enc r_1.1.2), .row (flat tConflictEdge.enc keep9), .dead, .row (flat tConflictEdge.enc ([({ a := x_i_9.b, b := x_i_9.a } : ConflictEdge)] : (List ConflictEdge))), .row (flat tConflictEdge.enc us_20), .dead, .dead]) rfl ?_
         refine tmw 3 5 (by decide) (lb rfl) rfl rfl (lb rfl) rfl ?_
         refine pa tb [14] 0 rfl (by kernel_rfl) rfl ?_
         refine TA_nil (by kernel_rfl) ?_
         refine T_region ?_
         refine pv tb 1 rfl ?_
         refine Tp rfl rfl (pur_add rfl rfl rfl (fits64 (by omega) (by omega))) rfl ?_
         refine pv tb 1 rfl ?_
         refine TO_nil ?_
         obtain rfl := some_inj H
         exact again (keep9.length - (i_9 + 1)) (i_9 + 1, (us_20, r_17.2)) (by omega) (w0 4) ⟨rfl, K10_⟩
        refine pa tb [0, 1, 2] 11 rfl (by kernel_rfl) rfl ?_
        refine tf 3 rfl (pur_ixM (T := tConflictEdge) sl24 rfl rfl rfl hx_i_9 rfl) rfl rfl (by kernel_rfl) ?_
        refine pa tb [4, 6, 7] 7 rfl (by kernel_rfl) rfl ?_
        refine tf 8 rfl (pur_ixM (T := tConflictEdge) sl24 rfl rfl rfl hx_i_9 rfl) rfl rfl (by kernel_rfl) ?_
        refine pa tb [9] 5 rfl (by kernel_rfl) rfl ?_
        refine TA_all [5, 10] (by kernel_rfl) (by decide) ⟨?_, ?_, trivial⟩
        ·skip
         refine ⟨_, rfl, rfl, (TOp_pure (pur_ldE (f := tConflictEdge.enc) (k := tConflictEdge.k) (i := i_9) (off := 1) tConflictEdge.len rfl one3 rfl rfl rfl hx_i_9 rfl rfl) rfl ?_)⟩
         refine t1 10 (by kernel_rfl) rfl rfl (TOp_pure (pur_ldE (f := tConflictEdge.enc) (k := tConflictEdge.k) (i := i_9) (off := 0) tConflictEdge.len rfl one3 rfl rfl rfl hx_i_9 rfl rfl) rfl ?_)
         exact tj hj0_20 rfl (w0 6)
        ·skip
         refine ⟨_, rfl, rfl, (TOp_pure (pur_ldE (f := tConflictEdge.enc) (k := tConflictEdge.k) (i := i_9) (off := 0) tConflictEdge.len rfl one3 rfl rfl rfl hx_i_9 rfl rfl) rfl ?_)⟩
         refine t1 5 (by kernel_rfl) rfl rfl (TOp_pure (pur_ldE (f := tConflictEdge.enc) (k := tConflictEdge.k) (i := i_9) (off := 1) tConflictEdge.len rfl one3 rfl rfl rfl hx_i_9 rfl rfl) rfl ?_)
         exact tj hj0_20 rfl (w0 6)
       ·replace H := cond_f c_19 H
        refine T_skip ?_
        refine T_region ?_
        refine pv tb 1 rfl ?_
        refine Tp rfl rfl (pur_add rfl rfl rfl (fits64 (by omega) (by omega))) rfl ?_
        refine pv tb 1 rfl ?_
        refine TO_nil ?_
        obtain rfl := some_inj H
        exact again (keep9.length - (i_9 + 1)) (i_9 + 1, (p11, r_17.2)) (by omega) (w0 4) ⟨rfl, K10_⟩
      ·replace H := cond_f c_16 H
       refine T_skip ?_
       refine T_region ?_
       refine pv tb 1 rfl ?_
       refine Tp rfl rfl (pur_add rfl rfl rfl (fits64 (by omega) (by omega))) rfl ?_
       refine pv tb 1 rfl ?_
       refine TO_nil ?_
       obtain rfl := some_inj H
       exact again (keep9.length - (i_9 + 1)) (i_9 + 1, (p11, r_11.2)) (by omega) (w0 4) ⟨rfl, K10_⟩
    ·replace d10 := of_decide_eq_false d10
     obtain rfl := forS_end L10_ (by omega)
     refine T_exit ?_
     refine then_exit ?_
     refine then_exit ?_
     refine block_exit ?_
     replace H := N10_
     refine T_seq ?_
     refine sr ?_
     obtain ⟨r_22, h_23, H⟩ := bind_inv H
     refine pv tb 1 rfl ?_
     refine TO_cons rfl (TOp_callS [0] (call_static ent48 rfl) (by decide) rfl rfl rfl rfl rfl rfl (m_spec_l1Once_x _ _ _ h_23) rfl rfl ?_)
     refine toe [(0, (.b 0 0)), (7, (intA most1)), (8, (.m [2] 0 keep9.length tConflictEdge.k)), (11, (.m [3] 0 p11.length tConflictEdge.k)), (80, (.b 0 0)), (81, (boolA r_22.1))] rfl ?_
     refine TO_st (σ' := [.box [(sl (tI .u8) r_22.2.b), (intA r_22.2.i), (intA r_22.2.h)], .row (flat tConflictEdge.enc r_1.1.2), .row (flat tConflictEdge.enc keep9), .row (flat tConflictEdge.enc p11)]) rfl ?_
     refine TO_nil ?_
     refine T_cond (t := r_22.1) rfl (fun c_24 => ?_) (fun c_24 => ?_)
     ·replace H := cond_t c_24 H
      refine T_region ?_
      obtain ⟨r_25, h_26, H⟩ := bind_inv H
      refine pv tb 2 rfl ?_
      refine TO_cons rfl (TOp_callS [0] (call_static ent47 rfl) (by decide) rfl rfl rfl rfl rfl rfl (m_spec_l1Below_x _ _ _ h_26) rfl rfl ?_)
      refine toe [(0, (.b 0 0)), (7, (intA most1)), (8, (.m [2] 0 keep9.length tConflictEdge.k)), (11, (.m [3] 0 p11.length tConflictEdge.k)), (81, (boolA r_22.1)), (82, (.m [3] 0 p11.length tConflictEdge.k)), (83, (.b 0 0)), (84, (intA r_25.1))] rfl ?_
      refine TO_st (σ' := [.box [(sl (tI .u8) r_25.2.b), (intA r_25.2.i), (intA r_25.2.h)], .row (flat tConflictEdge.enc r_1.1.2), .row (flat tConflictEdge.enc keep9), .row (flat tConflictEdge.enc p11)]) rfl ?_
      obtain ⟨r_27, h_28, H⟩ := bind_inv H
      refine pv tb 1 rfl ?_
      refine TO_cons rfl (TOp_callS [0] (call_static ent47 rfl) (by decide) rfl rfl rfl rfl rfl rfl (m_spec_l1Below_x _ _ _ h_28) rfl rfl ?_)
      refine toe [(0, (.b 0 0)), (7, (intA most1)), (8, (.m [2] 0 keep9.length tConflictEdge.k)), (11, (.m [3] 0 p11.length tConflictEdge.k)), (81, (boolA r_22.1)), (82, (.m [3] 0 p11.length tConflictEdge.k)), (83, (.b 0 0)), (84, (intA r_25.1)), (85, (.b 0 0)), (86, (intA r_27.1))] rfl ?_
      refine TO_st (σ' := [.box [(sl (tI .u8) r_27.2.b), (intA r_27.2.i), (intA r_27.2.h)], .row (flat tConflictEdge.enc r_1.1.2), .row (flat tConflictEdge.enc keep9), .row (flat tConflictEdge.enc p11)]) rfl ?_
      refine Tp rfl rfl (pur_build bld45 rfl rfl) rfl ?_
      refine TO_cons rfl (TOp_lit (nn := 1) (k := 2) sl24 zero45 rfl rfl rfl rfl (by decide) ?_)
      refine TO_st (σ' := [.box [(sl (tI .u8) r_27.2.b), (intA r_27.2.i), (intA r_27.2.h)], .row (flat tConflictEdge.enc r_1.1.2), .row (flat tConflictEdge.enc keep9), .row (flat tConflictEdge.enc p11), .row (flat tConflictEdge.enc ([({ a := r_25.1, b := r_27.1 } : ConflictEdge)] : (List ConflictEdge)))]) rfl ?_
      obtain ⟨us_29, h_30, H⟩ := bind_inv H
      refine TO_cons rfl (TOp_appZ (T := tConflictEdge) (f := tConflictEdge.enc) (xs := p11) (ys := ([({ a := r_25.1, b := r_27.1 } : ConflictEdge)] : (List ConflictEdge))) tConflictEdge.len sl24 zero45 rfl bytes45 (by decide) rfl rfl rfl rfl (src_mT (f := tConflictEdge.enc) tConflictEdge.len rfl rfl (flat_cell tConflictEdge _)) (flat_cell tConflictEdge _) h_30 (lb rfl) ?_)
      refine toe [(0, (.b 0 0)), (7, (intA most1)), (8, (.m [2] 0 keep9.length tConflictEdge.k)), (81, (boolA r_22.1)), (83, (.b 0 0)), (84, (intA r_25.1)), (85, (.b 0 0)), (86, (intA r_27.1)), (87, (.g [(intA r_25.1), (intA r_27.1)])), (88, (.m [4] 0 ([({ a := r_25.1, b := r_27.1 } : ConflictEdge)] : (List ConflictEdge)).length tConflictEdge.k)), (89, (.m [3] 0 us_29.length tConflictEdge.k))] rfl ?_
      refine TO_st (σ' := [.box [(sl (tI .u8) r_27.2.b), (intA r_27.2.i), (intA r_27.2.h)], .row (flat tConflictEdge.enc r_1.1.2), .row (flat tConflictEdge.enc keep9), .row (flat tConflictEdge.enc us_29), .row (flat tConflictEdge.enc ([({ a := r_25.1, b := r_27.1 } : ConflictEdge)] : (List ConflictEdge))), .dead]) rfl ?_
      refine pv tb 1 rfl ?_
      refine TO_nil ?_
      refine sr ?_
      refine pv tb 6 rfl ?_
      refine TO_nil ?_
      refine te [(4, (intA most1)), (5, (.m [2] 0 keep9.length tConflictEdge.k)), (6, (.m [3] 0 us_29.length tConflictEdge.k))] rfl ?_
      refine T_ret ?_
      obtain rfl := some_inj H
      exact end_pickX (.tmp (.tmp (.tmp .nil))) rfl [0, 2, 3] (by decide) (lb rfl) rfl (lb rfl) rfl rfl rfl rfl rfl rfl
     ·replace H := cond_f c_24 H
      refine T_skip ?_
      refine sr ?_
      refine pv tb 6 rfl ?_
      refine TO_nil ?_
      refine T_ret ?_
      obtain rfl := some_inj H
      exact end_pickX (.tmp (.tmp (.tmp .nil))) rfl [0, 2, 3] (by decide) (lb rfl) rfl (lb rfl) rfl rfl rfl rfl rfl rfl
  ·replace H := cond_f c_3 H
   refine T_skip ?_
   refine sr ?_
   refine TO_cons rfl (TOp_lit (nn := 0) (k := 2) sl24 zero45 rfl rfl rfl rfl (by decide) ?_)
   refine TO_st (σ' := [.box [(sl (tI .u8) r_1.2.b), (intA r_1.2.i), (intA r_1.2.h)], .row (flat tConflictEdge.enc r_1.1.2), .row (flat tConflictEdge.enc ([] : (List ConflictEdge)))]) rfl ?_
   refine pv tb 1 rfl ?_
   refine TO_nil ?_
   refine T_seq ?_
   refine sr ?_
   refine pv tb 1 rfl ?_
   refine TO_nil ?_
   obtain ⟨O32_, L32_, N32_⟩ := bind_inv H
   clear H
   obtain ⟨B32_, hb32, L32_⟩ := gen_forS L32_
   refine T_block ?_
   refine T_loopX (fun k => fun (⟨i_31, p11, box0⟩ : Nat × (List ConflictEdge) × l1Cur) => k = r_1.1.2.length - i_31 ∧ forS B32_ (r_1.1.2.drop i_31) (i_31 : Int) (p11, box0) = some O32_) (fun (⟨i_31, p11, box0⟩ : Nat × (List ConflictEdge) × l1Cur) => [(0, (.b 0 0)), (7, (intA r_1.1.1)), (8, (.m [1] 0 r_1.1.2.length tConflictEdge.k)), (11, (.m [2] 0 p11.length tConflictEdge.k)), (12, (intA (i_31 : Int)))]) (fun (⟨i_31, p11, box0⟩ : Nat × (List ConflictEdge) × l1Cur) => [.box [(sl (tI .u8) box0.b), (intA box0.i), (intA box0.h)], .row (flat tConflictEdge.enc r_1.1.2), .row (flat tConflictEdge.enc p11)]) _ (0, (([] : (List ConflictEdge)), r_1.2)) (w0 3) ⟨rfl, L32_⟩ ?_
   rintro _ ⟨i_31, p11, box0⟩ ⟨rfl, L32_⟩
   refine T_fact (len_m (.tmp 8) rfl) (fun hl32 => ?_)
   refine T_seq ?_
   refine sr ?_
   refine pv tb 2 rfl ?_
   refine Tp rfl rfl (pur_len_m sl24 rfl rfl) rfl ?_
   refine pv tb 1 rfl ?_
   refine TO_nil ?_
   refine T_cond (t := decide ((i_31 : Int) < (r_1.1.2.length : Int))) rfl (fun d32 => ?_) (fun d32 => ?_)
   ·replace d32 := of_decide_eq_true d32
    obtain ⟨x_i_31, hx_i_31⟩ : ∃ v, (r_1.1.2)[i_31]? = some v := ⟨_, List.getElem?_eq_getElem (by omega)⟩
    obtain ⟨C32_, H, K32_⟩ := forS_step L32_ hx_i_31
    rw [hb32] at H
    refine T_skip ?_
    refine T_seq ?_
    refine T_block ?_
    refine sr ?_
    obtain ⟨r_33, h_34, H⟩ := bind_inv H
    refine pv tb 1 rfl ?_
    refine TO_cons rfl (TOp_callS [0] (call_static ent47 rfl) (by decide) rfl rfl rfl rfl rfl rfl (m_spec_l1Below_x _ _ _ h_34) rfl rfl ?_)
    refine toe [(0, (.b 0 0)), (7, (intA r_1.1.1)), (8, (.m [1] 0 r_1.1.2.length tConflictEdge.k)), (11, (.m [2] 0 p11.length tConflictEdge.k)), (12, (intA (i_31 : Int))), (51, (.b 0 0)), (52, (intA r_33.1))] rfl ?_
    refine TO_st (σ' := [.box [(sl (tI .u8) r_33.2.b), (intA r_33.2.i), (intA r_33.2.h)], .row (flat tConflictEdge.enc r_1.1.2), .row (flat tConflictEdge.enc p11)]) rfl ?_
    refine TO_nil ?_
    refine T_block ?_
    refine sr ?_
    refine pv tb 2 rfl ?_
    refine TO_nil ?_
    refine T_cond (t := decide (r_33.1 = 0)) rfl (fun c_35 => ?_) (fun c_35 => ?_)
    ·replace H := cond_t c_35 H
     refine T_region ?_
     refine pv tb 3 rfl ?_
     refine Tp rfl rfl (pur_ixM (T := tConflictEdge) sl24 rfl rfl rfl hx_i_31 rfl) rfl ?_
     refine Tp rfl rfl (pur_ldEK (f := tConflictEdge.enc) (k := tConflictEdge.k) (i := i_31) (off := 0) tConflictEdge.len rfl agg45 rfl rfl rfl hx_i_31 (by decide) rfl) rfl ?_
     refine TO_cons rfl (TOp_lit (nn := 1) (k := 2) sl24 zero45 rfl rfl rfl rfl (by decide) ?_)
     refine TO_st (σ' := [.box [(sl (tI .u8) r_33.2.b), (intA r_33.2.i), (intA r_33.2.h)], .row (flat tConflictEdge.enc r_1.1.2), .row (flat tConflictEdge.enc p11), .row (flat tConflictEdge.enc ([x_i_31] : (List ConflictEdge)))]) rfl ?_
     obtain ⟨us_36, h_37, H⟩ := bind_inv H
     refine TO_cons rfl (TOp_appZ (T := tConflictEdge) (f := tConflictEdge.enc) (xs := p11) (ys := ([x_i_31] : (List ConflictEdge))) tConflictEdge.len sl24 zero45 rfl bytes45 (by decide) rfl rfl rfl rfl (src_mT (f := tConflictEdge.enc) tConflictEdge.len rfl rfl (flat_cell tConflictEdge _)) (flat_cell tConflictEdge _) h_37 (lb rfl) ?_)
     refine toe [(0, (.b 0 0)), (7, (intA r_1.1.1)), (8, (.m [1] 0 r_1.1.2.length tConflictEdge.k)), (12, (intA (i_31 : Int))), (52, (intA r_33.1)), (53, (boolA (decide (r_33.1 = 0)))), (56, (.m [1] 0 r_1.1.2.length tConflictEdge.k)), (57, (intA (i_31 : Int))), (58, (.e [1] (i_31 * tConflictEdge.k))), (59, (.g (tConflictEdge.enc x_i_31))), (60, (.m [3] 0 ([x_i_31] : (List ConflictEdge)).length tConflictEdge.k)), (61, (.m [2] 0 us_36.length tConflictEdge.k))] rfl ?_
     refine TO_st (σ' := [.box [(sl (tI .u8) r_33.2.b), (intA r_33.2.i), (intA r_33.2.h)], .row (flat tConflictEdge.enc r_1.1.2), .row (flat tConflictEdge.enc us_36), .row (flat tConflictEdge.enc ([x_i_31] : (List ConflictEdge))), .dead]) rfl ?_
     refine pv tb 1 rfl ?_
     refine TO_nil ?_
     refine T_region ?_
     refine pv tb 1 rfl ?_
     refine Tp rfl rfl (pur_add rfl rfl rfl (fits64 (by omega) (by omega))) rfl ?_
     refine pv tb 1 rfl ?_
     refine TO_nil ?_
     obtain rfl := some_inj H
     exact again (r_1.1.2.length - (i_31 + 1)) (i_31 + 1, (us_36, r_33.2)) (by omega) (w0 3) ⟨rfl, K32_⟩
    ·replace H := cond_f c_35 H
     refine sr ?_
     refine pv tb 2 rfl ?_
     refine TO_nil ?_
     refine T_cond (t := decide (r_33.1 = 1)) rfl (fun c_38 => ?_) (fun c_38 => ?_)
     ·replace H := cond_t c_38 H
      refine sr ?_
      obtain ⟨r_39, h_40, H⟩ := bind_inv H
      refine pv tb 1 rfl ?_
      refine TO_cons rfl (TOp_callS [0] (call_static ent48 rfl) (by decide) rfl rfl rfl rfl rfl rfl (m_spec_l1Once_x _ _ _ h_40) rfl rfl ?_)
      refine toe [(0, (.b 0 0)), (7, (intA r_1.1.1)), (8, (.m [1] 0 r_1.1.2.length tConflictEdge.k)), (11, (.m [2] 0 p11.length tConflictEdge.k)), (12, (intA (i_31 : Int))), (62, (boolA (decide (r_33.1 = 1)))), (64, (.b 0 0)), (65, (boolA r_39.1))] rfl ?_
      refine TO_st (σ' := [.box [(sl (tI .u8) r_39.2.b), (intA r_39.2.i), (intA r_39.2.h)], .row (flat tConflictEdge.enc r_1.1.2), .row (flat tConflictEdge.enc p11)]) rfl ?_
      refine TO_nil ?_
      refine T_cond (t := r_39.1) rfl (fun c_41 => ?_) (fun c_41 => ?_)
      ·replace H := cond_t c_41 H
       obtain ⟨us_42, h_43, H⟩ := bind_inv H
       refine T_pad ?_
       refine T_pad ?_
       refine T_regionPh 3 14 mixed rfl (by kernel_rfl) ?_
       refine TA_have 3 #[true, true, true, true, true, true, true, true, true, true, true, false, false, false] [(0, (.b 0 0)), (7, (intA r_1.1.1)), (8, (.m [1] 0 r_1.1.2.length tConflictEdge.k)), (11, (.m [2] 0 p11.length tConflictEdge.k)), (12, (intA (i_31 : Int))), (66, (.m [2] 0 p11.length tConflictEdge.k)), (71, (intA x_i_31.b)), (76, (intA x_i_31.a))] [.dead, .row (flat tConflictEdge.enc r_1.1.2), .row (flat tConflictEdge.enc p11), .dead, .dead] ?_ (fun hj0_20 => ?_)
       ·skip
        refine tf 11 rfl (pur_build bld45 rfl rfl) rfl rfl (by kernel_rfl) ?_
        refine t1 12 (by kernel_rfl) rfl rfl (TOp_lit (nn := 1) (k := 2) sl24 zero45 rfl rfl rfl rfl (by decide) ?_)
        refine tmw 3 5 (by decide) (lb rfl) rfl rfl (lb rfl) rfl ?_
        refine t1 13 (by kernel_rfl) rfl rfl (TOp_appY (T := tConflictEdge) (f := tConflictEdge.enc) (xs := p11) (ys := ([({ a := x_i_31.b, b := x_i_31.a } : ConflictEdge)] : (List ConflictEdge))) tConflictEdge.len sl24 zero45 rfl bytes45 (by decide) rfl rfl rfl rfl (src_mT (f := tConflictEdge.enc) tConflictEdge.len rfl rfl (flat_cell tConflictEdge _)) (flat_cell tConflictEdge _) h_43 ?_)
        refine tmw 4 6 (by decide) (lb rfl) rfl rfl (lb rfl) rfl ?_
        refine tae [(0, (.b 0 0)), (7, (intA r_1.1.1)), (8, (.m [1] 0 r_1.1.2.length tConflictEdge.k)), (12, (intA (i_31 : Int))), (79, (.m [4] 0 us_42.length tConflictEdge.k))] rfl ?_
        refine TA_st (σ' := [.dead, .row (flat tConflictEdge.enc r_1.1.2), .dead, .row (flat tConflictEdge.enc ([({ a := x_i_31.b, b := x_i_31.a } : ConflictEdge)] : (List ConflictEdge))), .row (flat tConflictEdge.enc us_42), .dead, .dead]) rfl ?_
        refine TA_nil (by kernel_rfl) ?_
        refine TA_st (σ' := [.box [(sl (tI .u8) r_39.2.b), (intA r_39.2.i), (intA r_39.2.h)], .row (flat tConflictEdge.enc r_1.1.2), .dead, .row (flat tConflictEdge.enc ([({ a := x_i_31.b, b := x_i_31.a } : ConflictEdge)] : (List ConflictEdge))), .row (flat tConflictEdge.enc us_42), .dead, .dead]) rfl ?_
        refine tmw 2 4 (by decide) (lb rfl) rfl rfl (lb rfl) rfl ?_
        refine pa tb [14] 0 rfl (by kernel_rfl) rfl ?_
        refine TA_nil (by kernel_rfl) ?_
        refine T_region ?_
        refine pv tb 1 rfl ?_
        refine Tp rfl rfl (pur_add rfl rfl rfl (fits64 (by omega) (by omega))) rfl ?_
        refine pv tb 1 rfl ?_
        refine TO_nil ?_
        obtain rfl := some_inj H
        exact again (r_1.1.2.length - (i_31 + 1)) (i_31 + 1, (us_42, r_39.2)) (by omega) (w0 3) ⟨rfl, K32_⟩
       refine pa tb [0, 1, 2] 11 rfl (by kernel_rfl) rfl ?_
       refine tf 3 rfl (pur_ixM (T := tConflictEdge) sl24 rfl rfl rfl hx_i_31 rfl) rfl rfl (by kernel_rfl) ?_
       refine pa tb [4, 6, 7] 7 rfl (by kernel_rfl) rfl ?_
       refine tf 8 rfl (pur_ixM (T := tConflictEdge) sl24 rfl rfl rfl hx_i_31 rfl) rfl rfl (by kernel_rfl) ?_
       refine pa tb [9] 5 rfl (by kernel_rfl) rfl ?_
       refine TA_all [5, 10] (by kernel_rfl) (by decide) ⟨?_, ?_, trivial⟩
       ·skip
        refine ⟨_, rfl, rfl, (TOp_pure (pur_ldE (f := tConflictEdge.enc) (k := tConflictEdge.k) (i := i_31) (off := 1) tConflictEdge.len rfl one3 rfl rfl rfl hx_i_31 rfl rfl) rfl ?_)⟩
        refine t1 10 (by kernel_rfl) rfl rfl (TOp_pure (pur_ldE (f := tConflictEdge.enc) (k := tConflictEdge.k) (i := i_31) (off := 0) tConflictEdge.len rfl one3 rfl rfl rfl hx_i_31 rfl rfl) rfl ?_)
        exact tj hj0_20 rfl (w0 5)
       ·skip
        refine ⟨_, rfl, rfl, (TOp_pure (pur_ldE (f := tConflictEdge.enc) (k := tConflictEdge.k) (i := i_31) (off := 0) tConflictEdge.len rfl one3 rfl rfl rfl hx_i_31 rfl rfl) rfl ?_)⟩
        refine t1 5 (by kernel_rfl) rfl rfl (TOp_pure (pur_ldE (f := tConflictEdge.enc) (k := tConflictEdge.k) (i := i_31) (off := 1) tConflictEdge.len rfl one3 rfl rfl rfl hx_i_31 rfl rfl) rfl ?_)
        exact tj hj0_20 rfl (w0 5)
      ·replace H := cond_f c_41 H
       refine T_skip ?_
       refine T_region ?_
       refine pv tb 1 rfl ?_
       refine Tp rfl rfl (pur_add rfl rfl rfl (fits64 (by omega) (by omega))) rfl ?_
       refine pv tb 1 rfl ?_
       refine TO_nil ?_
       obtain rfl := some_inj H
       exact again (r_1.1.2.length - (i_31 + 1)) (i_31 + 1, (p11, r_39.2)) (by omega) (w0 3) ⟨rfl, K32_⟩
     ·replace H := cond_f c_38 H
      refine T_skip ?_
      refine T_region ?_
      refine pv tb 1 rfl ?_
      refine Tp rfl rfl (pur_add rfl rfl rfl (fits64 (by omega) (by omega))) rfl ?_
      refine pv tb 1 rfl ?_
      refine TO_nil ?_
      obtain rfl := some_inj H
      exact again (r_1.1.2.length - (i_31 + 1)) (i_31 + 1, (p11, r_33.2)) (by omega) (w0 3) ⟨rfl, K32_⟩
   ·replace d32 := of_decide_eq_false d32
    obtain rfl := forS_end L32_ (by omega)
    refine T_exit ?_
    refine then_exit ?_
    refine then_exit ?_
    refine block_exit ?_
    replace H := N32_
    refine T_seq ?_
    refine sr ?_
    obtain ⟨r_44, h_45, H⟩ := bind_inv H
    refine pv tb 1 rfl ?_
    refine TO_cons rfl (TOp_callS [0] (call_static ent48 rfl) (by decide) rfl rfl rfl rfl rfl rfl (m_spec_l1Once_x _ _ _ h_45) rfl rfl ?_)
    refine toe [(0, (.b 0 0)), (7, (intA r_1.1.1)), (8, (.m [1] 0 r_1.1.2.length tConflictEdge.k)), (11, (.m [2] 0 p11.length tConflictEdge.k)), (80, (.b 0 0)), (81, (boolA r_44.1))] rfl ?_
    refine TO_st (σ' := [.box [(sl (tI .u8) r_44.2.b), (intA r_44.2.i), (intA r_44.2.h)], .row (flat tConflictEdge.enc r_1.1.2), .row (flat tConflictEdge.enc p11)]) rfl ?_
    refine TO_nil ?_
    refine T_cond (t := r_44.1) rfl (fun c_46 => ?_) (fun c_46 => ?_)
    ·replace H := cond_t c_46 H
     refine T_region ?_
     obtain ⟨r_47, h_48, H⟩ := bind_inv H
     refine pv tb 2 rfl ?_
     refine TO_cons rfl (TOp_callS [0] (call_static ent47 rfl) (by decide) rfl rfl rfl rfl rfl rfl (m_spec_l1Below_x _ _ _ h_48) rfl rfl ?_)
     refine toe [(0, (.b 0 0)), (7, (intA r_1.1.1)), (8, (.m [1] 0 r_1.1.2.length tConflictEdge.k)), (11, (.m [2] 0 p11.length tConflictEdge.k)), (81, (boolA r_44.1)), (82, (.m [2] 0 p11.length tConflictEdge.k)), (83, (.b 0 0)), (84, (intA r_47.1))] rfl ?_
     refine TO_st (σ' := [.box [(sl (tI .u8) r_47.2.b), (intA r_47.2.i), (intA r_47.2.h)], .row (flat tConflictEdge.enc r_1.1.2), .row (flat tConflictEdge.enc p11)]) rfl ?_
     obtain ⟨r_49, h_50, H⟩ := bind_inv H
     refine pv tb 1 rfl ?_
     refine TO_cons rfl (TOp_callS [0] (call_static ent47 rfl) (by decide) rfl rfl rfl rfl rfl rfl (m_spec_l1Below_x _ _ _ h_50) rfl rfl ?_)
     refine toe [(0, (.b 0 0)), (7, (intA r_1.1.1)), (8, (.m [1] 0 r_1.1.2.length tConflictEdge.k)), (11, (.m [2] 0 p11.length tConflictEdge.k)), (81, (boolA r_44.1)), (82, (.m [2] 0 p11.length tConflictEdge.k)), (83, (.b 0 0)), (84, (intA r_47.1)), (85, (.b 0 0)), (86, (intA r_49.1))] rfl ?_
     refine TO_st (σ' := [.box [(sl (tI .u8) r_49.2.b), (intA r_49.2.i), (intA r_49.2.h)], .row (flat tConflictEdge.enc r_1.1.2), .row (flat tConflictEdge.enc p11)]) rfl ?_
     refine Tp rfl rfl (pur_build bld45 rfl rfl) rfl ?_
     refine TO_cons rfl (TOp_lit (nn := 1) (k := 2) sl24 zero45 rfl rfl rfl rfl (by decide) ?_)
     refine TO_st (σ' := [.box [(sl (tI .u8) r_49.2.b), (intA r_49.2.i), (intA r_49.2.h)], .row (flat tConflictEdge.enc r_1.1.2), .row (flat tConflictEdge.enc p11), .row (flat tConflictEdge.enc ([({ a := r_47.1, b := r_49.1 } : ConflictEdge)] : (List ConflictEdge)))]) rfl ?_
     obtain ⟨us_51, h_52, H⟩ := bind_inv H
     refine TO_cons rfl (TOp_appZ (T := tConflictEdge) (f := tConflictEdge.enc) (xs := p11) (ys := ([({ a := r_47.1, b := r_49.1 } : ConflictEdge)] : (List ConflictEdge))) tConflictEdge.len sl24 zero45 rfl bytes45 (by decide) rfl rfl rfl rfl (src_mT (f := tConflictEdge.enc) tConflictEdge.len rfl rfl (flat_cell tConflictEdge _)) (flat_cell tConflictEdge _) h_52 (lb rfl) ?_)
     refine toe [(0, (.b 0 0)), (7, (intA r_1.1.1)), (8, (.m [1] 0 r_1.1.2.length tConflictEdge.k)), (81, (boolA r_44.1)), (83, (.b 0 0)), (84, (intA r_47.1)), (85, (.b 0 0)), (86, (intA r_49.1)), (87, (.g [(intA r_47.1), (intA r_49.1)])), (88, (.m [3] 0 ([({ a := r_47.1, b := r_49.1 } : ConflictEdge)] : (List ConflictEdge)).length tConflictEdge.k)), (89, (.m [2] 0 us_51.length tConflictEdge.k))] rfl ?_
     refine TO_st (σ' := [.box [(sl (tI .u8) r_49.2.b), (intA r_49.2.i), (intA r_49.2.h)], .row (flat tConflictEdge.enc r_1.1.2), .row (flat tConflictEdge.enc us_51), .row (flat tConflictEdge.enc ([({ a := r_47.1, b := r_49.1 } : ConflictEdge)] : (List ConflictEdge))), .dead]) rfl ?_
     refine pv tb 1 rfl ?_
     refine TO_nil ?_
     refine sr ?_
     refine pv tb 6 rfl ?_
     refine TO_nil ?_
     refine te [(4, (intA r_1.1.1)), (5, (.m [1] 0 r_1.1.2.length tConflictEdge.k)), (6, (.m [2] 0 us_51.length tConflictEdge.k))] rfl ?_
     refine T_ret ?_
     obtain rfl := some_inj H
     exact end_pickX (.tmp (.tmp (.tmp .nil))) rfl [0, 1, 2] (by decide) (lb rfl) rfl (lb rfl) rfl rfl rfl rfl rfl rfl
    ·replace H := cond_f c_46 H
     refine T_skip ?_
     refine sr ?_
     refine pv tb 6 rfl ?_
     refine TO_nil ?_
     refine T_ret ?_
     obtain rfl := some_inj H
     exact end_pickX (.tmp (.tmp (.tmp .nil))) rfl [0, 1, 2] (by decide) (lb rfl) rfl (lb rfl) rfl rfl rfl rfl rfl rfl

set_option maxHeartbeats 1000000 in
theorem m_spec_l1New_x (u : Nat) (code0 : (List Int)) (r : l1Cur) (H : m_spec_l1New u code0 = some r) : FnS prg 21 [(sl (tI .u8) code0)] [] (.b 0 0) [.box [(sl (tI .u8) r.b), (intA r.i), (intA r.h)]] := by
  unfold m_spec_l1New at H
  refine fnS_of_T Tryz.func21 rfl rfl (Nat.le_of_ble_eq_true rfl) ?_
  refine te [(0, (sl (tI .u8) code0))] rfl ?_
  refine T_st (σ' := []) rfl ?_
  refine sr ?_
  refine pv tb 1 rfl ?_
  refine TO_nil ?_
  refine sr ?_
  refine pv tb 1 rfl ?_
  refine Tp rfl rfl (pur_lenT (T := (tI .u8)) sl22 rfl rfl) rfl ?_
  refine pv tb 2 rfl ?_
  refine TO_nil ?_
  refine T_seq ?_
  refine sr ?_
  refine pv tb 1 rfl ?_
  refine TO_nil ?_
  obtain ⟨O1_, L1_, N1_⟩ := bind_inv H
  clear H
  obtain ⟨B1_, hb1, L1_⟩ := gen_whileF L1_
  refine T_block ?_
  refine T_loopX (fun k => fun (⟨h3, i4⟩ : Int × Int) => whileF B1_ k (h3, i4) = some O1_) (fun (⟨h3, i4⟩ : Int × Int) => [(0, (sl (tI .u8) code0)), (3, (intA h3)), (4, (intA i4))]) (fun (⟨h3, i4⟩ : Int × Int) => []) u ((w64 (10101 + (code0.length : Int))), 0) (w0 0) L1_ ?_
  rintro _ ⟨h3, i4⟩ L1_
  obtain ⟨k1, rfl, C1_, H, K1_⟩ := while_step L1_
  rw [hb1] at H
  refine T_seq ?_
  refine T_cutX (fun x => ((decide (i4 < (code0.length : Int))) && (decide (i4 < 4000))) = x) (fun (t15_2 : Bool) => [(0, (sl (tI .u8) code0)), (3, (intA h3)), (4, (intA i4)), (15, (boolA t15_2))]) (fun (t15_2 : Bool) => []) ?_ ?_
  ·skip
   refine T_region ?_
   refine pv tb 2 rfl ?_
   refine Tp rfl rfl (pur_lenT (T := (tI .u8)) sl22 rfl rfl) rfl ?_
   refine pv tb 2 rfl ?_
   refine TO_split (t := decide (i4 < (code0.length : Int))) 12 rfl (fun g_4 => ?_) (fun g_4 => ?_)
   ·skip
    refine pv tb 3 rfl ?_
    refine TO_nil ?_
    exact joined (decide (i4 < 4000)) (w0 0) (by first | exact Eq.symm ((and_T g_4 rfl)))
   ·skip
    refine pv tb 3 rfl ?_
    refine TO_nil ?_
    exact joined false (w0 0) (by first | exact Eq.symm ((and_F g_4 rfl)))
  ·rintro _ rfl
   refine T_cond (t := ((decide (i4 < (code0.length : Int))) && (decide (i4 < 4000)))) rfl (fun c_5 => ?_) (fun c_5 => ?_)
   ·replace H := cond_t c_5 H
    refine T_skip ?_
    refine T_seq ?_
    refine T_block ?_
    refine T_region ?_
    obtain ⟨v_6, h_7, H⟩ := bind_inv H
    obtain ⟨n_8, hz_9, hv_10⟩ := getI_inv h_7
    refine pv tb 4 rfl ?_
    refine Tp rfl rfl (pur_ixT (T := (tI .u8)) sl22 rfl rfl hz_9 hv_10 rfl) rfl ?_
    refine Tp rfl rfl (pur_ldT (T := (tI .u8)) (i := n_8) (off := 0) rfl one5 rfl rfl hv_10 rfl) rfl ?_
    refine Tp rfl rfl (pur_convI (k := .i64) (k' := .u8) ⟨_, Tryz.underlying5⟩ Tryz.underlying3 rfl rfl) rfl ?_
    refine pv tb 2 rfl ?_
    refine Tp rfl rfl (pur_and rfl rfl rfl) rfl ?_
    refine pv tb 1 rfl ?_
    refine TO_nil ?_
    refine T_region ?_
    refine pv tb 3 rfl ?_
    refine TO_nil ?_
    obtain rfl := some_inj H
    exact again k1 ((bitI .and .i64 (w64 ((w64 ((w64 (h3 * 131)) + (w64 v_6))) + 7)) 1073741823), (w64 (i4 + 1))) (Nat.lt_succ_self _) (w0 0) K1_
   ·replace H := cond_f c_5 H
    refine T_exit ?_
    refine then_exit ?_
    refine then_exit ?_
    refine block_exit ?_
    obtain rfl := some_inj H
    obtain rfl := some_inj K1_
    replace H := onS_l N1_
    refine sr ?_
    refine pv tb 2 rfl ?_
    refine Tp rfl rfl (pur_build bld62 rfl rfl) rfl ?_
    refine TO_cons rfl (TOp_box rfl (boxAll rfl) rfl rfl ?_)
    refine pv tb 1 rfl ?_
    refine TO_nil ?_
    refine T_ret ?_
    obtain rfl := some_inj H
    exact end_pickX (.tmp .nil) rfl [0] (by decide) (lb rfl) rfl (lb rfl) rfl rfl rfl rfl rfl rfl

set_option maxHeartbeats 1000000 in
theorem m_spec_DrawIsValidPreference_own (u : Nat) (code0 : (List Int)) (r : (Int × (List ConflictEdge) × (List ConflictEdge))) (H : m_spec_DrawIsValidPreference u code0 = some r) : FnO prg 39 [(sl (tI .u8) code0)] (.t [(intA r.1), (.m [0] 0 r.2.1.length tConflictEdge.k), (.m [1] 0 r.2.2.length tConflictEdge.k)]) [.row (flat tConflictEdge.own r.2.1), .row (flat tConflictEdge.own r.2.2)] := by
  unfold m_spec_DrawIsValidPreference at H
  refine fnO_of_T Tryz.func39 rfl rfl (Nat.le_of_ble_eq_true rfl) ?_
  refine te [(0, (sl (tI .u8) code0))] rfl ?_
  refine sr ?_
  refine pv tb 3 rfl ?_
  refine TO_nil ?_
  refine sr ?_
  obtain ⟨r_1, h_2, H⟩ := bind_inv H
  refine pv tb 1 rfl ?_
  refine TO_cons rfl (TOp_callS [] (call_static ent21 rfl) (by decide) rfl rfl rfl rfl rfl rfl (m_spec_l1New_x u _ _ h_2) rfl rfl ?_)
  refine toe [(0, (sl (tI .u8) code0)), (9, (sl (tI .u8) code0)), (10, (.b 0 0))] rfl ?_
  refine TO_st (σ' := [.box [(sl (tI .u8) r_1.b), (intA r_1.i), (intA r_1.h)]]) rfl ?_
  obtain ⟨r_3, h_4, H⟩ := bind_inv H
  refine TO_cons rfl (TOp_callS [0] (call_static ent20 rfl) (by decide) rfl rfl rfl rfl rfl rfl (m_spec_l28Draw_x _ _ _ h_4) rfl rfl ?_)
  refine toe [(0, (sl (tI .u8) code0)), (9, (sl (tI .u8) code0)), (10, (.b 0 0)), (11, (.t [(intA r_3.1.1), (.m [1] 0 r_3.1.2.1.length tConflictEdge.k), (.m [2] 0 r_3.1.2.2.length tConflictEdge.k)]))] rfl ?_
  refine TO_st (σ' := [.box [(sl (tI .u8) r_3.2.b), (intA r_3.2.i), (intA r_3.2.h)], .row (flat tConflictEdge.enc r_3.1.2.1), .row (flat tConflictEdge.enc r_3.1.2.2)]) rfl ?_
  refine pv tb 7 rfl ?_
  refine TO_nil ?_
  refine sr ?_
  refine pv tb 6 rfl ?_
  refine TO_nil ?_
  refine T_ret ?_
  obtain rfl := some_inj H
  exact end_pick (.tmp (.tmp (.tmp .nil))) rfl [1, 2] (by decide) rfl rfl rfl rfl rfl rfl
theorem m_spec_DrawIsValidPreference_ok (u : Nat) (code0 : (List Int)) (r : (Int × (List ConflictEdge) × (List ConflictEdge))) (H : m_spec_DrawIsValidPreference u code0 = some r) : FnV prg 39 [(sl (tI .u8) code0)] (.t [(intA r.1), (sl tConflictEdge r.2.1), (sl tConflictEdge r.2.2)]) := (m_spec_DrawIsValidPreference_own u code0 r H).frz (frzOK_t (frz_cons (frz_loose rfl) (frz_cons (frzT (T := tConflictEdge) rfl) (frz_cons (frzT (T := tConflictEdge) rfl) frz_nil))).1 (frz_cons (frz_loose rfl) (frz_cons (frzT (T := tConflictEdge) rfl) (frz_cons (frzT (T := tConflictEdge) rfl) frz_nil))).2)

set_option maxHeartbeats 1000000 in
theorem m_spec_DrawGreedyRepair_own (u : Nat) (code0 : (List Int)) (r : (Int × (List ConflictEdge) × (List ConflictEdge))) (H : m_spec_DrawGreedyRepair u code0 = some r) : FnO prg 16 [(sl (tI .u8) code0)] (.t [(intA r.1), (.m [0] 0 r.2.1.length tConflictEdge.k), (.m [1] 0 r.2.2.length tConflictEdge.k)]) [.row (flat tConflictEdge.own r.2.1), .row (flat tConflictEdge.own r.2.2)] := by
  unfold m_spec_DrawGreedyRepair at H
  refine fnO_of_T Tryz.func16 rfl rfl (Nat.le_of_ble_eq_true rfl) ?_
  refine te [(0, (sl (tI .u8) code0))] rfl ?_
  refine sr ?_
  refine pv tb 3 rfl ?_
  refine TO_nil ?_
  refine sr ?_
  obtain ⟨r_1, h_2, H⟩ := bind_inv H
  refine pv tb 1 rfl ?_
  refine TO_cons rfl (TOp_callO (call_static ent39 rfl) rfl (m_spec_DrawIsValidPreference_own u _ _ h_2) rfl rfl rfl ?_)
  refine toe [(0, (sl (tI .u8) code0)), (5, (sl (tI .u8) code0)), (6, (.t [(intA r_1.1), (.m [0] 0 r_1.2.1.length tConflictEdge.k), (.m [1] 0 r_1.2.2.length tConflictEdge.k)]))] rfl ?_
  refine TO_st (σ' := [.row (flat tConflictEdge.own r_1.2.1), .row (flat tConflictEdge.own r_1.2.2)]) rfl ?_
  refine pv tb 6 rfl ?_
  refine TO_nil ?_
  refine T_ret ?_
  obtain rfl := some_inj H
  exact end_pick (.tmp (.tmp (.tmp .nil))) rfl [0, 1] (by decide) rfl rfl rfl rfl rfl rfl
theorem m_spec_DrawGreedyRepair_ok (u : Nat) (code0 : (List Int)) (r : (Int × (List ConflictEdge) × (List ConflictEdge))) (H : m_spec_DrawGreedyRepair u code0 = some r) : FnV prg 16 [(sl (tI .u8) code0)] (.t [(intA r.1), (sl tConflictEdge r.2.1), (sl tConflictEdge r.2.2)]) := (m_spec_DrawGreedyRepair_own u code0 r H).frz (frzOK_t (frz_cons (frz_loose rfl) (frz_cons (frzT (T := tConflictEdge) rfl) (frz_cons (frzT (T := tConflictEdge) rfl) frz_nil))).1 (frz_cons (frz_loose rfl) (frz_cons (frzT (T := tConflictEdge) rfl) (frz_cons (frzT (T := tConflictEdge) rfl) frz_nil))).2)

set_option maxHeartbeats 1000000 in
theorem m_slices_Grow_Sint_int_n0_own (n1 : Int) (r : (List Int)) (H : m_slices_Grow_Sint_int_n0 n1 = some r) : FnO prg 81 [.n, (intA n1)] (.m [0] 0 r.length tInt.k) [.row (flat tInt.own r)] := by
  unfold m_slices_Grow_Sint_int_n0 at H
  refine fnO_of_T Tryz.func81 rfl rfl (Nat.le_of_ble_eq_true rfl) ?_
  refine te [(0, .n), (1, (intA n1))] rfl ?_
  refine sr ?_
  refine pv tb 1 rfl ?_
  refine TO_nil ?_
  refine T_seq ?_
  refine sr ?_
  refine pv tb 2 rfl ?_
  refine TO_nil ?_
  refine T_cond (t := decide (n1 < 0)) rfl (fun c_1 => ?_) (fun c_1 => ?_)
  ·replace H := cond_t c_1 H
   cases H
  ·replace H := cond_f c_1 H
   refine T_skip ?_
   refine T_seq ?_
   refine sr ?_
   refine pv tb 2 rfl ?_
   refine Tp rfl rfl (pur_cap_n sl31 rfl rfl) rfl ?_
   refine pv tb 1 rfl ?_
   refine Tp rfl rfl (pur_len_n sl31 rfl rfl) rfl ?_
   refine pv tb 3 rfl ?_
   refine TO_nil ?_
   refine sr ?_
   refine pv tb 2 rfl ?_
   refine TO_nil ?_
   refine T_cond (t := decide (0 < (w64 (n1 - (w64 (((0 : Nat) : Int) - ((0 : Nat) : Int))))))) rfl (fun c_2 => ?_) (fun c_2 => ?_)
   ·replace H := cond_t c_2 H
    refine T_region ?_
    refine pv tb 2 rfl ?_
    refine Tp rfl rfl (pur_cap_n sl31 rfl rfl) rfl ?_
    refine Tp rfl rfl (pur_cutN (lo := none) (hi := (some (.tmp 19))) sl31 rfl rfl ⟨_, rfl⟩ (by omega) (by omega) rfl) rfl ?_
    obtain ⟨us_3, h_4, H⟩ := bind_inv H
    refine pv tb 1 rfl ?_
    refine TO_cons rfl (TOp_appNZ (T := tInt) (z := (0 : Int)) rfl sl31 Tryz.underlying3 zero3 rfl bytes3 (by decide) rfl rfl rfl rfl h_4 ?_)
    refine TO_st (σ' := [.row (flat tInt.enc us_3)]) rfl ?_
    refine pv tb 1 rfl ?_
    refine Tp rfl rfl (pur_len_n sl31 rfl rfl) rfl ?_
    obtain ⟨ys_5, h_6, H⟩ := bind_inv H
    obtain ⟨i_7, j_8, hi_9, hj_10, hij_11, hjl_12, hys_13, _⟩ := cutI_inv h_6
    refine Tp rfl rfl (pur_cutM (lo := none) (hi := (some (.tmp 24))) sl31 rfl hi_9.symm ⟨_, congrArg (fun z => A.v (.int .i64 z)) hj_10⟩ hij_11 hjl_12 rfl) rfl ?_
    refine pv tb 1 rfl ?_
    refine TO_nil ?_
    refine te [(0, (.m [0] (i_7 * tInt.k) (j_8 - i_7) tInt.k))] rfl ?_
    refine sr ?_
    refine pv tb 2 rfl ?_
    refine TO_nil ?_
    refine T_env (E' := [(4, (.m [0] 0 ys_5.length tInt.k))]) ⟨(trunc_A (l := 0) (k := tInt.k) (by omega) hjl_12 hys_13), trivial⟩ ?_
    refine T_gh (Ghost.truncT (f := tInt.enc) (s := 0) (i := i_7) (j := j_8) (ys := ys_5) tInt.len rfl (by omega) hys_13 (by exact lb rfl)) ?_
    refine T_st (σ' := [.row (flat tInt.enc ys_5)]) rfl ?_
    refine T_ret ?_
    obtain rfl := some_inj H
    exact end_pick (.tmp .nil) rfl [0] (by decide) rfl rfl rfl rfl rfl rfl
   ·replace H := cond_f c_2 H
    refine T_skip ?_
    refine sr ?_
    refine pv tb 2 rfl ?_
    refine TO_nil ?_
    refine te [(4, .n)] rfl ?_
    refine T_row0 ?_
    refine T_envL (E' := [(4, (.m [0] 0 ([] : (List Int)).length tInt.k))]) ⟨leM, trivial⟩ ?_
    refine T_st (σ' := [.row (flat tInt.own ([] : (List Int)))]) rfl ?_
    refine T_ret ?_
    obtain rfl := some_inj H
    exact end_pick (.tmp .nil) rfl [0] (by decide) rfl rfl rfl rfl rfl rfl
theorem m_slices_Grow_Sint_int_n0_ok (n1 : Int) (r : (List Int)) (H : m_slices_Grow_Sint_int_n0 n1 = some r) : FnV prg 81 [.n, (intA n1)] (sl tInt r) := (m_slices_Grow_Sint_int_n0_own n1 r H).frz (frzT (T := tInt) rfl)

set_option maxHeartbeats 1000000 in
theorem m_slices_Concat_Sint_int_own (slices0 : (List (List Int))) (r : (List Int)) (H : m_slices_Concat_Sint_int slices0 = some r) : FnO prg 71 [(sl (tSl tInt) slices0)] (.m [0] 0 r.length tInt.k) [.row (flat tInt.own r)] := by
  unfold m_slices_Concat_Sint_int at H
  refine fnO_of_T Tryz.func71 rfl rfl (Nat.le_of_ble_eq_true rfl) ?_
  refine te [(0, (sl (tSl tInt) slices0))] rfl ?_
  refine sr ?_
  refine pv tb 1 rfl ?_
  refine TO_nil ?_
  refine sr ?_
  refine pv tb 1 rfl ?_
  refine TO_nil ?_
  refine T_seq ?_
  refine sr ?_
  refine pv tb 1 rfl ?_
  refine Tp rfl rfl (pur_lenT (T := (tSl tInt)) sl27 rfl rfl) rfl ?_
  refine pv tb 1 rfl ?_
  refine TO_nil ?_
  obtain ⟨O2_, L2_, N2_⟩ := bind_inv H
  clear H
  obtain ⟨B2_, hb2, L2_⟩ := gen_forS L2_
  refine T_block ?_
  refine T_loopX (fun k => fun (⟨t_1, size3⟩ : Nat × Int) => k = slices0.length - t_1 ∧ forS B2_ (slices0.drop t_1) (t_1 : Int) size3 = some O2_) (fun (⟨t_1, size3⟩ : Nat × Int) => [(0, (sl (tSl tInt) slices0)), (3, (intA size3)), (9, (sl (tSl tInt) slices0)), (10, (intA (slices0.length : Int))), (11, (intA (t_1 : Int)))]) (fun (⟨t_1, size3⟩ : Nat × Int) => []) _ (0, 0) (w0 0) ⟨rfl, L2_⟩ ?_
  rintro _ ⟨t_1, size3⟩ ⟨rfl, L2_⟩
  refine T_fact (len_sl (T := (tSl tInt)) (.tmp 0) rfl) (fun hl2 => ?_)
  refine sr ?_
  refine pv tb 1 rfl ?_
  refine TO_nil ?_
  refine T_seq ?_
  refine T_cond (t := decide ((t_1 : Int) < (slices0.length : Int))) rfl (fun d2 => ?_) (fun d2 => ?_)
  ·replace d2 := of_decide_eq_true d2
   obtain ⟨x_t_1, hx_t_1⟩ : ∃ v, (slices0)[t_1]? = some v := ⟨_, List.getElem?_eq_getElem (by omega)⟩
   obtain ⟨C2_, H, K2_⟩ := forS_step L2_ hx_t_1
   rw [hb2] at H
   refine T_skip ?_
   refine T_seq ?_
   refine T_block ?_
   refine sr ?_
   refine Tp rfl rfl (pur_ixT (T := (tSl tInt)) sl27 rfl rfl rfl hx_t_1 rfl) rfl ?_
   refine Tp rfl rfl (pur_ldT (T := (tSl tInt)) (i := t_1) (off := 0) rfl one31 rfl rfl hx_t_1 rfl) rfl ?_
   refine pv tb 1 rfl ?_
   refine TO_nil ?_
   refine sr ?_
   refine pv tb 2 rfl ?_
   refine Tp rfl rfl (pur_lenT (T := tInt) sl31 rfl rfl) rfl ?_
   refine pv tb 2 rfl ?_
   refine TO_nil ?_
   refine sr ?_
   refine pv tb 2 rfl ?_
   refine TO_nil ?_
   refine T_cond (t := decide ((w64 (size3 + (x_t_1.length : Int))) < 0)) rfl (fun c_3 => ?_) (fun c_3 => ?_)
   ·replace H := cond_t c_3 H
    cases H
   ·replace H := cond_f c_3 H
    refine T_skip ?_
    refine T_region ?_
    refine Tp rfl rfl (pur_add rfl rfl rfl (fits64 (by omega) (by omega))) rfl ?_
    refine pv tb 1 rfl ?_
    refine TO_nil ?_
    obtain rfl := some_inj H
    exact again (slices0.length - (t_1 + 1)) (t_1 + 1, (w64 (size3 + (x_t_1.length : Int)))) (by omega) (w0 0) ⟨rfl, K2_⟩
  ·replace d2 := of_decide_eq_false d2
   obtain rfl := forS_end L2_ (by omega)
   refine T_exit ?_
   refine then_exit ?_
   refine then_exit ?_
   refine block_exit ?_
   replace H := N2_
   refine sr ?_
   obtain ⟨r_4, h_5, H⟩ := bind_inv H
   refine pv tb 1 rfl ?_
   refine TO_cons rfl (TOp_callO (call_static ent81 rfl) rfl (m_slices_Grow_Sint_int_n0_own _ _ h_5) rfl rfl rfl ?_)
   refine toe [(0, (sl (tSl tInt) slices0)), (3, (intA size3)), (23, (intA size3)), (24, (.m [0] 0 r_4.length tInt.k))] rfl ?_
   refine TO_st (σ' := [.row (flat tInt.own r_4)]) rfl ?_
   refine pv tb 1 rfl ?_
   refine TO_nil ?_
   refine T_seq ?_
   refine sr ?_
   refine pv tb 1 rfl ?_
   refine Tp rfl rfl (pur_lenT (T := (tSl tInt)) sl27 rfl rfl) rfl ?_
   refine pv tb 1 rfl ?_
   refine TO_nil ?_
   obtain ⟨O7_, L7_, N7_⟩ := bind_inv H
   clear H
   obtain ⟨B7_, hb7, L7_⟩ := gen_forS L7_
   refine T_block ?_
   refine T_loopX (fun k => fun (⟨t_6, newslice6⟩ : Nat × (List Int)) => k = slices0.length - t_6 ∧ forS B7_ (slices0.drop t_6) (t_6 : Int) newslice6 = some O7_) (fun (⟨t_6, newslice6⟩ : Nat × (List Int)) => [(6, (.m [0] 0 newslice6.length tInt.k)), (25, (sl (tSl tInt) slices0)), (26, (intA (slices0.length : Int))), (27, (intA (t_6 : Int)))]) (fun (⟨t_6, newslice6⟩ : Nat × (List Int)) => [.row (flat tInt.own newslice6)]) _ (0, r_4) (w0 1) ⟨rfl, L7_⟩ ?_
   rintro _ ⟨t_6, newslice6⟩ ⟨rfl, L7_⟩
   refine T_fact (len_sl (T := (tSl tInt)) (.tmp 25) rfl) (fun hl7 => ?_)
   refine sr ?_
   refine pv tb 1 rfl ?_
   refine TO_nil ?_
   refine T_seq ?_
   refine T_cond (t := decide ((t_6 : Int) < (slices0.length : Int))) rfl (fun d7 => ?_) (fun d7 => ?_)
   ·replace d7 := of_decide_eq_true d7
    obtain ⟨x_t_6, hx_t_6⟩ : ∃ v, (slices0)[t_6]? = some v := ⟨_, List.getElem?_eq_getElem (by omega)⟩
    obtain ⟨C7_, H, K7_⟩ := forS_step L7_ hx_t_6
    rw [hb7] at H
    refine T_skip ?_
    refine T_seq ?_
    refine T_block ?_
    refine sr ?_
    refine Tp rfl rfl (pur_ixT (T := (tSl tInt)) sl27 rfl rfl rfl hx_t_6 rfl) rfl ?_
    refine Tp rfl rfl (pur_ldT (T := (tSl tInt)) (i := t_6) (off := 0) rfl one31 rfl rfl hx_t_6 rfl) rfl ?_
    refine pv tb 1 rfl ?_
    refine TO_nil ?_
    refine T_region ?_
    obtain ⟨us_8, h_9, H⟩ := bind_inv H
    refine pv tb 2 rfl ?_
    refine TO_cons rfl (TOp_appZ (T := tInt) (f := tInt.own) (xs := newslice6) (ys := x_t_6) tInt.lenO sl31 zero3 rfl bytes3 (by decide) rfl rfl rfl rfl (src_T (T := tInt) rfl) (flat_cell tInt _) h_9 (lb rfl) ?_)
    refine toe [(8, (sl tInt x_t_6)), (25, (sl (tSl tInt) slices0)), (26, (intA (slices0.length : Int))), (27, (intA (t_6 : Int))), (32, (sl tInt x_t_6)), (33, (.m [0] 0 us_8.length tInt.k))] rfl ?_
    refine TO_st (σ' := [.row (flat tInt.own us_8), .dead]) rfl ?_
    refine pv tb 1 rfl ?_
    refine TO_nil ?_
    refine T_region ?_
    refine Tp rfl rfl (pur_add rfl rfl rfl (fits64 (by omega) (by omega))) rfl ?_
    refine pv tb 1 rfl ?_
    refine TO_nil ?_
    obtain rfl := some_inj H
    exact again (slices0.length - (t_6 + 1)) (t_6 + 1, us_8) (by omega) (w0 1) ⟨rfl, K7_⟩
   ·replace d7 := of_decide_eq_false d7
    obtain rfl := forS_end L7_ (by omega)
    refine T_exit ?_
    refine then_exit ?_
    refine then_exit ?_
    refine block_exit ?_
    replace H := N7_
    refine sr ?_
    refine pv tb 2 rfl ?_
    refine TO_nil ?_
    refine T_ret ?_
    obtain rfl := some_inj H
    exact end_pick (.tmp .nil) rfl [0] (by decide) rfl rfl rfl rfl rfl rfl
theorem m_slices_Concat_Sint_int_ok (slices0 : (List (List Int))) (r : (List Int)) (H : m_slices_Concat_Sint_int slices0 = some r) : FnV prg 71 [(sl (tSl tInt) slices0)] (sl tInt r) := (m_slices_Concat_Sint_int_own slices0 r H).frz (frzT (T := tInt) rfl)

theorem m_slices_Sort_Sint_int_mut (s0 : List Int) (r : Unit × List Int) (H : m_slices_Sort_Sint_int s0 = some r) : FnM prg 72 [(.m [0] 0 s0.length tInt.k)] [flat tInt.own s0] (.tuple #[]) [flat tInt.own r.2] := by
  unfold m_slices_Sort_Sint_int at H
  split at H
  case isFalse => cases H
  rename_i h0
  cases H
  exact FnM.ofPut (by simp) (fun ad w e => by subst e; exact Any.slices_Sort_int_none shl189 ad 0 w) (fun b o cap w hH hb _ => Any.slices_Sort_int shl189 b o cap s0 w hH hb h0)


theorem m_slices_Compact_Sint_int_x (s0 : List Int) (r : List Int) (H : m_slices_Compact_Sint_int s0 = some r) : FnS prg 73 [(.m [0] 0 s0.length tInt.k)] [.row (flat tInt.enc s0)] (.m [0] 0 r.length tInt.k) [.row (flat tInt.enc r)] := by
  unfold m_slices_Compact_Sint_int at H
  split at H
  case isFalse => cases H
  rename_i h0
  cases H
  have hc := compact_comp1 s0
  have hl := comp1_le s0
  refine FnS.ofCut (rest := List.replicate (s0.length - (comp1 s0).length) 0) (by simp; omega) (fun ad w e => ?_) (fun b o cap w hH hb hcp => ?_)
  ·exact Calls.mono (Any.slices_Compact_int_empty shl20 ad 0 w) fun e w' h => ⟨⟨ad, h.1⟩, h.2⟩
  ·refine Calls.mono (Any.slices_Compact_int shl20 b o cap s0 w hH (by omega) hcp) fun e w' h => ?_
   rw [hc] at h
   obtain ⟨h1, q, h2⟩ := h
   exact ⟨h1, q, #[], by rw [grow_nil]; exact h2⟩


set_option maxHeartbeats 1000000 in
theorem m_impl_union_own (a0 : (List Int)) (b1 : (List Int)) (r : (List Int)) (H : m_impl_union a0 b1 = some r) : FnO prg 50 [(sl tInt a0), (sl tInt b1)] (.m [0] 0 r.length tInt.k) [.row (flat tInt.own r)] := by
  unfold m_impl_union at H
  refine fnO_of_T Tryz.func50 rfl rfl (Nat.le_of_ble_eq_true rfl) ?_
  refine te [(0, (sl tInt a0)), (1, (sl tInt b1))] rfl ?_
  refine sr ?_
  refine pv tb 1 rfl ?_
  refine TO_nil ?_
  refine sr ?_
  refine pv tb 2 rfl ?_
  refine TO_cons rfl (TOp_lit (nn := 2) (k := 1) sl27 zero31 rfl rfl rfl rfl (by decide) ?_)
  refine TO_st (σ' := [.row (flat (tSl tInt).enc ([a0, b1] : (List (List Int))))]) rfl ?_
  obtain ⟨r_1, h_2, H⟩ := bind_inv H
  refine TO_cons rfl (TOp_callOG (call_static ent71 rfl) (frz_cons (frzTE (T := (tSl tInt)) (xs := ([a0, b1] : (List (List Int)))) rfl) frz_nil).1 (frz_cons (frzTE (T := (tSl tInt)) (xs := ([a0, b1] : (List (List Int)))) rfl) frz_nil).2 (m_slices_Concat_Sint_int_own _ _ h_2) rfl (ownC_of (ownSB_cons (flat_ownR tInt _) ownSB_nil)) rfl rfl rfl ?_)
  refine toe [(0, (sl tInt a0)), (1, (sl tInt b1)), (6, (sl tInt a0)), (7, (sl tInt b1)), (8, (.m [0] 0 ([a0, b1] : (List (List Int))).length (tSl tInt).k)), (9, (.m [1] 0 r_1.length tInt.k))] rfl ?_
  refine TO_st (σ' := [.row (flat (tSl tInt).enc ([a0, b1] : (List (List Int)))), .row (flat tInt.own r_1)]) rfl ?_
  refine pv tb 1 rfl ?_
  refine TO_nil ?_
  refine sr ?_
  obtain ⟨r_3, h_4, H⟩ := bind_inv H
  refine pv tb 1 rfl ?_
  refine TO_cons rfl (TOp_callG (aa := [(.m [1] 0 r_1.length tInt.k)]) [[1]] (call_static ent72 rfl) rfl (.cons rfl rfl (by decide) .nil) rfl rfl (m_slices_Sort_Sint_int_mut _ _ h_4) rfl (fun hl_5 => ?_))
  obtain ⟨hq_6, hl_5⟩ := sameLens_T (T := tInt) hl_5
  refine TO_env (E' := [(5, (.m [1] 0 r_3.2.length tInt.k)), (10, (.m [1] 0 r_3.2.length tInt.k))]) ⟨(congrArg (fun q => A.m [1] 0 q tInt.k) hq_6.symm), (congrArg (fun q => A.m [1] 0 q tInt.k) hq_6.symm), trivial⟩ ?_
  refine TO_st (σ' := [.row (flat (tSl tInt).enc ([a0, b1] : (List (List Int)))), .row (flat tInt.own r_3.2)]) rfl ?_
  refine TO_nil ?_
  refine sr ?_
  obtain ⟨r_7, h_8, H⟩ := bind_inv H
  refine pv tb 1 rfl ?_
  refine TO_cons rfl (TOp_callS [1] (call_static ent73 rfl) (by decide) rfl rfl rfl rfl rfl rfl (m_slices_Compact_Sint_int_x _ _ h_8) rfl rfl ?_)
  refine toe [(13, (.m [1] 0 r_7.length tInt.k))] rfl ?_
  refine TO_st (σ' := [.row (flat (tSl tInt).enc ([a0, b1] : (List (List Int)))), .row (flat tInt.enc r_7)]) rfl ?_
  refine pv tb 1 rfl ?_
  refine TO_nil ?_
  refine T_ret ?_
  obtain rfl := some_inj H
  exact end_pick (.tmp .nil) rfl [1] (by decide) rfl rfl rfl rfl rfl rfl
theorem m_impl_union_ok (a0 : (List Int)) (b1 : (List Int)) (r : (List Int)) (H : m_impl_union a0 b1 = some r) : FnV prg 50 [(sl tInt a0), (sl tInt b1)] (sl tInt r) := (m_impl_union_own a0 b1 r H).frz (frzT (T := tInt) rfl)

set_option maxHeartbeats 1000000 in
theorem m_impl_selected_own (edges0 : (List ConflictEdge)) (left1 : (List Int)) (v2 : Int) (r : (List Int)) (H : m_impl_selected edges0 left1 v2 = some r) : FnO prg 52 [(sl tConflictEdge edges0), (sl tInt left1), (intA v2)] (.m [0] 0 r.length tInt.k) [.row (flat tInt.own r)] := by
  unfold m_impl_selected at H
  refine fnO_of_T Tryz.func52 rfl rfl (Nat.le_of_ble_eq_true rfl) ?_
  refine te [(0, (sl tConflictEdge edges0)), (1, (sl tInt left1)), (2, (intA v2))] rfl ?_
  refine sr ?_
  refine pv tb 1 rfl ?_
  refine TO_nil ?_
  refine sr ?_
  refine TO_cons rfl (TOp_lit (nn := 0) (k := 1) sl31 zero3 rfl rfl rfl rfl (by decide) ?_)
  refine TO_st (σ' := [.row (flat tInt.enc ([] : (List Int)))]) rfl ?_
  refine pv tb 1 rfl ?_
  refine TO_nil ?_
  refine T_seq ?_
  refine sr ?_
  refine pv tb 1 rfl ?_
  refine Tp rfl rfl (pur_lenT (T := tInt) sl31 rfl rfl) rfl ?_
  refine pv tb 1 rfl ?_
  refine TO_nil ?_
  obtain ⟨O2_, L2_, N2_⟩ := bind_inv H
  clear H
  obtain ⟨B2_, hb2, L2_⟩ := gen_forS L2_
  refine T_block ?_
  refine T_loopX (fun k => fun (⟨t_1, out7⟩ : Nat × (List Int)) => k = left1.length - t_1 ∧ forS B2_ (left1.drop t_1) (t_1 : Int) out7 = some O2_) (fun (⟨t_1, out7⟩ : Nat × (List Int)) => [(0, (sl tConflictEdge edges0)), (2, (intA v2)), (7, (.m [0] 0 out7.length tInt.k)), (11, (sl tInt left1)), (12, (intA (left1.length : Int))), (13, (intA (t_1 : Int)))]) (fun (⟨t_1, out7⟩ : Nat × (List Int)) => [.row (flat tInt.enc out7)]) _ (0, ([] : (List Int))) (w0 1) ⟨rfl, L2_⟩ ?_
  rintro _ ⟨t_1, out7⟩ ⟨rfl, L2_⟩
  refine T_fact (len_sl (T := tInt) (.tmp 11) rfl) (fun hl2 => ?_)
  refine sr ?_
  refine pv tb 1 rfl ?_
  refine TO_nil ?_
  refine T_seq ?_
  refine T_cond (t := decide ((t_1 : Int) < (left1.length : Int))) rfl (fun d2 => ?_) (fun d2 => ?_)
  ·replace d2 := of_decide_eq_true d2
   obtain ⟨x_t_1, hx_t_1⟩ : ∃ v, (left1)[t_1]? = some v := ⟨_, List.getElem?_eq_getElem (by omega)⟩
   obtain ⟨C2_, H, K2_⟩ := forS_step L2_ hx_t_1
   rw [hb2] at H
   refine T_skip ?_
   refine T_seq ?_
   refine T_block ?_
   refine sr ?_
   refine Tp rfl rfl (pur_ixT (T := tInt) sl31 rfl rfl rfl hx_t_1 rfl) rfl ?_
   refine Tp rfl rfl (pur_ldT (T := tInt) (i := t_1) (off := 0) rfl one3 rfl rfl hx_t_1 rfl) rfl ?_
   refine pv tb 1 rfl ?_
   refine TO_nil ?_
   obtain ⟨t26_3, J_3, H_4⟩ := bind_inv H
   refine T_cutX (fun x => t26_3 = x) (fun (t26_3 : Bool) => [(0, (sl tConflictEdge edges0)), (2, (intA v2)), (7, (.m [0] 0 out7.length tInt.k)), (9, (intA x_t_1)), (11, (sl tInt left1)), (12, (intA (left1.length : Int))), (13, (intA (t_1 : Int))), (26, (boolA t26_3))]) (fun (t26_3 : Bool) => [.row (flat tInt.enc out7)]) ?_ ?_
   ·replace H := J_3
    refine T_region ?_
    refine pv tb 4 rfl ?_
    refine TO_split (t := decide (x_t_1 ≠ v2)) 20 rfl (fun g_5 => ?_) (fun g_5 => ?_)
    ·replace H := cond_t g_5 H
     obtain ⟨r_6, h_7, H⟩ := bind_inv H
     refine pv tb 3 rfl ?_
     refine TO_on rfl rfl (by decide) rfl rfl (TOp_callV (call_static ent35 rfl) (m_impl_inConflict_ok _ _ _ _ h_7) rfl rfl rfl ?_)
     refine pv tb 2 rfl ?_
     refine TO_nil ?_
     exact joined (!r_6) (w0 1) (some_inj H).symm
    ·replace H := cond_f g_5 H
     refine pv tb 6 rfl ?_
     refine TO_nil ?_
     exact joined false (w0 1) (some_inj H).symm
   ·rintro _ rfl
    replace H := H_4
    refine T_cond (t := t26_3) rfl (fun c_8 => ?_) (fun c_8 => ?_)
    ·replace H := cond_t c_8 H
     refine T_region ?_
     refine pv tb 2 rfl ?_
     refine TO_cons rfl (TOp_lit (nn := 1) (k := 1) sl31 zero3 rfl rfl rfl rfl (by decide) ?_)
     refine TO_st (σ' := [.row (flat tInt.enc out7), .row (flat tInt.enc ([x_t_1] : (List Int)))]) rfl ?_
     obtain ⟨us_9, h_10, H⟩ := bind_inv H
     refine TO_cons rfl (TOp_appZ (T := tInt) (f := tInt.enc) (xs := out7) (ys := ([x_t_1] : (List Int))) tInt.len sl31 zero3 rfl bytes3 (by decide) rfl rfl rfl rfl (src_mT (f := tInt.enc) tInt.len rfl rfl (flat_cell tInt _)) (flat_cell tInt _) h_10 (lb rfl) ?_)
     refine toe [(0, (sl tConflictEdge edges0)), (2, (intA v2)), (9, (intA x_t_1)), (11, (sl tInt left1)), (12, (intA (left1.length : Int))), (13, (intA (t_1 : Int))), (26, (boolA t26_3)), (28, (intA x_t_1)), (29, (.m [1] 0 ([x_t_1] : (List Int)).length tInt.k)), (30, (.m [0] 0 us_9.length tInt.k))] rfl ?_
     refine TO_st (σ' := [.row (flat tInt.enc us_9), .row (flat tInt.enc ([x_t_1] : (List Int))), .dead]) rfl ?_
     refine pv tb 1 rfl ?_
     refine TO_nil ?_
     refine T_region ?_
     refine Tp rfl rfl (pur_add rfl rfl rfl (fits64 (by omega) (by omega))) rfl ?_
     refine pv tb 1 rfl ?_
     refine TO_nil ?_
     obtain rfl := some_inj H
     exact again (left1.length - (t_1 + 1)) (t_1 + 1, us_9) (by omega) (w0 1) ⟨rfl, K2_⟩
    ·replace H := cond_f c_8 H
     refine T_skip ?_
     refine T_region ?_
     refine Tp rfl rfl (pur_add rfl rfl rfl (fits64 (by omega) (by omega))) rfl ?_
     refine pv tb 1 rfl ?_
     refine TO_nil ?_
     obtain rfl := some_inj H
     exact again (left1.length - (t_1 + 1)) (t_1 + 1, out7) (by omega) (w0 1) ⟨rfl, K2_⟩
  ·replace d2 := of_decide_eq_false d2
   obtain rfl := forS_end L2_ (by omega)
   refine T_exit ?_
   refine then_exit ?_
   refine then_exit ?_
   refine block_exit ?_
   replace H := N2_
   refine sr ?_
   refine pv tb 2 rfl ?_
   refine TO_nil ?_
   refine T_ret ?_
   obtain rfl := some_inj H
   exact end_pick (.tmp .nil) rfl [0] (by decide) rfl rfl rfl rfl rfl rfl
theorem m_impl_selected_ok (edges0 : (List ConflictEdge)) (left1 : (List Int)) (v2 : Int) (r : (List Int)) (H : m_impl_selected edges0 left1 v2 = some r) : FnV prg 52 [(sl tConflictEdge edges0), (sl tInt left1), (intA v2)] (sl tInt r) := (m_impl_selected_own edges0 left1 v2 r H).frz (frzT (T := tInt) rfl)

set_option maxHeartbeats 1000000 in
theorem m_impl_greedy_1_c (u : Nat) (left0 : (List Int)) (chosen1 : (List Int)) (fv2 : (List (List Int))) (fv3 : (List ConflictEdge)) (fv5 : (List ConflictEdge)) (fv6 : Bool) (r : (List (List Int))) (H : m_impl_greedy_1 u left0 chosen1 fv2 fv3 fv5 fv6 = some r) : FnS prg 49 [(sl tInt left0), (sl tInt chosen1), .b 0 0, .b 1 0, .b 2 0, .b 3 0, .b 4 0] [.box [(.m [5] 0 fv2.length (tSl tInt).k)], .box [(sl tConflictEdge fv3)], .box [(.f 49 [(.b 0 0), (.b 1 0), (.b 2 0), (.b 3 0), (.b 4 0)])], .box [(sl tConflictEdge fv5)], .box [(boolA fv6)], .row (flat (tSl tInt).own fv2)] (.t []) [.box [(.m [6] 0 r.length (tSl tInt).k)], .box [(sl tConflictEdge fv3)], .box [(.f 49 [(.b 0 0), (.b 1 0), (.b 2 0), (.b 3 0), (.b 4 0)])], .box [(sl tConflictEdge fv5)], .box [(boolA fv6)], .dead, .row (flat (tSl tInt).own r)] := by
  induction u generalizing left0 chosen1 fv2 fv3 fv5 fv6 r with
  | zero => simp [m_impl_greedy_1] at H
  | succ u IH =>
   rw [m_impl_greedy_1] at H
   refine fnS_of_T Tryz.func49 rfl rfl (Nat.le_of_ble_eq_true rfl) ?_
   refine te [(0, (sl tInt left0)), (1, (sl tInt chosen1)), (2, .b 0 0), (3, .b 1 0), (4, .b 2 0), (5, .b 3 0), (6, .b 4 0)] rfl ?_
   refine T_st (σ' := [.box [(.m [5] 0 fv2.length (tSl tInt).k)], .box [(sl tConflictEdge fv3)], .box [(.f 49 [(.b 0 0), (.b 1 0), (.b 2 0), (.b 3 0), (.b 4 0)])], .box [(sl tConflictEdge fv5)], .box [(boolA fv6)], .row (flat (tSl tInt).own fv2)]) rfl ?_
   refine T_pad ?_
   refine T_move' 6 5 (by decide) (lb rfl) rfl rfl (lb rfl) ?_
   refine te [(0, (sl tInt left0)), (1, (sl tInt chosen1)), (2, (.b 0 0)), (3, (.b 1 0)), (4, (.b 2 0)), (5, (.b 3 0)), (6, (.b 4 0))] rfl ?_
   refine T_st (σ' := [.box [(.m [6] 0 fv2.length (tSl tInt).k)], .box [(sl tConflictEdge fv3)], .box [(.f 49 [(.b 0 0), (.b 1 0), (.b 2 0), (.b 3 0), (.b 4 0)])], .box [(sl tConflictEdge fv5)], .box [(boolA fv6)], .dead, .row (flat (tSl tInt).own fv2)]) rfl ?_
   refine T_seq ?_
   refine sr ?_
   refine pv tb 1 rfl ?_
   refine Tp rfl rfl (pur_lenT (T := tInt) sl31 rfl rfl) rfl ?_
   refine pv tb 1 rfl ?_
   refine TO_nil ?_
   refine T_cond (t := decide ((left0.length : Int) = 0)) rfl (fun c_1 => ?_) (fun c_1 => ?_)
   ·replace H := cond_t c_1 H
    obtain ⟨r_2, h_3, H⟩ := bind_inv H
    obtain ⟨us_4, h_5, H⟩ := bind_inv H
    refine T_pad ?_
    refine T_pad ?_
    refine T_pad ?_
    refine T_cutX (fun (_ : Unit) => True) (fun _ => []) (fun _ => [.box [(.m [6] 0 us_4.length (tSl tInt).k)], .box [(sl tConflictEdge fv3)], .box [(.f 49 [(.b 0 0), (.b 1 0), (.b 2 0), (.b 3 0), (.b 4 0)])], .box [(sl tConflictEdge fv5)], .box [(boolA fv6)], .dead, .row (flat (tSl tInt).own us_4)]) ?_ ?_
    ·skip
     refine T_regionPh 7 5 mixed rfl (by kernel_rfl) ?_
     refine pa tb [0, 1] 3 rfl (by kernel_rfl) rfl ?_
     refine t1 2 (by kernel_rfl) rfl rfl (TOp_callO (CallOp.le (call_static ent50 rfl) (leCons (leR rfl) (leCons leN leNil))) rfl (m_impl_union_own _ _ _ h_3) rfl rfl rfl ?_)
     refine tae [(0, (sl tInt left0)), (1, (sl tInt chosen1)), (2, (.b 0 0)), (3, (.b 1 0)), (4, (.b 2 0)), (5, (.b 3 0)), (6, (.b 4 0)), (13, (boolA (decide ((left0.length : Int) = 0)))), (14, (.m [6] 0 fv2.length (tSl tInt).k)), (15, (sl tInt chosen1)), (16, (.m [10] 0 r_2.length tInt.k))] rfl ?_
     refine TA_st (σ' := [.dead, .dead, .dead, .dead, .dead, .dead, .row (flat (tSl tInt).own fv2), .dead, .dead, .dead, .row (flat tInt.own r_2)]) rfl ?_
     refine tmw 7 10 (by decide) (lb rfl) rfl rfl (lb rfl) rfl ?_
     refine t1 3 (by kernel_rfl) rfl rfl (TOp_ghost (E' := [(0, (sl tInt left0)), (1, (sl tInt chosen1)), (2, (.b 0 0)), (3, (.b 1 0)), (4, (.b 2 0)), (5, (.b 3 0)), (6, (.b 4 0)), (13, (boolA (decide ((left0.length : Int) = 0)))), (14, (.m [6] 0 fv2.length (tSl tInt).k)), (15, (sl tInt chosen1)), (16, (.m [7] 0 r_2.length tInt.k))]) (σ' := [.dead, .dead, .dead, .dead, .dead, .dead, .row (flat (tSl tInt).own fv2), .row (flat tInt.own r_2), .dead, .dead]) (by exact Ghost.weak (w0 10)) (TOp_litB (nn := 1) (k := 1) sl27 zero31 rfl rfl rfl rfl (by decide) ?_))
     refine TA_st (σ' := [.dead, .dead, .dead, .dead, .dead, .dead, .row (flat (tSl tInt).own fv2), .row (flat tInt.own r_2), .dead, .dead, .box [(.m [7] 0 r_2.length tInt.k)]]) rfl ?_
     refine tmw 9 6 (by decide) (lb rfl) rfl rfl (lb rfl) rfl ?_
     refine t1 4 (by kernel_rfl) rfl rfl (TOp_boxify 9 rfl (lb rfl) (TOp_appB (T := (tSl tInt)) (xs := fv2) (v := r_2) sl27 zero31 rfl bytes31 (by decide) rfl rfl rfl rfl rfl rfl rfl rfl h_5 (lb rfl) ?_))
     refine tae [(0, (sl tInt left0)), (1, (sl tInt chosen1)), (2, (.b 0 0)), (3, (.b 1 0)), (4, (.b 2 0)), (5, (.b 3 0)), (6, (.b 4 0)), (13, (boolA (decide ((left0.length : Int) = 0)))), (15, (sl tInt chosen1)), (18, .m [11] 0 (fv2.length + 1) (tSl tInt).k)] rfl ?_
     refine TA_st (σ' := [.dead, .dead, .dead, .dead, .dead, .dead, .dead, .row (flat tInt.own r_2), .dead, .dead, .box [(.m [7] 0 r_2.length tInt.k)], .box (flat (tSl tInt).own fv2 ++ [(.m [7] 0 r_2.length tInt.k)])]) rfl ?_
     refine TA_absorbA (pr := flat (tSl tInt).own fv2) 11 0 7 rfl rfl rfl (by decide) tInt.pos (flat_len tInt.lenO _) (lb rfl) (lb rfl) rfl (nms_dead (nms_dead (nms_dead (nms_dead (nms_dead (nms_dead (nms_dead (nms_row (nms_dead (nms_dead (nms_box rfl (nms_box (namesA namesL_own rfl) nms_nil)))))))))))) ?_
     refine TA_st (σ' := [.dead, .dead, .dead, .dead, .dead, .dead, .dead, .dead, .dead, .dead, .box [(.m [7] 0 r_2.length tInt.k)], .box (flat (tSl tInt).own fv2 ++ [.o tInt.k (flat tInt.own r_2)])]) rfl ?_
     refine TA_rowifyT (T := (tSl tInt)) (xs := fv2) (v := r_2) 11 rfl rfl h_5 (lb rfl) ?_
     refine TA_st (σ' := [.dead, .dead, .dead, .dead, .dead, .dead, .dead, .dead, .dead, .dead, .box [(.m [7] 0 r_2.length tInt.k)], .row (flat (tSl tInt).own us_4)]) rfl ?_
     refine TA_move 9 11 (by decide) (lb rfl) rfl rfl (lb rfl) ?_
     refine TA_env (E' := [(0, (sl tInt left0)), (1, (sl tInt chosen1)), (2, (.b 0 0)), (3, (.b 1 0)), (4, (.b 2 0)), (5, (.b 3 0)), (6, (.b 4 0)), (13, (boolA (decide ((left0.length : Int) = 0)))), (15, (sl tInt chosen1)), (18, (.m [9] 0 us_4.length (tSl tInt).k))]) ⟨rfl, rfl, rfl, rfl, rfl, rfl, rfl, rfl, rfl, (congrArg (fun q => A.m [9] 0 q (tSl tInt).k) (app_len h_5)), trivial⟩ ?_
     refine TA_kill 10 (lb rfl) ?_
     refine TA_st (σ' := [.dead, .dead, .dead, .dead, .dead, .dead, .dead, .dead, .dead, .row (flat (tSl tInt).own us_4), .dead, .dead]) rfl ?_
     refine TA_nil (by kernel_rfl) ?_
     refine TA_st (σ' := [.box [(.m [6] 0 fv2.length (tSl tInt).k)], .box [(sl tConflictEdge fv3)], .box [(.f 49 [(.b 0 0), (.b 1 0), (.b 2 0), (.b 3 0), (.b 4 0)])], .box [(sl tConflictEdge fv5)], .box [(boolA fv6)], .dead, .dead, .dead, .dead, .row (flat (tSl tInt).own us_4), .dead, .dead]) rfl ?_
     refine tmv 6 9 (by decide) (lb rfl) rfl rfl (lb rfl) ?_
     refine TA_st (σ' := [.box [.j], .box [(sl tConflictEdge fv3)], .box [(.f 49 [(.b 0 0), (.b 1 0), (.b 2 0), (.b 3 0), (.b 4 0)])], .box [(sl tConflictEdge fv5)], .box [(boolA fv6)], .dead, .row (flat (tSl tInt).own us_4), .dead, .dead, .dead, .dead, .dead]) rfl ?_
     refine t1 5 (by kernel_rfl) rfl rfl (TOp_storeB sz27 rfl rfl rfl rfl rfl rfl rfl (by decide) (lb rfl) rfl ?_)
     refine TA_st (σ' := [.box [(.m [6] 0 us_4.length (tSl tInt).k)], .box [(sl tConflictEdge fv3)], .box [(.f 49 [(.b 0 0), (.b 1 0), (.b 2 0), (.b 3 0), (.b 4 0)])], .box [(sl tConflictEdge fv5)], .box [(boolA fv6)], .dead, .row (flat (tSl tInt).own us_4), .dead, .dead, .dead, .dead, .dead]) rfl ?_
     exact TA_nil (by kernel_rfl) (joined () (w0 7) trivial)
    ·rintro _ _
     refine T_ret ?_
     refine then_ret ?_
     obtain rfl := some_inj H
     exact end_pickX .nil rfl [0, 1, 2, 3, 4, 5, 6] (by decide) (lb rfl) rfl (lb rfl) rfl rfl rfl rfl rfl rfl
   ·replace H := cond_f c_1 H
    refine T_skip ?_
    refine sr ?_
    obtain ⟨r_6, h_7, H⟩ := bind_inv H
    refine pv tb 2 rfl ?_
    refine TO_cons rfl (TOp_callV (call_static ent51 rfl) (m_impl_undominated_ok _ _ _ h_7) rfl rfl rfl ?_)
    refine Tp rfl rfl (pur_lenT (T := tInt) sl31 rfl rfl) rfl ?_
    refine pv tb 1 rfl ?_
    refine TO_nil ?_
    obtain ⟨O9_, L9_, N9_⟩ := bind_inv H
    clear H
    obtain ⟨B9_, hb9, L9_⟩ := gen_forL L9_
    refine T_block ?_
    refine T_loopX (fun k => fun (⟨t_8, box0⟩ : Nat × (List (List Int))) => k = r_6.length - t_8 ∧ forL B9_ (r_6.drop t_8) (t_8 : Int) box0 = some O9_) (fun (⟨t_8, box0⟩ : Nat × (List (List Int))) => [(0, (sl tInt left0)), (1, (sl tInt chosen1)), (4, (.b 2 0)), (5, (.b 3 0)), (6, (.b 4 0)), (21, (sl tInt r_6)), (22, (intA (r_6.length : Int))), (23, (intA (t_8 : Int)))]) (fun (⟨t_8, box0⟩ : Nat × (List (List Int))) => [.box [(.m [6] 0 box0.length (tSl tInt).k)], .box [(sl tConflictEdge fv3)], .box [(.f 49 [(.b 0 0), (.b 1 0), (.b 2 0), (.b 3 0), (.b 4 0)])], .box [(sl tConflictEdge fv5)], .box [(boolA fv6)], .dead, .row (flat (tSl tInt).own box0)]) _ (0, fv2) (w0 7) ⟨rfl, L9_⟩ ?_
    rintro _ ⟨t_8, box0⟩ ⟨rfl, L9_⟩
    refine T_fact (len_sl (T := tInt) (.tmp 21) rfl) (fun hl9 => ?_)
    refine sr ?_
    refine pv tb 1 rfl ?_
    refine TO_nil ?_
    refine T_seq ?_
    refine T_cond (t := decide ((t_8 : Int) < (r_6.length : Int))) rfl (fun d9 => ?_) (fun d9 => ?_)
    ·replace d9 := of_decide_eq_true d9
     obtain ⟨x_t_8, hx_t_8⟩ : ∃ v, (r_6)[t_8]? = some v := ⟨_, List.getElem?_eq_getElem (by omega)⟩
     obtain ⟨C9_, H, K9_⟩ := forL_step L9_ hx_t_8
     rw [hb9] at H
     refine T_skip ?_
     refine T_seq ?_
     refine T_block ?_
     refine sr ?_
     refine Tp rfl rfl (pur_ixT (T := tInt) sl31 rfl rfl rfl hx_t_8 rfl) rfl ?_
     refine Tp rfl rfl (pur_ldT (T := tInt) (i := t_8) (off := 0) rfl one3 rfl rfl hx_t_8 rfl) rfl ?_
     refine pv tb 1 rfl ?_
     refine TO_nil ?_
     obtain ⟨r_10, h_11, H⟩ := bind_inv H
     obtain ⟨r_12, h_13, H⟩ := bind_inv H
     obtain ⟨us_14, h_15, H⟩ := bind_inv H
     obtain ⟨r_16, h_17, H⟩ := bind_inv H
     refine T_pad ?_
     refine T_pad ?_
     refine T_cutX (fun (_ : Unit) => True) (fun _ => [(0, (sl tInt left0)), (1, (sl tInt chosen1)), (4, (.b 2 0)), (5, (.b 3 0)), (6, (.b 4 0)), (21, (sl tInt r_6)), (22, (intA (r_6.length : Int))), (23, (intA (t_8 : Int)))]) (fun _ => [.box [(.m [6] 0 r_16.length (tSl tInt).k)], .box [(sl tConflictEdge fv3)], .box [(.f 49 [(.b 0 0), (.b 1 0), (.b 2 0), (.b 3 0), (.b 4 0)])], .box [(sl tConflictEdge fv5)], .box [(boolA fv6)], .dead, .row (flat (tSl tInt).own r_16)]) ?_ ?_
     ·skip
      refine T_regionP 0 mixed rfl ?_
      refine TA_have 1 #[true, true, true, true, true, true, true, true, true, true, false] [(0, (sl tInt left0)), (1, (sl tInt chosen1)), (4, (.b 2 0)), (5, (.b 3 0)), (6, (.b 4 0)), (21, (sl tInt r_6)), (22, (intA (r_6.length : Int))), (23, (intA (t_8 : Int))), (27, (.f 49 [(.b 0 0), (.b 1 0), (.b 2 0), (.b 3 0), (.b 4 0)])), (31, (sl tInt r_10)), (36, (sl tInt us_14))] [.box [(.m [6] 0 box0.length (tSl tInt).k)], .box [(sl tConflictEdge fv3)], .box [(.f 49 [(.b 0 0), (.b 1 0), (.b 2 0), (.b 3 0), (.b 4 0)])], .box [(sl tConflictEdge fv5)], .box [(boolA fv6)], .dead, .row (flat (tSl tInt).own box0), .dead, .row (flat tInt.enc ([x_t_8] : (List Int)))] ?_ (fun hj0_5 => ?_)
      ·skip
       refine t1 10 (by kernel_rfl) rfl rfl (TOp_callS [0, 1, 2, 3, 4, 6] (call_closure (caps := [(.b 0 0), (.b 1 0), (.b 2 0), (.b 3 0), (.b 4 0)]) ent49 rfl rfl) (by decide) rfl rfl rfl rfl rfl rfl (IH _ _ _ _ _ _ _ h_17) rfl rfl ?_)
       refine tae [(0, (sl tInt left0)), (1, (sl tInt chosen1)), (4, (.b 2 0)), (5, (.b 3 0)), (6, (.b 4 0)), (21, (sl tInt r_6)), (22, (intA (r_6.length : Int))), (23, (intA (t_8 : Int))), (27, (.f 49 [(.b 0 0), (.b 1 0), (.b 2 0), (.b 3 0), (.b 4 0)])), (31, (sl tInt r_10)), (36, (sl tInt us_14))] rfl ?_
       refine TA_st (σ' := [.box [(.m [9] 0 r_16.length (tSl tInt).k)], .box [(sl tConflictEdge fv3)], .box [(.f 49 [(.b 0 0), (.b 1 0), (.b 2 0), (.b 3 0), (.b 4 0)])], .box [(sl tConflictEdge fv5)], .box [(boolA fv6)], .dead, .dead, .dead, .row (flat tInt.enc ([x_t_8] : (List Int))), .row (flat (tSl tInt).own r_16)]) rfl ?_
       refine tmv 6 9 (by decide) (lb rfl) rfl rfl (lb rfl) ?_
       refine TA_st (σ' := [.box [(.m [6] 0 r_16.length (tSl tInt).k)], .box [(sl tConflictEdge fv3)], .box [(.f 49 [(.b 0 0), (.b 1 0), (.b 2 0), (.b 3 0), (.b 4 0)])], .box [(sl tConflictEdge fv5)], .box [(boolA fv6)], .dead, .row (flat (tSl tInt).own r_16), .dead, .row (flat tInt.enc ([x_t_8] : (List Int))), .dead]) rfl ?_
       refine tae [(0, (sl tInt left0)), (1, (sl tInt chosen1)), (4, (.b 2 0)), (5, (.b 3 0)), (6, (.b 4 0)), (21, (sl tInt r_6)), (22, (intA (r_6.length : Int))), (23, (intA (t_8 : Int))), (27, (.f 49 [(.b 0 0), (.b 1 0), (.b 2 0), (.b 3 0), (.b 4 0)])), (31, (sl tInt r_10)), (36, (sl tInt us_14))] rfl ?_
       refine TA_st (σ' := [.box [(.m [6] 0 r_16.length (tSl tInt).k)], .box [(sl tConflictEdge fv3)], .box [(.f 49 [(.b 0 0), (.b 1 0), (.b 2 0), (.b 3 0), (.b 4 0)])], .box [(sl tConflictEdge fv5)], .box [(boolA fv6)], .dead, .row (flat (tSl tInt).own r_16), .dead, .row (flat tInt.enc ([x_t_8] : (List Int))), .dead]) rfl ?_
       exact TA_nil (by kernel_rfl) (joined () (w0 7) trivial)
      refine TA_have 2 #[true, true, true, true, true, true, true, true, true, false, false] [(0, (sl tInt left0)), (1, (sl tInt chosen1)), (4, (.b 2 0)), (5, (.b 3 0)), (6, (.b 4 0)), (21, (sl tInt r_6)), (22, (intA (r_6.length : Int))), (23, (intA (t_8 : Int))), (27, (.f 49 [(.b 0 0), (.b 1 0), (.b 2 0), (.b 3 0), (.b 4 0)])), (31, (sl tInt r_10)), (33, (.m [7] 0 r_12.length tInt.k)), (35, (.m [8] 0 ([x_t_8] : (List Int)).length tInt.k))] [.box [(.m [6] 0 box0.length (tSl tInt).k)], .box [(sl tConflictEdge fv3)], .box [(.f 49 [(.b 0 0), (.b 1 0), (.b 2 0), (.b 3 0), (.b 4 0)])], .box [(sl tConflictEdge fv5)], .box [(boolA fv6)], .dead, .row (flat (tSl tInt).own box0), .row (flat tInt.own r_12), .row (flat tInt.enc ([x_t_8] : (List Int)))] ?_ (fun hj1_5 => ?_)
      ·skip
       refine t1 9 (by kernel_rfl) rfl rfl (TOp_appY (T := tInt) (f := tInt.own) (xs := r_12) (ys := ([x_t_8] : (List Int))) tInt.lenO sl31 zero3 rfl bytes3 (by decide) rfl rfl rfl rfl (src_mT (f := tInt.own) tInt.lenO rfl rfl (flat_cell tInt _)) (flat_cell tInt _) h_15 ?_)
       refine tmw 7 9 (by decide) (lb rfl) rfl rfl (lb rfl) rfl ?_
       refine TA_ghost (E' := [(0, (sl tInt left0)), (1, (sl tInt chosen1)), (4, (.b 2 0)), (5, (.b 3 0)), (6, (.b 4 0)), (21, (sl tInt r_6)), (22, (intA (r_6.length : Int))), (23, (intA (t_8 : Int))), (27, (.f 49 [(.b 0 0), (.b 1 0), (.b 2 0), (.b 3 0), (.b 4 0)])), (31, (sl tInt r_10)), (35, (.m [8] 0 ([x_t_8] : (List Int)).length tInt.k)), (36, (.m [7] 0 us_14.length tInt.k))]) (σ' := [.box [(.m [6] 0 box0.length (tSl tInt).k)], .box [(sl tConflictEdge fv3)], .box [(.f 49 [(.b 0 0), (.b 1 0), (.b 2 0), (.b 3 0), (.b 4 0)])], .box [(sl tConflictEdge fv5)], .box [(boolA fv6)], .dead, .row (flat (tSl tInt).own box0), .row (flat tInt.own us_14), .row (flat tInt.enc ([x_t_8] : (List Int))), .dead]) (Ghost.weak (WeakL.to 10 (lb rfl) rfl rfl rfl rfl ⟨leR rfl, leR rfl, leR rfl, leR rfl, leR rfl, leR rfl, leR rfl, leR rfl, leR rfl, leR rfl, leR rfl, leR rfl, trivial⟩)) ?_
       refine TA_frz1 7 (E' := [(0, (sl tInt left0)), (1, (sl tInt chosen1)), (4, (.b 2 0)), (5, (.b 3 0)), (6, (.b 4 0)), (21, (sl tInt r_6)), (22, (intA (r_6.length : Int))), (23, (intA (t_8 : Int))), (27, (.f 49 [(.b 0 0), (.b 1 0), (.b 2 0), (.b 3 0), (.b 4 0)])), (31, (sl tInt r_10)), (35, (.m [8] 0 ([x_t_8] : (List Int)).length tInt.k)), (36, (sl tInt us_14))]) rfl rfl (lb rfl) ⟨(.keep rfl), (.keep rfl), (.keep rfl), (.keep rfl), (.keep rfl), (.keep rfl), (.keep rfl), (.keep rfl), (.keep rfl), (.keep rfl), (.keep rfl), fz1T, trivial⟩ ?_
       refine TA_st (σ' := [.box [(.m [6] 0 box0.length (tSl tInt).k)], .box [(sl tConflictEdge fv3)], .box [(.f 49 [(.b 0 0), (.b 1 0), (.b 2 0), (.b 3 0), (.b 4 0)])], .box [(sl tConflictEdge fv5)], .box [(boolA fv6)], .dead, .row (flat (tSl tInt).own box0), .dead, .row (flat tInt.enc ([x_t_8] : (List Int))), .dead]) rfl ?_
       exact tj hj0_5 rfl (w0 9)
      refine TA_have 3 #[false, true, true, true, true, true, true, true, true, false, false] [(0, (sl tInt left0)), (1, (sl tInt chosen1)), (4, (.b 2 0)), (5, (.b 3 0)), (6, (.b 4 0)), (21, (sl tInt r_6)), (22, (intA (r_6.length : Int))), (23, (intA (t_8 : Int))), (31, (sl tInt r_10)), (33, (.m [7] 0 r_12.length tInt.k)), (35, (.m [8] 0 ([x_t_8] : (List Int)).length tInt.k))] [.box [(.m [6] 0 box0.length (tSl tInt).k)], .box [(sl tConflictEdge fv3)], .box [(.f 49 [(.b 0 0), (.b 1 0), (.b 2 0), (.b 3 0), (.b 4 0)])], .box [(sl tConflictEdge fv5)], .box [(boolA fv6)], .dead, .row (flat (tSl tInt).own box0), .row (flat tInt.own r_12), .row (flat tInt.enc ([x_t_8] : (List Int)))] ?_ (fun hj2_5 => ?_)
      ·skip
       refine TA_all [0, 9] (by kernel_rfl) (by decide) ⟨?_, ?_, trivial⟩
       ·skip
        refine ⟨_, rfl, rfl, (TOp_pure (pur_ld_b one63 rfl rfl rfl rfl) rfl ?_)⟩
        exact tj hj1_5 rfl (w0 9)
       ·skip
        refine ⟨_, rfl, rfl, (TOp_appY (T := tInt) (f := tInt.own) (xs := r_12) (ys := ([x_t_8] : (List Int))) tInt.lenO sl31 zero3 rfl bytes3 (by decide) rfl rfl rfl rfl (src_mT (f := tInt.own) tInt.lenO rfl rfl (flat_cell tInt _)) (flat_cell tInt _) h_15 ?_)⟩
        refine tmw 7 9 (by decide) (lb rfl) rfl rfl (lb rfl) rfl ?_
        refine t1 0 (by kernel_rfl) rfl rfl (TOp_pure (pur_ld_b one63 rfl rfl rfl rfl) rfl ?_)
        refine TA_ghost (E' := [(0, (sl tInt left0)), (1, (sl tInt chosen1)), (4, (.b 2 0)), (5, (.b 3 0)), (6, (.b 4 0)), (21, (sl tInt r_6)), (22, (intA (r_6.length : Int))), (23, (intA (t_8 : Int))), (27, (.f 49 [(.b 0 0), (.b 1 0), (.b 2 0), (.b 3 0), (.b 4 0)])), (31, (sl tInt r_10)), (35, (.m [8] 0 ([x_t_8] : (List Int)).length tInt.k)), (36, (.m [7] 0 us_14.length tInt.k))]) (σ' := [.box [(.m [6] 0 box0.length (tSl tInt).k)], .box [(sl tConflictEdge fv3)], .box [(.f 49 [(.b 0 0), (.b 1 0), (.b 2 0), (.b 3 0), (.b 4 0)])], .box [(sl tConflictEdge fv5)], .box [(boolA fv6)], .dead, .row (flat (tSl tInt).own box0), .row (flat tInt.own us_14), .row (flat tInt.enc ([x_t_8] : (List Int))), .dead]) (Ghost.weak (WeakL.to 10 (lb rfl) rfl rfl rfl rfl ⟨leR rfl, leR rfl, leR rfl, leR rfl, leR rfl, leR rfl, leR rfl, leR rfl, leR rfl, leR rfl, leR rfl, leR rfl, trivial⟩)) ?_
        refine TA_frz1 7 (E' := [(0, (sl tInt left0)), (1, (sl tInt chosen1)), (4, (.b 2 0)), (5, (.b 3 0)), (6, (.b 4 0)), (21, (sl tInt r_6)), (22, (intA (r_6.length : Int))), (23, (intA (t_8 : Int))), (27, (.f 49 [(.b 0 0), (.b 1 0), (.b 2 0), (.b 3 0), (.b 4 0)])), (31, (sl tInt r_10)), (35, (.m [8] 0 ([x_t_8] : (List Int)).length tInt.k)), (36, (sl tInt us_14))]) rfl rfl (lb rfl) ⟨(.keep rfl), (.keep rfl), (.keep rfl), (.keep rfl), (.keep rfl), (.keep rfl), (.keep rfl), (.keep rfl), (.keep rfl), (.keep rfl), (.keep rfl), fz1T, trivial⟩ ?_
        refine TA_st (σ' := [.box [(.m [6] 0 box0.length (tSl tInt).k)], .box [(sl tConflictEdge fv3)], .box [(.f 49 [(.b 0 0), (.b 1 0), (.b 2 0), (.b 3 0), (.b 4 0)])], .box [(sl tConflictEdge fv5)], .box [(boolA fv6)], .dead, .row (flat (tSl tInt).own box0), .dead, .row (flat tInt.enc ([x_t_8] : (List Int))), .dead]) rfl ?_
        exact tj hj0_5 rfl (w0 9)
      refine TA_have 3 #[true, true, true, true, true, true, false, true, true, false, false] [(0, (sl tInt left0)), (1, (sl tInt chosen1)), (4, (.b 2 0)), (5, (.b 3 0)), (6, (.b 4 0)), (21, (sl tInt r_6)), (22, (intA (r_6.length : Int))), (23, (intA (t_8 : Int))), (27, (.f 49 [(.b 0 0), (.b 1 0), (.b 2 0), (.b 3 0), (.b 4 0)])), (31, (sl tInt r_10)), (32, (sl tInt chosen1)), (35, (.m [8] 0 ([x_t_8] : (List Int)).length tInt.k))] [.box [(.m [6] 0 box0.length (tSl tInt).k)], .box [(sl tConflictEdge fv3)], .box [(.f 49 [(.b 0 0), (.b 1 0), (.b 2 0), (.b 3 0), (.b 4 0)])], .box [(sl tConflictEdge fv5)], .box [(boolA fv6)], .dead, .row (flat (tSl tInt).own box0), .dead, .row (flat tInt.enc ([x_t_8] : (List Int)))] ?_ (fun hj3_5 => ?_)
      ·skip
       refine t1 6 (by kernel_rfl) rfl rfl (TOp_callO (call_static ent53 rfl) rfl (m_slices_Clone_Sint_int_own _ _ h_13) rfl rfl rfl ?_)
       refine tae [(0, (sl tInt left0)), (1, (sl tInt chosen1)), (4, (.b 2 0)), (5, (.b 3 0)), (6, (.b 4 0)), (21, (sl tInt r_6)), (22, (intA (r_6.length : Int))), (23, (intA (t_8 : Int))), (27, (.f 49 [(.b 0 0), (.b 1 0), (.b 2 0), (.b 3 0), (.b 4 0)])), (31, (sl tInt r_10)), (32, (sl tInt chosen1)), (33, (.m [9] 0 r_12.length tInt.k)), (35, (.m [8] 0 ([x_t_8] : (List Int)).length tInt.k))] rfl ?_
       refine TA_st (σ' := [.box [(.m [6] 0 box0.length (tSl tInt).k)], .box [(sl tConflictEdge fv3)], .box [(.f 49 [(.b 0 0), (.b 1 0), (.b 2 0), (.b 3 0), (.b 4 0)])], .box [(sl tConflictEdge fv5)], .box [(boolA fv6)], .dead, .row (flat (tSl tInt).own box0), .dead, .row (flat tInt.enc ([x_t_8] : (List Int))), .row (flat tInt.own r_12)]) rfl ?_
       refine tmw 7 9 (by decide) (lb rfl) rfl rfl (lb rfl) rfl ?_
       exact tj hj1_5 rfl (w0 9)
      refine TA_have 3 #[true, true, true, true, true, true, true, true, false, false, false] [(0, (sl tInt left0)), (1, (sl tInt chosen1)), (4, (.b 2 0)), (5, (.b 3 0)), (6, (.b 4 0)), (21, (sl tInt r_6)), (22, (intA (r_6.length : Int))), (23, (intA (t_8 : Int))), (27, (.f 49 [(.b 0 0), (.b 1 0), (.b 2 0), (.b 3 0), (.b 4 0)])), (31, (sl tInt r_10)), (33, (.m [7] 0 r_12.length tInt.k)), (34, (intA x_t_8))] [.box [(.m [6] 0 box0.length (tSl tInt).k)], .box [(sl tConflictEdge fv3)], .box [(.f 49 [(.b 0 0), (.b 1 0), (.b 2 0), (.b 3 0), (.b 4 0)])], .box [(sl tConflictEdge fv5)], .box [(boolA fv6)], .dead, .row (flat (tSl tInt).own box0), .row (flat tInt.own r_12), .dead] ?_ (fun hj4_5 => ?_)
      ·skip
       refine t1 8 (by kernel_rfl) rfl rfl (TOp_lit (nn := 1) (k := 1) sl31 zero3 rfl rfl rfl rfl (by decide) ?_)
       refine tmw 8 9 (by decide) (lb rfl) rfl rfl (lb rfl) rfl ?_
       exact tj hj1_5 rfl (w0 9)
      refine TA_have 4 #[false, true, true, true, true, true, false, true, true, false, false] [(0, (sl tInt left0)), (1, (sl tInt chosen1)), (4, (.b 2 0)), (5, (.b 3 0)), (6, (.b 4 0)), (21, (sl tInt r_6)), (22, (intA (r_6.length : Int))), (23, (intA (t_8 : Int))), (31, (sl tInt r_10)), (32, (sl tInt chosen1)), (35, (.m [8] 0 ([x_t_8] : (List Int)).length tInt.k))] [.box [(.m [6] 0 box0.length (tSl tInt).k)], .box [(sl tConflictEdge fv3)], .box [(.f 49 [(.b 0 0), (.b 1 0), (.b 2 0), (.b 3 0), (.b 4 0)])], .box [(sl tConflictEdge fv5)], .box [(boolA fv6)], .dead, .row (flat (tSl tInt).own box0), .dead, .row (flat tInt.enc ([x_t_8] : (List Int)))] ?_ (fun hj5_5 => ?_)
      ·skip
       refine TA_all [0, 6] (by kernel_rfl) (by decide) ⟨?_, ?_, trivial⟩
       ·skip
        refine ⟨_, rfl, rfl, (TOp_pure (pur_ld_b one63 rfl rfl rfl rfl) rfl ?_)⟩
        exact tj hj3_5 rfl (w0 9)
       ·skip
        refine ⟨_, rfl, rfl, (TOp_callO (call_static ent53 rfl) rfl (m_slices_Clone_Sint_int_own _ _ h_13) rfl rfl rfl ?_)⟩
        refine tae [(0, (sl tInt left0)), (1, (sl tInt chosen1)), (4, (.b 2 0)), (5, (.b 3 0)), (6, (.b 4 0)), (21, (sl tInt r_6)), (22, (intA (r_6.length : Int))), (23, (intA (t_8 : Int))), (31, (sl tInt r_10)), (32, (sl tInt chosen1)), (33, (.m [9] 0 r_12.length tInt.k)), (35, (.m [8] 0 ([x_t_8] : (List Int)).length tInt.k))] rfl ?_
        refine TA_st (σ' := [.box [(.m [6] 0 box0.length (tSl tInt).k)], .box [(sl tConflictEdge fv3)], .box [(.f 49 [(.b 0 0), (.b 1 0), (.b 2 0), (.b 3 0), (.b 4 0)])], .box [(sl tConflictEdge fv5)], .box [(boolA fv6)], .dead, .row (flat (tSl tInt).own box0), .dead, .row (flat tInt.enc ([x_t_8] : (List Int))), .row (flat tInt.own r_12)]) rfl ?_
        refine tmw 7 9 (by decide) (lb rfl) rfl rfl (lb rfl) rfl ?_
        exact tj hj2_5 rfl (w0 9)
      refine TA_have 4 #[true, true, true, true, false, true, false, true, true, false, false] [(0, (sl tInt left0)), (1, (sl tInt chosen1)), (4, (.b 2 0)), (5, (.b 3 0)), (6, (.b 4 0)), (21, (sl tInt r_6)), (22, (intA (r_6.length : Int))), (23, (intA (t_8 : Int))), (27, (.f 49 [(.b 0 0), (.b 1 0), (.b 2 0), (.b 3 0), (.b 4 0)])), (28, (sl tConflictEdge fv5)), (29, (sl tInt left0)), (30, (intA x_t_8)), (32, (sl tInt chosen1)), (35, (.m [8] 0 ([x_t_8] : (List Int)).length tInt.k))] [.box [(.m [6] 0 box0.length (tSl tInt).k)], .box [(sl tConflictEdge fv3)], .box [(.f 49 [(.b 0 0), (.b 1 0), (.b 2 0), (.b 3 0), (.b 4 0)])], .box [(sl tConflictEdge fv5)], .box [(boolA fv6)], .dead, .row (flat (tSl tInt).own box0), .dead, .row (flat tInt.enc ([x_t_8] : (List Int)))] ?_ (fun hj6_5 => ?_)
      ·skip
       refine t1 4 (by kernel_rfl) rfl rfl (TOp_callV (call_static ent52 rfl) (m_impl_selected_ok _ _ _ _ h_11) rfl rfl rfl ?_)
       exact tj hj3_5 rfl (w0 9)
      refine TA_have 4 #[true, true, true, true, true, true, false, true, false, false, false] [(0, (sl tInt left0)), (1, (sl tInt chosen1)), (4, (.b 2 0)), (5, (.b 3 0)), (6, (.b 4 0)), (21, (sl tInt r_6)), (22, (intA (r_6.length : Int))), (23, (intA (t_8 : Int))), (27, (.f 49 [(.b 0 0), (.b 1 0), (.b 2 0), (.b 3 0), (.b 4 0)])), (31, (sl tInt r_10)), (32, (sl tInt chosen1)), (34, (intA x_t_8))] [.box [(.m [6] 0 box0.length (tSl tInt).k)], .box [(sl tConflictEdge fv3)], .box [(.f 49 [(.b 0 0), (.b 1 0), (.b 2 0), (.b 3 0), (.b 4 0)])], .box [(sl tConflictEdge fv5)], .box [(boolA fv6)], .dead, .row (flat (tSl tInt).own box0), .dead, .dead] ?_ (fun hj7_5 => ?_)
      ·skip
       refine TA_all [6, 8] (by kernel_rfl) (by decide) ⟨?_, ?_, trivial⟩
       ·skip
        refine ⟨_, rfl, rfl, (TOp_callO (call_static ent53 rfl) rfl (m_slices_Clone_Sint_int_own _ _ h_13) rfl rfl rfl ?_)⟩
        refine tae [(0, (sl tInt left0)), (1, (sl tInt chosen1)), (4, (.b 2 0)), (5, (.b 3 0)), (6, (.b 4 0)), (21, (sl tInt r_6)), (22, (intA (r_6.length : Int))), (23, (intA (t_8 : Int))), (27, (.f 49 [(.b 0 0), (.b 1 0), (.b 2 0), (.b 3 0), (.b 4 0)])), (31, (sl tInt r_10)), (32, (sl tInt chosen1)), (33, (.m [9] 0 r_12.length tInt.k)), (34, (intA x_t_8))] rfl ?_
        refine TA_st (σ' := [.box [(.m [6] 0 box0.length (tSl tInt).k)], .box [(sl tConflictEdge fv3)], .box [(.f 49 [(.b 0 0), (.b 1 0), (.b 2 0), (.b 3 0), (.b 4 0)])], .box [(sl tConflictEdge fv5)], .box [(boolA fv6)], .dead, .row (flat (tSl tInt).own box0), .dead, .dead, .row (flat tInt.own r_12)]) rfl ?_
        refine tmw 7 9 (by decide) (lb rfl) rfl rfl (lb rfl) rfl ?_
        exact tj hj4_5 rfl (w0 9)
       ·skip
        refine ⟨_, rfl, rfl, (TOp_lit (nn := 1) (k := 1) sl31 zero3 rfl rfl rfl rfl (by decide) ?_)⟩
        refine tmw 8 9 (by decide) (lb rfl) rfl rfl (lb rfl) rfl ?_
        exact tj hj3_5 rfl (w0 9)
      refine TA_have 5 #[false, true, true, true, false, true, false, true, true, false, false] [(0, (sl tInt left0)), (1, (sl tInt chosen1)), (4, (.b 2 0)), (5, (.b 3 0)), (6, (.b 4 0)), (21, (sl tInt r_6)), (22, (intA (r_6.length : Int))), (23, (intA (t_8 : Int))), (28, (sl tConflictEdge fv5)), (29, (sl tInt left0)), (30, (intA x_t_8)), (32, (sl tInt chosen1)), (35, (.m [8] 0 ([x_t_8] : (List Int)).length tInt.k))] [.box [(.m [6] 0 box0.length (tSl tInt).k)], .box [(sl tConflictEdge fv3)], .box [(.f 49 [(.b 0 0), (.b 1 0), (.b 2 0), (.b 3 0), (.b 4 0)])], .box [(sl tConflictEdge fv5)], .box [(boolA fv6)], .dead, .row (flat (tSl tInt).own box0), .dead, .row (flat tInt.enc ([x_t_8] : (List Int)))] ?_ (fun hj8_5 => ?_)
      ·skip
       refine TA_all [0, 4] (by kernel_rfl) (by decide) ⟨?_, ?_, trivial⟩
       ·skip
        refine ⟨_, rfl, rfl, (TOp_pure (pur_ld_b one63 rfl rfl rfl rfl) rfl ?_)⟩
        exact tj hj6_5 rfl (w0 9)
       ·skip
        refine ⟨_, rfl, rfl, (TOp_callV (call_static ent52 rfl) (m_impl_selected_ok _ _ _ _ h_11) rfl rfl rfl ?_)⟩
        exact tj hj5_5 rfl (w0 9)
      refine TA_have 5 #[true, false, true, true, false, true, false, true, true, false, false] [(0, (sl tInt left0)), (1, (sl tInt chosen1)), (4, (.b 2 0)), (5, (.b 3 0)), (6, (.b 4 0)), (21, (sl tInt r_6)), (22, (intA (r_6.length : Int))), (23, (intA (t_8 : Int))), (27, (.f 49 [(.b 0 0), (.b 1 0), (.b 2 0), (.b 3 0), (.b 4 0)])), (29, (sl tInt left0)), (30, (intA x_t_8)), (32, (sl tInt chosen1)), (35, (.m [8] 0 ([x_t_8] : (List Int)).length tInt.k))] [.box [(.m [6] 0 box0.length (tSl tInt).k)], .box [(sl tConflictEdge fv3)], .box [(.f 49 [(.b 0 0), (.b 1 0), (.b 2 0), (.b 3 0), (.b 4 0)])], .box [(sl tConflictEdge fv5)], .box [(boolA fv6)], .dead, .row (flat (tSl tInt).own box0), .dead, .row (flat tInt.enc ([x_t_8] : (List Int)))] ?_ (fun hj9_5 => ?_)
      ·skip
       refine t1 1 (by kernel_rfl) rfl rfl (TOp_pure (pur_ld_b one24 rfl rfl rfl rfl) rfl ?_)
       exact tj hj6_5 rfl (w0 9)
      refine TA_have 5 #[true, true, true, true, false, true, false, true, false, false, false] [(0, (sl tInt left0)), (1, (sl tInt chosen1)), (4, (.b 2 0)), (5, (.b 3 0)), (6, (.b 4 0)), (21, (sl tInt r_6)), (22, (intA (r_6.length : Int))), (23, (intA (t_8 : Int))), (27, (.f 49 [(.b 0 0), (.b 1 0), (.b 2 0), (.b 3 0), (.b 4 0)])), (28, (sl tConflictEdge fv5)), (29, (sl tInt left0)), (30, (intA x_t_8)), (32, (sl tInt chosen1)), (34, (intA x_t_8))] [.box [(.m [6] 0 box0.length (tSl tInt).k)], .box [(sl tConflictEdge fv3)], .box [(.f 49 [(.b 0 0), (.b 1 0), (.b 2 0), (.b 3 0), (.b 4 0)])], .box [(sl tConflictEdge fv5)], .box [(boolA fv6)], .dead, .row (flat (tSl tInt).own box0), .dead, .dead] ?_ (fun hj10_5 => ?_)
      ·skip
       refine TA_all [4, 8] (by kernel_rfl) (by decide) ⟨?_, ?_, trivial⟩
       ·skip
        refine ⟨_, rfl, rfl, (TOp_callV (call_static ent52 rfl) (m_impl_selected_ok _ _ _ _ h_11) rfl rfl rfl ?_)⟩
        exact tj hj7_5 rfl (w0 9)
       ·skip
        refine ⟨_, rfl, rfl, (TOp_lit (nn := 1) (k := 1) sl31 zero3 rfl rfl rfl rfl (by decide) ?_)⟩
        refine tmw 8 9 (by decide) (lb rfl) rfl rfl (lb rfl) rfl ?_
        exact tj hj6_5 rfl (w0 9)
      refine pa tb [2, 3, 5, 7] 7 rfl (by kernel_rfl) rfl ?_
      refine TA_all [0, 1, 8] (by kernel_rfl) (by decide) ⟨?_, ?_, ?_, trivial⟩
      ·skip
       refine ⟨_, rfl, rfl, (TOp_pure (pur_ld_b one63 rfl rfl rfl rfl) rfl ?_)⟩
       refine TA_all [1, 8] (by kernel_rfl) (by decide) ⟨?_, ?_, trivial⟩
       ·skip
        refine ⟨_, rfl, rfl, (TOp_pure (pur_ld_b one24 rfl rfl rfl rfl) rfl ?_)⟩
        exact tj hj10_5 rfl (w0 9)
       ·skip
        refine ⟨_, rfl, rfl, (TOp_lit (nn := 1) (k := 1) sl31 zero3 rfl rfl rfl rfl (by decide) ?_)⟩
        refine tmw 8 9 (by decide) (lb rfl) rfl rfl (lb rfl) rfl ?_
        exact tj hj9_5 rfl (w0 9)
      ·skip
       refine ⟨_, rfl, rfl, (TOp_pure (pur_ld_b one24 rfl rfl rfl rfl) rfl ?_)⟩
       refine TA_all [0, 4, 8] (by kernel_rfl) (by decide) ⟨?_, ?_, ?_, trivial⟩
       ·skip
        refine ⟨_, rfl, rfl, (TOp_pure (pur_ld_b one63 rfl rfl rfl rfl) rfl ?_)⟩
        exact tj hj10_5 rfl (w0 9)
       ·skip
        refine ⟨_, rfl, rfl, (TOp_callV (call_static ent52 rfl) (m_impl_selected_ok _ _ _ _ h_11) rfl rfl rfl ?_)⟩
        refine TA_all [0, 6, 8] (by kernel_rfl) (by decide) ⟨?_, ?_, ?_, trivial⟩
        ·skip
         refine ⟨_, rfl, rfl, (TOp_pure (pur_ld_b one63 rfl rfl rfl rfl) rfl ?_)⟩
         exact tj hj7_5 rfl (w0 9)
        ·skip
         refine ⟨_, rfl, rfl, (TOp_callO (call_static ent53 rfl) rfl (m_slices_Clone_Sint_int_own _ _ h_13) rfl rfl rfl ?_)⟩
         refine tae [(0, (sl tInt left0)), (1, (sl tInt chosen1)), (4, (.b 2 0)), (5, (.b 3 0)), (6, (.b 4 0)), (10, (intA x_t_8)), (21, (sl tInt r_6)), (22, (intA (r_6.length : Int))), (23, (intA (t_8 : Int))), (28, (sl tConflictEdge fv5)), (29, (sl tInt left0)), (30, (intA x_t_8)), (31, (sl tInt r_10)), (32, (sl tInt chosen1)), (33, (.m [9] 0 r_12.length tInt.k)), (34, (intA x_t_8))] rfl ?_
         refine TA_st (σ' := [.box [(.m [6] 0 box0.length (tSl tInt).k)], .box [(sl tConflictEdge fv3)], .box [(.f 49 [(.b 0 0), (.b 1 0), (.b 2 0), (.b 3 0), (.b 4 0)])], .box [(sl tConflictEdge fv5)], .box [(boolA fv6)], .dead, .row (flat (tSl tInt).own box0), .dead, .dead, .row (flat tInt.own r_12)]) rfl ?_
         refine tmw 7 9 (by decide) (lb rfl) rfl rfl (lb rfl) rfl ?_
         refine TA_all [0, 8] (by kernel_rfl) (by decide) ⟨?_, ?_, trivial⟩
         ·skip
          refine ⟨_, rfl, rfl, (TOp_pure (pur_ld_b one63 rfl rfl rfl rfl) rfl ?_)⟩
          exact tj hj4_5 rfl (w0 9)
         ·skip
          refine ⟨_, rfl, rfl, (TOp_lit (nn := 1) (k := 1) sl31 zero3 rfl rfl rfl rfl (by decide) ?_)⟩
          refine tmw 8 10 (by decide) (lb rfl) rfl rfl (lb rfl) rfl ?_
          refine tae [(0, (sl tInt left0)), (1, (sl tInt chosen1)), (4, (.b 2 0)), (5, (.b 3 0)), (6, (.b 4 0)), (21, (sl tInt r_6)), (22, (intA (r_6.length : Int))), (23, (intA (t_8 : Int))), (31, (sl tInt r_10)), (33, (.m [7] 0 r_12.length tInt.k)), (35, (.m [8] 0 ([x_t_8] : (List Int)).length tInt.k))] rfl ?_
          refine TA_st (σ' := [.box [(.m [6] 0 box0.length (tSl tInt).k)], .box [(sl tConflictEdge fv3)], .box [(.f 49 [(.b 0 0), (.b 1 0), (.b 2 0), (.b 3 0), (.b 4 0)])], .box [(sl tConflictEdge fv5)], .box [(boolA fv6)], .dead, .row (flat (tSl tInt).own box0), .row (flat tInt.own r_12), .row (flat tInt.enc ([x_t_8] : (List Int))), .dead, .dead]) rfl ?_
          exact tj hj2_5 rfl (w0 9)
        ·skip
         refine ⟨_, rfl, rfl, (TOp_lit (nn := 1) (k := 1) sl31 zero3 rfl rfl rfl rfl (by decide) ?_)⟩
         refine tmw 8 9 (by decide) (lb rfl) rfl rfl (lb rfl) rfl ?_
         exact tj hj5_5 rfl (w0 9)
       ·skip
        refine ⟨_, rfl, rfl, (TOp_lit (nn := 1) (k := 1) sl31 zero3 rfl rfl rfl rfl (by decide) ?_)⟩
        refine tmw 8 9 (by decide) (lb rfl) rfl rfl (lb rfl) rfl ?_
        exact tj hj8_5 rfl (w0 9)
      ·skip
       refine ⟨_, rfl, rfl, (TOp_lit (nn := 1) (k := 1) sl31 zero3 rfl rfl rfl rfl (by decide) ?_)⟩
       refine tmw 8 9 (by decide) (lb rfl) rfl rfl (lb rfl) rfl ?_
       refine TA_all [0, 1] (by kernel_rfl) (by decide) ⟨?_, ?_, trivial⟩
       ·skip
        refine ⟨_, rfl, rfl, (TOp_pure (pur_ld_b one63 rfl rfl rfl rfl) rfl ?_)⟩
        exact tj hj9_5 rfl (w0 9)
       ·skip
        refine ⟨_, rfl, rfl, (TOp_pure (pur_ld_b one24 rfl rfl rfl rfl) rfl ?_)⟩
        exact tj hj8_5 rfl (w0 9)
     ·rintro _ _
      refine sr ?_
      refine pv tb 2 rfl ?_
      refine TO_nil ?_
      refine T_cond (t := (!fv6)) rfl (fun c_18 => ?_) (fun c_18 => ?_)
      ·replace H := cond_t c_18 H
       refine T_ret ?_
       refine block_ret ?_
       refine then_ret ?_
       refine then_ret ?_
       refine block_ret ?_
       obtain rfl := some_inj H
       obtain rfl := some_inj K9_
       replace H := onS_r N9_
       obtain rfl := some_inj H
       exact end_pickX .nil rfl [0, 1, 2, 3, 4, 5, 6] (by decide) (lb rfl) rfl (lb rfl) rfl rfl rfl rfl rfl rfl
      ·replace H := cond_f c_18 H
       refine T_skip ?_
       refine T_region ?_
       refine Tp rfl rfl (pur_add rfl rfl rfl (fits64 (by omega) (by omega))) rfl ?_
       refine pv tb 1 rfl ?_
       refine TO_nil ?_
       obtain rfl := some_inj H
       exact again (r_6.length - (t_8 + 1)) (t_8 + 1, r_16) (by omega) (w0 7) ⟨rfl, K9_⟩
    ·replace d9 := of_decide_eq_false d9
     obtain rfl := forL_end L9_ (by omega)
     refine T_exit ?_
     refine then_exit ?_
     refine then_exit ?_
     refine block_exit ?_
     replace H := onS_l N9_
     obtain rfl := some_inj H
     exact end_pickX .nil rfl [0, 1, 2, 3, 4, 5, 6] (by decide) (lb rfl) rfl (lb rfl) rfl rfl rfl rfl rfl rfl

set_option maxHeartbeats 2000000 in
theorem m_slices_SortFunc_SSint_Sint_ins0 (p : Option Addr) (cap : Nat) (fv : Value) (w : World) : Calls Tryz.prog 83 #[.slice p 0 cap, .int .i64 0, .int .i64 0, fv] w fun e w' => e = .returned (.tuple #[]) ∧ w' = w := by
  go_enter Tryz.func83, Tryz.ntmps83
  go_wp2
  refine wp_loop_rounds 1 ?_
  rw [rounds_succ]
  go_wp2
  go_end0
  exact ⟨rfl, rfl⟩
theorem m_slices_SortFunc_SSint_Sint_len0 (w : World) : Calls Tryz.prog 76 #[.int .u64 0] w fun e w' => e = .returned (.int .i64 0) ∧ w' = w := by
  have h := Any.bits_Len shl125 (0 : Int) w (by omega) (by omega)
  rw [show Go.Lib.bitLen (0 : Int).toNat = 0 by decide +kernel] at h
  exact h
set_option maxHeartbeats 2000000 in
theorem m_slices_SortFunc_SSint_Sint_pdq0 (p : Option Addr) (cap : Nat) (lim : Int) (fv : Value) (w : World) : Calls Tryz.prog 75 #[.slice p 0 cap, .int .i64 0, .int .i64 0, .int .i64 lim, fv] w fun e w' => e = .returned (.tuple #[]) ∧ w' = w := by
  have e1 : ∀ args w, (callFunc 83 args).run Tryz.prog w = .ok (.enter 83 args) w := ent83
  go_enter Tryz.func75, Tryz.ntmps75
  go_wp2
  refine wp_loop_rounds 1 ?_
  rw [rounds_succ]
  go_wp2_with (go_at_fn 83; refine (m_slices_SortFunc_SSint_Sint_ins0 p cap fv _).mono ?_; rintro e w' ⟨rfl, rfl⟩)
  (try simp only [Exit.inBlock, Exit.then]); refine bodyPost_ret (results_none rfl _ _ _) rfl ?_
  exact ⟨rfl, rfl⟩
set_option maxHeartbeats 2000000 in
theorem m_slices_SortFunc_SSint_Sint_so0 (p : Option Addr) (cap : Nat) (fv : Value) (w : World) : Calls Tryz.prog 54 #[.slice p 0 cap, fv] w fun e w' => e = .returned (.tuple #[]) ∧ w' = w := by
  have e1 : ∀ args w, (callFunc 75 args).run Tryz.prog w = .ok (.enter 75 args) w := ent75
  have e2 : ∀ args w, (callFunc 76 args).run Tryz.prog w = .ok (.enter 76 args) w := ent76
  go_enter Tryz.func54, Tryz.ntmps54
  go_wp2_with (first | (go_at_fn 76; refine (m_slices_SortFunc_SSint_Sint_len0 _).mono ?_; rintro e w' ⟨rfl, rfl⟩) | (go_at_fn 75; refine (m_slices_SortFunc_SSint_Sint_pdq0 p cap _ fv _).mono ?_; rintro e w' ⟨rfl, rfl⟩))
  go_end0
  exact ⟨rfl, rfl⟩
set_option maxHeartbeats 2000000 in
theorem m_slices_SortFunc_SSint_Sint_ins1 (p : Option Addr) (cap : Nat) (fv : Value) (w : World) : Calls Tryz.prog 83 #[.slice p 1 cap, .int .i64 0, .int .i64 1, fv] w fun e w' => e = .returned (.tuple #[]) ∧ w' = w := by
  go_enter Tryz.func83, Tryz.ntmps83
  go_wp2
  refine wp_loop_rounds 1 ?_
  rw [rounds_succ]
  go_wp2
  go_end0
  exact ⟨rfl, rfl⟩
theorem m_slices_SortFunc_SSint_Sint_len1 (w : World) : Calls Tryz.prog 76 #[.int .u64 1] w fun e w' => e = .returned (.int .i64 1) ∧ w' = w := by
  have h := Any.bits_Len shl125 (1 : Int) w (by omega) (by omega)
  rw [show Go.Lib.bitLen (1 : Int).toNat = 1 by decide +kernel] at h
  exact h
set_option maxHeartbeats 2000000 in
theorem m_slices_SortFunc_SSint_Sint_pdq1 (p : Option Addr) (cap : Nat) (lim : Int) (fv : Value) (w : World) : Calls Tryz.prog 75 #[.slice p 1 cap, .int .i64 0, .int .i64 1, .int .i64 lim, fv] w fun e w' => e = .returned (.tuple #[]) ∧ w' = w := by
  have e1 : ∀ args w, (callFunc 83 args).run Tryz.prog w = .ok (.enter 83 args) w := ent83
  go_enter Tryz.func75, Tryz.ntmps75
  go_wp2
  refine wp_loop_rounds 1 ?_
  rw [rounds_succ]
  go_wp2_with (go_at_fn 83; refine (m_slices_SortFunc_SSint_Sint_ins1 p cap fv _).mono ?_; rintro e w' ⟨rfl, rfl⟩)
  (try simp only [Exit.inBlock, Exit.then]); refine bodyPost_ret (results_none rfl _ _ _) rfl ?_
  exact ⟨rfl, rfl⟩
set_option maxHeartbeats 2000000 in
theorem m_slices_SortFunc_SSint_Sint_so1 (p : Option Addr) (cap : Nat) (fv : Value) (w : World) : Calls Tryz.prog 54 #[.slice p 1 cap, fv] w fun e w' => e = .returned (.tuple #[]) ∧ w' = w := by
  have e1 : ∀ args w, (callFunc 75 args).run Tryz.prog w = .ok (.enter 75 args) w := ent75
  have e2 : ∀ args w, (callFunc 76 args).run Tryz.prog w = .ok (.enter 76 args) w := ent76
  go_enter Tryz.func54, Tryz.ntmps54
  go_wp2_with (first | (go_at_fn 76; refine (m_slices_SortFunc_SSint_Sint_len1 _).mono ?_; rintro e w' ⟨rfl, rfl⟩) | (go_at_fn 75; refine (m_slices_SortFunc_SSint_Sint_pdq1 p cap _ fv _).mono ?_; rintro e w' ⟨rfl, rfl⟩))
  go_end0
  exact ⟨rfl, rfl⟩
theorem m_slices_SortFunc_SSint_Sint_1 (p : Option Addr) (n cap : Nat) (hn : n ≤ 1) (fv : Value) (w : World) : Calls Tryz.prog 54 #[.slice p n cap, fv] w fun e w' => e = .returned (.tuple #[]) ∧ w' = w := by
  obtain rfl | rfl : n = 0 ∨ n = 1 := by omega
  ·exact m_slices_SortFunc_SSint_Sint_so0 p cap fv w
  ·exact m_slices_SortFunc_SSint_Sint_so1 p cap fv w


set_option maxHeartbeats 1000000 in
theorem m_cmp_isNaN_int_ok (x0 : Int) (r : Bool) (H : m_cmp_isNaN_int x0 = some r) : FnV prg 93 [(intA x0)] (boolA r) := by
  unfold m_cmp_isNaN_int at H
  refine fnV_of_T Tryz.func93 rfl rfl (Nat.le_of_ble_eq_true rfl) ?_
  refine te [(0, (intA x0))] rfl ?_
  refine sr ?_
  refine pv tb 1 rfl ?_
  refine TO_nil ?_
  refine sr ?_
  refine pv tb 4 rfl ?_
  refine TO_nil ?_
  refine T_ret ?_
  obtain rfl := some_inj H
  refine end_ret (.tmp .nil) rfl rfl ⟨?_, rfl⟩
  rfl

set_option maxHeartbeats 1000000 in
theorem m_cmp_Compare_int_ok (x0 : Int) (y1 : Int) (r : Int) (H : m_cmp_Compare_int x0 y1 = some r) : FnV prg 77 [(intA x0), (intA y1)] (intA r) := by
  unfold m_cmp_Compare_int at H
  refine fnV_of_T Tryz.func77 rfl rfl (Nat.le_of_ble_eq_true rfl) ?_
  refine te [(0, (intA x0)), (1, (intA y1))] rfl ?_
  refine sr ?_
  refine pv tb 1 rfl ?_
  refine TO_nil ?_
  refine sr ?_
  obtain ⟨r_1, h_2, H⟩ := bind_inv H
  refine pv tb 1 rfl ?_
  refine TO_cons rfl (TOp_callV (call_static ent93 rfl) (m_cmp_isNaN_int_ok _ _ h_2) rfl rfl rfl ?_)
  refine pv tb 1 rfl ?_
  refine TO_nil ?_
  refine sr ?_
  obtain ⟨r_3, h_4, H⟩ := bind_inv H
  refine pv tb 1 rfl ?_
  refine TO_cons rfl (TOp_callV (call_static ent93 rfl) (m_cmp_isNaN_int_ok _ _ h_4) rfl rfl rfl ?_)
  refine pv tb 1 rfl ?_
  refine TO_nil ?_
  refine T_seq ?_
  refine sr ?_
  refine pv tb 1 rfl ?_
  refine TO_nil ?_
  refine T_cond (t := r_1) rfl (fun c_5 => ?_) (fun c_5 => ?_)
  ·replace H := cond_t c_5 H
   refine T_seq ?_
   refine sr ?_
   refine pv tb 1 rfl ?_
   refine TO_nil ?_
   refine T_cond (t := r_3) rfl (fun c_6 => ?_) (fun c_6 => ?_)
   ·replace H := cond_t c_6 H
    refine sr ?_
    refine pv tb 1 rfl ?_
    refine TO_nil ?_
    refine T_ret ?_
    refine then_ret ?_
    refine then_ret ?_
    obtain rfl := some_inj H
    refine end_ret (.tmp .nil) rfl rfl ⟨?_, rfl⟩
    rfl
   ·replace H := cond_f c_6 H
    refine T_skip ?_
    refine sr ?_
    refine pv tb 1 rfl ?_
    refine TO_nil ?_
    refine T_ret ?_
    refine then_ret ?_
    obtain rfl := some_inj H
    refine end_ret (.tmp .nil) rfl rfl ⟨?_, rfl⟩
    rfl
  ·replace H := cond_f c_5 H
   refine T_skip ?_
   refine T_seq ?_
   refine sr ?_
   refine pv tb 1 rfl ?_
   refine TO_nil ?_
   refine T_cond (t := r_3) rfl (fun c_7 => ?_) (fun c_7 => ?_)
   ·replace H := cond_t c_7 H
    refine sr ?_
    refine pv tb 1 rfl ?_
    refine TO_nil ?_
    refine T_ret ?_
    refine then_ret ?_
    obtain rfl := some_inj H
    refine end_ret (.tmp .nil) rfl rfl ⟨?_, rfl⟩
    rfl
   ·replace H := cond_f c_7 H
    refine T_skip ?_
    refine T_seq ?_
    refine sr ?_
    refine pv tb 3 rfl ?_
    refine TO_nil ?_
    refine T_cond (t := decide (x0 < y1)) rfl (fun c_8 => ?_) (fun c_8 => ?_)
    ·replace H := cond_t c_8 H
     refine sr ?_
     refine pv tb 1 rfl ?_
     refine TO_nil ?_
     refine T_ret ?_
     refine then_ret ?_
     obtain rfl := some_inj H
     refine end_ret (.tmp .nil) rfl rfl ⟨?_, rfl⟩
     rfl
    ·replace H := cond_f c_8 H
     refine T_skip ?_
     refine T_seq ?_
     refine sr ?_
     refine pv tb 3 rfl ?_
     refine TO_nil ?_
     refine te [(19, (boolA (decide (y1 < x0))))] rfl ?_
     refine T_cond (t := decide (y1 < x0)) rfl (fun c_9 => ?_) (fun c_9 => ?_)
     ·replace H := cond_t c_9 H
      refine sr ?_
      refine pv tb 1 rfl ?_
      refine TO_nil ?_
      refine T_ret ?_
      refine then_ret ?_
      obtain rfl := some_inj H
      refine end_ret (.tmp .nil) rfl rfl ⟨?_, rfl⟩
      rfl
     ·replace H := cond_f c_9 H
      refine T_skip ?_
      refine sr ?_
      refine pv tb 1 rfl ?_
      refine TO_nil ?_
      refine T_ret ?_
      obtain rfl := some_inj H
      refine end_ret (.tmp .nil) rfl rfl ⟨?_, rfl⟩
      rfl

set_option maxHeartbeats 1000000 in
theorem m_slices_Compare_Sint_int_ok (s10 : (List Int)) (s21 : (List Int)) (r : Int) (H : m_slices_Compare_Sint_int s10 s21 = some r) : FnV prg 55 [(sl tInt s10), (sl tInt s21)] (intA r) := by
  unfold m_slices_Compare_Sint_int at H
  refine fnV_of_T Tryz.func55 rfl rfl (Nat.le_of_ble_eq_true rfl) ?_
  refine te [(0, (sl tInt s10)), (1, (sl tInt s21))] rfl ?_
  refine sr ?_
  refine pv tb 1 rfl ?_
  refine TO_nil ?_
  refine T_seq ?_
  refine sr ?_
  refine pv tb 1 rfl ?_
  refine Tp rfl rfl (pur_lenT (T := tInt) sl31 rfl rfl) rfl ?_
  refine pv tb 1 rfl ?_
  refine TO_nil ?_
  obtain ⟨O2_, L2_, N2_⟩ := bind_inv H
  clear H
  obtain ⟨B2_, hb2, L2_⟩ := gen_forL L2_
  refine T_block ?_
  refine T_loopX (fun k => fun (t_1 : Nat) => k = s10.length - t_1 ∧ forL B2_ (s10.drop t_1) (t_1 : Int) () = some O2_) (fun (t_1 : Nat) => [(0, (sl tInt s10)), (1, (sl tInt s21)), (9, (sl tInt s10)), (10, (intA (s10.length : Int))), (11, (intA (t_1 : Int)))]) (fun (t_1 : Nat) => []) _ (0 : Nat) (w0 0) ⟨rfl, L2_⟩ ?_
  rintro _ t_1 ⟨rfl, L2_⟩
  refine T_fact (len_sl (T := tInt) (.tmp 0) rfl) (fun hl2 => ?_)
  refine sr ?_
  refine pv tb 1 rfl ?_
  refine TO_nil ?_
  refine T_seq ?_
  refine T_cond (t := decide ((t_1 : Int) < (s10.length : Int))) rfl (fun d2 => ?_) (fun d2 => ?_)
  ·replace d2 := of_decide_eq_true d2
   obtain ⟨x_t_1, hx_t_1⟩ : ∃ v, (s10)[t_1]? = some v := ⟨_, List.getElem?_eq_getElem (by omega)⟩
   obtain ⟨C2_, H, K2_⟩ := forL_step L2_ hx_t_1
   rw [hb2] at H
   refine T_skip ?_
   refine T_seq ?_
   refine T_block ?_
   refine sr ?_
   refine pv tb 1 rfl ?_
   refine Tp rfl rfl (pur_ixT (T := tInt) sl31 rfl rfl rfl hx_t_1 rfl) rfl ?_
   refine Tp rfl rfl (pur_ldT (T := tInt) (i := t_1) (off := 0) rfl one3 rfl rfl hx_t_1 rfl) rfl ?_
   refine pv tb 2 rfl ?_
   refine TO_nil ?_
   refine T_seq ?_
   refine sr ?_
   refine pv tb 2 rfl ?_
   refine Tp rfl rfl (pur_lenT (T := tInt) sl31 rfl rfl) rfl ?_
   refine pv tb 1 rfl ?_
   refine TO_nil ?_
   refine T_cond (t := decide ((s21.length : Int) ≤ (t_1 : Int))) rfl (fun c_3 => ?_) (fun c_3 => ?_)
   ·replace H := cond_t c_3 H
    refine sr ?_
    refine pv tb 1 rfl ?_
    refine TO_nil ?_
    refine te [(4, (intA 1))] rfl ?_
    refine T_ret ?_
    refine then_ret ?_
    refine block_ret ?_
    refine then_ret ?_
    refine then_ret ?_
    refine block_ret ?_
    refine then_ret ?_
    obtain rfl := some_inj H
    obtain rfl := some_inj K2_
    replace H := onS_r N2_
    obtain rfl := some_inj H
    refine end_ret (.tmp .nil) rfl rfl ⟨?_, rfl⟩
    rfl
   ·replace H := cond_f c_3 H
    refine T_skip ?_
    refine sr ?_
    obtain ⟨v_4, h_5, H⟩ := bind_inv H
    obtain ⟨n_6, hz_7, hv_8⟩ := getI_inv h_5
    refine pv tb 2 rfl ?_
    refine Tp rfl rfl (pur_ixT (T := tInt) sl31 rfl rfl hz_7 hv_8 rfl) rfl ?_
    refine Tp rfl rfl (pur_ldT (T := tInt) (i := n_6) (off := 0) rfl one3 rfl rfl hv_8 rfl) rfl ?_
    refine pv tb 1 rfl ?_
    refine TO_nil ?_
    refine sr ?_
    obtain ⟨r_9, h_10, H⟩ := bind_inv H
    refine pv tb 2 rfl ?_
    refine TO_cons rfl (TOp_callV (call_static ent77 rfl) (m_cmp_Compare_int_ok _ _ _ h_10) rfl rfl rfl ?_)
    refine pv tb 1 rfl ?_
    refine TO_nil ?_
    refine te [(0, (sl tInt s10)), (1, (sl tInt s21)), (8, (intA r_9)), (9, (sl tInt s10)), (10, (intA (s10.length : Int))), (11, (intA (t_1 : Int)))] rfl ?_
    refine sr ?_
    refine pv tb 2 rfl ?_
    refine TO_nil ?_
    refine T_cond (t := decide (r_9 ≠ 0)) rfl (fun c_11 => ?_) (fun c_11 => ?_)
    ·replace H := cond_t c_11 H
     refine sr ?_
     refine pv tb 2 rfl ?_
     refine TO_nil ?_
     refine T_ret ?_
     refine block_ret ?_
     refine then_ret ?_
     refine then_ret ?_
     refine block_ret ?_
     refine then_ret ?_
     obtain rfl := some_inj H
     obtain rfl := some_inj K2_
     replace H := onS_r N2_
     obtain rfl := some_inj H
     refine end_ret (.tmp .nil) rfl rfl ⟨?_, rfl⟩
     rfl
    ·replace H := cond_f c_11 H
     refine T_skip ?_
     refine T_region ?_
     refine Tp rfl rfl (pur_add rfl rfl rfl (fits64 (by omega) (by omega))) rfl ?_
     refine pv tb 1 rfl ?_
     refine TO_nil ?_
     obtain rfl := some_inj H
     exact again (s10.length - (t_1 + 1)) (t_1 + 1) (by omega) (w0 0) ⟨rfl, K2_⟩
  ·replace d2 := of_decide_eq_false d2
   obtain rfl := forL_end L2_ (by omega)
   refine T_exit ?_
   refine then_exit ?_
   refine then_exit ?_
   refine block_exit ?_
   replace H := onS_l N2_
   refine T_seq ?_
   refine sr ?_
   refine pv tb 1 rfl ?_
   refine Tp rfl rfl (pur_lenT (T := tInt) sl31 rfl rfl) rfl ?_
   refine pv tb 1 rfl ?_
   refine Tp rfl rfl (pur_lenT (T := tInt) sl31 rfl rfl) rfl ?_
   refine pv tb 1 rfl ?_
   refine TO_nil ?_
   refine T_cond (t := decide ((s10.length : Int) < (s21.length : Int))) rfl (fun c_12 => ?_) (fun c_12 => ?_)
   ·replace H := cond_t c_12 H
    refine sr ?_
    refine pv tb 1 rfl ?_
    refine TO_nil ?_
    refine T_ret ?_
    refine then_ret ?_
    obtain rfl := some_inj H
    refine end_ret (.tmp .nil) rfl rfl ⟨?_, rfl⟩
    rfl
   ·replace H := cond_f c_12 H
    refine T_skip ?_
    refine sr ?_
    refine pv tb 1 rfl ?_
    refine TO_nil ?_
    refine T_ret ?_
    obtain rfl := some_inj H
    refine end_ret (.tmp .nil) rfl rfl ⟨?_, rfl⟩
    rfl

theorem m_slices_CompactFunc_SSint_Sint_1 (p : Option Addr) (n cap : Nat) (hn : n ≤ 1) (fv : Value) (w : World) : Calls Tryz.prog 56 #[.slice p n cap, fv] w fun e w' => e = .returned (.slice p n cap) ∧ w' = w := by
  obtain rfl | rfl : n = 0 ∨ n = 1 := by omega
  ·go_enter Tryz.func56, Tryz.ntmps56
   go_wp2
   go_ret
   exact ⟨rfl, rfl⟩
  ·go_enter Tryz.func56, Tryz.ntmps56
   go_wp2
   go_ret
   exact ⟨rfl, rfl⟩


set_option maxHeartbeats 1000000 in
theorem m_slices_Equal_Sint_int_ok (s10 : (List Int)) (s21 : (List Int)) (r : Bool) (H : m_slices_Equal_Sint_int s10 s21 = some r) : FnV prg 57 [(sl tInt s10), (sl tInt s21)] (boolA r) := by
  unfold m_slices_Equal_Sint_int at H
  refine fnV_of_T Tryz.func57 rfl rfl (Nat.le_of_ble_eq_true rfl) ?_
  refine te [(0, (sl tInt s10)), (1, (sl tInt s21))] rfl ?_
  refine sr ?_
  refine pv tb 1 rfl ?_
  refine TO_nil ?_
  refine T_seq ?_
  refine sr ?_
  refine pv tb 1 rfl ?_
  refine Tp rfl rfl (pur_lenT (T := tInt) sl31 rfl rfl) rfl ?_
  refine pv tb 1 rfl ?_
  refine Tp rfl rfl (pur_lenT (T := tInt) sl31 rfl rfl) rfl ?_
  refine pv tb 1 rfl ?_
  refine TO_nil ?_
  refine T_cond (t := decide ((s10.length : Int) ≠ (s21.length : Int))) rfl (fun c_1 => ?_) (fun c_1 => ?_)
  ·replace H := cond_t c_1 H
   refine sr ?_
   refine pv tb 1 rfl ?_
   refine TO_nil ?_
   refine T_ret ?_
   refine then_ret ?_
   obtain rfl := some_inj H
   refine end_ret (.tmp .nil) rfl rfl ⟨?_, rfl⟩
   rfl
  ·replace H := cond_f c_1 H
   refine T_skip ?_
   refine T_seq ?_
   refine sr ?_
   refine pv tb 1 rfl ?_
   refine Tp rfl rfl (pur_lenT (T := tInt) sl31 rfl rfl) rfl ?_
   refine pv tb 1 rfl ?_
   refine TO_nil ?_
   obtain ⟨O3_, L3_, N3_⟩ := bind_inv H
   clear H
   obtain ⟨B3_, hb3, L3_⟩ := gen_forL L3_
   refine T_block ?_
   refine T_loopX (fun k => fun (t_2 : Nat) => k = s10.length - t_2 ∧ forL B3_ (s10.drop t_2) (t_2 : Int) () = some O3_) (fun (t_2 : Nat) => [(0, (sl tInt s10)), (1, (sl tInt s21)), (12, (intA (s10.length : Int))), (13, (intA (t_2 : Int)))]) (fun (t_2 : Nat) => []) _ (0 : Nat) (w0 0) ⟨rfl, L3_⟩ ?_
   rintro _ t_2 ⟨rfl, L3_⟩
   refine T_fact (len_sl (T := tInt) (.tmp 0) rfl) (fun hl3 => ?_)
   refine sr ?_
   refine pv tb 1 rfl ?_
   refine TO_nil ?_
   refine T_seq ?_
   refine T_cond (t := decide ((t_2 : Int) < (s10.length : Int))) rfl (fun d3 => ?_) (fun d3 => ?_)
   ·replace d3 := of_decide_eq_true d3
    obtain ⟨x_t_2, hx_t_2⟩ : ∃ v, (s10)[t_2]? = some v := ⟨_, List.getElem?_eq_getElem (by omega)⟩
    obtain ⟨C3_, H, K3_⟩ := forL_step L3_ hx_t_2
    rw [hb3] at H
    refine T_skip ?_
    refine T_seq ?_
    refine T_block ?_
    refine sr ?_
    refine pv tb 2 rfl ?_
    refine TO_nil ?_
    refine T_seq ?_
    refine T_regionD mixed (by kernel_rfl) ?_
    refine pq tb 2 rfl ?_
    refine TQ_pure rfl (pur_ixT (T := tInt) sl31 rfl rfl rfl hx_t_2 rfl) rfl ?_
    refine TQ_pure rfl (pur_ldT (T := tInt) (i := t_2) (off := 0) rfl one3 rfl rfl hx_t_2 rfl) rfl ?_
    obtain ⟨v_4, h_5, H⟩ := bind_inv H
    obtain ⟨n_6, hz_7, hv_8⟩ := getI_inv h_5
    refine pq tb 2 rfl ?_
    refine TQ_pure rfl (pur_ixT (T := tInt) sl31 rfl rfl hz_7 hv_8 rfl) rfl ?_
    refine TQ_pure rfl (pur_ldT (T := tInt) (i := n_6) (off := 0) rfl one3 rfl rfl hv_8 rfl) rfl ?_
    refine pq tb 1 rfl ?_
    refine TQ_nil ?_
    refine T_cond (t := decide (x_t_2 ≠ v_4)) rfl (fun c_9 => ?_) (fun c_9 => ?_)
    ·replace H := cond_t c_9 H
     refine sr ?_
     refine pv tb 1 rfl ?_
     refine TO_nil ?_
     refine te [(4, (boolA false))] rfl ?_
     refine T_ret ?_
     refine block_ret ?_
     refine then_ret ?_
     refine then_ret ?_
     refine block_ret ?_
     refine then_ret ?_
     obtain rfl := some_inj H
     obtain rfl := some_inj K3_
     replace H := onS_r N3_
     obtain rfl := some_inj H
     refine end_ret (.tmp .nil) rfl rfl ⟨?_, rfl⟩
     rfl
    ·replace H := cond_f c_9 H
     refine T_skip ?_
     refine T_region ?_
     refine Tp rfl rfl (pur_add rfl rfl rfl (fits64 (by omega) (by omega))) rfl ?_
     refine pv tb 1 rfl ?_
     refine TO_nil ?_
     obtain rfl := some_inj H
     exact again (s10.length - (t_2 + 1)) (t_2 + 1) (by omega) (w0 0) ⟨rfl, K3_⟩
   ·replace d3 := of_decide_eq_false d3
    obtain rfl := forL_end L3_ (by omega)
    refine T_exit ?_
    refine then_exit ?_
    refine then_exit ?_
    refine block_exit ?_
    replace H := onS_l N3_
    refine sr ?_
    refine pv tb 1 rfl ?_
    refine TO_nil ?_
    refine T_ret ?_
    obtain rfl := some_inj H
    refine end_ret (.tmp .nil) rfl rfl ⟨?_, rfl⟩
    rfl
end Go.Proofs.YtglgcncmjnjfgaaGreat

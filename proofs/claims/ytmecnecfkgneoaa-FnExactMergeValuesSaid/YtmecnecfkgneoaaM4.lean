import Derived.Test.YtmecnecfkgneoaaM1
import Derived.Test.YtmecnecfkgneoaaM2
import Derived.Test.YtmecnecfkgneoaaM3
set_option linter.unusedVariables false
set_option linter.unusedSimpArgs false
set_option maxRecDepth 4000
namespace Go.Proofs.Ytmecnecfkgneoaa
open Go Go.Proofs Go.Sep
set_option maxHeartbeats 1000000 in
theorem m_laws_markText_ok (u : Nat) (k0 : Int) (r : ByteArray) (H : m_laws_markText u k0 = some r) : FnV prg 93 [(intA k0)] (strA r) := by
  unfold m_laws_markText at H
  refine fnV_of_T Try.func93 rfl rfl (Nat.le_of_ble_eq_true rfl) ?_
  refine te [(0, (intA k0))] rfl ?_
  refine sr ?_
  refine pv tb 1 rfl ?_
  refine TO_nil ?_
  refine T_seq ?_
  refine sr ?_
  refine pv tb 2 rfl ?_
  refine TO_nil ?_
  refine T_cond (t := decide (k0 ≤ 0)) rfl (fun c_1 => ?_) (fun c_1 => ?_)
  ·replace H := cond_t c_1 H
   refine sr ?_
   refine pv tb 1 rfl ?_
   refine TO_nil ?_
   refine T_ret ?_
   refine then_ret ?_
   obtain rfl := some_inj H
   refine end_ret (.tmp .nil) rfl rfl ⟨?_, rfl⟩
   rfl
  ·replace H := cond_f c_1 H
   refine T_skip ?_
   refine sr ?_
   refine pv tb 1 rfl ?_
   refine TO_nil ?_
   obtain ⟨O2_, L2_, N2_⟩ := bind_inv H
   clear H
   obtain ⟨B2_, hb2, L2_⟩ := gen_whileF L2_
   refine T_cutX (fun (x : Int × ByteArray) => O2_ = .inl x) (fun (⟨k0, out3⟩ : Int × ByteArray) => [(3, (strA out3))]) (fun (⟨k0, out3⟩ : Int × ByteArray) => []) ?_ ?_
   ·skip
    refine T_block ?_
    refine T_loopX (fun k => fun (⟨k0, out3⟩ : Int × ByteArray) => whileF B2_ k (k0, out3) = some O2_) (fun (⟨k0, out3⟩ : Int × ByteArray) => [(0, (intA k0)), (3, (strA out3))]) (fun (⟨k0, out3⟩ : Int × ByteArray) => []) u (k0, (⟨#[]⟩ : ByteArray)) (w0 0) L2_ ?_
    rintro _ ⟨k0, out3⟩ L2_
    obtain ⟨k2, rfl, C2_, H, K2_⟩ := while_step L2_
    rw [hb2] at H
    refine T_seq ?_
    refine sr ?_
    refine pv tb 2 rfl ?_
    refine TO_nil ?_
    refine T_cond (t := decide (0 < k0)) rfl (fun c_3 => ?_) (fun c_3 => ?_)
    ·replace H := cond_t c_3 H
     refine T_skip ?_
     refine T_block ?_
     refine sr ?_
     refine pv tb 1 rfl ?_
     refine Tp rfl rfl (pur_rem rfl rfl rfl (by decide)) rfl ?_
     refine pv tb 1 rfl ?_
     refine Tp rfl rfl (pur_convI (k := .u8) (k' := .i64) ⟨_, Try.underlying3⟩ Try.underlying5 rfl rfl) rfl ?_
     refine TO_cons rfl (TOp_lit (nn := 1) (k := 1) sl48 zero5 rfl rfl rfl rfl (by decide) ?_)
     refine TO_st (σ' := [.row (flat (tI .u8).enc ([(IntKind.wrap .u8 (w64 (48 + (k0.tmod 10))))] : (List Int)))]) rfl ?_
     refine Tp rfl rfl (pur_strM (zs := ([(IntKind.wrap .u8 (w64 (48 + (k0.tmod 10))))] : (List Int))) Try.underlying48 Try.underlying5 Try.underlying9 rfl rfl rfl) rfl ?_
     obtain ⟨cat_4, h_5, H⟩ := bind_inv H
     refine pv tb 1 rfl ?_
     refine Tp rfl rfl (pur_cat rfl rfl rfl h_5) rfl ?_
     refine pv tb 1 rfl ?_
     refine TO_nil ?_
     refine T_region ?_
     refine pv tb 1 rfl ?_
     refine Tp rfl rfl (pur_wquo rfl rfl rfl (by decide)) rfl ?_
     refine pv tb 1 rfl ?_
     refine TO_nil ?_
     obtain rfl := some_inj H
     exact again k2 ((w64 (k0.tdiv 10)), cat_4) (Nat.lt_succ_self _) (w0 0) K2_
    ·replace H := cond_f c_3 H
     refine T_exit ?_
     refine then_exit ?_
     refine then_exit ?_
     refine block_exit ?_
     obtain rfl := some_inj H
     obtain rfl := some_inj K2_
     exact joined (k0, out3) (w0 0) rfl
   ·rintro ⟨k0, out3⟩ rfl
    replace H := onS_l N2_
    refine sr ?_
    obtain ⟨cat_6, h_7, H⟩ := bind_inv H
    refine pv tb 1 rfl ?_
    refine Tp rfl rfl (pur_cat rfl rfl rfl h_7) rfl ?_
    refine pv tb 1 rfl ?_
    refine TO_nil ?_
    refine T_ret ?_
    obtain rfl := some_inj H
    refine end_ret (.tmp .nil) rfl rfl ⟨?_, rfl⟩
    rfl

set_option maxHeartbeats 1000000 in
theorem m_laws_markRelationS_mut (u : Nat) (a0 : (List Relation)) (k1 : Int) (r : (Int × (List Relation))) (H : m_laws_markRelationS u a0 k1 = some r) : FnM prg 54 [(.m [0] 0 a0.length tRelation.k), (intA k1)] [flat tRelation.own a0] (.int .i64 r.1) [flat tRelation.own r.2] := by
  unfold m_laws_markRelationS at H
  refine fnM_of_T Try.func54 rfl rfl (Nat.le_of_ble_eq_true rfl) ?_
  refine te [(0, (.m [0] 0 a0.length tRelation.k)), (1, (intA k1))] rfl ?_
  refine T_st (σ' := [.row (flat tRelation.own a0)]) rfl ?_
  refine sr ?_
  refine pv tb 1 rfl ?_
  refine TO_nil ?_
  refine T_seq ?_
  refine sr ?_
  refine pv tb 1 rfl ?_
  refine TO_nil ?_
  obtain ⟨O2_, L2_, N2_⟩ := bind_inv H
  clear H
  obtain ⟨B2_, hb2, L2_⟩ := gen_forM L2_
  refine T_block ?_
  refine T_loopX (fun k => fun (⟨i_1, a0m, k1⟩ : Int × (List Relation) × Int) => k = ((a0.length : Int) - i_1).toNat ∧ 0 ≤ i_1 ∧ forM B2_ ((a0.length : Int) - i_1).toNat i_1 (a0m, k1) = some O2_ ∧ a0m.length = a0.length) (fun (⟨i_1, a0m, k1⟩ : Int × (List Relation) × Int) => [(0, (.m [0] 0 a0m.length tRelation.k)), (1, (intA k1)), (5, (intA (i_1 : Int)))]) (fun (⟨i_1, a0m, k1⟩ : Int × (List Relation) × Int) => [.row (flat tRelation.own a0m)]) _ (0, (a0, k1)) (w0 1) ⟨rfl, Int.le_refl _, L2_, rfl⟩ ?_
  rintro _ ⟨i_1, a0m, k1⟩ ⟨rfl, hi2, L2_, hq_a0m⟩
  replace hq_a0m : a0m.length = a0.length := hq_a0m
  refine T_fact (len_m (.tmp 0) rfl) (fun hl2 => ?_)
  refine T_seq ?_
  refine sr ?_
  refine pv tb 2 rfl ?_
  refine Tp rfl rfl (pur_len_m sl38 rfl rfl) rfl ?_
  refine pv tb 1 rfl ?_
  refine TO_nil ?_
  refine T_cond (t := decide ((i_1 : Int) < (a0m.length : Int))) rfl (fun d2 => ?_) (fun d2 => ?_)
  ·replace d2 := of_decide_eq_true d2
   replace d2 : (i_1 : Int) < (a0.length : Int) := by omega
   obtain ⟨C2_, H, K2_⟩ := forM_step L2_ d2
   rw [hb2] at H
   refine T_skip ?_
   refine T_seq ?_
   refine T_block ?_
   refine sr ?_
   obtain ⟨r_3, h_4, H⟩ := bind_inv H
   refine pv tb 3 rfl ?_
   refine TO_cons rfl (TOp_callV (call_static ent93 rfl) (m_laws_markText_ok u _ _ h_4) rfl rfl rfl ?_)
   obtain ⟨v_5, h_6, H⟩ := bind_inv H
   obtain ⟨n_7, hz_8, hv_9⟩ := getI_inv h_6
   refine Tp rfl rfl (pur_ixM (T := tRelation) sl38 rfl rfl hz_8 hv_9 rfl) rfl ?_
   refine pv tb 1 rfl ?_
   refine TO_cons rfl (TOp_setP (f := tRelation.own) (k := tRelation.k) (off := 0) (z := (i_1 : Int)) tRelation.lenO ({ name := r_3, arity := v_5.arity, keyLength := v_5.keyLength } : Relation) hz_8 sz9 (by decide) rfl rfl rfl rfl rfl hv_9 rfl rfl (by decide) rfl rfl ?_)
   refine TO_env (E' := [(0, (.m [0] 0 (a0m.set ((i_1 : Int)).toNat ({ name := r_3, arity := v_5.arity, keyLength := v_5.keyLength } : Relation)).length tRelation.k)), (1, (intA k1)), (5, (intA (i_1 : Int))), (12, (.m [0] 0 (a0m.set ((i_1 : Int)).toNat ({ name := r_3, arity := v_5.arity, keyLength := v_5.keyLength } : Relation)).length tRelation.k)), (13, (intA (i_1 : Int))), (14, (intA k1)), (15, (strA r_3))]) ⟨(congrArg (fun q => A.m [0] 0 q tRelation.k) (List.length_set ..).symm), rfl, rfl, (congrArg (fun q => A.m [0] 0 q tRelation.k) (List.length_set ..).symm), rfl, rfl, rfl, trivial⟩ ?_
   refine TO_st (σ' := [.row (flat tRelation.own (a0m.set ((i_1 : Int)).toNat ({ name := r_3, arity := v_5.arity, keyLength := v_5.keyLength } : Relation)))]) rfl ?_
   refine TO_nil ?_
   refine sr ?_
   refine pv tb 3 rfl ?_
   refine TO_nil ?_
   refine sr ?_
   obtain ⟨v_10, h_11, H⟩ := bind_inv H
   obtain ⟨n_12, hz_13, hv_14⟩ := getI_inv h_11
   refine pv tb 3 rfl ?_
   refine Tp rfl rfl (pur_ixM (T := tRelation) sl38 rfl rfl hz_13 hv_14 rfl) rfl ?_
   refine pv tb 1 rfl ?_
   refine TO_cons rfl (TOp_setP (f := tRelation.own) (k := tRelation.k) (off := 1) (z := (i_1 : Int)) tRelation.lenO ({ name := v_10.name, arity := (w64 (k1 + 1)), keyLength := v_10.keyLength } : Relation) hz_13 sz3 (by decide) rfl rfl rfl rfl rfl hv_14 rfl rfl (by decide) rfl rfl ?_)
   refine TO_env (E' := [(0, (.m [0] 0 ((a0m.set ((i_1 : Int)).toNat ({ name := r_3, arity := v_5.arity, keyLength := v_5.keyLength } : Relation)).set ((i_1 : Int)).toNat ({ name := v_10.name, arity := (w64 (k1 + 1)), keyLength := v_10.keyLength } : Relation)).length tRelation.k)), (1, (intA (w64 (k1 + 1)))), (5, (intA (i_1 : Int))), (20, (.m [0] 0 ((a0m.set ((i_1 : Int)).toNat ({ name := r_3, arity := v_5.arity, keyLength := v_5.keyLength } : Relation)).set ((i_1 : Int)).toNat ({ name := v_10.name, arity := (w64 (k1 + 1)), keyLength := v_10.keyLength } : Relation)).length tRelation.k)), (21, (intA (i_1 : Int))), (22, (intA (w64 (k1 + 1))))]) ⟨(congrArg (fun q => A.m [0] 0 q tRelation.k) (List.length_set ..).symm), rfl, rfl, (congrArg (fun q => A.m [0] 0 q tRelation.k) (List.length_set ..).symm), rfl, rfl, trivial⟩ ?_
   refine TO_st (σ' := [.row (flat tRelation.own ((a0m.set ((i_1 : Int)).toNat ({ name := r_3, arity := v_5.arity, keyLength := v_5.keyLength } : Relation)).set ((i_1 : Int)).toNat ({ name := v_10.name, arity := (w64 (k1 + 1)), keyLength := v_10.keyLength } : Relation)))]) rfl ?_
   refine TO_nil ?_
   refine sr ?_
   refine pv tb 3 rfl ?_
   refine TO_nil ?_
   refine te [(0, (.m [0] 0 ((a0m.set ((i_1 : Int)).toNat ({ name := r_3, arity := v_5.arity, keyLength := v_5.keyLength } : Relation)).set ((i_1 : Int)).toNat ({ name := v_10.name, arity := (w64 (k1 + 1)), keyLength := v_10.keyLength } : Relation)).length tRelation.k)), (1, (intA (w64 ((w64 (k1 + 1)) + 1)))), (5, (intA (i_1 : Int)))] rfl ?_
   refine sr ?_
   obtain ⟨v_15, h_16, H⟩ := bind_inv H
   obtain ⟨n_17, hz_18, hv_19⟩ := getI_inv h_16
   refine pv tb 3 rfl ?_
   refine Tp rfl rfl (pur_ixM (T := tRelation) sl38 rfl rfl hz_18 hv_19 rfl) rfl ?_
   refine pv tb 1 rfl ?_
   refine TO_cons rfl (TOp_setP (f := tRelation.own) (k := tRelation.k) (off := 2) (z := (i_1 : Int)) tRelation.lenO ({ name := v_15.name, arity := v_15.arity, keyLength := (w64 ((w64 (k1 + 1)) + 1)) } : Relation) hz_18 sz3 (by decide) rfl rfl rfl rfl rfl hv_19 rfl rfl (by decide) rfl rfl ?_)
   refine TO_env (E' := [(0, (.m [0] 0 (((a0m.set ((i_1 : Int)).toNat ({ name := r_3, arity := v_5.arity, keyLength := v_5.keyLength } : Relation)).set ((i_1 : Int)).toNat ({ name := v_10.name, arity := (w64 (k1 + 1)), keyLength := v_10.keyLength } : Relation)).set ((i_1 : Int)).toNat ({ name := v_15.name, arity := v_15.arity, keyLength := (w64 ((w64 (k1 + 1)) + 1)) } : Relation)).length tRelation.k)), (1, (intA (w64 ((w64 (k1 + 1)) + 1)))), (5, (intA (i_1 : Int))), (27, (.m [0] 0 (((a0m.set ((i_1 : Int)).toNat ({ name := r_3, arity := v_5.arity, keyLength := v_5.keyLength } : Relation)).set ((i_1 : Int)).toNat ({ name := v_10.name, arity := (w64 (k1 + 1)), keyLength := v_10.keyLength } : Relation)).set ((i_1 : Int)).toNat ({ name := v_15.name, arity := v_15.arity, keyLength := (w64 ((w64 (k1 + 1)) + 1)) } : Relation)).length tRelation.k)), (28, (intA (i_1 : Int))), (29, (intA (w64 ((w64 (k1 + 1)) + 1))))]) ⟨(congrArg (fun q => A.m [0] 0 q tRelation.k) (List.length_set ..).symm), rfl, rfl, (congrArg (fun q => A.m [0] 0 q tRelation.k) (List.length_set ..).symm), rfl, rfl, trivial⟩ ?_
   refine TO_st (σ' := [.row (flat tRelation.own (((a0m.set ((i_1 : Int)).toNat ({ name := r_3, arity := v_5.arity, keyLength := v_5.keyLength } : Relation)).set ((i_1 : Int)).toNat ({ name := v_10.name, arity := (w64 (k1 + 1)), keyLength := v_10.keyLength } : Relation)).set ((i_1 : Int)).toNat ({ name := v_15.name, arity := v_15.arity, keyLength := (w64 ((w64 (k1 + 1)) + 1)) } : Relation)))]) rfl ?_
   refine TO_nil ?_
   refine T_region ?_
   refine pv tb 3 rfl ?_
   refine TO_nil ?_
   refine T_region ?_
   refine pv tb 1 rfl ?_
   refine Tp rfl rfl (pur_add rfl rfl rfl (fits64 (by omega) (by omega))) rfl ?_
   refine pv tb 1 rfl ?_
   refine TO_nil ?_
   obtain rfl := some_inj H
   exact again ((a0.length : Int) - (i_1 + 1)).toNat (i_1 + 1, ((((a0m.set ((i_1 : Int)).toNat ({ name := r_3, arity := v_5.arity, keyLength := v_5.keyLength } : Relation)).set ((i_1 : Int)).toNat ({ name := v_10.name, arity := (w64 (k1 + 1)), keyLength := v_10.keyLength } : Relation)).set ((i_1 : Int)).toNat ({ name := v_15.name, arity := v_15.arity, keyLength := (w64 ((w64 (k1 + 1)) + 1)) } : Relation)), (w64 ((w64 ((w64 (k1 + 1)) + 1)) + 1)))) (by omega) (w0 1) ⟨rfl, by omega, K2_, ((List.length_set ..).trans ((List.length_set ..).trans ((List.length_set ..).trans hq_a0m)))⟩
  ·replace d2 := of_decide_eq_false d2
   obtain rfl := forM_end L2_ (by omega)
   refine T_exit ?_
   refine then_exit ?_
   refine then_exit ?_
   refine block_exit ?_
   replace H := N2_
   refine sr ?_
   refine pv tb 2 rfl ?_
   refine TO_nil ?_
   refine T_ret ?_
   obtain rfl := some_inj H
   exact end_M (.tmp .nil) rfl rfl (Nat.le_refl _) (sameLens_c (T := tRelation) hq_a0m trivial) rfl rfl

set_option maxHeartbeats 1000000 in
theorem m_laws_markIntS_mut (a0 : (List Int)) (k1 : Int) (r : (Int × (List Int))) (H : m_laws_markIntS a0 k1 = some r) : FnM prg 36 [(.m [0] 0 a0.length tInt.k), (intA k1)] [flat tInt.own a0] (.int .i64 r.1) [flat tInt.own r.2] := by
  unfold m_laws_markIntS at H
  refine fnM_of_T Try.func36 rfl rfl (Nat.le_of_ble_eq_true rfl) ?_
  refine te [(0, (.m [0] 0 a0.length tInt.k)), (1, (intA k1))] rfl ?_
  refine T_st (σ' := [.row (flat tInt.own a0)]) rfl ?_
  refine sr ?_
  refine pv tb 1 rfl ?_
  refine TO_nil ?_
  refine T_seq ?_
  refine sr ?_
  refine pv tb 1 rfl ?_
  refine TO_nil ?_
  obtain ⟨O2_, L2_, N2_⟩ := bind_inv H
  clear H
  obtain ⟨B2_, hb2, L2_⟩ := gen_forM L2_
  refine T_block ?_
  refine T_loopX (fun k => fun (⟨i_1, a0m, k1⟩ : Int × (List Int) × Int) => k = ((a0.length : Int) - i_1).toNat ∧ 0 ≤ i_1 ∧ forM B2_ ((a0.length : Int) - i_1).toNat i_1 (a0m, k1) = some O2_ ∧ a0m.length = a0.length) (fun (⟨i_1, a0m, k1⟩ : Int × (List Int) × Int) => [(0, (.m [0] 0 a0m.length tInt.k)), (1, (intA k1)), (5, (intA (i_1 : Int)))]) (fun (⟨i_1, a0m, k1⟩ : Int × (List Int) × Int) => [.row (flat tInt.own a0m)]) _ (0, (a0, k1)) (w0 1) ⟨rfl, Int.le_refl _, L2_, rfl⟩ ?_
  rintro _ ⟨i_1, a0m, k1⟩ ⟨rfl, hi2, L2_, hq_a0m⟩
  replace hq_a0m : a0m.length = a0.length := hq_a0m
  refine T_fact (len_m (.tmp 0) rfl) (fun hl2 => ?_)
  refine T_seq ?_
  refine sr ?_
  refine pv tb 2 rfl ?_
  refine Tp rfl rfl (pur_len_m sl53 rfl rfl) rfl ?_
  refine pv tb 1 rfl ?_
  refine TO_nil ?_
  refine T_cond (t := decide ((i_1 : Int) < (a0m.length : Int))) rfl (fun d2 => ?_) (fun d2 => ?_)
  ·replace d2 := of_decide_eq_true d2
   replace d2 : (i_1 : Int) < (a0.length : Int) := by omega
   obtain ⟨C2_, H, K2_⟩ := forM_step L2_ d2
   rw [hb2] at H
   refine T_skip ?_
   refine T_seq ?_
   refine T_block ?_
   refine sr ?_
   obtain ⟨v_3, h_4, H⟩ := bind_inv H
   obtain ⟨n_5, hz_6, hv_7⟩ := getI_inv h_4
   refine pv tb 3 rfl ?_
   refine Tp rfl rfl (pur_ixM (T := tInt) sl53 rfl rfl hz_6 hv_7 rfl) rfl ?_
   refine TO_cons rfl (TOp_setT (f := tInt.own) (z := (i_1 : Int)) (y := k1) tInt.lenO tInt.pos hz_6 sz3 rfl rfl rfl rfl rfl hv_7 rfl rfl ?_)
   refine TO_env (E' := [(0, (.m [0] 0 (a0m.set ((i_1 : Int)).toNat k1).length tInt.k)), (1, (intA k1)), (5, (intA (i_1 : Int))), (12, (.m [0] 0 (a0m.set ((i_1 : Int)).toNat k1).length tInt.k)), (13, (intA (i_1 : Int))), (14, (intA k1))]) ⟨(congrArg (fun q => A.m [0] 0 q tInt.k) (List.length_set ..).symm), rfl, rfl, (congrArg (fun q => A.m [0] 0 q tInt.k) (List.length_set ..).symm), rfl, rfl, trivial⟩ ?_
   refine TO_st (σ' := [.row (flat tInt.own (a0m.set ((i_1 : Int)).toNat k1))]) rfl ?_
   refine TO_nil ?_
   refine T_region ?_
   refine pv tb 3 rfl ?_
   refine TO_nil ?_
   refine T_region ?_
   refine pv tb 1 rfl ?_
   refine Tp rfl rfl (pur_add rfl rfl rfl (fits64 (by omega) (by omega))) rfl ?_
   refine pv tb 1 rfl ?_
   refine TO_nil ?_
   obtain rfl := some_inj H
   exact again ((a0.length : Int) - (i_1 + 1)).toNat (i_1 + 1, ((a0m.set ((i_1 : Int)).toNat k1), (w64 (k1 + 1)))) (by omega) (w0 1) ⟨rfl, by omega, K2_, ((List.length_set ..).trans hq_a0m)⟩
  ·replace d2 := of_decide_eq_false d2
   obtain rfl := forM_end L2_ (by omega)
   refine T_exit ?_
   refine then_exit ?_
   refine then_exit ?_
   refine block_exit ?_
   replace H := N2_
   refine sr ?_
   refine pv tb 2 rfl ?_
   refine TO_nil ?_
   refine T_ret ?_
   obtain rfl := some_inj H
   exact end_M (.tmp .nil) rfl rfl (Nat.le_refl _) (sameLens_c (T := tInt) hq_a0m trivial) rfl rfl

set_option maxHeartbeats 1000000 in
theorem m_laws_markFactS_mut (a0 : (List Fact)) (k1 : Int) (r : (Int × (List Fact))) (H : m_laws_markFactS a0 k1 = some r) : FnM prg 55 [(.m [0] 0 a0.length tFact.k), (intA k1)] [flat tFact.own a0] (.int .i64 r.1) [flat tFact.own r.2] := by
  unfold m_laws_markFactS at H
  refine fnM_of_T Try.func55 rfl rfl (Nat.le_of_ble_eq_true rfl) ?_
  refine te [(0, (.m [0] 0 a0.length tFact.k)), (1, (intA k1))] rfl ?_
  refine T_st (σ' := [.row (flat tFact.own a0)]) rfl ?_
  refine sr ?_
  refine pv tb 1 rfl ?_
  refine TO_nil ?_
  refine T_seq ?_
  refine sr ?_
  refine pv tb 1 rfl ?_
  refine TO_nil ?_
  obtain ⟨O2_, L2_, N2_⟩ := bind_inv H
  clear H
  obtain ⟨B2_, hb2, L2_⟩ := gen_forM L2_
  refine T_block ?_
  refine T_loopX (fun k => fun (⟨i_1, a0m, k1⟩ : Int × (List Fact) × Int) => k = ((a0.length : Int) - i_1).toNat ∧ 0 ≤ i_1 ∧ forM B2_ ((a0.length : Int) - i_1).toNat i_1 (a0m, k1) = some O2_ ∧ a0m.length = a0.length) (fun (⟨i_1, a0m, k1⟩ : Int × (List Fact) × Int) => [(0, (.m [0] 0 a0m.length tFact.k)), (1, (intA k1)), (5, (intA (i_1 : Int)))]) (fun (⟨i_1, a0m, k1⟩ : Int × (List Fact) × Int) => [.row (flat tFact.own a0m)]) _ (0, (a0, k1)) (w0 1) ⟨rfl, Int.le_refl _, L2_, rfl⟩ ?_
  rintro _ ⟨i_1, a0m, k1⟩ ⟨rfl, hi2, L2_, hq_a0m⟩
  replace hq_a0m : a0m.length = a0.length := hq_a0m
  refine T_fact (len_m (.tmp 0) rfl) (fun hl2 => ?_)
  refine T_seq ?_
  refine sr ?_
  refine pv tb 2 rfl ?_
  refine Tp rfl rfl (pur_len_m sl39 rfl rfl) rfl ?_
  refine pv tb 1 rfl ?_
  refine TO_nil ?_
  refine T_cond (t := decide ((i_1 : Int) < (a0m.length : Int))) rfl (fun d2 => ?_) (fun d2 => ?_)
  ·replace d2 := of_decide_eq_true d2
   replace d2 : (i_1 : Int) < (a0.length : Int) := by omega
   obtain ⟨C2_, H, K2_⟩ := forM_step L2_ d2
   rw [hb2] at H
   refine T_skip ?_
   refine T_seq ?_
   refine T_block ?_
   refine sr ?_
   obtain ⟨v_3, h_4, H⟩ := bind_inv H
   obtain ⟨n_5, hz_6, hv_7⟩ := getI_inv h_4
   refine pv tb 3 rfl ?_
   refine Tp rfl rfl (pur_ixM (T := tFact) sl39 rfl rfl hz_6 hv_7 rfl) rfl ?_
   refine pv tb 1 rfl ?_
   refine TO_cons rfl (TOp_setP (f := tFact.own) (k := tFact.k) (off := 0) (z := (i_1 : Int)) tFact.lenO ({ relation := k1, values := v_3.values } : Fact) hz_6 sz3 (by decide) rfl rfl rfl rfl rfl hv_7 rfl rfl (by decide) rfl rfl ?_)
   refine TO_env (E' := [(0, (.m [0] 0 (a0m.set ((i_1 : Int)).toNat ({ relation := k1, values := v_3.values } : Fact)).length tFact.k)), (1, (intA k1)), (5, (intA (i_1 : Int))), (12, (.m [0] 0 (a0m.set ((i_1 : Int)).toNat ({ relation := k1, values := v_3.values } : Fact)).length tFact.k)), (13, (intA (i_1 : Int))), (14, (intA k1))]) ⟨(congrArg (fun q => A.m [0] 0 q tFact.k) (List.length_set ..).symm), rfl, rfl, (congrArg (fun q => A.m [0] 0 q tFact.k) (List.length_set ..).symm), rfl, rfl, trivial⟩ ?_
   refine TO_st (σ' := [.row (flat tFact.own (a0m.set ((i_1 : Int)).toNat ({ relation := k1, values := v_3.values } : Fact)))]) rfl ?_
   refine TO_nil ?_
   refine sr ?_
   refine pv tb 3 rfl ?_
   refine TO_nil ?_
   refine T_region ?_
   obtain ⟨v_8, h_9, H⟩ := bind_inv H
   obtain ⟨n_10, hz_11, hv_12⟩ := getI_inv h_9
   refine pv tb 2 rfl ?_
   refine Tp rfl rfl (pur_ixM (T := tFact) sl39 rfl rfl hz_11 hv_12 rfl) rfl ?_
   refine pv tb 1 rfl ?_
   refine Tp rfl rfl (pur_ldE (f := tFact.own) (k := tFact.k) (i := n_10) (off := 1) tFact.lenO rfl one53 rfl rfl rfl hv_12 rfl cellVal_sl) rfl ?_
   obtain ⟨r_13, h_14, H⟩ := bind_inv H
   refine pv tb 1 rfl ?_
   refine TO_cons rfl (TOp_callG (aa := [(.m [0, n_10 * tFact.k + 1] 0 v_8.values.length tInt.k), (intA (w64 (k1 + 1)))]) [[0, n_10 * tFact.k + 1]] (call_static ent36 rfl) rfl (.cons (rowAt_el (f := tFact.own) (i := n_10) (off := 1) tFact.lenO rfl hv_12 rfl) rfl (by simp) .nil) (by simp [namesL, A.names, locP]) (by simp [renPL, A.renP, locF, locP]) (m_laws_markIntS_mut _ _ _ h_14) rfl (fun hl_15 => ?_))
   refine TO_env (E' := [(0, (.m [0] 0 ((a0m.set ((i_1 : Int)).toNat ({ relation := k1, values := v_3.values } : Fact)).set ((i_1 : Int)).toNat ({ relation := v_8.relation, values := r_13.2 } : Fact)).length tFact.k)), (1, (intA (w64 (k1 + 1)))), (5, (intA (i_1 : Int))), (19, (.m [0] 0 ((a0m.set ((i_1 : Int)).toNat ({ relation := k1, values := v_3.values } : Fact)).set ((i_1 : Int)).toNat ({ relation := v_8.relation, values := r_13.2 } : Fact)).length tFact.k)), (20, (intA (i_1 : Int))), (24, (intA (w64 (k1 + 1)))), (25, (intA r_13.1))]) ⟨(congrArg (fun q => A.m [0] 0 q tFact.k) (List.length_set ..).symm), rfl, rfl, (congrArg (fun q => A.m [0] 0 q tFact.k) (List.length_set ..).symm), rfl, rfl, rfl, trivial⟩ ?_
   refine TO_st (σ' := [.row (flat tFact.own ((a0m.set ((i_1 : Int)).toNat ({ relation := k1, values := v_3.values } : Fact)).set ((i_1 : Int)).toNat ({ relation := v_8.relation, values := r_13.2 } : Fact)))]) (setRows_T (f := tFact.own) (i := n_10) (v' := ({ relation := v_8.relation, values := r_13.2 } : Fact)) tFact.lenO hz_11 [1] rfl hv_12 (allO_cons ⟨_, _, rfl⟩ allO_nil) rfl) ?_
   refine pv tb 1 rfl ?_
   refine TO_nil ?_
   refine T_region ?_
   refine pv tb 1 rfl ?_
   refine Tp rfl rfl (pur_add rfl rfl rfl (fits64 (by omega) (by omega))) rfl ?_
   refine pv tb 1 rfl ?_
   refine TO_nil ?_
   obtain rfl := some_inj H
   exact again ((a0.length : Int) - (i_1 + 1)).toNat (i_1 + 1, (((a0m.set ((i_1 : Int)).toNat ({ relation := k1, values := v_3.values } : Fact)).set ((i_1 : Int)).toNat ({ relation := v_8.relation, values := r_13.2 } : Fact)), r_13.1)) (by omega) (w0 1) ⟨rfl, by omega, K2_, ((List.length_set ..).trans ((List.length_set ..).trans hq_a0m))⟩
  ·replace d2 := of_decide_eq_false d2
   obtain rfl := forM_end L2_ (by omega)
   refine T_exit ?_
   refine then_exit ?_
   refine then_exit ?_
   refine block_exit ?_
   replace H := N2_
   refine sr ?_
   refine pv tb 2 rfl ?_
   refine TO_nil ?_
   refine T_ret ?_
   obtain rfl := some_inj H
   exact end_M (.tmp .nil) rfl rfl (Nat.le_refl _) (sameLens_c (T := tFact) hq_a0m trivial) rfl rfl

set_option maxHeartbeats 1000000 in
theorem m_laws_markDatabase_mut (u : Nat) (a0 : Database) (k1 : Int) (r : (Int × Database)) (H : m_laws_markDatabase u a0 k1 = some r) : FnM prg 20 [(.g [(.m [0] 0 a0.relations.length tRelation.k), (.m [1] 0 a0.facts.length tFact.k)]), (intA k1)] [flat tRelation.own a0.relations, flat tFact.own a0.facts] (.int .i64 r.1) [flat tRelation.own r.2.relations, flat tFact.own r.2.facts] := by
  unfold m_laws_markDatabase at H
  refine fnM_of_T Try.func20 rfl rfl (Nat.le_of_ble_eq_true rfl) ?_
  refine te [(0, (.g [(.m [0] 0 a0.relations.length tRelation.k), (.m [1] 0 a0.facts.length tFact.k)])), (1, (intA k1))] rfl ?_
  refine T_st (σ' := [.row (flat tRelation.own a0.relations), .row (flat tFact.own a0.facts)]) rfl ?_
  refine sr ?_
  refine TO_cons rfl (TOp_box rfl (boxAll rfl) rfl rfl ?_)
  refine pv tb 1 rfl ?_
  refine TO_nil ?_
  refine sr ?_
  obtain ⟨r_1, h_2, H⟩ := bind_inv H
  refine pv tb 3 rfl ?_
  refine TO_cons rfl (TOp_callG (aa := [(.m [0] 0 a0.relations.length tRelation.k), (intA k1)]) [[0]] (call_static ent54 rfl) rfl (.cons rfl rfl (by decide) .nil) rfl rfl (m_laws_markRelationS_mut u _ _ _ h_2) rfl (fun hl_3 => ?_))
  obtain ⟨hq_4, hl_3⟩ := sameLens_T (T := tRelation) hl_3
  refine TO_env (E' := [(1, (intA k1)), (2, (.b 2 0)), (5, (.b 2 0)), (6, (.m [0] 0 r_1.2.length tRelation.k)), (7, (intA k1)), (8, (intA r_1.1))]) ⟨rfl, rfl, rfl, (congrArg (fun q => A.m [0] 0 q tRelation.k) hq_4.symm), rfl, rfl, trivial⟩ ?_
  refine TO_st (σ' := [.row (flat tRelation.own r_1.2), .row (flat tFact.own a0.facts), .box [(.m [0] 0 a0.relations.length tRelation.k), (.m [1] 0 a0.facts.length tFact.k)]]) rfl ?_
  refine TO_st (σ' := [.row (flat tRelation.own r_1.2), .row (flat tFact.own a0.facts), .box [(.m [0] 0 r_1.2.length tRelation.k), (.m [1] 0 a0.facts.length tFact.k)]]) (by simp only [hq_4]) ?_
  refine pv tb 1 rfl ?_
  refine TO_nil ?_
  refine sr ?_
  obtain ⟨r_5, h_6, H⟩ := bind_inv H
  refine pv tb 3 rfl ?_
  refine TO_cons rfl (TOp_callG (aa := [(.m [1] 0 a0.facts.length tFact.k), (intA r_1.1)]) [[1]] (call_static ent55 rfl) rfl (.cons rfl rfl (by decide) .nil) rfl rfl (m_laws_markFactS_mut _ _ _ h_6) rfl (fun hl_7 => ?_))
  obtain ⟨hq_8, hl_7⟩ := sameLens_T (T := tFact) hl_7
  refine TO_env (E' := [(1, (intA r_1.1)), (2, (.b 2 0)), (9, (.b 2 1)), (10, (.m [1] 0 r_5.2.length tFact.k)), (11, (intA r_1.1)), (12, (intA r_5.1))]) ⟨rfl, rfl, rfl, (congrArg (fun q => A.m [1] 0 q tFact.k) hq_8.symm), rfl, rfl, trivial⟩ ?_
  refine TO_st (σ' := [.row (flat tRelation.own r_1.2), .row (flat tFact.own r_5.2), .box [(.m [0] 0 r_1.2.length tRelation.k), (.m [1] 0 a0.facts.length tFact.k)]]) rfl ?_
  refine TO_st (σ' := [.row (flat tRelation.own r_1.2), .row (flat tFact.own r_5.2), .box [(.m [0] 0 r_1.2.length tRelation.k), (.m [1] 0 r_5.2.length tFact.k)]]) (by simp only [hq_8]) ?_
  refine pv tb 1 rfl ?_
  refine TO_nil ?_
  refine sr ?_
  refine pv tb 2 rfl ?_
  refine TO_nil ?_
  refine T_ret ?_
  obtain rfl := some_inj H
  exact end_M (.tmp .nil) rfl rfl (Nat.le_refl _) (sameLens_c (T := tRelation) hq_4 (sameLens_c (T := tFact) hq_8 trivial)) rfl rfl

set_option maxHeartbeats 1000000 in
theorem m_laws_heldRelationS_ok (u : Nat) (a0 : (List Relation)) (k1 : Int) (r : Int) (H : m_laws_heldRelationS u a0 k1 = some r) : FnV prg 56 [(sl tRelation a0), (intA k1)] (intA r) := by
  unfold m_laws_heldRelationS at H
  refine fnV_of_T Try.func56 rfl rfl (Nat.le_of_ble_eq_true rfl) ?_
  refine te [(0, (sl tRelation a0)), (1, (intA k1))] rfl ?_
  refine sr ?_
  refine pv tb 1 rfl ?_
  refine TO_nil ?_
  refine T_seq ?_
  refine sr ?_
  refine pv tb 1 rfl ?_
  refine TO_nil ?_
  obtain ⟨O2_, L2_, N2_⟩ := bind_inv H
  clear H
  obtain ⟨B2_, hb2, L2_⟩ := gen_forL L2_
  refine T_block ?_
  refine T_loopX (fun k => fun (⟨i_1, k1⟩ : Nat × Int) => k = a0.length - i_1 ∧ forL B2_ (a0.drop i_1) (i_1 : Int) k1 = some O2_) (fun (⟨i_1, k1⟩ : Nat × Int) => [(0, (sl tRelation a0)), (1, (intA k1)), (5, (intA (i_1 : Int)))]) (fun (⟨i_1, k1⟩ : Nat × Int) => []) _ (0, k1) (w0 0) ⟨rfl, L2_⟩ ?_
  rintro _ ⟨i_1, k1⟩ ⟨rfl, L2_⟩
  refine T_fact (len_sl (T := tRelation) (.tmp 0) rfl) (fun hl2 => ?_)
  refine T_seq ?_
  refine sr ?_
  refine pv tb 2 rfl ?_
  refine Tp rfl rfl (pur_lenT (T := tRelation) sl38 rfl rfl) rfl ?_
  refine pv tb 1 rfl ?_
  refine TO_nil ?_
  refine T_cond (t := decide ((i_1 : Int) < (a0.length : Int))) rfl (fun d2 => ?_) (fun d2 => ?_)
  ·replace d2 := of_decide_eq_true d2
   obtain ⟨x_i_1, hx_i_1⟩ : ∃ v, (a0)[i_1]? = some v := ⟨_, List.getElem?_eq_getElem (by omega)⟩
   obtain ⟨C2_, H, K2_⟩ := forL_step L2_ hx_i_1
   rw [hb2] at H
   refine T_skip ?_
   refine T_seq ?_
   refine T_block ?_
   refine T_seq ?_
   refine T_seq ?_
   refine T_regionD mixed (by kernel_rfl) ?_
   refine pq tb 2 rfl ?_
   refine TQ_pure rfl (pur_ixT (T := tRelation) sl38 rfl rfl rfl hx_i_1 rfl) rfl ?_
   refine pq tb 1 rfl ?_
   refine TQ_pure rfl (pur_ldT (T := tRelation) (i := i_1) (off := 0) rfl one9 rfl rfl hx_i_1 rfl) rfl ?_
   obtain ⟨r_3, h_4, H⟩ := bind_inv H
   refine pq tb 1 rfl ?_
   refine TQ_callV rfl (call_static ent93 rfl) (m_laws_markText_ok u _ _ h_4) rfl rfl ?_
   refine TQ_pure rfl (pur_neqS rfl rfl rfl) rfl ?_
   refine TQ_nil ?_
   refine T_cond (t := decide (x_i_1.name ≠ r_3)) rfl (fun c_5 => ?_) (fun c_5 => ?_)
   ·replace H := cond_t c_5 H
    refine sr ?_
    refine pv tb 1 rfl ?_
    refine TO_nil ?_
    refine te [(4, (intA (-1)))] rfl ?_
    refine T_ret ?_
    refine then_ret ?_
    refine block_ret ?_
    refine then_ret ?_
    refine then_ret ?_
    refine block_ret ?_
    refine then_ret ?_
    obtain rfl := some_inj H
    obtain rfl := some_inj K2_
    replace H := onS_r N2_
    obtain rfl := some_inj H
    refine end_ret (.tmp .nil) rfl rfl ⟨?_, rfl⟩
    rfl
   ·replace H := cond_f c_5 H
    refine T_skip ?_
    refine sr ?_
    refine pv tb 3 rfl ?_
    refine TO_nil ?_
    refine T_seq ?_
    refine sr ?_
    refine pv tb 2 rfl ?_
    refine Tp rfl rfl (pur_ixT (T := tRelation) sl38 rfl rfl rfl hx_i_1 rfl) rfl ?_
    refine pv tb 1 rfl ?_
    refine Tp rfl rfl (pur_ldT (T := tRelation) (i := i_1) (off := 1) rfl one3 rfl rfl hx_i_1 rfl) rfl ?_
    refine pv tb 2 rfl ?_
    refine TO_nil ?_
    refine te [(0, (sl tRelation a0)), (1, (intA (w64 (k1 + 1)))), (5, (intA (i_1 : Int))), (28, (boolA (decide (x_i_1.arity ≠ (w64 (k1 + 1))))))] rfl ?_
    refine T_cond (t := decide (x_i_1.arity ≠ (w64 (k1 + 1)))) rfl (fun c_6 => ?_) (fun c_6 => ?_)
    ·replace H := cond_t c_6 H
     refine sr ?_
     refine pv tb 1 rfl ?_
     refine TO_nil ?_
     refine T_ret ?_
     refine then_ret ?_
     refine block_ret ?_
     refine then_ret ?_
     refine then_ret ?_
     refine block_ret ?_
     refine then_ret ?_
     obtain rfl := some_inj H
     obtain rfl := some_inj K2_
     replace H := onS_r N2_
     obtain rfl := some_inj H
     refine end_ret (.tmp .nil) rfl rfl ⟨?_, rfl⟩
     rfl
    ·replace H := cond_f c_6 H
     refine T_skip ?_
     refine sr ?_
     refine pv tb 3 rfl ?_
     refine TO_nil ?_
     refine T_seq ?_
     refine sr ?_
     refine pv tb 2 rfl ?_
     refine Tp rfl rfl (pur_ixT (T := tRelation) sl38 rfl rfl rfl hx_i_1 rfl) rfl ?_
     refine pv tb 1 rfl ?_
     refine Tp rfl rfl (pur_ldT (T := tRelation) (i := i_1) (off := 2) rfl one3 rfl rfl hx_i_1 rfl) rfl ?_
     refine pv tb 2 rfl ?_
     refine TO_nil ?_
     refine T_cond (t := decide (x_i_1.keyLength ≠ (w64 ((w64 (k1 + 1)) + 1)))) rfl (fun c_7 => ?_) (fun c_7 => ?_)
     ·replace H := cond_t c_7 H
      refine sr ?_
      refine pv tb 1 rfl ?_
      refine TO_nil ?_
      refine T_ret ?_
      refine then_ret ?_
      refine block_ret ?_
      refine then_ret ?_
      refine then_ret ?_
      refine block_ret ?_
      refine then_ret ?_
      obtain rfl := some_inj H
      obtain rfl := some_inj K2_
      replace H := onS_r N2_
      obtain rfl := some_inj H
      refine end_ret (.tmp .nil) rfl rfl ⟨?_, rfl⟩
      rfl
     ·replace H := cond_f c_7 H
      refine T_skip ?_
      refine T_region ?_
      refine pv tb 3 rfl ?_
      refine TO_nil ?_
      refine T_region ?_
      refine pv tb 1 rfl ?_
      refine Tp rfl rfl (pur_add rfl rfl rfl (fits64 (by omega) (by omega))) rfl ?_
      refine pv tb 1 rfl ?_
      refine TO_nil ?_
      obtain rfl := some_inj H
      exact again (a0.length - (i_1 + 1)) (i_1 + 1, (w64 ((w64 ((w64 (k1 + 1)) + 1)) + 1))) (by omega) (w0 0) ⟨rfl, K2_⟩
  ·replace d2 := of_decide_eq_false d2
   obtain rfl := forL_end L2_ (by omega)
   refine T_exit ?_
   refine then_exit ?_
   refine then_exit ?_
   refine block_exit ?_
   replace H := onS_l N2_
   refine sr ?_
   refine pv tb 2 rfl ?_
   refine TO_nil ?_
   refine T_ret ?_
   obtain rfl := some_inj H
   refine end_ret (.tmp .nil) rfl rfl ⟨?_, rfl⟩
   rfl

set_option maxHeartbeats 1000000 in
theorem m_laws_heldIntS_ok (a0 : (List Int)) (k1 : Int) (r : Int) (H : m_laws_heldIntS a0 k1 = some r) : FnV prg 37 [(sl tInt a0), (intA k1)] (intA r) := by
  unfold m_laws_heldIntS at H
  refine fnV_of_T Try.func37 rfl rfl (Nat.le_of_ble_eq_true rfl) ?_
  refine te [(0, (sl tInt a0)), (1, (intA k1))] rfl ?_
  refine sr ?_
  refine pv tb 1 rfl ?_
  refine TO_nil ?_
  refine T_seq ?_
  refine sr ?_
  refine pv tb 1 rfl ?_
  refine TO_nil ?_
  obtain ⟨O2_, L2_, N2_⟩ := bind_inv H
  clear H
  obtain ⟨B2_, hb2, L2_⟩ := gen_forL L2_
  refine T_block ?_
  refine T_loopX (fun k => fun (⟨i_1, k1⟩ : Nat × Int) => k = a0.length - i_1 ∧ forL B2_ (a0.drop i_1) (i_1 : Int) k1 = some O2_) (fun (⟨i_1, k1⟩ : Nat × Int) => [(0, (sl tInt a0)), (1, (intA k1)), (5, (intA (i_1 : Int)))]) (fun (⟨i_1, k1⟩ : Nat × Int) => []) _ (0, k1) (w0 0) ⟨rfl, L2_⟩ ?_
  rintro _ ⟨i_1, k1⟩ ⟨rfl, L2_⟩
  refine T_fact (len_sl (T := tInt) (.tmp 0) rfl) (fun hl2 => ?_)
  refine T_seq ?_
  refine sr ?_
  refine pv tb 2 rfl ?_
  refine Tp rfl rfl (pur_lenT (T := tInt) sl53 rfl rfl) rfl ?_
  refine pv tb 1 rfl ?_
  refine TO_nil ?_
  refine T_cond (t := decide ((i_1 : Int) < (a0.length : Int))) rfl (fun d2 => ?_) (fun d2 => ?_)
  ·replace d2 := of_decide_eq_true d2
   obtain ⟨x_i_1, hx_i_1⟩ : ∃ v, (a0)[i_1]? = some v := ⟨_, List.getElem?_eq_getElem (by omega)⟩
   obtain ⟨C2_, H, K2_⟩ := forL_step L2_ hx_i_1
   rw [hb2] at H
   refine T_skip ?_
   refine T_seq ?_
   refine T_block ?_
   refine T_seq ?_
   refine sr ?_
   refine pv tb 2 rfl ?_
   refine Tp rfl rfl (pur_ixT (T := tInt) sl53 rfl rfl rfl hx_i_1 rfl) rfl ?_
   refine Tp rfl rfl (pur_ldT (T := tInt) (i := i_1) (off := 0) rfl one3 rfl rfl hx_i_1 rfl) rfl ?_
   refine pv tb 2 rfl ?_
   refine TO_nil ?_
   refine T_cond (t := decide (x_i_1 ≠ k1)) rfl (fun c_3 => ?_) (fun c_3 => ?_)
   ·replace H := cond_t c_3 H
    refine sr ?_
    refine pv tb 1 rfl ?_
    refine TO_nil ?_
    refine T_ret ?_
    refine then_ret ?_
    refine block_ret ?_
    refine then_ret ?_
    refine then_ret ?_
    refine block_ret ?_
    refine then_ret ?_
    obtain rfl := some_inj H
    obtain rfl := some_inj K2_
    replace H := onS_r N2_
    obtain rfl := some_inj H
    refine end_ret (.tmp .nil) rfl rfl ⟨?_, rfl⟩
    rfl
   ·replace H := cond_f c_3 H
    refine T_skip ?_
    refine T_region ?_
    refine pv tb 3 rfl ?_
    refine TO_nil ?_
    refine T_region ?_
    refine pv tb 1 rfl ?_
    refine Tp rfl rfl (pur_add rfl rfl rfl (fits64 (by omega) (by omega))) rfl ?_
    refine pv tb 1 rfl ?_
    refine TO_nil ?_
    obtain rfl := some_inj H
    exact again (a0.length - (i_1 + 1)) (i_1 + 1, (w64 (k1 + 1))) (by omega) (w0 0) ⟨rfl, K2_⟩
  ·replace d2 := of_decide_eq_false d2
   obtain rfl := forL_end L2_ (by omega)
   refine T_exit ?_
   refine then_exit ?_
   refine then_exit ?_
   refine block_exit ?_
   replace H := onS_l N2_
   refine sr ?_
   refine pv tb 2 rfl ?_
   refine TO_nil ?_
   refine T_ret ?_
   obtain rfl := some_inj H
   refine end_ret (.tmp .nil) rfl rfl ⟨?_, rfl⟩
   rfl

set_option maxHeartbeats 1000000 in
theorem m_laws_heldFactS_ok (a0 : (List Fact)) (k1 : Int) (r : Int) (H : m_laws_heldFactS a0 k1 = some r) : FnV prg 57 [(sl tFact a0), (intA k1)] (intA r) := by
  unfold m_laws_heldFactS at H
  refine fnV_of_T Try.func57 rfl rfl (Nat.le_of_ble_eq_true rfl) ?_
  refine te [(0, (sl tFact a0)), (1, (intA k1))] rfl ?_
  refine sr ?_
  refine pv tb 1 rfl ?_
  refine TO_nil ?_
  refine T_seq ?_
  refine sr ?_
  refine pv tb 1 rfl ?_
  refine TO_nil ?_
  obtain ⟨O2_, L2_, N2_⟩ := bind_inv H
  clear H
  obtain ⟨B2_, hb2, L2_⟩ := gen_forL L2_
  refine T_block ?_
  refine T_loopX (fun k => fun (⟨i_1, k1⟩ : Nat × Int) => k = a0.length - i_1 ∧ forL B2_ (a0.drop i_1) (i_1 : Int) k1 = some O2_) (fun (⟨i_1, k1⟩ : Nat × Int) => [(0, (sl tFact a0)), (1, (intA k1)), (5, (intA (i_1 : Int)))]) (fun (⟨i_1, k1⟩ : Nat × Int) => []) _ (0, k1) (w0 0) ⟨rfl, L2_⟩ ?_
  rintro _ ⟨i_1, k1⟩ ⟨rfl, L2_⟩
  refine T_fact (len_sl (T := tFact) (.tmp 0) rfl) (fun hl2 => ?_)
  refine T_seq ?_
  refine sr ?_
  refine pv tb 2 rfl ?_
  refine Tp rfl rfl (pur_lenT (T := tFact) sl39 rfl rfl) rfl ?_
  refine pv tb 1 rfl ?_
  refine TO_nil ?_
  refine T_cond (t := decide ((i_1 : Int) < (a0.length : Int))) rfl (fun d2 => ?_) (fun d2 => ?_)
  ·replace d2 := of_decide_eq_true d2
   obtain ⟨x_i_1, hx_i_1⟩ : ∃ v, (a0)[i_1]? = some v := ⟨_, List.getElem?_eq_getElem (by omega)⟩
   obtain ⟨C2_, H, K2_⟩ := forL_step L2_ hx_i_1
   rw [hb2] at H
   refine T_skip ?_
   refine T_seq ?_
   refine T_block ?_
   refine T_seq ?_
   refine sr ?_
   refine pv tb 2 rfl ?_
   refine Tp rfl rfl (pur_ixT (T := tFact) sl39 rfl rfl rfl hx_i_1 rfl) rfl ?_
   refine pv tb 1 rfl ?_
   refine Tp rfl rfl (pur_ldT (T := tFact) (i := i_1) (off := 0) rfl one3 rfl rfl hx_i_1 rfl) rfl ?_
   refine pv tb 2 rfl ?_
   refine TO_nil ?_
   refine T_cond (t := decide (x_i_1.relation ≠ k1)) rfl (fun c_3 => ?_) (fun c_3 => ?_)
   ·replace H := cond_t c_3 H
    refine sr ?_
    refine pv tb 1 rfl ?_
    refine TO_nil ?_
    refine T_ret ?_
    refine then_ret ?_
    refine block_ret ?_
    refine then_ret ?_
    refine then_ret ?_
    refine block_ret ?_
    refine then_ret ?_
    obtain rfl := some_inj H
    obtain rfl := some_inj K2_
    replace H := onS_r N2_
    obtain rfl := some_inj H
    refine end_ret (.tmp .nil) rfl rfl ⟨?_, rfl⟩
    rfl
   ·replace H := cond_f c_3 H
    refine T_skip ?_
    refine sr ?_
    refine pv tb 3 rfl ?_
    refine TO_nil ?_
    refine sr ?_
    refine pv tb 2 rfl ?_
    refine Tp rfl rfl (pur_ixT (T := tFact) sl39 rfl rfl rfl hx_i_1 rfl) rfl ?_
    refine pv tb 1 rfl ?_
    refine Tp rfl rfl (pur_ldT (T := tFact) (i := i_1) (off := 1) rfl one53 rfl rfl hx_i_1 rfl) rfl ?_
    obtain ⟨r_4, h_5, H⟩ := bind_inv H
    refine pv tb 1 rfl ?_
    refine TO_cons rfl (TOp_callV (call_static ent37 rfl) (m_laws_heldIntS_ok _ _ _ h_5) rfl rfl rfl ?_)
    refine pv tb 1 rfl ?_
    refine TO_nil ?_
    refine te [(0, (sl tFact a0)), (1, (intA r_4)), (5, (intA (i_1 : Int)))] rfl ?_
    refine sr ?_
    refine pv tb 2 rfl ?_
    refine TO_nil ?_
    refine T_cond (t := decide (r_4 < 0)) rfl (fun c_6 => ?_) (fun c_6 => ?_)
    ·replace H := cond_t c_6 H
     refine sr ?_
     refine pv tb 1 rfl ?_
     refine TO_nil ?_
     refine T_ret ?_
     refine block_ret ?_
     refine then_ret ?_
     refine then_ret ?_
     refine block_ret ?_
     refine then_ret ?_
     obtain rfl := some_inj H
     obtain rfl := some_inj K2_
     replace H := onS_r N2_
     obtain rfl := some_inj H
     refine end_ret (.tmp .nil) rfl rfl ⟨?_, rfl⟩
     rfl
    ·replace H := cond_f c_6 H
     refine T_skip ?_
     refine T_region ?_
     refine pv tb 1 rfl ?_
     refine Tp rfl rfl (pur_add rfl rfl rfl (fits64 (by omega) (by omega))) rfl ?_
     refine pv tb 1 rfl ?_
     refine TO_nil ?_
     obtain rfl := some_inj H
     exact again (a0.length - (i_1 + 1)) (i_1 + 1, r_4) (by omega) (w0 0) ⟨rfl, K2_⟩
  ·replace d2 := of_decide_eq_false d2
   obtain rfl := forL_end L2_ (by omega)
   refine T_exit ?_
   refine then_exit ?_
   refine then_exit ?_
   refine block_exit ?_
   replace H := onS_l N2_
   refine sr ?_
   refine pv tb 2 rfl ?_
   refine TO_nil ?_
   refine T_ret ?_
   obtain rfl := some_inj H
   refine end_ret (.tmp .nil) rfl rfl ⟨?_, rfl⟩
   rfl

set_option maxHeartbeats 1000000 in
theorem m_laws_heldDatabase_ok (u : Nat) (a0 : Database) (k1 : Int) (r : Int) (H : m_laws_heldDatabase u a0 k1 = some r) : FnV prg 21 [(.g (tDatabase.enc a0)), (intA k1)] (intA r) := by
  unfold m_laws_heldDatabase at H
  refine fnV_of_T Try.func21 rfl rfl (Nat.le_of_ble_eq_true rfl) ?_
  refine te [(0, (.g (tDatabase.enc a0))), (1, (intA k1))] rfl ?_
  refine sr ?_
  refine TO_cons rfl (TOp_box rfl (boxAll rfl) rfl rfl ?_)
  refine pv tb 1 rfl ?_
  refine TO_nil ?_
  refine sr ?_
  obtain ⟨r_1, h_2, H⟩ := bind_inv H
  refine pv tb 3 rfl ?_
  refine TO_cons rfl (TOp_callV (call_static ent56 rfl) (m_laws_heldRelationS_ok u _ _ _ h_2) rfl rfl rfl ?_)
  refine pv tb 1 rfl ?_
  refine TO_nil ?_
  refine T_seq ?_
  refine sr ?_
  refine pv tb 2 rfl ?_
  refine TO_nil ?_
  refine T_cond (t := decide (r_1 < 0)) rfl (fun c_3 => ?_) (fun c_3 => ?_)
  ·replace H := cond_t c_3 H
   refine sr ?_
   refine pv tb 1 rfl ?_
   refine TO_nil ?_
   refine T_ret ?_
   refine then_ret ?_
   obtain rfl := some_inj H
   refine end_ret (.tmp .nil) rfl rfl ⟨?_, rfl⟩
   rfl
  ·replace H := cond_f c_3 H
   refine T_skip ?_
   refine sr ?_
   obtain ⟨r_4, h_5, H⟩ := bind_inv H
   refine pv tb 3 rfl ?_
   refine TO_cons rfl (TOp_callV (call_static ent57 rfl) (m_laws_heldFactS_ok _ _ _ h_5) rfl rfl rfl ?_)
   refine pv tb 1 rfl ?_
   refine TO_nil ?_
   refine T_seq ?_
   refine sr ?_
   refine pv tb 2 rfl ?_
   refine TO_nil ?_
   refine T_cond (t := decide (r_4 < 0)) rfl (fun c_6 => ?_) (fun c_6 => ?_)
   ·replace H := cond_t c_6 H
    refine sr ?_
    refine pv tb 1 rfl ?_
    refine TO_nil ?_
    refine te [(4, (intA (-1)))] rfl ?_
    refine T_ret ?_
    refine then_ret ?_
    obtain rfl := some_inj H
    refine end_ret (.tmp .nil) rfl rfl ⟨?_, rfl⟩
    rfl
   ·replace H := cond_f c_6 H
    refine T_skip ?_
    refine te [(1, (intA r_4))] rfl ?_
    refine sr ?_
    refine pv tb 2 rfl ?_
    refine TO_nil ?_
    refine T_ret ?_
    obtain rfl := some_inj H
    refine end_ret (.tmp .nil) rfl rfl ⟨?_, rfl⟩
    rfl

set_option maxHeartbeats 1000000 in
theorem m_laws_FnExactMergeValues_ok (u : Nat) (aDb0 : Database) (aA1 : Int) (aB2 : Int) (r : Bool) (H : m_laws_FnExactMergeValues u aDb0 aA1 aB2 = some r) : FnV prg 4 [(.g (tDatabase.enc aDb0)), (intA aA1), (intA aB2)] (boolA r) := by
  unfold m_laws_FnExactMergeValues at H
  refine fnV_of_T Try.func4 rfl rfl (Nat.le_of_ble_eq_true rfl) ?_
  refine te [(0, (.g (tDatabase.enc aDb0))), (1, (intA aA1)), (2, (intA aB2))] rfl ?_
  refine sr ?_
  refine TO_cons rfl (TOp_box rfl (boxAll rfl) rfl rfl ?_)
  refine pv tb 1 rfl ?_
  refine TO_nil ?_
  refine sr ?_
  refine pv tb 1 rfl ?_
  refine TO_nil ?_
  refine sr ?_
  obtain ⟨r_1, h_2, H⟩ := bind_inv H
  refine pv tb 2 rfl ?_
  refine TO_cons rfl (TOp_callV (call_static ent15 rfl) (m_laws_szDatabase_ok _ _ _ h_2) rfl rfl rfl ?_)
  refine pv tb 1 rfl ?_
  refine TO_nil ?_
  refine T_seq ?_
  refine sr ?_
  refine pv tb 2 rfl ?_
  refine TO_nil ?_
  refine T_cond (t := decide (r_1 < 0)) rfl (fun c_3 => ?_) (fun c_3 => ?_)
  ·replace H := cond_t c_3 H
   refine sr ?_
   refine pv tb 1 rfl ?_
   refine TO_nil ?_
   refine T_ret ?_
   refine then_ret ?_
   obtain rfl := some_inj H
   refine end_ret (.tmp .nil) rfl rfl ⟨?_, rfl⟩
   rfl
  ·replace H := cond_f c_3 H
   refine T_skip ?_
   refine sr ?_
   obtain ⟨r_4, h_5, H⟩ := bind_inv H
   refine pv tb 1 rfl ?_
   refine TO_cons rfl (TOp_callV (call_static ent17 rfl) (m_laws_toDatabase_ok _ _ h_5) rfl rfl rfl ?_)
   obtain ⟨r_6, h_7, H⟩ := bind_inv H
   refine pv tb 2 rfl ?_
   refine TO_cons rfl (TOp_callV (call_static ent16 rfl) (m_spec_MergeValues_ok u _ _ _ _ h_7) rfl rfl rfl ?_)
   refine pv tb 3 rfl ?_
   refine TO_cons rfl (TOp_alloc zero41 rfl rfl ?_)
   refine TO_cons rfl (TOp_storeB sz41 rfl rfl rfl rfl rfl rfl rfl (by decide) (lb rfl) rfl ?_)
   refine TO_st (σ' := [.box [(sl tRelation aDb0.relations), (sl tFact aDb0.facts)], .box [(sl tRelation r_6.1.relations), (sl tFact r_6.1.facts)]]) rfl ?_
   refine pv tb 1 rfl ?_
   refine TO_nil ?_
   refine te [(1, (intA aA1)), (2, (intA aB2)), (3, (.b 0 0)), (8, (.b 1 0)), (9, (boolA r_6.2))] rfl ?_
   refine sr ?_
   obtain ⟨r_8, h_9, H⟩ := bind_inv H
   refine pv tb 1 rfl ?_
   refine TO_cons rfl (TOp_callO (call_static ent17 rfl) rfl (m_laws_toDatabase_own _ _ h_9) rfl rfl rfl ?_)
   refine toe [(1, (intA aA1)), (2, (intA aB2)), (3, (.b 0 0)), (8, (.b 1 0)), (9, (boolA r_6.2)), (31, (.g (tDatabase.enc aDb0))), (32, (.g [(.m [2] 0 r_8.relations.length tRelation.k), (.m [3] 0 r_8.facts.length tFact.k)]))] rfl ?_
   refine TO_st (σ' := [.box [(sl tRelation aDb0.relations), (sl tFact aDb0.facts)], .box [(sl tRelation r_6.1.relations), (sl tFact r_6.1.facts)], .row (flat tRelation.own r_8.relations), .row (flat tFact.own r_8.facts)]) rfl ?_
   refine TO_cons rfl (TOp_alloc zero41 rfl rfl ?_)
   refine TO_cons rfl (TOp_storeB sz41 rfl rfl rfl rfl rfl rfl rfl (by decide) (lb rfl) rfl ?_)
   refine TO_st (σ' := [.box [(sl tRelation aDb0.relations), (sl tFact aDb0.facts)], .box [(sl tRelation r_6.1.relations), (sl tFact r_6.1.facts)], .row (flat tRelation.own r_8.relations), .row (flat tFact.own r_8.facts), .box [(.m [2] 0 r_8.relations.length tRelation.k), (.m [3] 0 r_8.facts.length tFact.k)]]) rfl ?_
   refine TO_nil ?_
   refine sr ?_
   obtain ⟨r_10, h_11, H⟩ := bind_inv H
   refine pv tb 3 rfl ?_
   refine TO_cons rfl (TOp_callOG (call_static ent18 rfl) (frz_cons (frzOK_g (frz_cons (frzT (T := tRelation) rfl) (frz_cons (frzT (T := tFact) rfl) frz_nil)).1 (frz_cons (frzT (T := tRelation) rfl) (frz_cons (frzT (T := tFact) rfl) frz_nil)).2) (frz_cons (frz_loose rfl) (frz_cons (frz_loose rfl) frz_nil))).1 (frz_cons (frzOK_g (frz_cons (frzT (T := tRelation) rfl) (frz_cons (frzT (T := tFact) rfl) frz_nil)).1 (frz_cons (frzT (T := tRelation) rfl) (frz_cons (frzT (T := tFact) rfl) frz_nil)).2) (frz_cons (frz_loose rfl) (frz_cons (frz_loose rfl) frz_nil))).2 (m_impl_MergeValues_own _ _ _ _ h_11) rfl (ownC_of (ownSB_cons (flat_ownR tRelation _) (ownSB_cons (flat_ownR tFact _) ownSB_nil))) rfl rfl rfl ?_)
   refine toe [(1, (intA aA1)), (2, (intA aB2)), (3, (.b 0 0)), (8, (.b 1 0)), (9, (boolA r_6.2)), (10, (.b 4 0)), (34, (.g [(.m [2] 0 r_8.relations.length tRelation.k), (.m [3] 0 r_8.facts.length tFact.k)])), (35, (intA aA1)), (36, (intA aB2)), (37, (.t [(.g [(.m [5] 0 r_10.1.relations.length tRelation.k), (.m [6] 0 r_10.1.facts.length tFact.k)]), (boolA r_10.2)]))] rfl ?_
   refine TO_st (σ' := [.box [(sl tRelation aDb0.relations), (sl tFact aDb0.facts)], .box [(sl tRelation r_6.1.relations), (sl tFact r_6.1.facts)], .row (flat tRelation.own r_8.relations), .row (flat tFact.own r_8.facts), .box [(.m [2] 0 r_8.relations.length tRelation.k), (.m [3] 0 r_8.facts.length tFact.k)], .row (flat tRelation.own r_10.1.relations), .row (flat tFact.own r_10.1.facts)]) rfl ?_
   refine pv tb 3 rfl ?_
   refine TO_cons rfl (TOp_alloc zero41 rfl rfl ?_)
   refine TO_cons rfl (TOp_storeB sz41 rfl rfl rfl rfl rfl rfl rfl (by decide) (lb rfl) rfl ?_)
   refine TO_st (σ' := [.box [(sl tRelation aDb0.relations), (sl tFact aDb0.facts)], .box [(sl tRelation r_6.1.relations), (sl tFact r_6.1.facts)], .row (flat tRelation.own r_8.relations), .row (flat tFact.own r_8.facts), .box [(.m [2] 0 r_8.relations.length tRelation.k), (.m [3] 0 r_8.facts.length tFact.k)], .row (flat tRelation.own r_10.1.relations), .row (flat tFact.own r_10.1.facts), .box [(.m [5] 0 r_10.1.relations.length tRelation.k), (.m [6] 0 r_10.1.facts.length tFact.k)]]) rfl ?_
   refine pv tb 1 rfl ?_
   refine TO_nil ?_
   refine T_seq ?_
   obtain ⟨t48_12, J_12, H_13⟩ := bind_inv H
   refine T_cutX (fun x => t48_12 = x) (fun (t48_12 : Bool) => [(1, (intA aA1)), (2, (intA aB2)), (3, (.b 0 0)), (8, (.b 1 0)), (9, (boolA r_6.2)), (10, (.b 4 0)), (11, (.b 7 0)), (12, (boolA r_10.2)), (48, (boolA t48_12))]) (fun (t48_12 : Bool) => [.box [(sl tRelation aDb0.relations), (sl tFact aDb0.facts)], .box [(sl tRelation r_6.1.relations), (sl tFact r_6.1.facts)], .row (flat tRelation.own r_8.relations), .row (flat tFact.own r_8.facts), .box [(.m [2] 0 r_8.relations.length tRelation.k), (.m [3] 0 r_8.facts.length tFact.k)], .row (flat tRelation.own r_10.1.relations), .row (flat tFact.own r_10.1.facts), .box [(.m [5] 0 r_10.1.relations.length tRelation.k), (.m [6] 0 r_10.1.facts.length tFact.k)]]) ?_ ?_
   ·replace H := J_12
    refine T_region ?_
    obtain ⟨r_14, h_15, H⟩ := bind_inv H
    refine pv tb 2 rfl ?_
    refine TO_cons rfl (TOp_callB (call_static ent19 rfl) (frz_cons (frzOK_g (frz_cons (frzT (T := tRelation) rfl) (frz_cons (frzT (T := tFact) rfl) frz_nil)).1 (frz_cons (frzT (T := tRelation) rfl) (frz_cons (frzT (T := tFact) rfl) frz_nil)).2) (frz_cons (frz_loose rfl) frz_nil)).1 (frz_cons (frzOK_g (frz_cons (frzT (T := tRelation) rfl) (frz_cons (frzT (T := tFact) rfl) frz_nil)).1 (frz_cons (frzT (T := tRelation) rfl) (frz_cons (frzT (T := tFact) rfl) frz_nil)).2) (frz_cons (frz_loose rfl) frz_nil)).2 (m_laws_eqDatabase_ok _ _ _ h_15) rfl ?_)
    refine pv tb 2 rfl ?_
    refine TO_split (t := (!r_14)) 44 rfl (fun g_16 => ?_) (fun g_16 => ?_)
    ·replace H := cond_t g_16 H
     refine pv tb 4 rfl ?_
     refine TO_nil ?_
     exact joined true (w0 8) (some_inj H).symm
    ·replace H := cond_f g_16 H
     refine pv tb 2 rfl ?_
     refine TO_on rfl rfl (by decide) rfl rfl (TOp_pure (pur_neqB (by kernel_rfl) rfl rfl rfl) rfl ?_)
     refine pv tb 1 rfl ?_
     refine TO_nil ?_
     exact joined (r_10.2 != r_6.2) (w0 8) (some_inj H).symm
   ·rintro _ rfl
    replace H := H_13
    refine T_cond (t := t48_12) rfl (fun c_17 => ?_) (fun c_17 => ?_)
    ·replace H := cond_t c_17 H
     refine sr ?_
     refine pv tb 1 rfl ?_
     refine TO_nil ?_
     refine T_ret ?_
     refine then_ret ?_
     obtain rfl := some_inj H
     refine end_ret (.tmp .nil) rfl rfl ⟨?_, rfl⟩
     rfl
    ·replace H := cond_f c_17 H
     refine T_skip ?_
     refine T_seq ?_
     obtain ⟨r_18, h_19, H⟩ := bind_inv H
     obtain ⟨r_20, h_21, H⟩ := bind_inv H
     refine T_cutX (fun (_ : Unit) => True) (fun _ => [(1, (intA aA1)), (2, (intA aB2)), (3, (.b 0 0)), (8, (.b 1 0)), (9, (boolA r_6.2)), (10, (.b 4 0)), (11, (.b 7 0)), (12, (boolA r_10.2)), (53, (boolA (!r_20)))]) (fun _ => [.box [(sl tRelation aDb0.relations), (sl tFact aDb0.facts)], .box [(sl tRelation r_6.1.relations), (sl tFact r_6.1.facts)], .row (flat tRelation.own r_8.relations), .row (flat tFact.own r_8.facts), .box [(.m [2] 0 r_8.relations.length tRelation.k), (.m [3] 0 r_8.facts.length tFact.k)], .row (flat tRelation.own r_10.1.relations), .row (flat tFact.own r_10.1.facts), .box [(.m [5] 0 r_10.1.relations.length tRelation.k), (.m [6] 0 r_10.1.facts.length tFact.k)]]) ?_ ?_
     ·skip
      refine T_regionP 8 mixed rfl ?_
      refine pa tb [0, 1] 3 rfl (by kernel_rfl) rfl ?_
      refine t1 2 (by kernel_rfl) rfl rfl (TOp_callV (call_static ent17 rfl) (m_laws_toDatabase_ok _ _ h_19) rfl rfl rfl ?_)
      refine t1 3 (by kernel_rfl) rfl rfl (TOp_callB (call_static ent19 rfl) (frz_cons (frzOK_g (frz_cons (frzT (T := tRelation) rfl) (frz_cons (frzT (T := tFact) rfl) frz_nil)).1 (frz_cons (frzT (T := tRelation) rfl) (frz_cons (frzT (T := tFact) rfl) frz_nil)).2) (frz_cons (frz_loose rfl) frz_nil)).1 (frz_cons (frzOK_g (frz_cons (frzT (T := tRelation) rfl) (frz_cons (frzT (T := tFact) rfl) frz_nil)).1 (frz_cons (frzT (T := tRelation) rfl) (frz_cons (frzT (T := tFact) rfl) frz_nil)).2) (frz_cons (frz_loose rfl) frz_nil)).2 (m_laws_eqDatabase_ok _ _ _ h_21) rfl ?_)
      refine pa tb [4] 0 rfl (by kernel_rfl) rfl ?_
      exact TA_nil (by kernel_rfl) (joined () (w0 8) trivial)
     ·rintro _ _
      refine T_cond (t := (!r_20)) rfl (fun c_22 => ?_) (fun c_22 => ?_)
      ·replace H := cond_t c_22 H
       refine sr ?_
       refine pv tb 1 rfl ?_
       refine TO_nil ?_
       refine T_ret ?_
       refine then_ret ?_
       obtain rfl := some_inj H
       refine end_ret (.tmp .nil) rfl rfl ⟨?_, rfl⟩
       rfl
      ·replace H := cond_f c_22 H
       refine T_skip ?_
       refine sr ?_
       refine pv tb 1 rfl ?_
       refine TO_nil ?_
       refine sr ?_
       obtain ⟨r_23, h_24, H⟩ := bind_inv H
       refine pv tb 2 rfl ?_
       refine TO_cons rfl (TOp_callG (aa := [(.g [(.m [2] 0 r_8.relations.length tRelation.k), (.m [3] 0 r_8.facts.length tFact.k)]), (intA 1)]) [[2], [3]] (call_static ent20 rfl) rfl (.cons rfl rfl (by decide) (.cons rfl rfl (by decide) .nil)) rfl rfl (m_laws_markDatabase_mut u _ _ _ h_24) rfl (fun hl_25 => ?_))
       obtain ⟨hq_26, hl_25⟩ := sameLens_T (T := tRelation) hl_25
       refine TO_env (E' := [(1, (intA aA1)), (2, (intA aB2)), (3, (.b 0 0)), (8, (.b 1 0)), (9, (boolA r_6.2)), (10, (.b 4 0)), (11, (.b 7 0)), (12, (boolA r_10.2)), (13, (intA 1)), (54, (.g [(.m [2] 0 r_23.2.relations.length tRelation.k), (.m [3] 0 r_8.facts.length tFact.k)])), (55, (intA 1)), (56, (intA r_23.1))]) ⟨rfl, rfl, rfl, rfl, rfl, rfl, rfl, rfl, rfl, (by simp only [hq_26]; rfl), rfl, rfl, trivial⟩ ?_
       obtain ⟨hq_27, hl_25⟩ := sameLens_T (T := tFact) hl_25
       refine TO_env (E' := [(1, (intA aA1)), (2, (intA aB2)), (3, (.b 0 0)), (8, (.b 1 0)), (9, (boolA r_6.2)), (10, (.b 4 0)), (11, (.b 7 0)), (12, (boolA r_10.2)), (13, (intA 1)), (54, (.g [(.m [2] 0 r_23.2.relations.length tRelation.k), (.m [3] 0 r_23.2.facts.length tFact.k)])), (55, (intA 1)), (56, (intA r_23.1))]) ⟨rfl, rfl, rfl, rfl, rfl, rfl, rfl, rfl, rfl, (by simp only [hq_27]; rfl), rfl, rfl, trivial⟩ ?_
       refine TO_st (σ' := [.box [(sl tRelation aDb0.relations), (sl tFact aDb0.facts)], .box [(sl tRelation r_6.1.relations), (sl tFact r_6.1.facts)], .row (flat tRelation.own r_23.2.relations), .row (flat tFact.own r_23.2.facts), .box [(.m [2] 0 r_8.relations.length tRelation.k), (.m [3] 0 r_8.facts.length tFact.k)], .row (flat tRelation.own r_10.1.relations), .row (flat tFact.own r_10.1.facts), .box [(.m [5] 0 r_10.1.relations.length tRelation.k), (.m [6] 0 r_10.1.facts.length tFact.k)]]) rfl ?_
       refine TO_st (σ' := [.box [(sl tRelation aDb0.relations), (sl tFact aDb0.facts)], .box [(sl tRelation r_6.1.relations), (sl tFact r_6.1.facts)], .row (flat tRelation.own r_23.2.relations), .row (flat tFact.own r_23.2.facts), .box [(.m [2] 0 r_23.2.relations.length tRelation.k), (.m [3] 0 r_8.facts.length tFact.k)], .row (flat tRelation.own r_10.1.relations), .row (flat tFact.own r_10.1.facts), .box [(.m [5] 0 r_10.1.relations.length tRelation.k), (.m [6] 0 r_10.1.facts.length tFact.k)]]) (by simp only [hq_26]) ?_
       refine TO_st (σ' := [.box [(sl tRelation aDb0.relations), (sl tFact aDb0.facts)], .box [(sl tRelation r_6.1.relations), (sl tFact r_6.1.facts)], .row (flat tRelation.own r_23.2.relations), .row (flat tFact.own r_23.2.facts), .box [(.m [2] 0 r_23.2.relations.length tRelation.k), (.m [3] 0 r_23.2.facts.length tFact.k)], .row (flat tRelation.own r_10.1.relations), .row (flat tFact.own r_10.1.facts), .box [(.m [5] 0 r_10.1.relations.length tRelation.k), (.m [6] 0 r_10.1.facts.length tFact.k)]]) (by simp only [hq_27]) ?_
       refine pv tb 1 rfl ?_
       refine TO_nil ?_
       refine T_seq ?_
       obtain ⟨t69_28, J_28, H_29⟩ := bind_inv H
       refine T_cutX (fun x => t69_28 = x) (fun (t69_28 : Bool) => [(1, (intA aA1)), (2, (intA aB2)), (3, (.b 0 0)), (8, (.b 1 0)), (9, (boolA r_6.2)), (11, (.b 7 0)), (69, (boolA t69_28))]) (fun (t69_28 : Bool) => [.box [(sl tRelation aDb0.relations), (sl tFact aDb0.facts)], .box [(sl tRelation r_6.1.relations), (sl tFact r_6.1.facts)], .row (flat tRelation.own r_23.2.relations), .row (flat tFact.own r_23.2.facts), .box [(.m [2] 0 r_23.2.relations.length tRelation.k), (.m [3] 0 r_23.2.facts.length tFact.k)], .row (flat tRelation.own r_10.1.relations), .row (flat tFact.own r_10.1.facts), .box [(.m [5] 0 r_10.1.relations.length tRelation.k), (.m [6] 0 r_10.1.facts.length tFact.k)]]) ?_ ?_
       ·replace H := J_28
        refine T_region ?_
        refine pv tb 3 rfl ?_
        refine TO_split (t := decide (r_23.1 < 0)) 59 rfl (fun g_30 => ?_) (fun g_30 => ?_)
        ·replace H := cond_t g_30 H
         refine pv tb 10 rfl ?_
         refine TO_nil ?_
         exact joined true (w0 8) (some_inj H).symm
        ·replace H := cond_f g_30 H
         obtain ⟨r_31, h_32, H⟩ := bind_inv H
         refine pv tb 2 rfl ?_
         refine TO_on rfl rfl (by decide) rfl rfl (TOp_callB (call_static ent19 rfl) (frz_cons (frzOK_g (frz_cons (frzT (T := tRelation) rfl) (frz_cons (frzT (T := tFact) rfl) frz_nil)).1 (frz_cons (frzT (T := tRelation) rfl) (frz_cons (frzT (T := tFact) rfl) frz_nil)).2) (frz_cons (frz_loose rfl) frz_nil)).1 (frz_cons (frzOK_g (frz_cons (frzT (T := tRelation) rfl) (frz_cons (frzT (T := tFact) rfl) frz_nil)).1 (frz_cons (frzT (T := tRelation) rfl) (frz_cons (frzT (T := tFact) rfl) frz_nil)).2) (frz_cons (frz_loose rfl) frz_nil)).2 (m_laws_eqDatabase_ok _ _ _ h_32) rfl ?_)
         refine pv tb 3 rfl ?_
         refine TO_split (t := (!r_31)) 65 rfl (fun g_33 => ?_) (fun g_33 => ?_)
         ·replace H := cond_t g_33 H
          refine pv tb 4 rfl ?_
          refine TO_nil ?_
          exact joined true (w0 8) (some_inj H).symm
         ·replace H := cond_f g_33 H
          refine pv tb 2 rfl ?_
          refine TO_on rfl rfl (by decide) rfl rfl (TOp_pure (pur_neqB (by kernel_rfl) rfl rfl rfl) rfl ?_)
          refine pv tb 1 rfl ?_
          refine TO_nil ?_
          exact joined (r_10.2 != r_6.2) (w0 8) (some_inj H).symm
       ·rintro _ rfl
        replace H := H_29
        refine T_cond (t := t69_28) rfl (fun c_34 => ?_) (fun c_34 => ?_)
        ·replace H := cond_t c_34 H
         refine sr ?_
         refine pv tb 1 rfl ?_
         refine TO_nil ?_
         refine T_ret ?_
         refine then_ret ?_
         obtain rfl := some_inj H
         refine end_ret (.tmp .nil) rfl rfl ⟨?_, rfl⟩
         rfl
        ·replace H := cond_f c_34 H
         refine T_skip ?_
         refine sr ?_
         refine pv tb 1 rfl ?_
         refine TO_nil ?_
         refine sr ?_
         obtain ⟨r_35, h_36, H⟩ := bind_inv H
         refine pv tb 2 rfl ?_
         refine TO_cons rfl (TOp_callG (aa := [(.g [(.m [5] 0 r_10.1.relations.length tRelation.k), (.m [6] 0 r_10.1.facts.length tFact.k)]), (intA 1)]) [[5], [6]] (call_static ent20 rfl) rfl (.cons rfl rfl (by decide) (.cons rfl rfl (by decide) .nil)) rfl rfl (m_laws_markDatabase_mut u _ _ _ h_36) rfl (fun hl_37 => ?_))
         obtain ⟨hq_38, hl_37⟩ := sameLens_T (T := tRelation) hl_37
         refine TO_env (E' := [(1, (intA aA1)), (2, (intA aB2)), (3, (.b 0 0)), (8, (.b 1 0)), (9, (boolA r_6.2)), (11, (.b 7 0)), (14, (intA 1)), (70, (.g [(.m [5] 0 r_35.2.relations.length tRelation.k), (.m [6] 0 r_10.1.facts.length tFact.k)])), (71, (intA 1)), (72, (intA r_35.1))]) ⟨rfl, rfl, rfl, rfl, rfl, rfl, rfl, (by simp only [hq_38]; rfl), rfl, rfl, trivial⟩ ?_
         obtain ⟨hq_39, hl_37⟩ := sameLens_T (T := tFact) hl_37
         refine TO_env (E' := [(1, (intA aA1)), (2, (intA aB2)), (3, (.b 0 0)), (8, (.b 1 0)), (9, (boolA r_6.2)), (11, (.b 7 0)), (14, (intA 1)), (70, (.g [(.m [5] 0 r_35.2.relations.length tRelation.k), (.m [6] 0 r_35.2.facts.length tFact.k)])), (71, (intA 1)), (72, (intA r_35.1))]) ⟨rfl, rfl, rfl, rfl, rfl, rfl, rfl, (by simp only [hq_39]; rfl), rfl, rfl, trivial⟩ ?_
         refine TO_st (σ' := [.box [(sl tRelation aDb0.relations), (sl tFact aDb0.facts)], .box [(sl tRelation r_6.1.relations), (sl tFact r_6.1.facts)], .row (flat tRelation.own r_23.2.relations), .row (flat tFact.own r_23.2.facts), .box [(.m [2] 0 r_23.2.relations.length tRelation.k), (.m [3] 0 r_23.2.facts.length tFact.k)], .row (flat tRelation.own r_35.2.relations), .row (flat tFact.own r_35.2.facts), .box [(.m [5] 0 r_10.1.relations.length tRelation.k), (.m [6] 0 r_10.1.facts.length tFact.k)]]) rfl ?_
         refine TO_st (σ' := [.box [(sl tRelation aDb0.relations), (sl tFact aDb0.facts)], .box [(sl tRelation r_6.1.relations), (sl tFact r_6.1.facts)], .row (flat tRelation.own r_23.2.relations), .row (flat tFact.own r_23.2.facts), .box [(.m [2] 0 r_23.2.relations.length tRelation.k), (.m [3] 0 r_23.2.facts.length tFact.k)], .row (flat tRelation.own r_35.2.relations), .row (flat tFact.own r_35.2.facts), .box [(.m [5] 0 r_35.2.relations.length tRelation.k), (.m [6] 0 r_10.1.facts.length tFact.k)]]) (by simp only [hq_38]) ?_
         refine TO_st (σ' := [.box [(sl tRelation aDb0.relations), (sl tFact aDb0.facts)], .box [(sl tRelation r_6.1.relations), (sl tFact r_6.1.facts)], .row (flat tRelation.own r_23.2.relations), .row (flat tFact.own r_23.2.facts), .box [(.m [2] 0 r_23.2.relations.length tRelation.k), (.m [3] 0 r_23.2.facts.length tFact.k)], .row (flat tRelation.own r_35.2.relations), .row (flat tFact.own r_35.2.facts), .box [(.m [5] 0 r_35.2.relations.length tRelation.k), (.m [6] 0 r_35.2.facts.length tFact.k)]]) (by simp only [hq_39]) ?_
         refine pv tb 1 rfl ?_
         refine TO_nil ?_
         refine sr ?_
         refine pv tb 1 rfl ?_
         refine TO_nil ?_
         refine sr ?_
         obtain ⟨r_40, h_41, H⟩ := bind_inv H
         refine pv tb 2 rfl ?_
         refine TO_cons rfl (TOp_callB (call_static ent21 rfl) (frz_cons (frzOK_g (frz_cons (frzT (T := tRelation) rfl) (frz_cons (frzT (T := tFact) rfl) frz_nil)).1 (frz_cons (frzT (T := tRelation) rfl) (frz_cons (frzT (T := tFact) rfl) frz_nil)).2) (frz_cons (frz_loose rfl) frz_nil)).1 (frz_cons (frzOK_g (frz_cons (frzT (T := tRelation) rfl) (frz_cons (frzT (T := tFact) rfl) frz_nil)).1 (frz_cons (frzT (T := tRelation) rfl) (frz_cons (frzT (T := tFact) rfl) frz_nil)).2) (frz_cons (frz_loose rfl) frz_nil)).2 (m_laws_heldDatabase_ok u _ _ _ h_41) rfl ?_)
         refine pv tb 1 rfl ?_
         refine TO_nil ?_
         refine T_seq ?_
         refine sr ?_
         refine pv tb 2 rfl ?_
         refine TO_nil ?_
         refine T_cond (t := decide (r_40 < 0)) rfl (fun c_42 => ?_) (fun c_42 => ?_)
         ·replace H := cond_t c_42 H
          refine sr ?_
          refine pv tb 1 rfl ?_
          refine TO_nil ?_
          refine te [(6, (boolA false))] rfl ?_
          refine T_ret ?_
          refine then_ret ?_
          obtain rfl := some_inj H
          refine end_ret (.tmp .nil) rfl rfl ⟨?_, rfl⟩
          rfl
         ·replace H := cond_f c_42 H
          refine T_skip ?_
          refine T_seq ?_
          refine sr ?_
          refine pv tb 3 rfl ?_
          refine TO_nil ?_
          refine T_cond (t := decide (r_40 ≠ r_35.1)) rfl (fun c_43 => ?_) (fun c_43 => ?_)
          ·replace H := cond_t c_43 H
           refine sr ?_
           refine pv tb 1 rfl ?_
           refine TO_nil ?_
           refine te [(6, (boolA false))] rfl ?_
           refine T_ret ?_
           refine then_ret ?_
           obtain rfl := some_inj H
           refine end_ret (.tmp .nil) rfl rfl ⟨?_, rfl⟩
           rfl
          ·replace H := cond_f c_43 H
           refine T_skip ?_
           refine sr ?_
           obtain ⟨r_44, h_45, H⟩ := bind_inv H
           refine pv tb 1 rfl ?_
           refine TO_cons rfl (TOp_callV (call_static ent17 rfl) (m_laws_toDatabase_ok _ _ h_45) rfl rfl rfl ?_)
           obtain ⟨r_46, h_47, H⟩ := bind_inv H
           refine pv tb 2 rfl ?_
           refine TO_cons rfl (TOp_callV (call_static ent18 rfl) (m_impl_MergeValues_ok _ _ _ _ h_47) rfl rfl rfl ?_)
           refine pv tb 3 rfl ?_
           refine toe [(8, (.b 1 0)), (9, (boolA r_6.2)), (11, (.b 7 0)), (14, (intA r_35.1)), (87, (.g (tDatabase.enc r_46.1))), (88, (boolA r_46.2))] rfl ?_
           refine TO_cons rfl (TOp_alloc zero41 rfl rfl ?_)
           refine TO_cons rfl (TOp_storeB sz41 rfl rfl rfl rfl rfl rfl rfl (by decide) (lb rfl) rfl ?_)
           refine TO_st (σ' := [.box [(sl tRelation aDb0.relations), (sl tFact aDb0.facts)], .box [(sl tRelation r_6.1.relations), (sl tFact r_6.1.facts)], .row (flat tRelation.own r_23.2.relations), .row (flat tFact.own r_23.2.facts), .box [(.m [2] 0 r_23.2.relations.length tRelation.k), (.m [3] 0 r_23.2.facts.length tFact.k)], .row (flat tRelation.own r_35.2.relations), .row (flat tFact.own r_35.2.facts), .box [(.m [5] 0 r_35.2.relations.length tRelation.k), (.m [6] 0 r_35.2.facts.length tFact.k)], .box [(sl tRelation r_46.1.relations), (sl tFact r_46.1.facts)]]) rfl ?_
           refine pv tb 1 rfl ?_
           refine TO_nil ?_
           refine T_seq ?_
           obtain ⟨t97_48, J_48, H_49⟩ := bind_inv H
           refine T_cutX (fun x => t97_48 = x) (fun (t97_48 : Bool) => [(11, (.b 7 0)), (14, (intA r_35.1)), (97, (boolA t97_48))]) (fun (t97_48 : Bool) => [.box [(sl tRelation aDb0.relations), (sl tFact aDb0.facts)], .box [(sl tRelation r_6.1.relations), (sl tFact r_6.1.facts)], .row (flat tRelation.own r_23.2.relations), .row (flat tFact.own r_23.2.facts), .box [(.m [2] 0 r_23.2.relations.length tRelation.k), (.m [3] 0 r_23.2.facts.length tFact.k)], .row (flat tRelation.own r_35.2.relations), .row (flat tFact.own r_35.2.facts), .box [(.m [5] 0 r_35.2.relations.length tRelation.k), (.m [6] 0 r_35.2.facts.length tFact.k)]]) ?_ ?_
           ·replace H := J_48
            refine T_region ?_
            obtain ⟨r_50, h_51, H⟩ := bind_inv H
            refine pv tb 2 rfl ?_
            refine TO_cons rfl (TOp_callV (call_static ent19 rfl) (m_laws_eqDatabase_ok _ _ _ h_51) rfl rfl rfl ?_)
            refine pv tb 2 rfl ?_
            refine TO_split (t := (!r_50)) 93 rfl (fun g_52 => ?_) (fun g_52 => ?_)
            ·replace H := cond_t g_52 H
             refine pv tb 4 rfl ?_
             refine TO_nil ?_
             exact joined true (w0 8) (some_inj H).symm
            ·replace H := cond_f g_52 H
             refine pv tb 2 rfl ?_
             refine TO_on rfl rfl (by decide) rfl rfl (TOp_pure (pur_neqB (by kernel_rfl) rfl rfl rfl) rfl ?_)
             refine pv tb 1 rfl ?_
             refine TO_nil ?_
             exact joined (r_46.2 != r_6.2) (w0 8) (some_inj H).symm
           ·rintro _ rfl
            replace H := H_49
            refine T_cond (t := t97_48) rfl (fun c_53 => ?_) (fun c_53 => ?_)
            ·replace H := cond_t c_53 H
             refine sr ?_
             refine pv tb 1 rfl ?_
             refine TO_nil ?_
             refine T_ret ?_
             refine then_ret ?_
             obtain rfl := some_inj H
             refine end_ret (.tmp .nil) rfl rfl ⟨?_, rfl⟩
             rfl
            ·replace H := cond_f c_53 H
             refine T_skip ?_
             refine sr ?_
             refine pv tb 1 rfl ?_
             refine TO_nil ?_
             refine sr ?_
             obtain ⟨r_54, h_55, H⟩ := bind_inv H
             refine pv tb 2 rfl ?_
             refine TO_cons rfl (TOp_callB (call_static ent21 rfl) (frz_cons (frzOK_g (frz_cons (frzT (T := tRelation) rfl) (frz_cons (frzT (T := tFact) rfl) frz_nil)).1 (frz_cons (frzT (T := tRelation) rfl) (frz_cons (frzT (T := tFact) rfl) frz_nil)).2) (frz_cons (frz_loose rfl) frz_nil)).1 (frz_cons (frzOK_g (frz_cons (frzT (T := tRelation) rfl) (frz_cons (frzT (T := tFact) rfl) frz_nil)).1 (frz_cons (frzT (T := tRelation) rfl) (frz_cons (frzT (T := tFact) rfl) frz_nil)).2) (frz_cons (frz_loose rfl) frz_nil)).2 (m_laws_heldDatabase_ok u _ _ _ h_55) rfl ?_)
             refine pv tb 1 rfl ?_
             refine TO_nil ?_
             refine T_seq ?_
             refine sr ?_
             refine pv tb 2 rfl ?_
             refine TO_nil ?_
             refine T_cond (t := decide (r_54 < 0)) rfl (fun c_56 => ?_) (fun c_56 => ?_)
             ·replace H := cond_t c_56 H
              refine sr ?_
              refine pv tb 1 rfl ?_
              refine TO_nil ?_
              refine T_ret ?_
              refine then_ret ?_
              obtain rfl := some_inj H
              refine end_ret (.tmp .nil) rfl rfl ⟨?_, rfl⟩
              rfl
             ·replace H := cond_f c_56 H
              refine T_skip ?_
              refine T_seq ?_
              refine sr ?_
              refine pv tb 3 rfl ?_
              refine TO_nil ?_
              refine T_cond (t := decide (r_54 ≠ r_35.1)) rfl (fun c_57 => ?_) (fun c_57 => ?_)
              ·replace H := cond_t c_57 H
               refine sr ?_
               refine pv tb 1 rfl ?_
               refine TO_nil ?_
               refine T_ret ?_
               refine then_ret ?_
               obtain rfl := some_inj H
               refine end_ret (.tmp .nil) rfl rfl ⟨?_, rfl⟩
               rfl
              ·replace H := cond_f c_57 H
               refine T_skip ?_
               refine sr ?_
               refine pv tb 1 rfl ?_
               refine TO_nil ?_
               refine T_ret ?_
               obtain rfl := some_inj H
               refine end_ret (.tmp .nil) rfl rfl ⟨?_, rfl⟩
               rfl
end Go.Proofs.Ytmecnecfkgneoaa

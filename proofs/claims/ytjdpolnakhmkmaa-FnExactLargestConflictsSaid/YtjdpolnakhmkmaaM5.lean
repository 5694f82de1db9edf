/- Walks. -/
import Derived.Test.YtjdpolnakhmkmaaM1
import Derived.Test.YtjdpolnakhmkmaaM2
import Derived.Test.YtjdpolnakhmkmaaM3
import Derived.Test.YtjdpolnakhmkmaaM4
set_option linter.unusedVariables false
set_option linter.unusedSimpArgs false
set_option maxRecDepth 4000
namespace Go.Proofs.Ytjdpolnakhmkmaa
open Go Go.Proofs Go.Sep
set_option maxHeartbeats 1000000 in
/-- laws.markFactS -/
theorem m_laws_markFactS_mut (a0 : (List Fact)) (k1 : Int) (r : (Int × (List Fact))) (H : m_laws_markFactS a0 k1 = some r) : FnM prg 64 [(.m [0] 0 a0.length tFact.k), (intA k1)] [flat tFact.own a0] (.int .i64 r.1) [flat tFact.own r.2] := by
  unfold m_laws_markFactS at H
  refine fnM_of_T Try.func64 rfl rfl (Nat.le_of_ble_eq_true rfl) ?_
  refine te [(0, (.m [0] 0 a0.length tFact.k)), (1, (intA k1))] rfl ?_
  refine T_st (σ' := [.row (flat tFact.own a0)]) rfl ?_
  refine sr ?_
  refine Tp rfl rfl (pur_assign rfl) rfl ?_
  refine TO_nil ?_
  refine te [(0, (.m [0] 0 a0.length tFact.k)), (1, (intA k1))] rfl ?_
  refine T_seq ?_
  refine sr ?_
  refine Tp rfl rfl (pur_assign rfl) rfl ?_
  refine TO_nil ?_
  refine te [(0, (.m [0] 0 a0.length tFact.k)), (1, (intA k1)), (5, (intA 0))] rfl ?_
  obtain ⟨O2_, L2_, N2_⟩ := bind_inv H
  clear H
  obtain ⟨B2_, hb2, L2_⟩ := gen_forM L2_
  refine T_block ?_
  refine T_loopX (fun k => fun (x_ : Int × (List Fact) × Int) => k = ((a0.length : Int) - x_.1).toNat ∧ 0 ≤ x_.1 ∧ forM B2_ ((a0.length : Int) - x_.1).toNat x_.1 (x_.2.1, x_.2.2) = some O2_ ∧ x_.2.1.length = a0.length) (fun (x_ : Int × (List Fact) × Int) => [(0, (.m [0] 0 x_.2.1.length tFact.k)), (1, (intA x_.2.2)), (5, (intA (x_.1 : Int)))]) (fun (x_ : Int × (List Fact) × Int) => [.row (flat tFact.own x_.2.1)]) _ (0, (a0, k1)) (wp 1 (lb rfl) rfl rfl rfl rfl rfl) ⟨rfl, Int.le_refl _, L2_, rfl⟩ ?_
  rintro _ ⟨i_1, a0m, k1⟩ ⟨rfl, hi2, L2_, hq_a0m⟩
  replace hq_a0m : a0m.length = a0.length := hq_a0m
  refine te [(0, (.m [0] 0 a0m.length tFact.k)), (1, (intA k1)), (5, (intA (i_1 : Int)))] rfl ?_
  refine T_st (σ' := [.row (flat tFact.own a0m)]) rfl ?_
  refine T_fact (len_m (.tmp 0) rfl) (fun hl2 => ?_)
  refine T_seq ?_
  refine sr ?_
  refine Tp rfl rfl (pur_move rfl) rfl ?_
  refine Tp rfl rfl (pur_move rfl) rfl ?_
  refine Tp rfl rfl (pur_len_m sl46 rfl rfl) rfl ?_
  refine Tp rfl rfl (pur_lss rfl rfl rfl) rfl ?_
  refine TO_nil ?_
  refine te [(0, (.m [0] 0 a0m.length tFact.k)), (1, (intA k1)), (5, (intA (i_1 : Int))), (9, (boolA (decide ((i_1 : Int) < (a0m.length : Int)))))] rfl ?_
  refine T_cond (t := decide ((i_1 : Int) < (a0m.length : Int))) rfl (fun d2 => ?_) (fun d2 => ?_)
  ·replace d2 := of_decide_eq_true d2
   replace d2 : (i_1 : Int) < (a0.length : Int) := by omega
   obtain ⟨C2_, H, K2_⟩ := forM_step L2_ d2
   rw [hb2] at H
   refine T_skip ?_
   refine te [(0, (.m [0] 0 a0m.length tFact.k)), (1, (intA k1)), (5, (intA (i_1 : Int)))] rfl ?_
   refine T_seq ?_
   refine T_block ?_
   refine sr ?_
   refine Tp rfl rfl (pur_move rfl) rfl ?_
   refine Tp rfl rfl (pur_move rfl) rfl ?_
   refine Tp rfl rfl (pur_move rfl) rfl ?_
   obtain ⟨v_3, h_4, H⟩ := bind_inv H
   obtain ⟨n_5, hz_6, hv_7⟩ := getI_inv h_4
   refine Tp rfl rfl (pur_ixM (T := tFact) sl46 rfl rfl hz_6 hv_7 rfl) rfl ?_
   refine Tp rfl rfl (pur_fa_e fld65_0 rfl rfl) rfl ?_
   refine TO_cons rfl (TOp_setP (f := tFact.own) (k := tFact.k) (off := 0) (z := (i_1 : Int)) tFact.lenO ({ relation := k1, values := v_3.values } : Fact) hz_6 sz3 (by decide) rfl rfl rfl rfl rfl hv_7 rfl rfl (by decide) rfl rfl ?_)
   refine TO_env (E' := [(0, (.m [0] 0 (a0m.set ((i_1 : Int)).toNat ({ relation := k1, values := v_3.values } : Fact)).length tFact.k)), (1, (intA k1)), (5, (intA (i_1 : Int))), (12, (.m [0] 0 (a0m.set ((i_1 : Int)).toNat ({ relation := k1, values := v_3.values } : Fact)).length tFact.k)), (13, (intA (i_1 : Int))), (14, (intA k1))]) ⟨(congrArg (fun q => A.m [0] 0 q tFact.k) (List.length_set ..).symm), rfl, rfl, (congrArg (fun q => A.m [0] 0 q tFact.k) (List.length_set ..).symm), rfl, rfl, trivial⟩ ?_
   refine TO_st (σ' := [.row (flat tFact.own (a0m.set ((i_1 : Int)).toNat ({ relation := k1, values := v_3.values } : Fact)))]) rfl ?_
   refine TO_nil ?_
   refine te [(0, (.m [0] 0 (a0m.set ((i_1 : Int)).toNat ({ relation := k1, values := v_3.values } : Fact)).length tFact.k)), (1, (intA k1)), (5, (intA (i_1 : Int)))] rfl ?_
   refine sr ?_
   refine Tp rfl rfl (pur_move rfl) rfl ?_
   refine Tp rfl rfl (pur_wadd rfl rfl rfl) rfl ?_
   refine Tp rfl rfl (pur_assign rfl) rfl ?_
   refine TO_nil ?_
   refine te [(0, (.m [0] 0 (a0m.set ((i_1 : Int)).toNat ({ relation := k1, values := v_3.values } : Fact)).length tFact.k)), (1, (intA (w64 (k1 + 1)))), (5, (intA (i_1 : Int)))] rfl ?_
   refine T_region ?_
   refine Tp rfl rfl (pur_move rfl) rfl ?_
   refine Tp rfl rfl (pur_move rfl) rfl ?_
   obtain ⟨v_8, h_9, H⟩ := bind_inv H
   obtain ⟨n_10, hz_11, hv_12⟩ := getI_inv h_9
   refine Tp rfl rfl (pur_ixM (T := tFact) sl46 rfl rfl hz_11 hv_12 rfl) rfl ?_
   refine Tp rfl rfl (pur_fa_e fld65_1 rfl rfl) rfl ?_
   refine Tp rfl rfl (pur_ldE (f := tFact.own) (k := tFact.k) (i := n_10) (off := 1) tFact.lenO rfl one23 rfl rfl rfl hv_12 rfl cellVal_sl) rfl ?_
   refine Tp rfl rfl (pur_move rfl) rfl ?_
   obtain ⟨r_13, h_14, H⟩ := bind_inv H
   refine TO_cons rfl (TOp_callG (aa := [(.m [0, n_10 * tFact.k + 1] 0 v_8.values.length tInt.k), (intA (w64 (k1 + 1)))]) [[0, n_10 * tFact.k + 1]] (call_static ent23 rfl) rfl (.cons (rowAt_el (f := tFact.own) (i := n_10) (off := 1) tFact.lenO rfl hv_12 rfl) rfl (by simp) .nil) (by simp [namesL, A.names, locP]) (by simp [renPL, A.renP, locF, locP]) (m_laws_markIntS_mut _ _ _ h_14) rfl (fun hl_15 => ?_))
   refine TO_env (E' := [(0, (.m [0] 0 ((a0m.set ((i_1 : Int)).toNat ({ relation := k1, values := v_3.values } : Fact)).set ((i_1 : Int)).toNat ({ relation := v_8.relation, values := r_13.2 } : Fact)).length tFact.k)), (1, (intA (w64 (k1 + 1)))), (5, (intA (i_1 : Int))), (19, (.m [0] 0 ((a0m.set ((i_1 : Int)).toNat ({ relation := k1, values := v_3.values } : Fact)).set ((i_1 : Int)).toNat ({ relation := v_8.relation, values := r_13.2 } : Fact)).length tFact.k)), (20, (intA (i_1 : Int))), (24, (intA (w64 (k1 + 1)))), (25, (intA r_13.1))]) ⟨(congrArg (fun q => A.m [0] 0 q tFact.k) (List.length_set ..).symm), rfl, rfl, (congrArg (fun q => A.m [0] 0 q tFact.k) (List.length_set ..).symm), rfl, rfl, rfl, trivial⟩ ?_
   refine TO_st (σ' := [.row (flat tFact.own ((a0m.set ((i_1 : Int)).toNat ({ relation := k1, values := v_3.values } : Fact)).set ((i_1 : Int)).toNat ({ relation := v_8.relation, values := r_13.2 } : Fact)))]) (setRows_T (f := tFact.own) (i := n_10) (v' := ({ relation := v_8.relation, values := r_13.2 } : Fact)) tFact.lenO hz_11 [1] rfl hv_12 (allO_cons ⟨_, _, rfl⟩ allO_nil) rfl) ?_
   refine Tp rfl rfl (pur_assign rfl) rfl ?_
   refine TO_nil ?_
   refine te [(0, (.m [0] 0 ((a0m.set ((i_1 : Int)).toNat ({ relation := k1, values := v_3.values } : Fact)).set ((i_1 : Int)).toNat ({ relation := v_8.relation, values := r_13.2 } : Fact)).length tFact.k)), (1, (intA r_13.1)), (5, (intA (i_1 : Int)))] rfl ?_
   refine T_region ?_
   refine Tp rfl rfl (pur_move rfl) rfl ?_
   refine Tp rfl rfl (pur_add rfl rfl rfl (fits64 (by omega) (by omega))) rfl ?_
   refine Tp rfl rfl (pur_assign rfl) rfl ?_
   refine TO_nil ?_
   obtain rfl := some_inj H
   exact again ((a0.length : Int) - (i_1 + 1)).toNat (i_1 + 1, (((a0m.set ((i_1 : Int)).toNat ({ relation := k1, values := v_3.values } : Fact)).set ((i_1 : Int)).toNat ({ relation := v_8.relation, values := r_13.2 } : Fact)), r_13.1)) (by omega) (wp 1 (lb rfl) rfl rfl rfl rfl rfl) ⟨rfl, by omega, K2_, ((List.length_set ..).trans ((List.length_set ..).trans hq_a0m))⟩
  ·replace d2 := of_decide_eq_false d2
   obtain rfl := forM_end L2_ (by omega)
   refine T_exit ?_
   refine then_exit ?_
   refine then_exit ?_
   refine block_exit ?_
   replace H := N2_
   refine te [(1, (intA k1))] rfl ?_
   refine sr ?_
   refine Tp rfl rfl (pur_move rfl) rfl ?_
   refine Tp rfl rfl (pur_assign rfl) rfl ?_
   refine TO_nil ?_
   refine te [(4, (intA k1))] rfl ?_
   refine T_ret ?_
   obtain rfl := some_inj H
   exact end_M (.tmp .nil) rfl rfl (Nat.le_refl _) (sameLens_c (T := tFact) hq_a0m trivial) rfl rfl

set_option maxHeartbeats 1000000 in
/-- laws.markText -/
theorem m_laws_markText_ok (u : Nat) (k0 : Int) (r : ByteArray) (H : m_laws_markText u k0 = some r) : FnV prg 147 [(intA k0)] (strA r) := by
  unfold m_laws_markText at H
  refine fnV_of_T Try.func147 rfl rfl (Nat.le_of_ble_eq_true rfl) ?_
  refine te [(0, (intA k0))] rfl ?_
  refine sr ?_
  refine Tp rfl rfl (pur_assign rfl) rfl ?_
  refine TO_nil ?_
  refine te [(0, (intA k0))] rfl ?_
  refine T_seq ?_
  refine sr ?_
  refine Tp rfl rfl (pur_move rfl) rfl ?_
  refine Tp rfl rfl (pur_leq rfl rfl rfl) rfl ?_
  refine TO_nil ?_
  refine te [(0, (intA k0)), (5, (boolA (decide (k0 ≤ 0))))] rfl ?_
  refine T_cond (t := decide (k0 ≤ 0)) rfl (fun c_1 => ?_) (fun c_1 => ?_)
  ·replace H := cond_t c_1 H
   refine sr ?_
   refine Tp rfl rfl (pur_assign rfl) rfl ?_
   refine TO_nil ?_
   refine te [(2, (strA (⟨#[109, 48]⟩ : ByteArray)))] rfl ?_
   refine T_ret ?_
   refine then_ret ?_
   obtain rfl := some_inj H
   refine end_ret (.tmp .nil) rfl rfl ⟨?_, rfl⟩
   rfl
  ·replace H := cond_f c_1 H
   refine T_skip ?_
   refine te [(0, (intA k0))] rfl ?_
   refine sr ?_
   refine Tp rfl rfl (pur_assign rfl) rfl ?_
   refine TO_nil ?_
   refine te [(0, (intA k0)), (3, (strA (⟨#[]⟩ : ByteArray)))] rfl ?_
   obtain ⟨O2_, L2_, N2_⟩ := bind_inv H
   clear H
   obtain ⟨B2_, hb2, L2_⟩ := gen_whileF L2_
   refine T_cutX (fun (x : Int × ByteArray) => O2_ = .inl x) (fun (x_ : Int × ByteArray) => [(3, (strA x_.2))]) (fun (x_ : Int × ByteArray) => []) ?_ ?_
   ·skip
    refine T_block ?_
    refine T_loopX (fun k => fun (x_ : Int × ByteArray) => whileF B2_ k (x_.1, x_.2) = some O2_) (fun (x_ : Int × ByteArray) => [(0, (intA x_.1)), (3, (strA x_.2))]) (fun (x_ : Int × ByteArray) => []) u (k0, (⟨#[]⟩ : ByteArray)) (wp 0 (lb rfl) rfl rfl rfl rfl rfl) L2_ ?_
    rintro _ ⟨k0, out3⟩ L2_
    obtain ⟨k2, rfl, C2_, H, K2_⟩ := while_step L2_
    rw [hb2] at H
    refine te [(0, (intA k0)), (3, (strA out3))] rfl ?_
    refine T_st (σ' := []) rfl ?_
    refine T_seq ?_
    refine sr ?_
    refine Tp rfl rfl (pur_move rfl) rfl ?_
    refine Tp rfl rfl (pur_gtr rfl rfl rfl) rfl ?_
    refine TO_nil ?_
    refine te [(0, (intA k0)), (3, (strA out3)), (7, (boolA (decide (0 < k0))))] rfl ?_
    refine T_cond (t := decide (0 < k0)) rfl (fun c_3 => ?_) (fun c_3 => ?_)
    ·replace H := cond_t c_3 H
     refine T_skip ?_
     refine te [(0, (intA k0)), (3, (strA out3))] rfl ?_
     refine T_block ?_
     refine sr ?_
     refine Tp rfl rfl (pur_move rfl) rfl ?_
     refine Tp rfl rfl (pur_rem rfl rfl rfl (by decide)) rfl ?_
     refine Tp rfl rfl (pur_wadd rfl rfl rfl) rfl ?_
     refine Tp rfl rfl (pur_convI (k := .u8) (k' := .i64) ⟨_, Try.underlying3⟩ Try.underlying5 rfl rfl) rfl ?_
     refine TO_cons rfl (TOp_lit (nn := 1) (k := 1) sl62 zero5 rfl rfl rfl rfl (by decide) ?_)
     refine TO_st (σ' := [.row (flat (tI .u8).enc ([(IntKind.wrap .u8 (w64 (48 + (k0.tmod 10))))] : (List Int)))]) rfl ?_
     refine Tp rfl rfl (pur_strM (zs := ([(IntKind.wrap .u8 (w64 (48 + (k0.tmod 10))))] : (List Int))) Try.underlying62 Try.underlying5 Try.underlying9 rfl rfl rfl) rfl ?_
     refine Tp rfl rfl (pur_move rfl) rfl ?_
     obtain ⟨cat_4, h_5, H⟩ := bind_inv H
     refine Tp rfl rfl (pur_cat rfl rfl rfl h_5) rfl ?_
     refine Tp rfl rfl (pur_assign rfl) rfl ?_
     refine TO_nil ?_
     refine te [(0, (intA k0)), (3, (strA cat_4))] rfl ?_
     refine T_region ?_
     refine Tp rfl rfl (pur_move rfl) rfl ?_
     refine Tp rfl rfl (pur_wquo rfl rfl rfl (by decide)) rfl ?_
     refine Tp rfl rfl (pur_assign rfl) rfl ?_
     refine TO_nil ?_
     obtain rfl := some_inj H
     exact again k2 ((w64 (k0.tdiv 10)), cat_4) (Nat.lt_succ_self _) (wp 0 (lb rfl) rfl rfl rfl rfl rfl) K2_
    ·replace H := cond_f c_3 H
     refine T_exit ?_
     refine then_exit ?_
     refine then_exit ?_
     refine block_exit ?_
     obtain rfl := some_inj H
     obtain rfl := some_inj K2_
     exact joined (k0, out3) (wp 0 (lb rfl) rfl rfl rfl rfl rfl) rfl
   ·rintro ⟨k0, out3⟩ rfl
    replace H := onS_l N2_
    refine te [(3, (strA out3))] rfl ?_
    refine sr ?_
    refine Tp rfl rfl (pur_move rfl) rfl ?_
    obtain ⟨cat_6, h_7, H⟩ := bind_inv H
    refine Tp rfl rfl (pur_cat rfl rfl rfl h_7) rfl ?_
    refine Tp rfl rfl (pur_assign rfl) rfl ?_
    refine TO_nil ?_
    refine te [(2, (strA cat_6))] rfl ?_
    refine T_ret ?_
    obtain rfl := some_inj H
    refine end_ret (.tmp .nil) rfl rfl ⟨?_, rfl⟩
    rfl

set_option maxHeartbeats 1000000 in
/-- laws.markRelationS -/
theorem m_laws_markRelationS_mut (u : Nat) (a0 : (List Relation)) (k1 : Int) (r : (Int × (List Relation))) (H : m_laws_markRelationS u a0 k1 = some r) : FnM prg 95 [(.m [0] 0 a0.length tRelation.k), (intA k1)] [flat tRelation.own a0] (.int .i64 r.1) [flat tRelation.own r.2] := by
  unfold m_laws_markRelationS at H
  refine fnM_of_T Try.func95 rfl rfl (Nat.le_of_ble_eq_true rfl) ?_
  refine te [(0, (.m [0] 0 a0.length tRelation.k)), (1, (intA k1))] rfl ?_
  refine T_st (σ' := [.row (flat tRelation.own a0)]) rfl ?_
  refine sr ?_
  refine Tp rfl rfl (pur_assign rfl) rfl ?_
  refine TO_nil ?_
  refine te [(0, (.m [0] 0 a0.length tRelation.k)), (1, (intA k1))] rfl ?_
  refine T_seq ?_
  refine sr ?_
  refine Tp rfl rfl (pur_assign rfl) rfl ?_
  refine TO_nil ?_
  refine te [(0, (.m [0] 0 a0.length tRelation.k)), (1, (intA k1)), (5, (intA 0))] rfl ?_
  obtain ⟨O2_, L2_, N2_⟩ := bind_inv H
  clear H
  obtain ⟨B2_, hb2, L2_⟩ := gen_forM L2_
  refine T_block ?_
  refine T_loopX (fun k => fun (x_ : Int × (List Relation) × Int) => k = ((a0.length : Int) - x_.1).toNat ∧ 0 ≤ x_.1 ∧ forM B2_ ((a0.length : Int) - x_.1).toNat x_.1 (x_.2.1, x_.2.2) = some O2_ ∧ x_.2.1.length = a0.length) (fun (x_ : Int × (List Relation) × Int) => [(0, (.m [0] 0 x_.2.1.length tRelation.k)), (1, (intA x_.2.2)), (5, (intA (x_.1 : Int)))]) (fun (x_ : Int × (List Relation) × Int) => [.row (flat tRelation.own x_.2.1)]) _ (0, (a0, k1)) (wp 1 (lb rfl) rfl rfl rfl rfl rfl) ⟨rfl, Int.le_refl _, L2_, rfl⟩ ?_
  rintro _ ⟨i_1, a0m, k1⟩ ⟨rfl, hi2, L2_, hq_a0m⟩
  replace hq_a0m : a0m.length = a0.length := hq_a0m
  refine te [(0, (.m [0] 0 a0m.length tRelation.k)), (1, (intA k1)), (5, (intA (i_1 : Int)))] rfl ?_
  refine T_st (σ' := [.row (flat tRelation.own a0m)]) rfl ?_
  refine T_fact (len_m (.tmp 0) rfl) (fun hl2 => ?_)
  refine T_seq ?_
  refine sr ?_
  refine Tp rfl rfl (pur_move rfl) rfl ?_
  refine Tp rfl rfl (pur_move rfl) rfl ?_
  refine Tp rfl rfl (pur_len_m sl45 rfl rfl) rfl ?_
  refine Tp rfl rfl (pur_lss rfl rfl rfl) rfl ?_
  refine TO_nil ?_
  refine te [(0, (.m [0] 0 a0m.length tRelation.k)), (1, (intA k1)), (5, (intA (i_1 : Int))), (9, (boolA (decide ((i_1 : Int) < (a0m.length : Int)))))] rfl ?_
  refine T_cond (t := decide ((i_1 : Int) < (a0m.length : Int))) rfl (fun d2 => ?_) (fun d2 => ?_)
  ·replace d2 := of_decide_eq_true d2
   replace d2 : (i_1 : Int) < (a0.length : Int) := by omega
   obtain ⟨C2_, H, K2_⟩ := forM_step L2_ d2
   rw [hb2] at H
   refine T_skip ?_
   refine te [(0, (.m [0] 0 a0m.length tRelation.k)), (1, (intA k1)), (5, (intA (i_1 : Int)))] rfl ?_
   refine T_seq ?_
   refine T_block ?_
   refine sr ?_
   refine Tp rfl rfl (pur_move rfl) rfl ?_
   refine Tp rfl rfl (pur_move rfl) rfl ?_
   refine Tp rfl rfl (pur_move rfl) rfl ?_
   obtain ⟨r_3, h_4, H⟩ := bind_inv H
   refine TO_cons rfl (TOp_callV (call_static ent147 rfl) (m_laws_markText_ok u _ _ h_4) rfl rfl rfl ?_)
   obtain ⟨v_5, h_6, H⟩ := bind_inv H
   obtain ⟨n_7, hz_8, hv_9⟩ := getI_inv h_6
   refine Tp rfl rfl (pur_ixM (T := tRelation) sl45 rfl rfl hz_8 hv_9 rfl) rfl ?_
   refine Tp rfl rfl (pur_fa_e fld130_0 rfl rfl) rfl ?_
   refine TO_cons rfl (TOp_setP (f := tRelation.own) (k := tRelation.k) (off := 0) (z := (i_1 : Int)) tRelation.lenO ({ name := r_3, arity := v_5.arity, keyLength := v_5.keyLength } : Relation) hz_8 sz9 (by decide) rfl rfl rfl rfl rfl hv_9 rfl rfl (by decide) rfl rfl ?_)
   refine TO_env (E' := [(0, (.m [0] 0 (a0m.set ((i_1 : Int)).toNat ({ name := r_3, arity := v_5.arity, keyLength := v_5.keyLength } : Relation)).length tRelation.k)), (1, (intA k1)), (5, (intA (i_1 : Int))), (12, (.m [0] 0 (a0m.set ((i_1 : Int)).toNat ({ name := r_3, arity := v_5.arity, keyLength := v_5.keyLength } : Relation)).length tRelation.k)), (13, (intA (i_1 : Int))), (14, (intA k1)), (15, (strA r_3))]) ⟨(congrArg (fun q => A.m [0] 0 q tRelation.k) (List.length_set ..).symm), rfl, rfl, (congrArg (fun q => A.m [0] 0 q tRelation.k) (List.length_set ..).symm), rfl, rfl, rfl, trivial⟩ ?_
   refine TO_st (σ' := [.row (flat tRelation.own (a0m.set ((i_1 : Int)).toNat ({ name := r_3, arity := v_5.arity, keyLength := v_5.keyLength } : Relation)))]) rfl ?_
   refine TO_nil ?_
   refine te [(0, (.m [0] 0 (a0m.set ((i_1 : Int)).toNat ({ name := r_3, arity := v_5.arity, keyLength := v_5.keyLength } : Relation)).length tRelation.k)), (1, (intA k1)), (5, (intA (i_1 : Int)))] rfl ?_
   refine sr ?_
   refine Tp rfl rfl (pur_move rfl) rfl ?_
   refine Tp rfl rfl (pur_wadd rfl rfl rfl) rfl ?_
   refine Tp rfl rfl (pur_assign rfl) rfl ?_
   refine TO_nil ?_
   refine te [(0, (.m [0] 0 (a0m.set ((i_1 : Int)).toNat ({ name := r_3, arity := v_5.arity, keyLength := v_5.keyLength } : Relation)).length tRelation.k)), (1, (intA (w64 (k1 + 1)))), (5, (intA (i_1 : Int)))] rfl ?_
   refine sr ?_
   refine Tp rfl rfl (pur_move rfl) rfl ?_
   refine Tp rfl rfl (pur_move rfl) rfl ?_
   refine Tp rfl rfl (pur_move rfl) rfl ?_
   obtain ⟨v_10, h_11, H⟩ := bind_inv H
   obtain ⟨n_12, hz_13, hv_14⟩ := getI_inv h_11
   refine Tp rfl rfl (pur_ixM (T := tRelation) sl45 rfl rfl hz_13 hv_14 rfl) rfl ?_
   refine Tp rfl rfl (pur_fa_e fld130_1 rfl rfl) rfl ?_
   refine TO_cons rfl (TOp_setP (f := tRelation.own) (k := tRelation.k) (off := 1) (z := (i_1 : Int)) tRelation.lenO ({ name := v_10.name, arity := (w64 (k1 + 1)), keyLength := v_10.keyLength } : Relation) hz_13 sz3 (by decide) rfl rfl rfl rfl rfl hv_14 rfl rfl (by decide) rfl rfl ?_)
   refine TO_env (E' := [(0, (.m [0] 0 ((a0m.set ((i_1 : Int)).toNat ({ name := r_3, arity := v_5.arity, keyLength := v_5.keyLength } : Relation)).set ((i_1 : Int)).toNat ({ name := v_10.name, arity := (w64 (k1 + 1)), keyLength := v_10.keyLength } : Relation)).length tRelation.k)), (1, (intA (w64 (k1 + 1)))), (5, (intA (i_1 : Int))), (20, (.m [0] 0 ((a0m.set ((i_1 : Int)).toNat ({ name := r_3, arity := v_5.arity, keyLength := v_5.keyLength } : Relation)).set ((i_1 : Int)).toNat ({ name := v_10.name, arity := (w64 (k1 + 1)), keyLength := v_10.keyLength } : Relation)).length tRelation.k)), (21, (intA (i_1 : Int))), (22, (intA (w64 (k1 + 1))))]) ⟨(congrArg (fun q => A.m [0] 0 q tRelation.k) (List.length_set ..).symm), rfl, rfl, (congrArg (fun q => A.m [0] 0 q tRelation.k) (List.length_set ..).symm), rfl, rfl, trivial⟩ ?_
   refine TO_st (σ' := [.row (flat tRelation.own ((a0m.set ((i_1 : Int)).toNat ({ name := r_3, arity := v_5.arity, keyLength := v_5.keyLength } : Relation)).set ((i_1 : Int)).toNat ({ name := v_10.name, arity := (w64 (k1 + 1)), keyLength := v_10.keyLength } : Relation)))]) rfl ?_
   refine TO_nil ?_
   refine te [(0, (.m [0] 0 ((a0m.set ((i_1 : Int)).toNat ({ name := r_3, arity := v_5.arity, keyLength := v_5.keyLength } : Relation)).set ((i_1 : Int)).toNat ({ name := v_10.name, arity := (w64 (k1 + 1)), keyLength := v_10.keyLength } : Relation)).length tRelation.k)), (1, (intA (w64 (k1 + 1)))), (5, (intA (i_1 : Int)))] rfl ?_
   refine sr ?_
   refine Tp rfl rfl (pur_move rfl) rfl ?_
   refine Tp rfl rfl (pur_wadd rfl rfl rfl) rfl ?_
   refine Tp rfl rfl (pur_assign rfl) rfl ?_
   refine TO_nil ?_
   refine te [(0, (.m [0] 0 ((a0m.set ((i_1 : Int)).toNat ({ name := r_3, arity := v_5.arity, keyLength := v_5.keyLength } : Relation)).set ((i_1 : Int)).toNat ({ name := v_10.name, arity := (w64 (k1 + 1)), keyLength := v_10.keyLength } : Relation)).length tRelation.k)), (1, (intA (w64 ((w64 (k1 + 1)) + 1)))), (5, (intA (i_1 : Int)))] rfl ?_
   refine sr ?_
   refine Tp rfl rfl (pur_move rfl) rfl ?_
   refine Tp rfl rfl (pur_move rfl) rfl ?_
   refine Tp rfl rfl (pur_move rfl) rfl ?_
   obtain ⟨v_15, h_16, H⟩ := bind_inv H
   obtain ⟨n_17, hz_18, hv_19⟩ := getI_inv h_16
   refine Tp rfl rfl (pur_ixM (T := tRelation) sl45 rfl rfl hz_18 hv_19 rfl) rfl ?_
   refine Tp rfl rfl (pur_fa_e fld130_2 rfl rfl) rfl ?_
   refine TO_cons rfl (TOp_setP (f := tRelation.own) (k := tRelation.k) (off := 2) (z := (i_1 : Int)) tRelation.lenO ({ name := v_15.name, arity := v_15.arity, keyLength := (w64 ((w64 (k1 + 1)) + 1)) } : Relation) hz_18 sz3 (by decide) rfl rfl rfl rfl rfl hv_19 rfl rfl (by decide) rfl rfl ?_)
   refine TO_env (E' := [(0, (.m [0] 0 (((a0m.set ((i_1 : Int)).toNat ({ name := r_3, arity := v_5.arity, keyLength := v_5.keyLength } : Relation)).set ((i_1 : Int)).toNat ({ name := v_10.name, arity := (w64 (k1 + 1)), keyLength := v_10.keyLength } : Relation)).set ((i_1 : Int)).toNat ({ name := v_15.name, arity := v_15.arity, keyLength := (w64 ((w64 (k1 + 1)) + 1)) } : Relation)).length tRelation.k)), (1, (intA (w64 ((w64 (k1 + 1)) + 1)))), (5, (intA (i_1 : Int))), (27, (.m [0] 0 (((a0m.set ((i_1 : Int)).toNat ({ name := r_3, arity := v_5.arity, keyLength := v_5.keyLength } : Relation)).set ((i_1 : Int)).toNat ({ name := v_10.name, arity := (w64 (k1 + 1)), keyLength := v_10.keyLength } : Relation)).set ((i_1 : Int)).toNat ({ name := v_15.name, arity := v_15.arity, keyLength := (w64 ((w64 (k1 + 1)) + 1)) } : Relation)).length tRelation.k)), (28, (intA (i_1 : Int))), (29, (intA (w64 ((w64 (k1 + 1)) + 1))))]) ⟨(congrArg (fun q => A.m [0] 0 q tRelation.k) (List.length_set ..).symm), rfl, rfl, (congrArg (fun q => A.m [0] 0 q tRelation.k) (List.length_set ..).symm), rfl, rfl, trivial⟩ ?_
   refine TO_st (σ' := [.row (flat tRelation.own (((a0m.set ((i_1 : Int)).toNat ({ name := r_3, arity := v_5.arity, keyLength := v_5.keyLength } : Relation)).set ((i_1 : Int)).toNat ({ name := v_10.name, arity := (w64 (k1 + 1)), keyLength := v_10.keyLength } : Relation)).set ((i_1 : Int)).toNat ({ name := v_15.name, arity := v_15.arity, keyLength := (w64 ((w64 (k1 + 1)) + 1)) } : Relation)))]) rfl ?_
   refine TO_nil ?_
   refine te [(0, (.m [0] 0 (((a0m.set ((i_1 : Int)).toNat ({ name := r_3, arity := v_5.arity, keyLength := v_5.keyLength } : Relation)).set ((i_1 : Int)).toNat ({ name := v_10.name, arity := (w64 (k1 + 1)), keyLength := v_10.keyLength } : Relation)).set ((i_1 : Int)).toNat ({ name := v_15.name, arity := v_15.arity, keyLength := (w64 ((w64 (k1 + 1)) + 1)) } : Relation)).length tRelation.k)), (1, (intA (w64 ((w64 (k1 + 1)) + 1)))), (5, (intA (i_1 : Int)))] rfl ?_
   refine T_region ?_
   refine Tp rfl rfl (pur_move rfl) rfl ?_
   refine Tp rfl rfl (pur_wadd rfl rfl rfl) rfl ?_
   refine Tp rfl rfl (pur_assign rfl) rfl ?_
   refine TO_nil ?_
   refine te [(0, (.m [0] 0 (((a0m.set ((i_1 : Int)).toNat ({ name := r_3, arity := v_5.arity, keyLength := v_5.keyLength } : Relation)).set ((i_1 : Int)).toNat ({ name := v_10.name, arity := (w64 (k1 + 1)), keyLength := v_10.keyLength } : Relation)).set ((i_1 : Int)).toNat ({ name := v_15.name, arity := v_15.arity, keyLength := (w64 ((w64 (k1 + 1)) + 1)) } : Relation)).length tRelation.k)), (1, (intA (w64 ((w64 ((w64 (k1 + 1)) + 1)) + 1)))), (5, (intA (i_1 : Int)))] rfl ?_
   refine T_region ?_
   refine Tp rfl rfl (pur_move rfl) rfl ?_
   refine Tp rfl rfl (pur_add rfl rfl rfl (fits64 (by omega) (by omega))) rfl ?_
   refine Tp rfl rfl (pur_assign rfl) rfl ?_
   refine TO_nil ?_
   obtain rfl := some_inj H
   exact again ((a0.length : Int) - (i_1 + 1)).toNat (i_1 + 1, ((((a0m.set ((i_1 : Int)).toNat ({ name := r_3, arity := v_5.arity, keyLength := v_5.keyLength } : Relation)).set ((i_1 : Int)).toNat ({ name := v_10.name, arity := (w64 (k1 + 1)), keyLength := v_10.keyLength } : Relation)).set ((i_1 : Int)).toNat ({ name := v_15.name, arity := v_15.arity, keyLength := (w64 ((w64 (k1 + 1)) + 1)) } : Relation)), (w64 ((w64 ((w64 (k1 + 1)) + 1)) + 1)))) (by omega) (wp 1 (lb rfl) rfl rfl rfl rfl rfl) ⟨rfl, by omega, K2_, ((List.length_set ..).trans ((List.length_set ..).trans ((List.length_set ..).trans hq_a0m)))⟩
  ·replace d2 := of_decide_eq_false d2
   obtain rfl := forM_end L2_ (by omega)
   refine T_exit ?_
   refine then_exit ?_
   refine then_exit ?_
   refine block_exit ?_
   replace H := N2_
   refine te [(1, (intA k1))] rfl ?_
   refine sr ?_
   refine Tp rfl rfl (pur_move rfl) rfl ?_
   refine Tp rfl rfl (pur_assign rfl) rfl ?_
   refine TO_nil ?_
   refine te [(4, (intA k1))] rfl ?_
   refine T_ret ?_
   obtain rfl := some_inj H
   exact end_M (.tmp .nil) rfl rfl (Nat.le_refl _) (sameLens_c (T := tRelation) hq_a0m trivial) rfl rfl

set_option maxHeartbeats 1000000 in
/-- laws.markDatabase -/
theorem m_laws_markDatabase_mut (u : Nat) (a0 : Database) (k1 : Int) (r : (Int × Database)) (H : m_laws_markDatabase u a0 k1 = some r) : FnM prg 30 [(.g [(.m [0] 0 a0.relations.length tRelation.k), (.m [1] 0 a0.facts.length tFact.k)]), (intA k1)] [flat tRelation.own a0.relations, flat tFact.own a0.facts] (.int .i64 r.1) [flat tRelation.own r.2.relations, flat tFact.own r.2.facts] := by
  unfold m_laws_markDatabase at H
  refine fnM_of_T Try.func30 rfl rfl (Nat.le_of_ble_eq_true rfl) ?_
  refine te [(0, (.g [(.m [0] 0 a0.relations.length tRelation.k), (.m [1] 0 a0.facts.length tFact.k)])), (1, (intA k1))] rfl ?_
  refine T_st (σ' := [.row (flat tRelation.own a0.relations), .row (flat tFact.own a0.facts)]) rfl ?_
  refine sr ?_
  refine TO_cons rfl (TOp_box rfl (boxAll rfl) rfl rfl ?_)
  refine Tp rfl rfl (pur_assign rfl) rfl ?_
  refine TO_nil ?_
  refine te [(1, (intA k1)), (2, (.b 2 0))] rfl ?_
  refine sr ?_
  refine Tp rfl rfl (pur_fa_b fld48_0 rfl rfl) rfl ?_
  refine Tp rfl rfl (pur_ld_b one45 rfl rfl rfl rfl) rfl ?_
  refine Tp rfl rfl (pur_move rfl) rfl ?_
  obtain ⟨r_1, h_2, H⟩ := bind_inv H
  refine TO_cons rfl (TOp_callG (aa := [(.m [0] 0 a0.relations.length tRelation.k), (intA k1)]) [[0]] (call_static ent95 rfl) rfl (.cons rfl rfl (by decide) .nil) rfl rfl (m_laws_markRelationS_mut u _ _ _ h_2) rfl (fun hl_3 => ?_))
  obtain ⟨hq_4, hl_3⟩ := sameLens_T (T := tRelation) hl_3
  refine TO_env (E' := [(1, (intA k1)), (2, (.b 2 0)), (5, (.b 2 0)), (6, (.m [0] 0 r_1.2.length tRelation.k)), (7, (intA k1)), (8, (intA r_1.1))]) ⟨rfl, rfl, rfl, (congrArg (fun q => A.m [0] 0 q tRelation.k) hq_4.symm), rfl, rfl, trivial⟩ ?_
  refine TO_st (σ' := [.row (flat tRelation.own r_1.2), .row (flat tFact.own a0.facts), .box [(.m [0] 0 a0.relations.length tRelation.k), (.m [1] 0 a0.facts.length tFact.k)]]) rfl ?_
  refine TO_st (σ' := [.row (flat tRelation.own r_1.2), .row (flat tFact.own a0.facts), .box [(.m [0] 0 r_1.2.length tRelation.k), (.m [1] 0 a0.facts.length tFact.k)]]) (by simp only [hq_4]) ?_
  refine Tp rfl rfl (pur_assign rfl) rfl ?_
  refine TO_nil ?_
  refine te [(1, (intA r_1.1)), (2, (.b 2 0))] rfl ?_
  refine sr ?_
  refine Tp rfl rfl (pur_fa_b fld48_1 rfl rfl) rfl ?_
  refine Tp rfl rfl (pur_ld_b one46 rfl rfl rfl rfl) rfl ?_
  refine Tp rfl rfl (pur_move rfl) rfl ?_
  obtain ⟨r_5, h_6, H⟩ := bind_inv H
  refine TO_cons rfl (TOp_callG (aa := [(.m [1] 0 a0.facts.length tFact.k), (intA r_1.1)]) [[1]] (call_static ent64 rfl) rfl (.cons rfl rfl (by decide) .nil) rfl rfl (m_laws_markFactS_mut _ _ _ h_6) rfl (fun hl_7 => ?_))
  obtain ⟨hq_8, hl_7⟩ := sameLens_T (T := tFact) hl_7
  refine TO_env (E' := [(1, (intA r_1.1)), (2, (.b 2 0)), (9, (.b 2 1)), (10, (.m [1] 0 r_5.2.length tFact.k)), (11, (intA r_1.1)), (12, (intA r_5.1))]) ⟨rfl, rfl, rfl, (congrArg (fun q => A.m [1] 0 q tFact.k) hq_8.symm), rfl, rfl, trivial⟩ ?_
  refine TO_st (σ' := [.row (flat tRelation.own r_1.2), .row (flat tFact.own r_5.2), .box [(.m [0] 0 r_1.2.length tRelation.k), (.m [1] 0 a0.facts.length tFact.k)]]) rfl ?_
  refine TO_st (σ' := [.row (flat tRelation.own r_1.2), .row (flat tFact.own r_5.2), .box [(.m [0] 0 r_1.2.length tRelation.k), (.m [1] 0 r_5.2.length tFact.k)]]) (by simp only [hq_8]) ?_
  refine Tp rfl rfl (pur_assign rfl) rfl ?_
  refine TO_nil ?_
  refine te [(1, (intA r_5.1))] rfl ?_
  refine sr ?_
  refine Tp rfl rfl (pur_move rfl) rfl ?_
  refine Tp rfl rfl (pur_assign rfl) rfl ?_
  refine TO_nil ?_
  refine te [(4, (intA r_5.1))] rfl ?_
  refine T_ret ?_
  obtain rfl := some_inj H
  exact end_M (.tmp .nil) rfl rfl (Nat.le_refl _) (sameLens_c (T := tRelation) hq_4 (sameLens_c (T := tFact) hq_8 trivial)) rfl rfl

set_option maxHeartbeats 1000000 in
/-- laws.heldIntS -/
theorem m_laws_heldIntS_ok (a0 : (List Int)) (k1 : Int) (r : Int) (H : m_laws_heldIntS a0 k1 = some r) : FnV prg 31 [(sl tInt a0), (intA k1)] (intA r) := by
  unfold m_laws_heldIntS at H
  refine fnV_of_T Try.func31 rfl rfl (Nat.le_of_ble_eq_true rfl) ?_
  refine te [(0, (sl tInt a0)), (1, (intA k1))] rfl ?_
  refine sr ?_
  refine Tp rfl rfl (pur_assign rfl) rfl ?_
  refine TO_nil ?_
  refine te [(0, (sl tInt a0)), (1, (intA k1))] rfl ?_
  refine T_seq ?_
  refine sr ?_
  refine Tp rfl rfl (pur_assign rfl) rfl ?_
  refine TO_nil ?_
  refine te [(0, (sl tInt a0)), (1, (intA k1)), (5, (intA 0))] rfl ?_
  obtain ⟨O2_, L2_, N2_⟩ := bind_inv H
  clear H
  obtain ⟨B2_, hb2, L2_⟩ := gen_forL L2_
  refine T_block ?_
  refine T_loopX (fun k => fun (x_ : Nat × Int) => k = a0.length - x_.1 ∧ forL B2_ (a0.drop x_.1) (x_.1 : Int) x_.2 = some O2_) (fun (x_ : Nat × Int) => [(0, (sl tInt a0)), (1, (intA x_.2)), (5, (intA (x_.1 : Int)))]) (fun (x_ : Nat × Int) => []) _ (0, k1) (wp 0 (lb rfl) rfl rfl rfl rfl rfl) ⟨rfl, L2_⟩ ?_
  rintro _ ⟨i_1, k1⟩ ⟨rfl, L2_⟩
  refine te [(0, (sl tInt a0)), (1, (intA k1)), (5, (intA (i_1 : Int)))] rfl ?_
  refine T_st (σ' := []) rfl ?_
  refine T_fact (len_sl (T := tInt) (.tmp 0) rfl) (fun hl2 => ?_)
  refine T_seq ?_
  refine sr ?_
  refine Tp rfl rfl (pur_move rfl) rfl ?_
  refine Tp rfl rfl (pur_move rfl) rfl ?_
  refine Tp rfl rfl (pur_lenT (T := tInt) sl23 rfl rfl) rfl ?_
  refine Tp rfl rfl (pur_lss rfl rfl rfl) rfl ?_
  refine TO_nil ?_
  refine te [(0, (sl tInt a0)), (1, (intA k1)), (5, (intA (i_1 : Int))), (9, (boolA (decide ((i_1 : Int) < (a0.length : Int)))))] rfl ?_
  refine T_cond (t := decide ((i_1 : Int) < (a0.length : Int))) rfl (fun d2 => ?_) (fun d2 => ?_)
  ·replace d2 := of_decide_eq_true d2
   obtain ⟨x_i_1, hx_i_1⟩ : ∃ v, (a0)[i_1]? = some v := ⟨_, List.getElem?_eq_getElem (by omega)⟩
   obtain ⟨C2_, H, K2_⟩ := forL_step L2_ hx_i_1
   rw [hb2] at H
   refine T_skip ?_
   refine te [(0, (sl tInt a0)), (1, (intA k1)), (5, (intA (i_1 : Int)))] rfl ?_
   refine T_seq ?_
   refine T_block ?_
   refine T_seq ?_
   refine sr ?_
   refine Tp rfl rfl (pur_move rfl) rfl ?_
   refine Tp rfl rfl (pur_move rfl) rfl ?_
   refine Tp rfl rfl (pur_ixT (T := tInt) sl23 rfl rfl rfl hx_i_1 rfl) rfl ?_
   refine Tp rfl rfl (pur_ldT (T := tInt) (i := i_1) (off := 0) rfl one3 rfl rfl hx_i_1 rfl) rfl ?_
   refine Tp rfl rfl (pur_move rfl) rfl ?_
   refine Tp rfl rfl (pur_neq rfl rfl rfl) rfl ?_
   refine TO_nil ?_
   refine te [(0, (sl tInt a0)), (1, (intA k1)), (5, (intA (i_1 : Int))), (17, (boolA (decide (x_i_1 ≠ k1))))] rfl ?_
   refine T_cond (t := decide (x_i_1 ≠ k1)) rfl (fun c_3 => ?_) (fun c_3 => ?_)
   ·replace H := cond_t c_3 H
    refine sr ?_
    refine Tp rfl rfl (pur_assign rfl) rfl ?_
    refine TO_nil ?_
    refine te [(4, (intA (-1)))] rfl ?_
    refine T_ret ?_
    refine then_ret ?_
    refine block_ret ?_
    refine then_ret ?_
    refine then_ret ?_
    refine block_ret ?_
    refine then_ret ?_
    obtain rfl := some_inj H
    obtain rfl := some_inj K2_
    replace H := onS_r N2_
    obtain rfl := some_inj H
    refine end_ret (.tmp .nil) rfl rfl ⟨?_, rfl⟩
    rfl
   ·replace H := cond_f c_3 H
    refine T_skip ?_
    refine te [(0, (sl tInt a0)), (1, (intA k1)), (5, (intA (i_1 : Int)))] rfl ?_
    refine T_region ?_
    refine Tp rfl rfl (pur_move rfl) rfl ?_
    refine Tp rfl rfl (pur_wadd rfl rfl rfl) rfl ?_
    refine Tp rfl rfl (pur_assign rfl) rfl ?_
    refine TO_nil ?_
    refine te [(0, (sl tInt a0)), (1, (intA (w64 (k1 + 1)))), (5, (intA (i_1 : Int)))] rfl ?_
    refine T_region ?_
    refine Tp rfl rfl (pur_move rfl) rfl ?_
    refine Tp rfl rfl (pur_add rfl rfl rfl (fits64 (by omega) (by omega))) rfl ?_
    refine Tp rfl rfl (pur_assign rfl) rfl ?_
    refine TO_nil ?_
    obtain rfl := some_inj H
    exact again (a0.length - (i_1 + 1)) (i_1 + 1, (w64 (k1 + 1))) (by omega) (wp 0 (lb rfl) rfl rfl rfl rfl rfl) ⟨rfl, K2_⟩
  ·replace d2 := of_decide_eq_false d2
   obtain rfl := forL_end L2_ (by omega)
   refine T_exit ?_
   refine then_exit ?_
   refine then_exit ?_
   refine block_exit ?_
   replace H := onS_l N2_
   refine te [(1, (intA k1))] rfl ?_
   refine sr ?_
   refine Tp rfl rfl (pur_move rfl) rfl ?_
   refine Tp rfl rfl (pur_assign rfl) rfl ?_
   refine TO_nil ?_
   refine te [(4, (intA k1))] rfl ?_
   refine T_ret ?_
   obtain rfl := some_inj H
   refine end_ret (.tmp .nil) rfl rfl ⟨?_, rfl⟩
   rfl

set_option maxHeartbeats 1000000 in
/-- laws.FnExactLargestConflicts -/
theorem m_laws_FnExactLargestConflicts_ok (u : Nat) (aDb0 : Database) (r : Bool) (H : m_laws_FnExactLargestConflicts u aDb0 = some r) : FnV prg 4 [(.g (tDatabase.enc aDb0))] (boolA r) := by
  unfold m_laws_FnExactLargestConflicts at H
  refine fnV_of_T Try.func4 rfl rfl (Nat.le_of_ble_eq_true rfl) ?_
  refine te [(0, (.g (tDatabase.enc aDb0)))] rfl ?_
  refine sr ?_
  refine TO_cons rfl (TOp_box rfl (boxAll rfl) rfl rfl ?_)
  refine Tp rfl rfl (pur_assign rfl) rfl ?_
  refine TO_nil ?_
  refine te [(1, (.b 0 0))] rfl ?_
  refine sr ?_
  refine Tp rfl rfl (pur_assign rfl) rfl ?_
  refine TO_nil ?_
  refine te [(1, (.b 0 0)), (3, (intA 1048576))] rfl ?_
  refine sr ?_
  refine Tp rfl rfl (pur_ldK_b agg42 rfl rfl (lb rfl) rfl) rfl ?_
  refine Tp rfl rfl (pur_move rfl) rfl ?_
  obtain ⟨r_1, h_2, H⟩ := bind_inv H
  refine TO_cons rfl (TOp_callV (call_static ent25 rfl) (m_laws_szDatabase_ok _ _ _ h_2) rfl rfl rfl ?_)
  refine Tp rfl rfl (pur_assign rfl) rfl ?_
  refine TO_nil ?_
  refine te [(1, (.b 0 0)), (3, (intA r_1))] rfl ?_
  refine T_seq ?_
  refine sr ?_
  refine Tp rfl rfl (pur_move rfl) rfl ?_
  refine Tp rfl rfl (pur_lss rfl rfl rfl) rfl ?_
  refine TO_nil ?_
  refine te [(1, (.b 0 0)), (15, (boolA (decide (r_1 < 0))))] rfl ?_
  refine T_cond (t := decide (r_1 < 0)) rfl (fun c_3 => ?_) (fun c_3 => ?_)
  ·replace H := cond_t c_3 H
   refine sr ?_
   refine Tp rfl rfl (pur_assign rfl) rfl ?_
   refine TO_nil ?_
   refine te [(2, (boolA true))] rfl ?_
   refine T_ret ?_
   refine then_ret ?_
   obtain rfl := some_inj H
   refine end_ret (.tmp .nil) rfl rfl ⟨?_, rfl⟩
   rfl
  ·replace H := cond_f c_3 H
   refine T_skip ?_
   refine te [(1, (.b 0 0))] rfl ?_
   refine sr ?_
   refine Tp rfl rfl (pur_ldK_b agg42 rfl rfl (lb rfl) rfl) rfl ?_
   obtain ⟨r_4, h_5, H⟩ := bind_inv H
   refine TO_cons rfl (TOp_callV (call_static ent27 rfl) (m_laws_toDatabase_ok _ _ h_5) rfl rfl rfl ?_)
   obtain ⟨r_6, h_7, H⟩ := bind_inv H
   refine TO_cons rfl (TOp_callV (call_static ent26 rfl) (m_spec_LargestConflicts_ok u _ _ h_7) rfl rfl rfl ?_)
   refine Tp rfl rfl (pur_assign rfl) rfl ?_
   refine TO_nil ?_
   refine te [(1, (.b 0 0)), (4, (sl tInt r_6))] rfl ?_
   refine sr ?_
   refine Tp rfl rfl (pur_ldK_b agg42 rfl rfl (lb rfl) rfl) rfl ?_
   obtain ⟨r_8, h_9, H⟩ := bind_inv H
   refine TO_cons rfl (TOp_callO (call_static ent27 rfl) rfl (m_laws_toDatabase_own _ _ h_9) rfl rfl rfl ?_)
   refine toe [(1, (.b 0 0)), (4, (sl tInt r_6)), (19, (.g (tDatabase.enc aDb0))), (20, (.g [(.m [1] 0 r_8.relations.length tRelation.k), (.m [2] 0 r_8.facts.length tFact.k)]))] rfl ?_
   refine TO_st (σ' := [.box [(sl tRelation aDb0.relations), (sl tFact aDb0.facts)], .row (flat tRelation.own r_8.relations), .row (flat tFact.own r_8.facts)]) rfl ?_
   refine TO_cons rfl (TOp_alloc zero48 rfl rfl ?_)
   refine TO_cons rfl (TOp_storeB sz48 rfl rfl rfl rfl rfl rfl rfl (by decide) (lb rfl) rfl ?_)
   refine TO_st (σ' := [.box [(sl tRelation aDb0.relations), (sl tFact aDb0.facts)], .row (flat tRelation.own r_8.relations), .row (flat tFact.own r_8.facts), .box [(.m [1] 0 r_8.relations.length tRelation.k), (.m [2] 0 r_8.facts.length tFact.k)]]) rfl ?_
   refine TO_nil ?_
   refine te [(1, (.b 0 0)), (4, (sl tInt r_6)), (5, (.b 3 0))] rfl ?_
   refine sr ?_
   refine Tp rfl rfl (pur_ldK_b agg48 rfl rfl (lb rfl) rfl) rfl ?_
   obtain ⟨r_10, h_11, H⟩ := bind_inv H
   refine TO_cons rfl (TOp_callOG (call_static ent28 rfl) (frz_cons (frzOK_g (frz_cons (frzT (T := tRelation) rfl) (frz_cons (frzT (T := tFact) rfl) frz_nil)).1 (frz_cons (frzT (T := tRelation) rfl) (frz_cons (frzT (T := tFact) rfl) frz_nil)).2) frz_nil).1 (frz_cons (frzOK_g (frz_cons (frzT (T := tRelation) rfl) (frz_cons (frzT (T := tFact) rfl) frz_nil)).1 (frz_cons (frzT (T := tRelation) rfl) (frz_cons (frzT (T := tFact) rfl) frz_nil)).2) frz_nil).2 (m_impl_LargestConflicts_own _ _ h_11) rfl (ownC_of (ownSB_cons (flat_ownR tInt _) ownSB_nil)) rfl rfl rfl ?_)
   refine toe [(1, (.b 0 0)), (4, (sl tInt r_6)), (5, (.b 3 0)), (21, (.g [(.m [1] 0 r_8.relations.length tRelation.k), (.m [2] 0 r_8.facts.length tFact.k)])), (22, (.m [4] 0 r_10.length tInt.k))] rfl ?_
   refine TO_st (σ' := [.box [(sl tRelation aDb0.relations), (sl tFact aDb0.facts)], .row (flat tRelation.own r_8.relations), .row (flat tFact.own r_8.facts), .box [(.m [1] 0 r_8.relations.length tRelation.k), (.m [2] 0 r_8.facts.length tFact.k)], .row (flat tInt.own r_10)]) rfl ?_
   refine Tp rfl rfl (pur_assign rfl) rfl ?_
   refine TO_nil ?_
   refine te [(1, (.b 0 0)), (4, (sl tInt r_6)), (5, (.b 3 0)), (6, (.m [4] 0 r_10.length tInt.k))] rfl ?_
   refine T_seq ?_
   refine sr ?_
   refine Tp rfl rfl (pur_move rfl) rfl ?_
   refine Tp rfl rfl (pur_move rfl) rfl ?_
   obtain ⟨r_12, h_13, H⟩ := bind_inv H
   refine TO_cons rfl (TOp_callB (call_static ent21 rfl) (frz_cons (frzT (T := tInt) rfl) (frz_cons (frz_loose rfl) frz_nil)).1 (frz_cons (frzT (T := tInt) rfl) (frz_cons (frz_loose rfl) frz_nil)).2 (m_laws_eqIntS_ok _ _ _ h_13) rfl ?_)
   refine Tp rfl rfl (pur_not rfl rfl) rfl ?_
   refine TO_nil ?_
   refine te [(1, (.b 0 0)), (4, (sl tInt r_6)), (5, (.b 3 0)), (6, (.m [4] 0 r_10.length tInt.k)), (26, (boolA (!r_12)))] rfl ?_
   refine T_cond (t := (!r_12)) rfl (fun c_14 => ?_) (fun c_14 => ?_)
   ·replace H := cond_t c_14 H
    refine sr ?_
    refine Tp rfl rfl (pur_assign rfl) rfl ?_
    refine TO_nil ?_
    refine te [(2, (boolA false))] rfl ?_
    refine T_ret ?_
    refine then_ret ?_
    obtain rfl := some_inj H
    refine end_ret (.tmp .nil) rfl rfl ⟨?_, rfl⟩
    rfl
   ·replace H := cond_f c_14 H
    refine T_skip ?_
    refine te [(1, (.b 0 0)), (4, (sl tInt r_6)), (5, (.b 3 0)), (6, (.m [4] 0 r_10.length tInt.k))] rfl ?_
    refine T_seq ?_
    obtain ⟨r_15, h_16, H⟩ := bind_inv H
    obtain ⟨r_17, h_18, H⟩ := bind_inv H
    refine T_cutX (fun (_ : Unit) => True) (fun _ => [(1, (.b 0 0)), (4, (sl tInt r_6)), (5, (.b 3 0)), (6, (.m [4] 0 r_10.length tInt.k)), (31, (boolA (!r_17)))]) (fun _ => [.box [(sl tRelation aDb0.relations), (sl tFact aDb0.facts)], .row (flat tRelation.own r_8.relations), .row (flat tFact.own r_8.facts), .box [(.m [1] 0 r_8.relations.length tRelation.k), (.m [2] 0 r_8.facts.length tFact.k)], .row (flat tInt.own r_10)]) ?_ ?_
    ·skip
     refine T_regionP mixed ?_
     refine TA_have 2 #[true, true, true, false, false] [(1, (.b 0 0)), (4, (sl tInt r_6)), (5, (.b 3 0)), (6, (.m [4] 0 r_10.length tInt.k)), (27, (.g [(.m [1] 0 r_8.relations.length tRelation.k), (.m [2] 0 r_8.facts.length tFact.k)])), (29, (.g (tDatabase.enc r_15)))] [.box [(sl tRelation aDb0.relations), (sl tFact aDb0.facts)], .row (flat tRelation.own r_8.relations), .row (flat tFact.own r_8.facts), .box [(.m [1] 0 r_8.relations.length tRelation.k), (.m [2] 0 r_8.facts.length tFact.k)], .row (flat tInt.own r_10)] ?_ (fun hj0_10 => ?_)
     ·skip
      refine t1 3 (by kernel_rfl) rfl rfl (TOp_callB (call_static ent29 rfl) (frz_cons (frzOK_g (frz_cons (frzT (T := tRelation) rfl) (frz_cons (frzT (T := tFact) rfl) frz_nil)).1 (frz_cons (frzT (T := tRelation) rfl) (frz_cons (frzT (T := tFact) rfl) frz_nil)).2) (frz_cons (frz_loose rfl) frz_nil)).1 (frz_cons (frzOK_g (frz_cons (frzT (T := tRelation) rfl) (frz_cons (frzT (T := tFact) rfl) frz_nil)).1 (frz_cons (frzT (T := tRelation) rfl) (frz_cons (frzT (T := tFact) rfl) frz_nil)).2) (frz_cons (frz_loose rfl) frz_nil)).2 (m_laws_eqDatabase_ok _ _ _ h_18) rfl ?_)
      refine tf 4 rfl (purI_not rfl rfl) rfl rfl (by kernel_rfl) ?_
      exact TA_nil (by kernel_rfl) (joined () (wp 5 (lb rfl) rfl rfl rfl rfl rfl) trivial)
     refine TA_have 3 #[true, true, false, false, false] [(1, (.b 0 0)), (4, (sl tInt r_6)), (5, (.b 3 0)), (6, (.m [4] 0 r_10.length tInt.k)), (27, (.g [(.m [1] 0 r_8.relations.length tRelation.k), (.m [2] 0 r_8.facts.length tFact.k)])), (28, (.g (tDatabase.enc aDb0)))] [.box [(sl tRelation aDb0.relations), (sl tFact aDb0.facts)], .row (flat tRelation.own r_8.relations), .row (flat tFact.own r_8.facts), .box [(.m [1] 0 r_8.relations.length tRelation.k), (.m [2] 0 r_8.facts.length tFact.k)], .row (flat tInt.own r_10)] ?_ (fun hj1_10 => ?_)
     ·skip
      refine t1 2 (by kernel_rfl) rfl rfl (TOp_callV (call_static ent27 rfl) (m_laws_toDatabase_ok _ _ h_16) rfl rfl rfl ?_)
      exact tj hj0_10 rfl (wp 5 (lb rfl) rfl rfl rfl rfl rfl)
     refine TA_all [0, 1] (by kernel_rfl) (by decide) ⟨?_, ?_, trivial⟩
     ·skip
      refine ⟨_, rfl, rfl, (TOp_pure (pur_ldK_b agg48 rfl rfl (lb rfl) rfl) rfl ?_)⟩
      refine t1 1 (by kernel_rfl) rfl rfl (TOp_pure (pur_ldK_b agg42 rfl rfl (lb rfl) rfl) rfl ?_)
      exact tj hj1_10 rfl (wp 5 (lb rfl) rfl rfl rfl rfl rfl)
     ·skip
      refine ⟨_, rfl, rfl, (TOp_pure (pur_ldK_b agg42 rfl rfl (lb rfl) rfl) rfl ?_)⟩
      refine TA_all [0, 2] (by kernel_rfl) (by decide) ⟨?_, ?_, trivial⟩
      ·skip
       refine ⟨_, rfl, rfl, (TOp_pure (pur_ldK_b agg48 rfl rfl (lb rfl) rfl) rfl ?_)⟩
       exact tj hj1_10 rfl (wp 5 (lb rfl) rfl rfl rfl rfl rfl)
      ·skip
       refine ⟨_, rfl, rfl, (TOp_callV (call_static ent27 rfl) (m_laws_toDatabase_ok _ _ h_16) rfl rfl rfl ?_)⟩
       refine t1 0 (by kernel_rfl) rfl rfl (TOp_pure (pur_ldK_b agg48 rfl rfl (lb rfl) rfl) rfl ?_)
       exact tj hj0_10 rfl (wp 5 (lb rfl) rfl rfl rfl rfl rfl)
    ·rintro _ _
     refine te [(1, (.b 0 0)), (4, (sl tInt r_6)), (5, (.b 3 0)), (6, (.m [4] 0 r_10.length tInt.k)), (31, (boolA (!r_17)))] rfl ?_
     refine T_cond (t := (!r_17)) rfl (fun c_19 => ?_) (fun c_19 => ?_)
     ·replace H := cond_t c_19 H
      refine sr ?_
      refine Tp rfl rfl (pur_assign rfl) rfl ?_
      refine TO_nil ?_
      refine te [(2, (boolA false))] rfl ?_
      refine T_ret ?_
      refine then_ret ?_
      obtain rfl := some_inj H
      refine end_ret (.tmp .nil) rfl rfl ⟨?_, rfl⟩
      rfl
     ·replace H := cond_f c_19 H
      refine T_skip ?_
      refine te [(1, (.b 0 0)), (4, (sl tInt r_6)), (5, (.b 3 0)), (6, (.m [4] 0 r_10.length tInt.k))] rfl ?_
      refine sr ?_
      refine Tp rfl rfl (pur_assign rfl) rfl ?_
      refine TO_nil ?_
      refine te [(1, (.b 0 0)), (4, (sl tInt r_6)), (5, (.b 3 0)), (6, (.m [4] 0 r_10.length tInt.k)), (7, (intA 1))] rfl ?_
      refine sr ?_
      refine Tp rfl rfl (pur_ldK_b agg48 rfl rfl (lb rfl) rfl) rfl ?_
      refine Tp rfl rfl (pur_move rfl) rfl ?_
      obtain ⟨r_20, h_21, H⟩ := bind_inv H
      refine TO_cons rfl (TOp_callG (aa := [(.g [(.m [1] 0 r_8.relations.length tRelation.k), (.m [2] 0 r_8.facts.length tFact.k)]), (intA 1)]) [[1], [2]] (call_static ent30 rfl) rfl (.cons rfl rfl (by decide) (.cons rfl rfl (by decide) .nil)) rfl rfl (m_laws_markDatabase_mut u _ _ _ h_21) rfl (fun hl_22 => ?_))
      obtain ⟨hq_23, hl_22⟩ := sameLens_T (T := tRelation) hl_22
      refine TO_env (E' := [(1, (.b 0 0)), (4, (sl tInt r_6)), (5, (.b 3 0)), (6, (.m [4] 0 r_10.length tInt.k)), (7, (intA 1)), (32, (.g [(.m [1] 0 r_20.2.relations.length tRelation.k), (.m [2] 0 r_8.facts.length tFact.k)])), (33, (intA 1)), (34, (intA r_20.1))]) ⟨rfl, rfl, rfl, rfl, rfl, (by simp only [hq_23]; rfl), rfl, rfl, trivial⟩ ?_
      obtain ⟨hq_24, hl_22⟩ := sameLens_T (T := tFact) hl_22
      refine TO_env (E' := [(1, (.b 0 0)), (4, (sl tInt r_6)), (5, (.b 3 0)), (6, (.m [4] 0 r_10.length tInt.k)), (7, (intA 1)), (32, (.g [(.m [1] 0 r_20.2.relations.length tRelation.k), (.m [2] 0 r_20.2.facts.length tFact.k)])), (33, (intA 1)), (34, (intA r_20.1))]) ⟨rfl, rfl, rfl, rfl, rfl, (by simp only [hq_24]; rfl), rfl, rfl, trivial⟩ ?_
      refine TO_st (σ' := [.box [(sl tRelation aDb0.relations), (sl tFact aDb0.facts)], .row (flat tRelation.own r_20.2.relations), .row (flat tFact.own r_20.2.facts), .box [(.m [1] 0 r_8.relations.length tRelation.k), (.m [2] 0 r_8.facts.length tFact.k)], .row (flat tInt.own r_10)]) rfl ?_
      refine TO_st (σ' := [.box [(sl tRelation aDb0.relations), (sl tFact aDb0.facts)], .row (flat tRelation.own r_20.2.relations), .row (flat tFact.own r_20.2.facts), .box [(.m [1] 0 r_20.2.relations.length tRelation.k), (.m [2] 0 r_8.facts.length tFact.k)], .row (flat tInt.own r_10)]) (by simp only [hq_23]) ?_
      refine TO_st (σ' := [.box [(sl tRelation aDb0.relations), (sl tFact aDb0.facts)], .row (flat tRelation.own r_20.2.relations), .row (flat tFact.own r_20.2.facts), .box [(.m [1] 0 r_20.2.relations.length tRelation.k), (.m [2] 0 r_20.2.facts.length tFact.k)], .row (flat tInt.own r_10)]) (by simp only [hq_24]) ?_
      refine Tp rfl rfl (pur_assign rfl) rfl ?_
      refine TO_nil ?_
      refine te [(1, (.b 0 0)), (4, (sl tInt r_6)), (6, (.m [4] 0 r_10.length tInt.k)), (7, (intA r_20.1))] rfl ?_
      refine T_seq ?_
      obtain ⟨t42_25, J_25, H_26⟩ := bind_inv H
      refine T_cutX (fun x => t42_25 = x) (fun (t42_25 : Bool) => [(1, (.b 0 0)), (4, (sl tInt r_6)), (6, (.m [4] 0 r_10.length tInt.k)), (42, (boolA t42_25))]) (fun (t42_25 : Bool) => [.box [(sl tRelation aDb0.relations), (sl tFact aDb0.facts)], .row (flat tRelation.own r_20.2.relations), .row (flat tFact.own r_20.2.facts), .box [(.m [1] 0 r_20.2.relations.length tRelation.k), (.m [2] 0 r_20.2.facts.length tFact.k)], .row (flat tInt.own r_10)]) ?_ ?_
      ·replace H := J_25
       refine T_region ?_
       refine Tp rfl rfl (pur_move rfl) rfl ?_
       refine Tp rfl rfl (pur_lss rfl rfl rfl) rfl ?_
       refine Tp rfl rfl (pur_move rfl) rfl ?_
       refine TO_split (t := decide (r_20.1 < 0)) 37 rfl (fun g_27 => ?_) (fun g_27 => ?_)
       ·replace H := cond_t g_27 H
        refine TO_off rfl rfl (by decide) rfl rfl rfl ?_
        refine TO_off rfl rfl (by decide) rfl rfl rfl ?_
        refine TO_off rfl rfl (by decide) rfl rfl rfl ?_
        refine TO_off rfl rfl (by decide) rfl rfl rfl ?_
        refine Tp rfl rfl (pur_pick (t := true) rfl rfl rfl) rfl ?_
        refine TO_nil ?_
        exact joined true (wp 5 (lb rfl) rfl rfl rfl rfl rfl) (some_inj H).symm
       ·replace H := cond_f g_27 H
        refine TO_on rfl rfl (by decide) rfl rfl (TOp_pure (pur_move rfl) rfl ?_)
        refine TO_on rfl rfl (by decide) rfl rfl (TOp_pure (pur_move rfl) rfl ?_)
        obtain ⟨r_28, h_29, H⟩ := bind_inv H
        refine TO_on rfl rfl (by decide) rfl rfl (TOp_callB (call_static ent21 rfl) (frz_cons (frzT (T := tInt) rfl) (frz_cons (frz_loose rfl) frz_nil)).1 (frz_cons (frzT (T := tInt) rfl) (frz_cons (frz_loose rfl) frz_nil)).2 (m_laws_eqIntS_ok _ _ _ h_29) rfl ?_)
        refine TO_on rfl rfl (by decide) rfl rfl (TOp_pure (pur_not rfl rfl) rfl ?_)
        refine Tp rfl rfl (pur_pick (t := false) rfl rfl rfl) rfl ?_
        refine TO_nil ?_
        exact joined (!r_28) (wp 5 (lb rfl) rfl rfl rfl rfl rfl) (some_inj H).symm
      ·rintro _ rfl
       replace H := H_26
       refine te [(1, (.b 0 0)), (4, (sl tInt r_6)), (6, (.m [4] 0 r_10.length tInt.k)), (42, (boolA t42_25))] rfl ?_
       refine T_cond (t := t42_25) rfl (fun c_30 => ?_) (fun c_30 => ?_)
       ·replace H := cond_t c_30 H
        refine sr ?_
        refine Tp rfl rfl (pur_assign rfl) rfl ?_
        refine TO_nil ?_
        refine te [(2, (boolA false))] rfl ?_
        refine T_ret ?_
        refine then_ret ?_
        obtain rfl := some_inj H
        refine end_ret (.tmp .nil) rfl rfl ⟨?_, rfl⟩
        rfl
       ·replace H := cond_f c_30 H
        refine T_skip ?_
        refine te [(1, (.b 0 0)), (4, (sl tInt r_6)), (6, (.m [4] 0 r_10.length tInt.k))] rfl ?_
        refine sr ?_
        refine Tp rfl rfl (pur_assign rfl) rfl ?_
        refine TO_nil ?_
        refine te [(1, (.b 0 0)), (4, (sl tInt r_6)), (6, (.m [4] 0 r_10.length tInt.k)), (8, (intA 1))] rfl ?_
        refine sr ?_
        refine Tp rfl rfl (pur_move rfl) rfl ?_
        refine Tp rfl rfl (pur_move rfl) rfl ?_
        obtain ⟨r_31, h_32, H⟩ := bind_inv H
        refine TO_cons rfl (TOp_callG (aa := [(.m [4] 0 r_10.length tInt.k), (intA 1)]) [[4]] (call_static ent23 rfl) rfl (.cons rfl rfl (by decide) .nil) rfl rfl (m_laws_markIntS_mut _ _ _ h_32) rfl (fun hl_33 => ?_))
        obtain ⟨hq_34, hl_33⟩ := sameLens_T (T := tInt) hl_33
        refine TO_env (E' := [(1, (.b 0 0)), (4, (sl tInt r_6)), (6, (.m [4] 0 r_31.2.length tInt.k)), (8, (intA 1)), (43, (.m [4] 0 r_31.2.length tInt.k)), (44, (intA 1)), (45, (intA r_31.1))]) ⟨rfl, rfl, (congrArg (fun q => A.m [4] 0 q tInt.k) hq_34.symm), rfl, (congrArg (fun q => A.m [4] 0 q tInt.k) hq_34.symm), rfl, rfl, trivial⟩ ?_
        refine TO_st (σ' := [.box [(sl tRelation aDb0.relations), (sl tFact aDb0.facts)], .row (flat tRelation.own r_20.2.relations), .row (flat tFact.own r_20.2.facts), .box [(.m [1] 0 r_20.2.relations.length tRelation.k), (.m [2] 0 r_20.2.facts.length tFact.k)], .row (flat tInt.own r_31.2)]) rfl ?_
        refine Tp rfl rfl (pur_assign rfl) rfl ?_
        refine TO_nil ?_
        refine te [(1, (.b 0 0)), (4, (sl tInt r_6)), (6, (.m [4] 0 r_31.2.length tInt.k)), (8, (intA r_31.1))] rfl ?_
        refine sr ?_
        refine Tp rfl rfl (pur_assign rfl) rfl ?_
        refine TO_nil ?_
        refine te [(1, (.b 0 0)), (4, (sl tInt r_6)), (6, (.m [4] 0 r_31.2.length tInt.k)), (8, (intA r_31.1)), (9, (intA 1))] rfl ?_
        refine sr ?_
        refine Tp rfl rfl (pur_move rfl) rfl ?_
        refine Tp rfl rfl (pur_move rfl) rfl ?_
        obtain ⟨r_35, h_36, H⟩ := bind_inv H
        refine TO_cons rfl (TOp_callB (call_static ent31 rfl) (frz_cons (frzT (T := tInt) rfl) (frz_cons (frz_loose rfl) frz_nil)).1 (frz_cons (frzT (T := tInt) rfl) (frz_cons (frz_loose rfl) frz_nil)).2 (m_laws_heldIntS_ok _ _ _ h_36) rfl ?_)
        refine Tp rfl rfl (pur_assign rfl) rfl ?_
        refine TO_nil ?_
        refine te [(1, (.b 0 0)), (4, (sl tInt r_6)), (6, (.m [4] 0 r_31.2.length tInt.k)), (8, (intA r_31.1)), (9, (intA r_35))] rfl ?_
        refine T_seq ?_
        refine sr ?_
        refine Tp rfl rfl (pur_move rfl) rfl ?_
        refine Tp rfl rfl (pur_lss rfl rfl rfl) rfl ?_
        refine TO_nil ?_
        refine te [(1, (.b 0 0)), (4, (sl tInt r_6)), (6, (.m [4] 0 r_31.2.length tInt.k)), (8, (intA r_31.1)), (9, (intA r_35)), (50, (boolA (decide (r_35 < 0))))] rfl ?_
        refine T_cond (t := decide (r_35 < 0)) rfl (fun c_37 => ?_) (fun c_37 => ?_)
        ·replace H := cond_t c_37 H
         refine sr ?_
         refine Tp rfl rfl (pur_assign rfl) rfl ?_
         refine TO_nil ?_
         refine te [(2, (boolA false))] rfl ?_
         refine T_ret ?_
         refine then_ret ?_
         obtain rfl := some_inj H
         refine end_ret (.tmp .nil) rfl rfl ⟨?_, rfl⟩
         rfl
        ·replace H := cond_f c_37 H
         refine T_skip ?_
         refine te [(1, (.b 0 0)), (4, (sl tInt r_6)), (6, (.m [4] 0 r_31.2.length tInt.k)), (8, (intA r_31.1)), (9, (intA r_35))] rfl ?_
         refine T_seq ?_
         refine sr ?_
         refine Tp rfl rfl (pur_move rfl) rfl ?_
         refine Tp rfl rfl (pur_move rfl) rfl ?_
         refine Tp rfl rfl (pur_neq rfl rfl rfl) rfl ?_
         refine TO_nil ?_
         refine te [(1, (.b 0 0)), (4, (sl tInt r_6)), (6, (.m [4] 0 r_31.2.length tInt.k)), (8, (intA r_31.1)), (53, (boolA (decide (r_35 ≠ r_31.1))))] rfl ?_
         refine T_cond (t := decide (r_35 ≠ r_31.1)) rfl (fun c_38 => ?_) (fun c_38 => ?_)
         ·replace H := cond_t c_38 H
          refine sr ?_
          refine Tp rfl rfl (pur_assign rfl) rfl ?_
          refine TO_nil ?_
          refine te [(2, (boolA false))] rfl ?_
          refine T_ret ?_
          refine then_ret ?_
          obtain rfl := some_inj H
          refine end_ret (.tmp .nil) rfl rfl ⟨?_, rfl⟩
          rfl
         ·replace H := cond_f c_38 H
          refine T_skip ?_
          refine te [(1, (.b 0 0)), (4, (sl tInt r_6)), (6, (.m [4] 0 r_31.2.length tInt.k)), (8, (intA r_31.1))] rfl ?_
          refine sr ?_
          refine Tp rfl rfl (pur_ldK_b agg42 rfl rfl (lb rfl) rfl) rfl ?_
          obtain ⟨r_39, h_40, H⟩ := bind_inv H
          refine TO_cons rfl (TOp_callV (call_static ent27 rfl) (m_laws_toDatabase_ok _ _ h_40) rfl rfl rfl ?_)
          obtain ⟨r_41, h_42, H⟩ := bind_inv H
          refine TO_cons rfl (TOp_callV (call_static ent28 rfl) (m_impl_LargestConflicts_ok _ _ h_42) rfl rfl rfl ?_)
          refine Tp rfl rfl (pur_assign rfl) rfl ?_
          refine TO_nil ?_
          refine te [(4, (sl tInt r_6)), (6, (.m [4] 0 r_31.2.length tInt.k)), (8, (intA r_31.1)), (10, (sl tInt r_41))] rfl ?_
          refine T_seq ?_
          refine sr ?_
          refine Tp rfl rfl (pur_move rfl) rfl ?_
          refine Tp rfl rfl (pur_move rfl) rfl ?_
          obtain ⟨r_43, h_44, H⟩ := bind_inv H
          refine TO_cons rfl (TOp_callV (call_static ent21 rfl) (m_laws_eqIntS_ok _ _ _ h_44) rfl rfl rfl ?_)
          refine Tp rfl rfl (pur_not rfl rfl) rfl ?_
          refine TO_nil ?_
          refine te [(6, (.m [4] 0 r_31.2.length tInt.k)), (8, (intA r_31.1)), (60, (boolA (!r_43)))] rfl ?_
          refine T_cond (t := (!r_43)) rfl (fun c_45 => ?_) (fun c_45 => ?_)
          ·replace H := cond_t c_45 H
           refine sr ?_
           refine Tp rfl rfl (pur_assign rfl) rfl ?_
           refine TO_nil ?_
           refine te [(2, (boolA false))] rfl ?_
           refine T_ret ?_
           refine then_ret ?_
           obtain rfl := some_inj H
           refine end_ret (.tmp .nil) rfl rfl ⟨?_, rfl⟩
           rfl
          ·replace H := cond_f c_45 H
           refine T_skip ?_
           refine te [(6, (.m [4] 0 r_31.2.length tInt.k)), (8, (intA r_31.1))] rfl ?_
           refine sr ?_
           refine Tp rfl rfl (pur_assign rfl) rfl ?_
           refine TO_nil ?_
           refine te [(6, (.m [4] 0 r_31.2.length tInt.k)), (8, (intA r_31.1)), (9, (intA 1))] rfl ?_
           refine sr ?_
           refine Tp rfl rfl (pur_move rfl) rfl ?_
           refine Tp rfl rfl (pur_move rfl) rfl ?_
           obtain ⟨r_46, h_47, H⟩ := bind_inv H
           refine TO_cons rfl (TOp_callB (call_static ent31 rfl) (frz_cons (frzT (T := tInt) rfl) (frz_cons (frz_loose rfl) frz_nil)).1 (frz_cons (frzT (T := tInt) rfl) (frz_cons (frz_loose rfl) frz_nil)).2 (m_laws_heldIntS_ok _ _ _ h_47) rfl ?_)
           refine Tp rfl rfl (pur_assign rfl) rfl ?_
           refine TO_nil ?_
           refine te [(8, (intA r_31.1)), (9, (intA r_46))] rfl ?_
           refine T_seq ?_
           refine sr ?_
           refine Tp rfl rfl (pur_move rfl) rfl ?_
           refine Tp rfl rfl (pur_lss rfl rfl rfl) rfl ?_
           refine TO_nil ?_
           refine te [(8, (intA r_31.1)), (9, (intA r_46)), (65, (boolA (decide (r_46 < 0))))] rfl ?_
           refine T_cond (t := decide (r_46 < 0)) rfl (fun c_48 => ?_) (fun c_48 => ?_)
           ·replace H := cond_t c_48 H
            refine sr ?_
            refine Tp rfl rfl (pur_assign rfl) rfl ?_
            refine TO_nil ?_
            refine te [(2, (boolA false))] rfl ?_
            refine T_ret ?_
            refine then_ret ?_
            obtain rfl := some_inj H
            refine end_ret (.tmp .nil) rfl rfl ⟨?_, rfl⟩
            rfl
           ·replace H := cond_f c_48 H
            refine T_skip ?_
            refine te [(8, (intA r_31.1)), (9, (intA r_46))] rfl ?_
            refine T_seq ?_
            refine sr ?_
            refine Tp rfl rfl (pur_move rfl) rfl ?_
            refine Tp rfl rfl (pur_move rfl) rfl ?_
            refine Tp rfl rfl (pur_neq rfl rfl rfl) rfl ?_
            refine TO_nil ?_
            refine te [(68, (boolA (decide (r_46 ≠ r_31.1))))] rfl ?_
            refine T_cond (t := decide (r_46 ≠ r_31.1)) rfl (fun c_49 => ?_) (fun c_49 => ?_)
            ·replace H := cond_t c_49 H
             refine sr ?_
             refine Tp rfl rfl (pur_assign rfl) rfl ?_
             refine TO_nil ?_
             refine te [(2, (boolA false))] rfl ?_
             refine T_ret ?_
             refine then_ret ?_
             obtain rfl := some_inj H
             refine end_ret (.tmp .nil) rfl rfl ⟨?_, rfl⟩
             rfl
            ·replace H := cond_f c_49 H
             refine T_skip ?_
             refine te [] rfl ?_
             refine sr ?_
             refine Tp rfl rfl (pur_assign rfl) rfl ?_
             refine TO_nil ?_
             refine te [(2, (boolA true))] rfl ?_
             refine T_ret ?_
             obtain rfl := some_inj H
             refine end_ret (.tmp .nil) rfl rfl ⟨?_, rfl⟩
             rfl
end Go.Proofs.Ytjdpolnakhmkmaa

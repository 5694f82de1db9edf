import Derived.Test.YtaadmoaanhdboaaDoorM1
set_option linter.unusedVariables false
set_option linter.unusedSimpArgs false
set_option maxRecDepth 4000
namespace Go.Proofs.YtaadmoaanhdboaaDoor
open Go Go.Proofs Go.Sep
set_option maxHeartbeats 1000000 in
theorem m_laws_szIntS_ok (a0 : (List Int)) (left1 : Int) (r : Int) (H : m_laws_szIntS a0 left1 = some r) : FnV prg 30 [(sl tInt a0), (intA left1)] (intA r) := by
  unfold m_laws_szIntS at H
  refine fnV_of_T Tryd.func30 rfl rfl (Nat.le_of_ble_eq_true rfl) ?_
  refine te [(0, (sl tInt a0)), (1, (intA left1))] rfl ?_
  refine sr ?_
  refine pv tb 1 rfl ?_
  refine TO_nil ?_
  refine sr ?_
  refine pv tb 2 rfl ?_
  refine Tp rfl rfl (pur_lenT (T := tInt) sl38 rfl rfl) rfl ?_
  refine pv tb 2 rfl ?_
  refine TO_nil ?_
  refine T_seq ?_
  refine sr ?_
  refine pv tb 2 rfl ?_
  refine TO_nil ?_
  refine T_cond (t := decide ((w64 (left1 - (a0.length : Int))) < 0)) rfl (fun c_1 => ?_) (fun c_1 => ?_)
  ·replace H := cond_t c_1 H
   refine sr ?_
   refine pv tb 1 rfl ?_
   refine TO_nil ?_
   refine T_ret ?_
   refine then_ret ?_
   obtain rfl := some_inj H
   refine end_ret (.tmp .nil) rfl rfl ⟨?_, rfl⟩
   rfl
  ·replace H := cond_f c_1 H
   refine T_skip ?_
   refine sr ?_
   refine pv tb 2 rfl ?_
   refine TO_nil ?_
   refine T_ret ?_
   obtain rfl := some_inj H
   refine end_ret (.tmp .nil) rfl rfl ⟨?_, rfl⟩
   rfl

set_option maxHeartbeats 1000000 in
theorem m_laws_szIntSS_ok (a0 : (List (List Int))) (left1 : Int) (r : Int) (H : m_laws_szIntSS a0 left1 = some r) : FnV prg 10 [(sl (tSl tInt) a0), (intA left1)] (intA r) := by
  unfold m_laws_szIntSS at H
  refine fnV_of_T Tryd.func10 rfl rfl (Nat.le_of_ble_eq_true rfl) ?_
  refine te [(0, (sl (tSl tInt) a0)), (1, (intA left1))] rfl ?_
  refine sr ?_
  refine pv tb 1 rfl ?_
  refine TO_nil ?_
  refine sr ?_
  refine pv tb 2 rfl ?_
  refine Tp rfl rfl (pur_lenT (T := (tSl tInt)) sl28 rfl rfl) rfl ?_
  refine pv tb 2 rfl ?_
  refine TO_nil ?_
  refine T_seq ?_
  refine sr ?_
  refine pv tb 2 rfl ?_
  refine TO_nil ?_
  refine T_cond (t := decide ((w64 (left1 - (a0.length : Int))) < 0)) rfl (fun c_1 => ?_) (fun c_1 => ?_)
  ·replace H := cond_t c_1 H
   refine sr ?_
   refine pv tb 1 rfl ?_
   refine TO_nil ?_
   refine T_ret ?_
   refine then_ret ?_
   obtain rfl := some_inj H
   refine end_ret (.tmp .nil) rfl rfl ⟨?_, rfl⟩
   rfl
  ·replace H := cond_f c_1 H
   refine T_skip ?_
   refine T_seq ?_
   refine sr ?_
   refine pv tb 1 rfl ?_
   refine TO_nil ?_
   obtain ⟨O3_, L3_, N3_⟩ := bind_inv H
   clear H
   obtain ⟨B3_, hb3, L3_⟩ := gen_forL L3_
   refine T_block ?_
   refine T_loopX (fun k => fun (⟨i_2, left1⟩ : Nat × Int) => k = a0.length - i_2 ∧ forL B3_ (a0.drop i_2) (i_2 : Int) left1 = some O3_) (fun (⟨i_2, left1⟩ : Nat × Int) => [(0, (sl (tSl tInt) a0)), (1, (intA left1)), (5, (intA (i_2 : Int)))]) (fun (⟨i_2, left1⟩ : Nat × Int) => []) _ (0, (w64 (left1 - (a0.length : Int)))) (w0 0) ⟨rfl, L3_⟩ ?_
   rintro _ ⟨i_2, left1⟩ ⟨rfl, L3_⟩
   refine T_fact (len_sl (T := (tSl tInt)) (.tmp 0) rfl) (fun hl3 => ?_)
   refine T_seq ?_
   refine sr ?_
   refine pv tb 2 rfl ?_
   refine Tp rfl rfl (pur_lenT (T := (tSl tInt)) sl28 rfl rfl) rfl ?_
   refine pv tb 1 rfl ?_
   refine TO_nil ?_
   refine T_cond (t := decide ((i_2 : Int) < (a0.length : Int))) rfl (fun d3 => ?_) (fun d3 => ?_)
   ·replace d3 := of_decide_eq_true d3
    obtain ⟨x_i_2, hx_i_2⟩ : ∃ v, (a0)[i_2]? = some v := ⟨_, List.getElem?_eq_getElem (by omega)⟩
    obtain ⟨C3_, H, K3_⟩ := forL_step L3_ hx_i_2
    rw [hb3] at H
    refine T_skip ?_
    refine T_seq ?_
    refine T_block ?_
    refine sr ?_
    refine pv tb 2 rfl ?_
    refine Tp rfl rfl (pur_ixT (T := (tSl tInt)) sl28 rfl rfl rfl hx_i_2 rfl) rfl ?_
    refine Tp rfl rfl (pur_ldT (T := (tSl tInt)) (i := i_2) (off := 0) rfl one38 rfl rfl hx_i_2 rfl) rfl ?_
    obtain ⟨r_4, h_5, H⟩ := bind_inv H
    refine pv tb 1 rfl ?_
    refine TO_cons rfl (TOp_callV (call_static ent30 rfl) (m_laws_szIntS_ok _ _ _ h_5) rfl rfl rfl ?_)
    refine pv tb 1 rfl ?_
    refine TO_nil ?_
    refine sr ?_
    refine pv tb 2 rfl ?_
    refine TO_nil ?_
    refine T_cond (t := decide (r_4 < 0)) rfl (fun c_6 => ?_) (fun c_6 => ?_)
    ·replace H := cond_t c_6 H
     refine sr ?_
     refine pv tb 1 rfl ?_
     refine TO_nil ?_
     refine te [(4, (intA (-1)))] rfl ?_
     refine T_ret ?_
     refine block_ret ?_
     refine then_ret ?_
     refine then_ret ?_
     refine block_ret ?_
     refine then_ret ?_
     obtain rfl := some_inj H
     obtain rfl := some_inj K3_
     replace H := onS_r N3_
     obtain rfl := some_inj H
     refine end_ret (.tmp .nil) rfl rfl ⟨?_, rfl⟩
     rfl
    ·replace H := cond_f c_6 H
     refine T_skip ?_
     refine T_region ?_
     refine pv tb 1 rfl ?_
     refine Tp rfl rfl (pur_add rfl rfl rfl (fits64 (by omega) (by omega))) rfl ?_
     refine pv tb 1 rfl ?_
     refine TO_nil ?_
     obtain rfl := some_inj H
     exact again (a0.length - (i_2 + 1)) (i_2 + 1, r_4) (by omega) (w0 0) ⟨rfl, K3_⟩
   ·replace d3 := of_decide_eq_false d3
    obtain rfl := forL_end L3_ (by omega)
    refine T_exit ?_
    refine then_exit ?_
    refine then_exit ?_
    refine block_exit ?_
    replace H := onS_l N3_
    refine sr ?_
    refine pv tb 2 rfl ?_
    refine TO_nil ?_
    refine T_ret ?_
    obtain rfl := some_inj H
    refine end_ret (.tmp .nil) rfl rfl ⟨?_, rfl⟩
    rfl

set_option maxHeartbeats 1000000 in
theorem m_spec_FormatInt_ok (u : Nat) (n0 : Int) (r : ByteArray) (H : m_spec_FormatInt u n0 = some r) : FnV prg 28 [(intA n0)] (strA r) := by
  unfold m_spec_FormatInt at H
  refine fnV_of_T Tryd.func28 rfl rfl (Nat.le_of_ble_eq_true rfl) ?_
  refine te [(0, (intA n0))] rfl ?_
  refine sr ?_
  refine pv tb 1 rfl ?_
  refine TO_nil ?_
  refine T_seq ?_
  refine sr ?_
  refine pv tb 2 rfl ?_
  refine TO_nil ?_
  refine T_cond (t := decide (n0 = 0)) rfl (fun c_1 => ?_) (fun c_1 => ?_)
  ·replace H := cond_t c_1 H
   refine sr ?_
   refine pv tb 1 rfl ?_
   refine TO_nil ?_
   refine T_ret ?_
   refine then_ret ?_
   obtain rfl := some_inj H
   refine end_ret (.tmp .nil) rfl rfl ⟨?_, rfl⟩
   rfl
  ·replace H := cond_f c_1 H
   refine T_skip ?_
   refine sr ?_
   refine pv tb 1 rfl ?_
   refine TO_nil ?_
   refine sr ?_
   refine pv tb 3 rfl ?_
   refine TO_nil ?_
   obtain ⟨O2_, L2_, N2_⟩ := bind_inv H
   clear H
   obtain ⟨B2_, hb2, L2_⟩ := gen_whileF L2_
   refine T_cutX (fun (x : Int × ByteArray) => O2_ = .inl x) (fun (⟨n0z, out3⟩ : Int × ByteArray) => [(3, (strA out3)), (4, (boolA (decide (n0 < 0))))]) (fun (⟨n0z, out3⟩ : Int × ByteArray) => []) ?_ ?_
   ·skip
    refine T_block ?_
    refine T_loopX (fun k => fun (⟨n0z, out3⟩ : Int × ByteArray) => whileF B2_ k (n0z, out3) = some O2_) (fun (⟨n0z, out3⟩ : Int × ByteArray) => [(0, (intA n0z)), (3, (strA out3)), (4, (boolA (decide (n0 < 0))))]) (fun (⟨n0z, out3⟩ : Int × ByteArray) => []) u (n0, (⟨#[]⟩ : ByteArray)) (w0 0) L2_ ?_
    rintro _ ⟨n0z, out3⟩ L2_
    obtain ⟨k2, rfl, C2_, H, K2_⟩ := while_step L2_
    rw [hb2] at H
    refine T_seq ?_
    refine sr ?_
    refine pv tb 2 rfl ?_
    refine TO_nil ?_
    refine T_cond (t := decide (n0z ≠ 0)) rfl (fun c_3 => ?_) (fun c_3 => ?_)
    ·replace H := cond_t c_3 H
     refine T_skip ?_
     refine T_block ?_
     refine sr ?_
     refine pv tb 1 rfl ?_
     refine Tp rfl rfl (pur_rem rfl rfl rfl (by decide)) rfl ?_
     refine pv tb 1 rfl ?_
     refine TO_nil ?_
     refine T_seq ?_
     refine sr ?_
     refine pv tb 2 rfl ?_
     refine TO_nil ?_
     refine T_cond (t := decide ((n0z.tmod 10) < 0)) rfl (fun c_4 => ?_) (fun c_4 => ?_)
     ·replace H := cond_t c_4 H
      refine T_region ?_
      refine pv tb 1 rfl ?_
      refine Tp rfl rfl (pur_wneg rfl rfl) rfl ?_
      refine pv tb 1 rfl ?_
      refine TO_nil ?_
      refine sr ?_
      refine pv tb 2 rfl ?_
      refine Tp rfl rfl (pur_convI (k := .u8) (k' := .i64) ⟨_, Tryd.underlying3⟩ Tryd.underlying5 rfl rfl) rfl ?_
      refine TO_cons rfl (TOp_lit (nn := 1) (k := 1) sl85 zero5 rfl rfl rfl rfl (by decide) ?_)
      refine TO_st (σ' := [.row (flat (tI .u8).enc ([(IntKind.wrap .u8 (w64 (48 + (w64 (-(n0z.tmod 10))))))] : (List Int)))]) rfl ?_
      refine Tp rfl rfl (pur_strM (zs := ([(IntKind.wrap .u8 (w64 (48 + (w64 (-(n0z.tmod 10))))))] : (List Int))) Tryd.underlying85 Tryd.underlying5 Tryd.underlying9 rfl rfl rfl) rfl ?_
      obtain ⟨cat_5, h_6, H⟩ := bind_inv H
      refine pv tb 1 rfl ?_
      refine Tp rfl rfl (pur_cat rfl rfl rfl h_6) rfl ?_
      refine pv tb 1 rfl ?_
      refine TO_nil ?_
      refine te [(0, (intA n0z)), (3, (strA cat_5)), (4, (boolA (decide (n0 < 0))))] rfl ?_
      refine T_region ?_
      refine pv tb 1 rfl ?_
      refine Tp rfl rfl (pur_wquo rfl rfl rfl (by decide)) rfl ?_
      refine pv tb 1 rfl ?_
      refine TO_nil ?_
      obtain rfl := some_inj H
      exact again k2 ((w64 (n0z.tdiv 10)), cat_5) (Nat.lt_succ_self _) (w0 0) K2_
     ·replace H := cond_f c_4 H
      refine T_skip ?_
      refine sr ?_
      refine pv tb 2 rfl ?_
      refine Tp rfl rfl (pur_convI (k := .u8) (k' := .i64) ⟨_, Tryd.underlying3⟩ Tryd.underlying5 rfl rfl) rfl ?_
      refine TO_cons rfl (TOp_lit (nn := 1) (k := 1) sl85 zero5 rfl rfl rfl rfl (by decide) ?_)
      refine TO_st (σ' := [.row (flat (tI .u8).enc ([(IntKind.wrap .u8 (w64 (48 + (n0z.tmod 10))))] : (List Int)))]) rfl ?_
      refine Tp rfl rfl (pur_strM (zs := ([(IntKind.wrap .u8 (w64 (48 + (n0z.tmod 10))))] : (List Int))) Tryd.underlying85 Tryd.underlying5 Tryd.underlying9 rfl rfl rfl) rfl ?_
      obtain ⟨cat_7, h_8, H⟩ := bind_inv H
      refine pv tb 1 rfl ?_
      refine Tp rfl rfl (pur_cat rfl rfl rfl h_8) rfl ?_
      refine pv tb 1 rfl ?_
      refine TO_nil ?_
      refine T_region ?_
      refine pv tb 1 rfl ?_
      refine Tp rfl rfl (pur_wquo rfl rfl rfl (by decide)) rfl ?_
      refine pv tb 1 rfl ?_
      refine TO_nil ?_
      obtain rfl := some_inj H
      exact again k2 ((w64 (n0z.tdiv 10)), cat_7) (Nat.lt_succ_self _) (w0 0) K2_
    ·replace H := cond_f c_3 H
     refine T_exit ?_
     refine then_exit ?_
     refine then_exit ?_
     refine block_exit ?_
     obtain rfl := some_inj H
     obtain rfl := some_inj K2_
     exact joined (n0z, out3) (w0 0) rfl
   ·rintro ⟨n0z, out3⟩ rfl
    replace H := onS_l N2_
    refine T_seq ?_
    refine sr ?_
    refine pv tb 1 rfl ?_
    refine TO_nil ?_
    refine T_cond (t := decide (n0 < 0)) rfl (fun c_9 => ?_) (fun c_9 => ?_)
    ·replace H := cond_t c_9 H
     refine sr ?_
     obtain ⟨cat_10, h_11, H⟩ := bind_inv H
     refine pv tb 1 rfl ?_
     refine Tp rfl rfl (pur_cat rfl rfl rfl h_11) rfl ?_
     refine pv tb 1 rfl ?_
     refine TO_nil ?_
     refine T_ret ?_
     refine then_ret ?_
     obtain rfl := some_inj H
     refine end_ret (.tmp .nil) rfl rfl ⟨?_, rfl⟩
     rfl
    ·replace H := cond_f c_9 H
     refine T_skip ?_
     refine sr ?_
     refine pv tb 2 rfl ?_
     refine TO_nil ?_
     refine T_ret ?_
     obtain rfl := some_inj H
     refine end_ret (.tmp .nil) rfl rfl ⟨?_, rfl⟩
     rfl

set_option maxHeartbeats 1000000 in
theorem m_spec_FormatRows_ok (u : Nat) (l0 : (List (List Int))) (r : ByteArray) (H : m_spec_FormatRows u l0 = some r) : FnV prg 11 [(sl (tSl tInt) l0)] (strA r) := by
  unfold m_spec_FormatRows at H
  refine fnV_of_T Tryd.func11 rfl rfl (Nat.le_of_ble_eq_true rfl) ?_
  refine te [(0, (sl (tSl tInt) l0))] rfl ?_
  refine sr ?_
  refine pv tb 1 rfl ?_
  refine TO_nil ?_
  refine sr ?_
  refine pv tb 1 rfl ?_
  refine TO_nil ?_
  refine T_seq ?_
  refine sr ?_
  refine pv tb 1 rfl ?_
  refine TO_nil ?_
  obtain ⟨O2_, L2_, N2_⟩ := bind_inv H
  clear H
  obtain ⟨B2_, hb2, L2_⟩ := gen_forS L2_
  refine T_block ?_
  refine T_loopX (fun k => fun (⟨i_1, s3⟩ : Nat × ByteArray) => k = l0.length - i_1 ∧ forS B2_ (l0.drop i_1) (i_1 : Int) s3 = some O2_) (fun (⟨i_1, s3⟩ : Nat × ByteArray) => [(0, (sl (tSl tInt) l0)), (3, (strA s3)), (4, (intA (i_1 : Int)))]) (fun (⟨i_1, s3⟩ : Nat × ByteArray) => []) _ (0, (⟨#[]⟩ : ByteArray)) (w0 0) ⟨rfl, L2_⟩ ?_
  rintro _ ⟨i_1, s3⟩ ⟨rfl, L2_⟩
  refine T_fact (len_sl (T := (tSl tInt)) (.tmp 0) rfl) (fun hl2 => ?_)
  refine T_seq ?_
  refine sr ?_
  refine pv tb 2 rfl ?_
  refine Tp rfl rfl (pur_lenT (T := (tSl tInt)) sl28 rfl rfl) rfl ?_
  refine pv tb 1 rfl ?_
  refine TO_nil ?_
  refine T_cond (t := decide ((i_1 : Int) < (l0.length : Int))) rfl (fun d2 => ?_) (fun d2 => ?_)
  ·replace d2 := of_decide_eq_true d2
   obtain ⟨x_i_1, hx_i_1⟩ : ∃ v, (l0)[i_1]? = some v := ⟨_, List.getElem?_eq_getElem (by omega)⟩
   obtain ⟨C2_, H, K2_⟩ := forS_step L2_ hx_i_1
   rw [hb2] at H
   refine T_skip ?_
   refine T_seq ?_
   refine T_block ?_
   refine T_seq ?_
   refine sr ?_
   refine pv tb 2 rfl ?_
   refine TO_nil ?_
   refine T_cond (t := decide (0 < (i_1 : Int))) rfl (fun c_3 => ?_) (fun c_3 => ?_)
   ·replace H := cond_t c_3 H
    refine T_region ?_
    obtain ⟨cat_4, h_5, H⟩ := bind_inv H
    refine pv tb 1 rfl ?_
    refine Tp rfl rfl (pur_cat rfl rfl rfl h_5) rfl ?_
    refine pv tb 1 rfl ?_
    refine TO_nil ?_
    refine sr ?_
    obtain ⟨cat_6, h_7, H⟩ := bind_inv H
    refine pv tb 1 rfl ?_
    refine Tp rfl rfl (pur_cat rfl rfl rfl h_7) rfl ?_
    refine pv tb 1 rfl ?_
    refine TO_nil ?_
    refine T_seq ?_
    refine sr ?_
    refine pv tb 1 rfl ?_
    refine TO_nil ?_
    obtain ⟨O8_, L8_, N8_⟩ := bind_inv H
    clear H
    obtain ⟨B8_, hb8, L8_⟩ := gen_whileF L8_
    refine T_block ?_
    refine T_loopX (fun k => fun (⟨s3, k5⟩ : ByteArray × Int) => whileF B8_ k (s3, k5) = some O8_) (fun (⟨s3, k5⟩ : ByteArray × Int) => [(0, (sl (tSl tInt) l0)), (3, (strA s3)), (4, (intA (i_1 : Int))), (5, (intA k5))]) (fun (⟨s3, k5⟩ : ByteArray × Int) => []) u (cat_6, 0) (w0 0) L8_ ?_
    rintro _ ⟨s3, k5⟩ L8_
    obtain ⟨k8, rfl, C8_, H, K8_⟩ := while_step L8_
    rw [hb8] at H
    refine T_seq ?_
    refine sr ?_
    refine pv tb 3 rfl ?_
    refine Tp rfl rfl (pur_ixT (T := (tSl tInt)) sl28 rfl rfl rfl hx_i_1 rfl) rfl ?_
    refine Tp rfl rfl (pur_ldT (T := (tSl tInt)) (i := i_1) (off := 0) rfl one38 rfl rfl hx_i_1 rfl) rfl ?_
    refine Tp rfl rfl (pur_lenT (T := tInt) sl38 rfl rfl) rfl ?_
    refine pv tb 1 rfl ?_
    refine TO_nil ?_
    refine T_cond (t := decide (k5 < (x_i_1.length : Int))) rfl (fun c_9 => ?_) (fun c_9 => ?_)
    ·replace H := cond_t c_9 H
     refine T_skip ?_
     refine T_seq ?_
     refine T_block ?_
     refine T_seq ?_
     refine sr ?_
     refine pv tb 2 rfl ?_
     refine TO_nil ?_
     refine T_cond (t := decide (0 < k5)) rfl (fun c_10 => ?_) (fun c_10 => ?_)
     ·replace H := cond_t c_10 H
      refine T_region ?_
      obtain ⟨cat_11, h_12, H⟩ := bind_inv H
      refine pv tb 1 rfl ?_
      refine Tp rfl rfl (pur_cat rfl rfl rfl h_12) rfl ?_
      refine pv tb 1 rfl ?_
      refine TO_nil ?_
      refine T_region ?_
      refine pv tb 3 rfl ?_
      refine Tp rfl rfl (pur_ixT (T := (tSl tInt)) sl28 rfl rfl rfl hx_i_1 rfl) rfl ?_
      refine Tp rfl rfl (pur_ldT (T := (tSl tInt)) (i := i_1) (off := 0) rfl one38 rfl rfl hx_i_1 rfl) rfl ?_
      obtain ⟨v_13, h_14, H⟩ := bind_inv H
      obtain ⟨n_15, hz_16, hv_17⟩ := getI_inv h_14
      refine pv tb 1 rfl ?_
      refine Tp rfl rfl (pur_ixT (T := tInt) sl38 rfl rfl hz_16 hv_17 rfl) rfl ?_
      refine Tp rfl rfl (pur_ldT (T := tInt) (i := n_15) (off := 0) rfl one3 rfl rfl hv_17 rfl) rfl ?_
      refine toe [(0, (sl (tSl tInt) l0)), (3, (strA cat_11)), (4, (intA (i_1 : Int))), (5, (intA k5)), (31, (strA cat_11)), (38, (intA v_13))] rfl ?_
      obtain ⟨r_18, h_19, H⟩ := bind_inv H
      refine TO_cons rfl (TOp_callV (call_static ent28 rfl) (m_spec_FormatInt_ok u _ _ h_19) rfl rfl rfl ?_)
      obtain ⟨cat_20, h_21, H⟩ := bind_inv H
      refine Tp rfl rfl (pur_cat rfl rfl rfl h_21) rfl ?_
      refine pv tb 1 rfl ?_
      refine TO_nil ?_
      refine T_region ?_
      refine pv tb 3 rfl ?_
      refine TO_nil ?_
      obtain rfl := some_inj H
      exact again k8 (cat_20, (w64 (k5 + 1))) (Nat.lt_succ_self _) (w0 0) K8_
     ·replace H := cond_f c_10 H
      refine T_skip ?_
      refine T_region ?_
      refine pv tb 3 rfl ?_
      refine Tp rfl rfl (pur_ixT (T := (tSl tInt)) sl28 rfl rfl rfl hx_i_1 rfl) rfl ?_
      refine Tp rfl rfl (pur_ldT (T := (tSl tInt)) (i := i_1) (off := 0) rfl one38 rfl rfl hx_i_1 rfl) rfl ?_
      obtain ⟨v_22, h_23, H⟩ := bind_inv H
      obtain ⟨n_24, hz_25, hv_26⟩ := getI_inv h_23
      refine pv tb 1 rfl ?_
      refine Tp rfl rfl (pur_ixT (T := tInt) sl38 rfl rfl hz_25 hv_26 rfl) rfl ?_
      refine Tp rfl rfl (pur_ldT (T := tInt) (i := n_24) (off := 0) rfl one3 rfl rfl hv_26 rfl) rfl ?_
      refine toe [(0, (sl (tSl tInt) l0)), (3, (strA s3)), (4, (intA (i_1 : Int))), (5, (intA k5)), (31, (strA s3)), (38, (intA v_22))] rfl ?_
      obtain ⟨r_27, h_28, H⟩ := bind_inv H
      refine TO_cons rfl (TOp_callV (call_static ent28 rfl) (m_spec_FormatInt_ok u _ _ h_28) rfl rfl rfl ?_)
      obtain ⟨cat_29, h_30, H⟩ := bind_inv H
      refine Tp rfl rfl (pur_cat rfl rfl rfl h_30) rfl ?_
      refine pv tb 1 rfl ?_
      refine TO_nil ?_
      refine T_region ?_
      refine pv tb 3 rfl ?_
      refine TO_nil ?_
      obtain rfl := some_inj H
      exact again k8 (cat_29, (w64 (k5 + 1))) (Nat.lt_succ_self _) (w0 0) K8_
    ·replace H := cond_f c_9 H
     refine T_exit ?_
     refine then_exit ?_
     refine then_exit ?_
     refine block_exit ?_
     obtain rfl := some_inj H
     obtain rfl := some_inj K8_
     replace H := onS_l N8_
     refine T_region ?_
     obtain ⟨cat_31, h_32, H⟩ := bind_inv H
     refine pv tb 1 rfl ?_
     refine Tp rfl rfl (pur_cat rfl rfl rfl h_32) rfl ?_
     refine pv tb 1 rfl ?_
     refine TO_nil ?_
     refine T_region ?_
     refine pv tb 1 rfl ?_
     refine Tp rfl rfl (pur_add rfl rfl rfl (fits64 (by omega) (by omega))) rfl ?_
     refine pv tb 1 rfl ?_
     refine TO_nil ?_
     obtain rfl := some_inj H
     exact again (l0.length - (i_1 + 1)) (i_1 + 1, cat_31) (by omega) (w0 0) ⟨rfl, K2_⟩
   ·replace H := cond_f c_3 H
    refine T_skip ?_
    refine sr ?_
    obtain ⟨cat_33, h_34, H⟩ := bind_inv H
    refine pv tb 1 rfl ?_
    refine Tp rfl rfl (pur_cat rfl rfl rfl h_34) rfl ?_
    refine pv tb 1 rfl ?_
    refine TO_nil ?_
    refine T_seq ?_
    refine sr ?_
    refine pv tb 1 rfl ?_
    refine TO_nil ?_
    obtain ⟨O35_, L35_, N35_⟩ := bind_inv H
    clear H
    obtain ⟨B35_, hb35, L35_⟩ := gen_whileF L35_
    refine T_block ?_
    refine T_loopX (fun k => fun (⟨s3, k5⟩ : ByteArray × Int) => whileF B35_ k (s3, k5) = some O35_) (fun (⟨s3, k5⟩ : ByteArray × Int) => [(0, (sl (tSl tInt) l0)), (3, (strA s3)), (4, (intA (i_1 : Int))), (5, (intA k5))]) (fun (⟨s3, k5⟩ : ByteArray × Int) => []) u (cat_33, 0) (w0 0) L35_ ?_
    rintro _ ⟨s3, k5⟩ L35_
    obtain ⟨k35, rfl, C35_, H, K35_⟩ := while_step L35_
    rw [hb35] at H
    refine T_seq ?_
    refine sr ?_
    refine pv tb 3 rfl ?_
    refine Tp rfl rfl (pur_ixT (T := (tSl tInt)) sl28 rfl rfl rfl hx_i_1 rfl) rfl ?_
    refine Tp rfl rfl (pur_ldT (T := (tSl tInt)) (i := i_1) (off := 0) rfl one38 rfl rfl hx_i_1 rfl) rfl ?_
    refine Tp rfl rfl (pur_lenT (T := tInt) sl38 rfl rfl) rfl ?_
    refine pv tb 1 rfl ?_
    refine TO_nil ?_
    refine T_cond (t := decide (k5 < (x_i_1.length : Int))) rfl (fun c_36 => ?_) (fun c_36 => ?_)
    ·replace H := cond_t c_36 H
     refine T_skip ?_
     refine T_seq ?_
     refine T_block ?_
     refine T_seq ?_
     refine sr ?_
     refine pv tb 2 rfl ?_
     refine TO_nil ?_
     refine T_cond (t := decide (0 < k5)) rfl (fun c_37 => ?_) (fun c_37 => ?_)
     ·replace H := cond_t c_37 H
      refine T_region ?_
      obtain ⟨cat_38, h_39, H⟩ := bind_inv H
      refine pv tb 1 rfl ?_
      refine Tp rfl rfl (pur_cat rfl rfl rfl h_39) rfl ?_
      refine pv tb 1 rfl ?_
      refine TO_nil ?_
      refine T_region ?_
      refine pv tb 3 rfl ?_
      refine Tp rfl rfl (pur_ixT (T := (tSl tInt)) sl28 rfl rfl rfl hx_i_1 rfl) rfl ?_
      refine Tp rfl rfl (pur_ldT (T := (tSl tInt)) (i := i_1) (off := 0) rfl one38 rfl rfl hx_i_1 rfl) rfl ?_
      obtain ⟨v_40, h_41, H⟩ := bind_inv H
      obtain ⟨n_42, hz_43, hv_44⟩ := getI_inv h_41
      refine pv tb 1 rfl ?_
      refine Tp rfl rfl (pur_ixT (T := tInt) sl38 rfl rfl hz_43 hv_44 rfl) rfl ?_
      refine Tp rfl rfl (pur_ldT (T := tInt) (i := n_42) (off := 0) rfl one3 rfl rfl hv_44 rfl) rfl ?_
      refine toe [(0, (sl (tSl tInt) l0)), (3, (strA cat_38)), (4, (intA (i_1 : Int))), (5, (intA k5)), (31, (strA cat_38)), (38, (intA v_40))] rfl ?_
      obtain ⟨r_45, h_46, H⟩ := bind_inv H
      refine TO_cons rfl (TOp_callV (call_static ent28 rfl) (m_spec_FormatInt_ok u _ _ h_46) rfl rfl rfl ?_)
      obtain ⟨cat_47, h_48, H⟩ := bind_inv H
      refine Tp rfl rfl (pur_cat rfl rfl rfl h_48) rfl ?_
      refine pv tb 1 rfl ?_
      refine TO_nil ?_
      refine T_region ?_
      refine pv tb 3 rfl ?_
      refine TO_nil ?_
      obtain rfl := some_inj H
      exact again k35 (cat_47, (w64 (k5 + 1))) (Nat.lt_succ_self _) (w0 0) K35_
     ·replace H := cond_f c_37 H
      refine T_skip ?_
      refine T_region ?_
      refine pv tb 3 rfl ?_
      refine Tp rfl rfl (pur_ixT (T := (tSl tInt)) sl28 rfl rfl rfl hx_i_1 rfl) rfl ?_
      refine Tp rfl rfl (pur_ldT (T := (tSl tInt)) (i := i_1) (off := 0) rfl one38 rfl rfl hx_i_1 rfl) rfl ?_
      obtain ⟨v_49, h_50, H⟩ := bind_inv H
      obtain ⟨n_51, hz_52, hv_53⟩ := getI_inv h_50
      refine pv tb 1 rfl ?_
      refine Tp rfl rfl (pur_ixT (T := tInt) sl38 rfl rfl hz_52 hv_53 rfl) rfl ?_
      refine Tp rfl rfl (pur_ldT (T := tInt) (i := n_51) (off := 0) rfl one3 rfl rfl hv_53 rfl) rfl ?_
      refine toe [(0, (sl (tSl tInt) l0)), (3, (strA s3)), (4, (intA (i_1 : Int))), (5, (intA k5)), (31, (strA s3)), (38, (intA v_49))] rfl ?_
      obtain ⟨r_54, h_55, H⟩ := bind_inv H
      refine TO_cons rfl (TOp_callV (call_static ent28 rfl) (m_spec_FormatInt_ok u _ _ h_55) rfl rfl rfl ?_)
      obtain ⟨cat_56, h_57, H⟩ := bind_inv H
      refine Tp rfl rfl (pur_cat rfl rfl rfl h_57) rfl ?_
      refine pv tb 1 rfl ?_
      refine TO_nil ?_
      refine T_region ?_
      refine pv tb 3 rfl ?_
      refine TO_nil ?_
      obtain rfl := some_inj H
      exact again k35 (cat_56, (w64 (k5 + 1))) (Nat.lt_succ_self _) (w0 0) K35_
    ·replace H := cond_f c_36 H
     refine T_exit ?_
     refine then_exit ?_
     refine then_exit ?_
     refine block_exit ?_
     obtain rfl := some_inj H
     obtain rfl := some_inj K35_
     replace H := onS_l N35_
     refine T_region ?_
     obtain ⟨cat_58, h_59, H⟩ := bind_inv H
     refine pv tb 1 rfl ?_
     refine Tp rfl rfl (pur_cat rfl rfl rfl h_59) rfl ?_
     refine pv tb 1 rfl ?_
     refine TO_nil ?_
     refine T_region ?_
     refine pv tb 1 rfl ?_
     refine Tp rfl rfl (pur_add rfl rfl rfl (fits64 (by omega) (by omega))) rfl ?_
     refine pv tb 1 rfl ?_
     refine TO_nil ?_
     obtain rfl := some_inj H
     exact again (l0.length - (i_1 + 1)) (i_1 + 1, cat_58) (by omega) (w0 0) ⟨rfl, K2_⟩
  ·replace d2 := of_decide_eq_false d2
   obtain rfl := forS_end L2_ (by omega)
   refine T_exit ?_
   refine then_exit ?_
   refine then_exit ?_
   refine block_exit ?_
   replace H := N2_
   refine sr ?_
   refine pv tb 2 rfl ?_
   refine TO_nil ?_
   refine T_ret ?_
   obtain rfl := some_inj H
   refine end_ret (.tmp .nil) rfl rfl ⟨?_, rfl⟩
   rfl

set_option maxHeartbeats 1000000 in
theorem m_laws_toIntS_own (a0 : (List Int)) (r : (List Int)) (H : m_laws_toIntS a0 = some r) : FnO prg 31 [(sl tInt a0)] (.m [0] 0 r.length tInt.k) [.row (flat tInt.own r)] := by
  unfold m_laws_toIntS at H
  refine fnO_of_T Tryd.func31 rfl rfl (Nat.le_of_ble_eq_true rfl) ?_
  refine te [(0, (sl tInt a0))] rfl ?_
  refine sr ?_
  refine pv tb 1 rfl ?_
  refine TO_nil ?_
  refine sr ?_
  refine pv tb 1 rfl ?_
  refine Tp rfl rfl (pur_lenT (T := tInt) sl38 rfl rfl) rfl ?_
  obtain ⟨us_1, h_2, H⟩ := bind_inv H
  refine TO_cons rfl (TOp_makeT (T := tInt) (z := (0 : Int)) rfl sl38 zero3 rfl bytes3 rfl rfl rfl rfl h_2 ?_)
  refine pv tb 1 rfl ?_
  refine TO_nil ?_
  refine T_seq ?_
  refine sr ?_
  refine pv tb 1 rfl ?_
  refine TO_nil ?_
  obtain ⟨O4_, L4_, N4_⟩ := bind_inv H
  clear H
  obtain ⟨B4_, hb4, L4_⟩ := gen_forS L4_
  refine T_block ?_
  refine T_loopX (fun k => fun (⟨i_3, out3⟩ : Nat × (List Int)) => k = a0.length - i_3 ∧ forS B4_ (a0.drop i_3) (i_3 : Int) out3 = some O4_) (fun (⟨i_3, out3⟩ : Nat × (List Int)) => [(0, (sl tInt a0)), (3, (.m [0] 0 out3.length tInt.k)), (4, (intA (i_3 : Int)))]) (fun (⟨i_3, out3⟩ : Nat × (List Int)) => [.row (flat tInt.enc out3)]) _ (0, us_1) (w0 1) ⟨rfl, L4_⟩ ?_
  rintro _ ⟨i_3, out3⟩ ⟨rfl, L4_⟩
  refine T_fact (len_sl (T := tInt) (.tmp 0) rfl) (fun hl4 => ?_)
  refine T_seq ?_
  refine sr ?_
  refine pv tb 2 rfl ?_
  refine Tp rfl rfl (pur_lenT (T := tInt) sl38 rfl rfl) rfl ?_
  refine pv tb 1 rfl ?_
  refine TO_nil ?_
  refine T_cond (t := decide ((i_3 : Int) < (a0.length : Int))) rfl (fun d4 => ?_) (fun d4 => ?_)
  ·replace d4 := of_decide_eq_true d4
   obtain ⟨x_i_3, hx_i_3⟩ : ∃ v, (a0)[i_3]? = some v := ⟨_, List.getElem?_eq_getElem (by omega)⟩
   obtain ⟨C4_, H, K4_⟩ := forS_step L4_ hx_i_3
   rw [hb4] at H
   refine T_skip ?_
   refine T_seq ?_
   refine T_block ?_
   refine T_region ?_
   refine pv tb 4 rfl ?_
   refine Tp rfl rfl (pur_ixT (T := tInt) sl38 rfl rfl rfl hx_i_3 rfl) rfl ?_
   refine Tp rfl rfl (pur_ldT (T := tInt) (i := i_3) (off := 0) rfl one3 rfl rfl hx_i_3 rfl) rfl ?_
   obtain ⟨v_5, h_6, H⟩ := bind_inv H
   obtain ⟨n_7, hz_8, hv_9⟩ := getI_inv h_6
   refine Tp rfl rfl (pur_ixM (T := tInt) sl38 rfl rfl hz_8 hv_9 rfl) rfl ?_
   refine TO_cons rfl (TOp_setT (f := tInt.enc) (z := (i_3 : Int)) (y := x_i_3) tInt.len tInt.pos hz_8 sz3 rfl rfl rfl rfl rfl hv_9 rfl rfl ?_)
   refine TO_env (E' := [(0, (sl tInt a0)), (3, (.m [0] 0 (out3.set ((i_3 : Int)).toNat x_i_3).length tInt.k)), (4, (intA (i_3 : Int))), (14, (.m [0] 0 (out3.set ((i_3 : Int)).toNat x_i_3).length tInt.k)), (15, (intA (i_3 : Int))), (16, (sl tInt a0)), (17, (intA (i_3 : Int))), (18, (.q (flat tInt.enc a0) (i_3 * tInt.k))), (19, (intA x_i_3))]) ⟨rfl, (congrArg (fun q => A.m [0] 0 q tInt.k) (List.length_set ..).symm), rfl, (congrArg (fun q => A.m [0] 0 q tInt.k) (List.length_set ..).symm), rfl, rfl, rfl, rfl, rfl, trivial⟩ ?_
   refine TO_st (σ' := [.row (flat tInt.enc (out3.set ((i_3 : Int)).toNat x_i_3))]) rfl ?_
   refine TO_nil ?_
   refine T_region ?_
   refine pv tb 1 rfl ?_
   refine Tp rfl rfl (pur_add rfl rfl rfl (fits64 (by omega) (by omega))) rfl ?_
   refine pv tb 1 rfl ?_
   refine TO_nil ?_
   obtain rfl := some_inj H
   exact again (a0.length - (i_3 + 1)) (i_3 + 1, (out3.set ((i_3 : Int)).toNat x_i_3)) (by omega) (w0 1) ⟨rfl, K4_⟩
  ·replace d4 := of_decide_eq_false d4
   obtain rfl := forS_end L4_ (by omega)
   refine T_exit ?_
   refine then_exit ?_
   refine then_exit ?_
   refine block_exit ?_
   replace H := N4_
   refine sr ?_
   refine pv tb 2 rfl ?_
   refine TO_nil ?_
   refine T_ret ?_
   obtain rfl := some_inj H
   exact end_pick (.tmp .nil) rfl [0] (by decide) rfl rfl rfl rfl rfl rfl
theorem m_laws_toIntS_ok (a0 : (List Int)) (r : (List Int)) (H : m_laws_toIntS a0 = some r) : FnV prg 31 [(sl tInt a0)] (sl tInt r) := (m_laws_toIntS_own a0 r H).frz (frzT (T := tInt) rfl)

set_option maxHeartbeats 1000000 in
theorem m_laws_toIntSS_own (a0 : (List (List Int))) (r : (List (List Int))) (H : m_laws_toIntSS a0 = some r) : FnO prg 12 [(sl (tSl tInt) a0)] (.m [0] 0 r.length (tSl tInt).k) [.row (flat (tSl tInt).own r)] := by
  unfold m_laws_toIntSS at H
  refine fnO_of_T Tryd.func12 rfl rfl (Nat.le_of_ble_eq_true rfl) ?_
  refine te [(0, (sl (tSl tInt) a0))] rfl ?_
  refine sr ?_
  refine pv tb 1 rfl ?_
  refine TO_nil ?_
  refine sr ?_
  refine pv tb 1 rfl ?_
  refine Tp rfl rfl (pur_lenT (T := (tSl tInt)) sl28 rfl rfl) rfl ?_
  obtain ⟨us_1, h_2, H⟩ := bind_inv H
  refine TO_cons rfl (TOp_makeN (T := (tSl tInt)) (f := (tSl tInt).own) (zs := [.slice none 0 0]) (z := []) (tSl tInt).lenO (nilL_cons nilO nilL_nil) rfl sl28 zero38 bytes38 rfl rfl rfl rfl h_2 ?_)
  refine TO_st (σ' := [.row (flat (tSl tInt).own us_1)]) rfl ?_
  refine pv tb 1 rfl ?_
  refine TO_nil ?_
  refine T_seq ?_
  refine sr ?_
  refine pv tb 1 rfl ?_
  refine TO_nil ?_
  obtain ⟨O4_, L4_, N4_⟩ := bind_inv H
  clear H
  obtain ⟨B4_, hb4, L4_⟩ := gen_forS L4_
  refine T_block ?_
  refine T_loopX (fun k => fun (⟨i_3, out3⟩ : Nat × (List (List Int))) => k = a0.length - i_3 ∧ forS B4_ (a0.drop i_3) (i_3 : Int) out3 = some O4_) (fun (⟨i_3, out3⟩ : Nat × (List (List Int))) => [(0, (sl (tSl tInt) a0)), (3, (.m [0] 0 out3.length (tSl tInt).k)), (4, (intA (i_3 : Int)))]) (fun (⟨i_3, out3⟩ : Nat × (List (List Int))) => [.row (flat (tSl tInt).own out3)]) _ (0, us_1) (w0 1) ⟨rfl, L4_⟩ ?_
  rintro _ ⟨i_3, out3⟩ ⟨rfl, L4_⟩
  refine T_fact (len_sl (T := (tSl tInt)) (.tmp 0) rfl) (fun hl4 => ?_)
  refine T_seq ?_
  refine sr ?_
  refine pv tb 2 rfl ?_
  refine Tp rfl rfl (pur_lenT (T := (tSl tInt)) sl28 rfl rfl) rfl ?_
  refine pv tb 1 rfl ?_
  refine TO_nil ?_
  refine T_cond (t := decide ((i_3 : Int) < (a0.length : Int))) rfl (fun d4 => ?_) (fun d4 => ?_)
  ·replace d4 := of_decide_eq_true d4
   obtain ⟨x_i_3, hx_i_3⟩ : ∃ v, (a0)[i_3]? = some v := ⟨_, List.getElem?_eq_getElem (by omega)⟩
   obtain ⟨C4_, H, K4_⟩ := forS_step L4_ hx_i_3
   rw [hb4] at H
   refine T_skip ?_
   refine T_seq ?_
   refine T_block ?_
   refine T_region ?_
   refine pv tb 4 rfl ?_
   refine Tp rfl rfl (pur_ixT (T := (tSl tInt)) sl28 rfl rfl rfl hx_i_3 rfl) rfl ?_
   refine Tp rfl rfl (pur_ldT (T := (tSl tInt)) (i := i_3) (off := 0) rfl one38 rfl rfl hx_i_3 rfl) rfl ?_
   obtain ⟨r_5, h_6, H⟩ := bind_inv H
   refine TO_cons rfl (TOp_callO (call_static ent31 rfl) rfl (m_laws_toIntS_own _ _ h_6) rfl rfl rfl ?_)
   refine toe [(0, (sl (tSl tInt) a0)), (3, (.m [0] 0 out3.length (tSl tInt).k)), (4, (intA (i_3 : Int))), (14, (.m [0] 0 out3.length (tSl tInt).k)), (15, (intA (i_3 : Int))), (16, (sl (tSl tInt) a0)), (17, (intA (i_3 : Int))), (18, (.q (flat (tSl tInt).enc a0) (i_3 * (tSl tInt).k))), (19, (sl tInt x_i_3)), (20, (.m [1] 0 r_5.length tInt.k))] rfl ?_
   refine TO_st (σ' := [.row (flat (tSl tInt).own out3), .row (flat tInt.own r_5)]) rfl ?_
   obtain ⟨v_7, h_8, H⟩ := bind_inv H
   obtain ⟨n_9, hz_10, hv_11⟩ := getI_inv h_8
   refine Tp rfl rfl (pur_ixM (T := (tSl tInt)) sl28 rfl rfl hz_10 hv_11 rfl) rfl ?_
   refine TO_boxify 0 rfl (lb rfl) ?_
   refine TO_cons rfl (TOp_setN (T := (tSl tInt)) (i := n_9) (off := 0) (xs := out3) (v := v_7) hz_10 sz38 (by decide) rfl rfl rfl rfl rfl hv_11 rfl rfl (lb rfl) rfl ?_)
   refine toe [(0, (sl (tSl tInt) a0)), (3, (.m [0] 0 out3.length (tSl tInt).k)), (4, (intA (i_3 : Int))), (14, (.m [0] 0 out3.length (tSl tInt).k)), (15, (intA (i_3 : Int))), (16, (sl (tSl tInt) a0)), (17, (intA (i_3 : Int))), (18, (.q (flat (tSl tInt).enc a0) (i_3 * (tSl tInt).k))), (19, (sl tInt x_i_3))] rfl ?_
   refine TO_st (σ' := [.box (spl (flat (tSl tInt).own out3) (n_9 * (tSl tInt).k) [(.m [1] 0 r_5.length tInt.k)]), .row (flat tInt.own r_5)]) rfl ?_
   refine TO_absorbS (T := (tSl tInt)) (i := n_9) (xs := out3) (v := v_7) 0 0 1 rfl hv_11 rfl rfl rfl (by decide) tInt.pos (flat_len tInt.lenO _) (lb rfl) (lb rfl) rfl (nms_box (namesL_spl namesL_own rfl) (nms_row nms_nil)) ?_
   refine TO_st (σ' := [.box (spl (flat (tSl tInt).own out3) (n_9 * (tSl tInt).k) [.o tInt.k (flat tInt.own r_5)]), .dead]) rfl ?_
   refine TO_rowifyS (T := (tSl tInt)) (i := n_9) (xs := out3) 0 r_5 hz_10 rfl hv_11 rfl (lb rfl) ?_
   refine TO_env (E' := [(0, (sl (tSl tInt) a0)), (3, (.m [0] 0 (out3.set ((i_3 : Int)).toNat r_5).length (tSl tInt).k)), (4, (intA (i_3 : Int))), (14, (.m [0] 0 (out3.set ((i_3 : Int)).toNat r_5).length (tSl tInt).k)), (15, (intA (i_3 : Int))), (16, (sl (tSl tInt) a0)), (17, (intA (i_3 : Int))), (18, (.q (flat (tSl tInt).enc a0) (i_3 * (tSl tInt).k))), (19, (sl tInt x_i_3))]) ⟨rfl, (congrArg (fun q => A.m [0] 0 q (tSl tInt).k) (List.length_set ..).symm), rfl, (congrArg (fun q => A.m [0] 0 q (tSl tInt).k) (List.length_set ..).symm), rfl, rfl, rfl, rfl, rfl, trivial⟩ ?_
   refine TO_st (σ' := [.row (flat (tSl tInt).own (out3.set ((i_3 : Int)).toNat r_5)), .dead]) rfl ?_
   refine TO_nil ?_
   refine T_region ?_
   refine pv tb 1 rfl ?_
   refine Tp rfl rfl (pur_add rfl rfl rfl (fits64 (by omega) (by omega))) rfl ?_
   refine pv tb 1 rfl ?_
   refine TO_nil ?_
   obtain rfl := some_inj H
   exact again (a0.length - (i_3 + 1)) (i_3 + 1, (out3.set ((i_3 : Int)).toNat r_5)) (by omega) (w0 1) ⟨rfl, K4_⟩
  ·replace d4 := of_decide_eq_false d4
   obtain rfl := forS_end L4_ (by omega)
   refine T_exit ?_
   refine then_exit ?_
   refine then_exit ?_
   refine block_exit ?_
   replace H := N4_
   refine sr ?_
   refine pv tb 2 rfl ?_
   refine TO_nil ?_
   refine T_ret ?_
   obtain rfl := some_inj H
   exact end_pick (.tmp .nil) rfl [0] (by decide) rfl rfl rfl rfl rfl rfl
theorem m_laws_toIntSS_ok (a0 : (List (List Int))) (r : (List (List Int))) (H : m_laws_toIntSS a0 = some r) : FnV prg 12 [(sl (tSl tInt) a0)] (sl (tSl tInt) r) := (m_laws_toIntSS_own a0 r H).frz (frzT (T := (tSl tInt)) rfl)

theorem m_strconv_Itoa_ok (v0 : Int) (r : ByteArray) (H : m_strconv_Itoa v0 = some r) : FnV prg 53 [intA v0] (strA r) := by
  unfold m_strconv_Itoa at H
  split at H
  case isFalse => cases H
  rename_i h0
  cases H
  refine FnV.ofCalls [.int .i64 v0] fun w hw => ?_
  obtain ⟨te, fr, hg⟩ := hw _ (List.mem_singleton.2 rfl)
  have ht : Go.Lib.TabIs prg w "internal/strconv.uint64pow10" .u64 Go.Lib.pow10Tab := by
   unfold Go.Lib.TabIs World.var?
   rw [show prg.globalNamed "internal/strconv.uint64pow10" = some 1 by kernel_rfl]
   simp only [Option.bind_some, hg]
  refine Calls.mono (Any.strconv_Itoa shl171 v0 h0.1 h0.2 w ht) fun e w' h => ?_
  obtain ⟨h1, k, os, rfl⟩ := h
  exact ⟨h1, below_grown w k os⟩


set_option maxHeartbeats 1000000 in
theorem m_impl_FormatInt_ok (n0 : Int) (r : ByteArray) (H : m_impl_FormatInt n0 = some r) : FnV prg 29 [(intA n0)] (strA r) := by
  unfold m_impl_FormatInt at H
  refine fnV_of_T Tryd.func29 rfl rfl (Nat.le_of_ble_eq_true rfl) ?_
  refine te [(0, (intA n0))] rfl ?_
  refine sr ?_
  refine pv tb 1 rfl ?_
  refine TO_nil ?_
  refine sr ?_
  obtain ⟨r_1, h_2, H⟩ := bind_inv H
  refine pv tb 1 rfl ?_
  refine TO_cons rfl (TOp_callV (call_static ent53 rfl) (m_strconv_Itoa_ok _ _ h_2) rfl rfl rfl ?_)
  refine pv tb 1 rfl ?_
  refine TO_nil ?_
  refine T_ret ?_
  obtain rfl := some_inj H
  refine end_ret (.tmp .nil) rfl rfl ⟨?_, rfl⟩
  rfl

theorem m_strings_Join_ok (s0 : List ByteArray) (v1 : ByteArray) (r : ByteArray) (H : m_strings_Join s0 v1 = some r) : FnV prg 32 [sl tStr s0, strA v1] (strA r) := by
  unfold m_strings_Join at H
  split at H
  case isFalse => cases H
  rename_i h0
  cases H
  refine FnV.ofStrs (fun e ad c w => ?_) fun b o c w hc hb hn => ?_
  ·subst e
   refine Calls.mono (Any.strings_Join_none shl156 shl156X ad c v1 w) fun e w' h => ?_
   rw [h.2]
   exact ⟨h.1, Go.RowKit.Below.refl _ _⟩
  ·exact Any.strings_Join shl156 shl156X b o c s0 v1 w hc hb h0.1 hn h0.2


set_option maxHeartbeats 1000000 in
theorem m_impl_FormatRows_ok (rows0 : (List (List Int))) (r : ByteArray) (H : m_impl_FormatRows rows0 = some r) : FnV prg 13 [(sl (tSl tInt) rows0)] (strA r) := by
  unfold m_impl_FormatRows at H
  refine fnV_of_T Tryd.func13 rfl rfl (Nat.le_of_ble_eq_true rfl) ?_
  refine te [(0, (sl (tSl tInt) rows0))] rfl ?_
  refine sr ?_
  refine pv tb 1 rfl ?_
  refine TO_nil ?_
  refine sr ?_
  refine TO_cons rfl (TOp_lit (nn := 0) (k := 1) sl66 zero9 rfl rfl rfl rfl (by decide) ?_)
  refine TO_st (σ' := [.row (flat tStr.enc ([] : (List ByteArray)))]) rfl ?_
  refine pv tb 1 rfl ?_
  refine TO_nil ?_
  refine T_seq ?_
  refine sr ?_
  refine pv tb 1 rfl ?_
  refine Tp rfl rfl (pur_lenT (T := (tSl tInt)) sl28 rfl rfl) rfl ?_
  refine pv tb 1 rfl ?_
  refine TO_nil ?_
  obtain ⟨O2_, L2_, N2_⟩ := bind_inv H
  clear H
  obtain ⟨B2_, hb2, L2_⟩ := gen_forS L2_
  refine T_block ?_
  refine T_loopX (fun k => fun (⟨t_1, out3⟩ : Nat × (List ByteArray)) => k = rows0.length - t_1 ∧ forS B2_ (rows0.drop t_1) (t_1 : Int) out3 = some O2_) (fun (⟨t_1, out3⟩ : Nat × (List ByteArray)) => [(3, (.m [0] 0 out3.length tStr.k)), (10, (sl (tSl tInt) rows0)), (11, (intA (rows0.length : Int))), (12, (intA (t_1 : Int)))]) (fun (⟨t_1, out3⟩ : Nat × (List ByteArray)) => [.row (flat tStr.enc out3)]) _ (0, ([] : (List ByteArray))) (w0 1) ⟨rfl, L2_⟩ ?_
  rintro _ ⟨t_1, out3⟩ ⟨rfl, L2_⟩
  refine T_fact (len_sl (T := (tSl tInt)) (.tmp 10) rfl) (fun hl2 => ?_)
  refine sr ?_
  refine pv tb 1 rfl ?_
  refine TO_nil ?_
  refine T_seq ?_
  refine T_cond (t := decide ((t_1 : Int) < (rows0.length : Int))) rfl (fun d2 => ?_) (fun d2 => ?_)
  ·replace d2 := of_decide_eq_true d2
   obtain ⟨x_t_1, hx_t_1⟩ : ∃ v, (rows0)[t_1]? = some v := ⟨_, List.getElem?_eq_getElem (by omega)⟩
   obtain ⟨C2_, H, K2_⟩ := forS_step L2_ hx_t_1
   rw [hb2] at H
   refine T_skip ?_
   refine T_seq ?_
   refine T_block ?_
   refine sr ?_
   refine Tp rfl rfl (pur_ixT (T := (tSl tInt)) sl28 rfl rfl rfl hx_t_1 rfl) rfl ?_
   refine Tp rfl rfl (pur_ldT (T := (tSl tInt)) (i := t_1) (off := 0) rfl one38 rfl rfl hx_t_1 rfl) rfl ?_
   refine pv tb 1 rfl ?_
   refine TO_nil ?_
   refine sr ?_
   refine TO_cons rfl (TOp_lit (nn := 0) (k := 1) sl66 zero9 rfl rfl rfl rfl (by decide) ?_)
   refine TO_st (σ' := [.row (flat tStr.enc out3), .row (flat tStr.enc ([] : (List ByteArray)))]) rfl ?_
   refine pv tb 1 rfl ?_
   refine TO_nil ?_
   refine T_seq ?_
   refine sr ?_
   refine pv tb 1 rfl ?_
   refine Tp rfl rfl (pur_lenT (T := tInt) sl38 rfl rfl) rfl ?_
   refine pv tb 1 rfl ?_
   refine TO_nil ?_
   obtain ⟨O4_, L4_, N4_⟩ := bind_inv H
   clear H
   obtain ⟨B4_, hb4, L4_⟩ := gen_forS L4_
   refine T_block ?_
   refine T_loopX (fun k => fun (⟨t_3, values6⟩ : Nat × (List ByteArray)) => k = x_t_1.length - t_3 ∧ forS B4_ (x_t_1.drop t_3) (t_3 : Int) values6 = some O4_) (fun (⟨t_3, values6⟩ : Nat × (List ByteArray)) => [(3, (.m [0] 0 out3.length tStr.k)), (6, (.m [1] 0 values6.length tStr.k)), (10, (sl (tSl tInt) rows0)), (11, (intA (rows0.length : Int))), (12, (intA (t_1 : Int))), (17, (sl tInt x_t_1)), (18, (intA (x_t_1.length : Int))), (19, (intA (t_3 : Int)))]) (fun (⟨t_3, values6⟩ : Nat × (List ByteArray)) => [.row (flat tStr.enc out3), .row (flat tStr.enc values6)]) _ (0, ([] : (List ByteArray))) (w0 2) ⟨rfl, L4_⟩ ?_
   rintro _ ⟨t_3, values6⟩ ⟨rfl, L4_⟩
   refine T_fact (len_sl (T := tInt) (.tmp 17) rfl) (fun hl4 => ?_)
   refine sr ?_
   refine pv tb 1 rfl ?_
   refine TO_nil ?_
   refine T_seq ?_
   refine T_cond (t := decide ((t_3 : Int) < (x_t_1.length : Int))) rfl (fun d4 => ?_) (fun d4 => ?_)
   ·replace d4 := of_decide_eq_true d4
    obtain ⟨x_t_3, hx_t_3⟩ : ∃ v, (x_t_1)[t_3]? = some v := ⟨_, List.getElem?_eq_getElem (by omega)⟩
    obtain ⟨C4_, H, K4_⟩ := forS_step L4_ hx_t_3
    rw [hb4] at H
    refine T_skip ?_
    refine T_seq ?_
    refine T_block ?_
    refine sr ?_
    refine Tp rfl rfl (pur_ixT (T := tInt) sl38 rfl rfl rfl hx_t_3 rfl) rfl ?_
    refine Tp rfl rfl (pur_ldT (T := tInt) (i := t_3) (off := 0) rfl one3 rfl rfl hx_t_3 rfl) rfl ?_
    refine pv tb 1 rfl ?_
    refine TO_nil ?_
    refine T_region ?_
    obtain ⟨r_5, h_6, H⟩ := bind_inv H
    refine pv tb 2 rfl ?_
    refine TO_cons rfl (TOp_callV (call_static ent29 rfl) (m_impl_FormatInt_ok _ _ h_6) rfl rfl rfl ?_)
    refine TO_cons rfl (TOp_lit (nn := 1) (k := 1) sl66 zero9 rfl rfl rfl rfl (by decide) ?_)
    refine TO_st (σ' := [.row (flat tStr.enc out3), .row (flat tStr.enc values6), .row (flat tStr.enc ([r_5] : (List ByteArray)))]) rfl ?_
    obtain ⟨us_7, h_8, H⟩ := bind_inv H
    refine TO_cons rfl (TOp_appZ (T := tStr) (f := tStr.enc) (xs := values6) (ys := ([r_5] : (List ByteArray))) tStr.len sl66 zero9 rfl bytes9 (by decide) rfl rfl rfl rfl (src_mT (f := tStr.enc) tStr.len rfl rfl (flat_cell tStr _)) (flat_cell tStr _) h_8 (lb rfl) ?_)
    refine toe [(3, (.m [0] 0 out3.length tStr.k)), (8, (intA x_t_3)), (10, (sl (tSl tInt) rows0)), (11, (intA (rows0.length : Int))), (12, (intA (t_1 : Int))), (17, (sl tInt x_t_1)), (18, (intA (x_t_1.length : Int))), (19, (intA (t_3 : Int))), (24, (intA x_t_3)), (25, (strA r_5)), (26, (.m [2] 0 ([r_5] : (List ByteArray)).length tStr.k)), (27, (.m [1] 0 us_7.length tStr.k))] rfl ?_
    refine TO_st (σ' := [.row (flat tStr.enc out3), .row (flat tStr.enc us_7), .row (flat tStr.enc ([r_5] : (List ByteArray))), .dead]) rfl ?_
    refine pv tb 1 rfl ?_
    refine TO_nil ?_
    refine T_region ?_
    refine Tp rfl rfl (pur_add rfl rfl rfl (fits64 (by omega) (by omega))) rfl ?_
    refine pv tb 1 rfl ?_
    refine TO_nil ?_
    obtain rfl := some_inj H
    exact again (x_t_1.length - (t_3 + 1)) (t_3 + 1, us_7) (by omega) (w0 2) ⟨rfl, K4_⟩
   ·replace d4 := of_decide_eq_false d4
    obtain rfl := forS_end L4_ (by omega)
    refine T_exit ?_
    refine then_exit ?_
    refine then_exit ?_
    refine block_exit ?_
    replace H := N4_
    refine T_region ?_
    obtain ⟨r_9, h_10, H⟩ := bind_inv H
    refine pv tb 2 rfl ?_
    refine TO_cons rfl (TOp_callB (call_static ent32 rfl) (frz_cons (frzTE (T := tStr) rfl) (frz_cons (frz_loose rfl) frz_nil)).1 (frz_cons (frzTE (T := tStr) rfl) (frz_cons (frz_loose rfl) frz_nil)).2 (m_strings_Join_ok _ _ _ h_10) rfl ?_)
    obtain ⟨cat_11, h_12, H⟩ := bind_inv H
    refine Tp rfl rfl (pur_cat rfl rfl rfl h_12) rfl ?_
    obtain ⟨cat_13, h_14, H⟩ := bind_inv H
    refine Tp rfl rfl (pur_cat rfl rfl rfl h_14) rfl ?_
    refine TO_cons rfl (TOp_lit (nn := 1) (k := 1) sl66 zero9 rfl rfl rfl rfl (by decide) ?_)
    refine TO_st (σ' := [.row (flat tStr.enc out3), .row (flat tStr.enc values6), .row (flat tStr.enc ([cat_13] : (List ByteArray)))]) rfl ?_
    obtain ⟨us_15, h_16, H⟩ := bind_inv H
    refine TO_cons rfl (TOp_appZ (T := tStr) (f := tStr.enc) (xs := out3) (ys := ([cat_13] : (List ByteArray))) tStr.len sl66 zero9 rfl bytes9 (by decide) rfl rfl rfl rfl (src_mT (f := tStr.enc) tStr.len rfl rfl (flat_cell tStr _)) (flat_cell tStr _) h_16 (lb rfl) ?_)
    refine toe [(6, (.m [1] 0 values6.length tStr.k)), (10, (sl (tSl tInt) rows0)), (11, (intA (rows0.length : Int))), (12, (intA (t_1 : Int))), (30, (.m [1] 0 values6.length tStr.k)), (31, (strA r_9)), (32, (strA cat_11)), (33, (strA cat_13)), (34, (.m [2] 0 ([cat_13] : (List ByteArray)).length tStr.k)), (35, (.m [0] 0 us_15.length tStr.k))] rfl ?_
    refine TO_st (σ' := [.row (flat tStr.enc us_15), .row (flat tStr.enc values6), .row (flat tStr.enc ([cat_13] : (List ByteArray))), .dead]) rfl ?_
    refine pv tb 1 rfl ?_
    refine TO_nil ?_
    refine T_region ?_
    refine Tp rfl rfl (pur_add rfl rfl rfl (fits64 (by omega) (by omega))) rfl ?_
    refine pv tb 1 rfl ?_
    refine TO_nil ?_
    obtain rfl := some_inj H
    exact again (rows0.length - (t_1 + 1)) (t_1 + 1, us_15) (by omega) (w0 1) ⟨rfl, K2_⟩
  ·replace d2 := of_decide_eq_false d2
   obtain rfl := forS_end L2_ (by omega)
   refine T_exit ?_
   refine then_exit ?_
   refine then_exit ?_
   refine block_exit ?_
   replace H := N2_
   refine sr ?_
   obtain ⟨r_17, h_18, H⟩ := bind_inv H
   refine pv tb 1 rfl ?_
   refine TO_cons rfl (TOp_callB (call_static ent32 rfl) (frz_cons (frzTE (T := tStr) rfl) (frz_cons (frz_loose rfl) frz_nil)).1 (frz_cons (frzTE (T := tStr) rfl) (frz_cons (frz_loose rfl) frz_nil)).2 (m_strings_Join_ok _ _ _ h_18) rfl ?_)
   refine pv tb 1 rfl ?_
   refine TO_nil ?_
   refine T_ret ?_
   obtain rfl := some_inj H
   refine end_ret (.tmp .nil) rfl rfl ⟨?_, rfl⟩
   rfl

set_option maxHeartbeats 1000000 in
theorem m_laws_eqIntS_ok (a0 : (List Int)) (b1 : (List Int)) (r : Bool) (H : m_laws_eqIntS a0 b1 = some r) : FnV prg 33 [(sl tInt a0), (sl tInt b1)] (boolA r) := by
  unfold m_laws_eqIntS at H
  refine fnV_of_T Tryd.func33 rfl rfl (Nat.le_of_ble_eq_true rfl) ?_
  refine te [(0, (sl tInt a0)), (1, (sl tInt b1))] rfl ?_
  refine sr ?_
  refine pv tb 1 rfl ?_
  refine TO_nil ?_
  refine T_seq ?_
  refine sr ?_
  refine pv tb 1 rfl ?_
  refine Tp rfl rfl (pur_lenT (T := tInt) sl38 rfl rfl) rfl ?_
  refine pv tb 1 rfl ?_
  refine Tp rfl rfl (pur_lenT (T := tInt) sl38 rfl rfl) rfl ?_
  refine pv tb 1 rfl ?_
  refine TO_nil ?_
  refine T_cond (t := decide ((a0.length : Int) ≠ (b1.length : Int))) rfl (fun c_1 => ?_) (fun c_1 => ?_)
  ·replace H := cond_t c_1 H
   refine sr ?_
   refine pv tb 1 rfl ?_
   refine TO_nil ?_
   refine T_ret ?_
   refine then_ret ?_
   obtain rfl := some_inj H
   refine end_ret (.tmp .nil) rfl rfl ⟨?_, rfl⟩
   rfl
  ·replace H := cond_f c_1 H
   refine T_skip ?_
   refine T_seq ?_
   refine sr ?_
   refine pv tb 1 rfl ?_
   refine TO_nil ?_
   obtain ⟨O3_, L3_, N3_⟩ := bind_inv H
   clear H
   obtain ⟨B3_, hb3, L3_⟩ := gen_forL L3_
   refine T_block ?_
   refine T_loopX (fun k => fun (i_2 : Nat) => k = a0.length - i_2 ∧ forL B3_ (a0.drop i_2) (i_2 : Int) () = some O3_) (fun (i_2 : Nat) => [(0, (sl tInt a0)), (1, (sl tInt b1)), (5, (intA (i_2 : Int)))]) (fun (i_2 : Nat) => []) _ (0 : Nat) (w0 0) ⟨rfl, L3_⟩ ?_
   rintro _ i_2 ⟨rfl, L3_⟩
   refine T_fact (len_sl (T := tInt) (.tmp 0) rfl) (fun hl3 => ?_)
   refine T_seq ?_
   refine sr ?_
   refine pv tb 2 rfl ?_
   refine Tp rfl rfl (pur_lenT (T := tInt) sl38 rfl rfl) rfl ?_
   refine pv tb 1 rfl ?_
   refine TO_nil ?_
   refine T_cond (t := decide ((i_2 : Int) < (a0.length : Int))) rfl (fun d3 => ?_) (fun d3 => ?_)
   ·replace d3 := of_decide_eq_true d3
    obtain ⟨x_i_2, hx_i_2⟩ : ∃ v, (a0)[i_2]? = some v := ⟨_, List.getElem?_eq_getElem (by omega)⟩
    obtain ⟨C3_, H, K3_⟩ := forL_step L3_ hx_i_2
    rw [hb3] at H
    refine T_skip ?_
    refine T_seq ?_
    refine T_block ?_
    refine T_seq ?_
    refine T_regionD mixed (by kernel_rfl) ?_
    refine pq tb 2 rfl ?_
    refine TQ_pure rfl (pur_ixT (T := tInt) sl38 rfl rfl rfl hx_i_2 rfl) rfl ?_
    refine TQ_pure rfl (pur_ldT (T := tInt) (i := i_2) (off := 0) rfl one3 rfl rfl hx_i_2 rfl) rfl ?_
    obtain ⟨v_4, h_5, H⟩ := bind_inv H
    obtain ⟨n_6, hz_7, hv_8⟩ := getI_inv h_5
    refine pq tb 2 rfl ?_
    refine TQ_pure rfl (pur_ixT (T := tInt) sl38 rfl rfl hz_7 hv_8 rfl) rfl ?_
    refine TQ_pure rfl (pur_ldT (T := tInt) (i := n_6) (off := 0) rfl one3 rfl rfl hv_8 rfl) rfl ?_
    refine pq tb 1 rfl ?_
    refine TQ_nil ?_
    refine T_cond (t := decide (x_i_2 ≠ v_4)) rfl (fun c_9 => ?_) (fun c_9 => ?_)
    ·replace H := cond_t c_9 H
     refine sr ?_
     refine pv tb 1 rfl ?_
     refine TO_nil ?_
     refine te [(4, (boolA false))] rfl ?_
     refine T_ret ?_
     refine block_ret ?_
     refine then_ret ?_
     refine then_ret ?_
     refine block_ret ?_
     refine then_ret ?_
     obtain rfl := some_inj H
     obtain rfl := some_inj K3_
     replace H := onS_r N3_
     obtain rfl := some_inj H
     refine end_ret (.tmp .nil) rfl rfl ⟨?_, rfl⟩
     rfl
    ·replace H := cond_f c_9 H
     refine T_skip ?_
     refine T_region ?_
     refine pv tb 1 rfl ?_
     refine Tp rfl rfl (pur_add rfl rfl rfl (fits64 (by omega) (by omega))) rfl ?_
     refine pv tb 1 rfl ?_
     refine TO_nil ?_
     obtain rfl := some_inj H
     exact again (a0.length - (i_2 + 1)) (i_2 + 1) (by omega) (w0 0) ⟨rfl, K3_⟩
   ·replace d3 := of_decide_eq_false d3
    obtain rfl := forL_end L3_ (by omega)
    refine T_exit ?_
    refine then_exit ?_
    refine then_exit ?_
    refine block_exit ?_
    replace H := onS_l N3_
    refine sr ?_
    refine pv tb 1 rfl ?_
    refine TO_nil ?_
    refine T_ret ?_
    obtain rfl := some_inj H
    refine end_ret (.tmp .nil) rfl rfl ⟨?_, rfl⟩
    rfl

set_option maxHeartbeats 1000000 in
theorem m_laws_eqIntSS_ok (a0 : (List (List Int))) (b1 : (List (List Int))) (r : Bool) (H : m_laws_eqIntSS a0 b1 = some r) : FnV prg 14 [(sl (tSl tInt) a0), (sl (tSl tInt) b1)] (boolA r) := by
  unfold m_laws_eqIntSS at H
  refine fnV_of_T Tryd.func14 rfl rfl (Nat.le_of_ble_eq_true rfl) ?_
  refine te [(0, (sl (tSl tInt) a0)), (1, (sl (tSl tInt) b1))] rfl ?_
  refine sr ?_
  refine pv tb 1 rfl ?_
  refine TO_nil ?_
  refine T_seq ?_
  refine sr ?_
  refine pv tb 1 rfl ?_
  refine Tp rfl rfl (pur_lenT (T := (tSl tInt)) sl28 rfl rfl) rfl ?_
  refine pv tb 1 rfl ?_
  refine Tp rfl rfl (pur_lenT (T := (tSl tInt)) sl28 rfl rfl) rfl ?_
  refine pv tb 1 rfl ?_
  refine TO_nil ?_
  refine T_cond (t := decide ((a0.length : Int) ≠ (b1.length : Int))) rfl (fun c_1 => ?_) (fun c_1 => ?_)
  ·replace H := cond_t c_1 H
   refine sr ?_
   refine pv tb 1 rfl ?_
   refine TO_nil ?_
   refine T_ret ?_
   refine then_ret ?_
   obtain rfl := some_inj H
   refine end_ret (.tmp .nil) rfl rfl ⟨?_, rfl⟩
   rfl
  ·replace H := cond_f c_1 H
   refine T_skip ?_
   refine T_seq ?_
   refine sr ?_
   refine pv tb 1 rfl ?_
   refine TO_nil ?_
   obtain ⟨O3_, L3_, N3_⟩ := bind_inv H
   clear H
   obtain ⟨B3_, hb3, L3_⟩ := gen_forL L3_
   refine T_block ?_
   refine T_loopX (fun k => fun (i_2 : Nat) => k = a0.length - i_2 ∧ forL B3_ (a0.drop i_2) (i_2 : Int) () = some O3_) (fun (i_2 : Nat) => [(0, (sl (tSl tInt) a0)), (1, (sl (tSl tInt) b1)), (5, (intA (i_2 : Int)))]) (fun (i_2 : Nat) => []) _ (0 : Nat) (w0 0) ⟨rfl, L3_⟩ ?_
   rintro _ i_2 ⟨rfl, L3_⟩
   refine T_fact (len_sl (T := (tSl tInt)) (.tmp 0) rfl) (fun hl3 => ?_)
   refine T_seq ?_
   refine sr ?_
   refine pv tb 2 rfl ?_
   refine Tp rfl rfl (pur_lenT (T := (tSl tInt)) sl28 rfl rfl) rfl ?_
   refine pv tb 1 rfl ?_
   refine TO_nil ?_
   refine T_cond (t := decide ((i_2 : Int) < (a0.length : Int))) rfl (fun d3 => ?_) (fun d3 => ?_)
   ·replace d3 := of_decide_eq_true d3
    obtain ⟨x_i_2, hx_i_2⟩ : ∃ v, (a0)[i_2]? = some v := ⟨_, List.getElem?_eq_getElem (by omega)⟩
    obtain ⟨C3_, H, K3_⟩ := forL_step L3_ hx_i_2
    rw [hb3] at H
    refine T_skip ?_
    refine T_seq ?_
    refine T_block ?_
    refine T_seq ?_
    refine T_regionD mixed (by kernel_rfl) ?_
    refine pq tb 2 rfl ?_
    refine TQ_pure rfl (pur_ixT (T := (tSl tInt)) sl28 rfl rfl rfl hx_i_2 rfl) rfl ?_
    refine TQ_pure rfl (pur_ldT (T := (tSl tInt)) (i := i_2) (off := 0) rfl one38 rfl rfl hx_i_2 rfl) rfl ?_
    obtain ⟨v_4, h_5, H⟩ := bind_inv H
    obtain ⟨n_6, hz_7, hv_8⟩ := getI_inv h_5
    refine pq tb 2 rfl ?_
    refine TQ_pure rfl (pur_ixT (T := (tSl tInt)) sl28 rfl rfl hz_7 hv_8 rfl) rfl ?_
    refine TQ_pure rfl (pur_ldT (T := (tSl tInt)) (i := n_6) (off := 0) rfl one38 rfl rfl hv_8 rfl) rfl ?_
    obtain ⟨r_9, h_10, H⟩ := bind_inv H
    refine TQ_callV rfl (call_static ent33 rfl) (m_laws_eqIntS_ok _ _ _ h_10) rfl rfl ?_
    refine pq tb 1 rfl ?_
    refine TQ_nil ?_
    refine T_cond (t := (!r_9)) rfl (fun c_11 => ?_) (fun c_11 => ?_)
    ·replace H := cond_t c_11 H
     refine sr ?_
     refine pv tb 1 rfl ?_
     refine TO_nil ?_
     refine te [(4, (boolA false))] rfl ?_
     refine T_ret ?_
     refine block_ret ?_
     refine then_ret ?_
     refine then_ret ?_
     refine block_ret ?_
     refine then_ret ?_
     obtain rfl := some_inj H
     obtain rfl := some_inj K3_
     replace H := onS_r N3_
     obtain rfl := some_inj H
     refine end_ret (.tmp .nil) rfl rfl ⟨?_, rfl⟩
     rfl
    ·replace H := cond_f c_11 H
     refine T_skip ?_
     refine T_region ?_
     refine pv tb 1 rfl ?_
     refine Tp rfl rfl (pur_add rfl rfl rfl (fits64 (by omega) (by omega))) rfl ?_
     refine pv tb 1 rfl ?_
     refine TO_nil ?_
     obtain rfl := some_inj H
     exact again (a0.length - (i_2 + 1)) (i_2 + 1) (by omega) (w0 0) ⟨rfl, K3_⟩
   ·replace d3 := of_decide_eq_false d3
    obtain rfl := forL_end L3_ (by omega)
    refine T_exit ?_
    refine then_exit ?_
    refine then_exit ?_
    refine block_exit ?_
    replace H := onS_l N3_
    refine sr ?_
    refine pv tb 1 rfl ?_
    refine TO_nil ?_
    refine T_ret ?_
    obtain rfl := some_inj H
    refine end_ret (.tmp .nil) rfl rfl ⟨?_, rfl⟩
    rfl

set_option maxHeartbeats 1000000 in
theorem m_laws_FnExactFormatRows_ok (u : Nat) (aRows0 : (List (List Int))) (r : Bool) (H : m_laws_FnExactFormatRows u aRows0 = some r) : FnV prg 4 [(sl (tSl tInt) aRows0)] (boolA r) := by
  unfold m_laws_FnExactFormatRows at H
  refine fnV_of_T Tryd.func4 rfl rfl (Nat.le_of_ble_eq_true rfl) ?_
  refine te [(0, (sl (tSl tInt) aRows0))] rfl ?_
  refine sr ?_
  refine pv tb 1 rfl ?_
  refine TO_nil ?_
  refine sr ?_
  refine pv tb 1 rfl ?_
  refine TO_nil ?_
  refine sr ?_
  obtain ⟨r_1, h_2, H⟩ := bind_inv H
  refine pv tb 2 rfl ?_
  refine TO_cons rfl (TOp_callV (call_static ent10 rfl) (m_laws_szIntSS_ok _ _ _ h_2) rfl rfl rfl ?_)
  refine pv tb 1 rfl ?_
  refine TO_nil ?_
  refine T_seq ?_
  refine sr ?_
  refine pv tb 2 rfl ?_
  refine TO_nil ?_
  refine T_cond (t := decide (r_1 < 0)) rfl (fun c_3 => ?_) (fun c_3 => ?_)
  ·replace H := cond_t c_3 H
   refine sr ?_
   refine pv tb 1 rfl ?_
   refine TO_nil ?_
   refine T_ret ?_
   refine then_ret ?_
   obtain rfl := some_inj H
   refine end_ret (.tmp .nil) rfl rfl ⟨?_, rfl⟩
   rfl
  ·replace H := cond_f c_3 H
   refine T_skip ?_
   refine sr ?_
   obtain ⟨r_4, h_5, H⟩ := bind_inv H
   refine pv tb 1 rfl ?_
   refine TO_cons rfl (TOp_callV (call_static ent12 rfl) (m_laws_toIntSS_ok _ _ h_5) rfl rfl rfl ?_)
   obtain ⟨r_6, h_7, H⟩ := bind_inv H
   refine TO_cons rfl (TOp_callV (call_static ent11 rfl) (m_spec_FormatRows_ok u _ _ h_7) rfl rfl rfl ?_)
   refine pv tb 1 rfl ?_
   refine TO_nil ?_
   refine sr ?_
   obtain ⟨r_8, h_9, H⟩ := bind_inv H
   refine pv tb 1 rfl ?_
   refine TO_cons rfl (TOp_callV (call_static ent12 rfl) (m_laws_toIntSS_ok _ _ h_9) rfl rfl rfl ?_)
   refine pv tb 1 rfl ?_
   refine TO_nil ?_
   refine sr ?_
   obtain ⟨r_10, h_11, H⟩ := bind_inv H
   refine pv tb 1 rfl ?_
   refine TO_cons rfl (TOp_callV (call_static ent13 rfl) (m_impl_FormatRows_ok _ _ h_11) rfl rfl rfl ?_)
   refine pv tb 1 rfl ?_
   refine TO_nil ?_
   refine T_seq ?_
   refine sr ?_
   refine pv tb 2 rfl ?_
   refine Tp rfl rfl (pur_neqS rfl rfl rfl) rfl ?_
   refine TO_nil ?_
   refine te [(0, (sl (tSl tInt) aRows0)), (5, (sl (tSl tInt) r_8)), (21, (boolA (decide (r_10 ≠ r_6))))] rfl ?_
   refine T_cond (t := decide (r_10 ≠ r_6)) rfl (fun c_12 => ?_) (fun c_12 => ?_)
   ·replace H := cond_t c_12 H
    refine sr ?_
    refine pv tb 1 rfl ?_
    refine TO_nil ?_
    refine T_ret ?_
    refine then_ret ?_
    obtain rfl := some_inj H
    refine end_ret (.tmp .nil) rfl rfl ⟨?_, rfl⟩
    rfl
   ·replace H := cond_f c_12 H
    refine T_skip ?_
    refine T_seq ?_
    refine sr ?_
    obtain ⟨r_13, h_14, H⟩ := bind_inv H
    refine pv tb 2 rfl ?_
    refine TO_cons rfl (TOp_callV (call_static ent12 rfl) (m_laws_toIntSS_ok _ _ h_14) rfl rfl rfl ?_)
    obtain ⟨r_15, h_16, H⟩ := bind_inv H
    refine TO_cons rfl (TOp_callV (call_static ent14 rfl) (m_laws_eqIntSS_ok _ _ _ h_16) rfl rfl rfl ?_)
    refine pv tb 1 rfl ?_
    refine TO_nil ?_
    refine T_cond (t := (!r_15)) rfl (fun c_17 => ?_) (fun c_17 => ?_)
    ·replace H := cond_t c_17 H
     refine sr ?_
     refine pv tb 1 rfl ?_
     refine TO_nil ?_
     refine T_ret ?_
     refine then_ret ?_
     obtain rfl := some_inj H
     refine end_ret (.tmp .nil) rfl rfl ⟨?_, rfl⟩
     rfl
    ·replace H := cond_f c_17 H
     refine T_skip ?_
     refine sr ?_
     refine pv tb 1 rfl ?_
     refine TO_nil ?_
     refine T_ret ?_
     obtain rfl := some_inj H
     refine end_ret (.tmp .nil) rfl rfl ⟨?_, rfl⟩
     rfl
end Go.Proofs.YtaadmoaanhdboaaDoor

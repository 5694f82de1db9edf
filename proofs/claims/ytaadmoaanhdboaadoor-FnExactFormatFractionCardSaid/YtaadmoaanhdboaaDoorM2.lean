import Derived.Test.YtaadmoaanhdboaaDoorM1
set_option linter.unusedVariables false
set_option linter.unusedSimpArgs false
set_option maxRecDepth 4000
namespace Go.Proofs.YtaadmoaanhdboaaDoor
open Go Go.Proofs Go.Sep
set_option maxHeartbeats 1000000 in
theorem m_spec_FormatInt_ok (u : Nat) (n0 : Int) (r : ByteArray) (H : m_spec_FormatInt u n0 = some r) : FnV prg 28 [(intA n0)] (strA r) := by
  unfold m_spec_FormatInt at H
  refine fnV_of_T Tryd.func28 rfl rfl (Nat.le_of_ble_eq_true rfl) ?_
  refine te [(0, (intA n0))] rfl ?_
  refine sr ?_
  refine pv tb 1 rfl ?_
  refine TO_nil ?_
  refine T_seq ?_
  refine sr ?_
  refine pv tb 2 rfl ?_
  refine TO_nil ?_
  refine T_cond (t := decide (n0 = 0)) rfl (fun c_1 => ?_) (fun c_1 => ?_)
  ·replace H := cond_t c_1 H
   refine sr ?_
   refine pv tb 1 rfl ?_
   refine TO_nil ?_
   refine T_ret ?_
   refine then_ret ?_
   obtain rfl := some_inj H
   refine end_ret (.tmp .nil) rfl rfl ⟨?_, rfl⟩
   rfl
  ·replace H := cond_f c_1 H
   refine T_skip ?_
   refine sr ?_
   refine pv tb 1 rfl ?_
   refine TO_nil ?_
   refine sr ?_
   refine pv tb 3 rfl ?_
   refine TO_nil ?_
   obtain ⟨O2_, L2_, N2_⟩ := bind_inv H
   clear H
   obtain ⟨B2_, hb2, L2_⟩ := gen_whileF L2_
   refine T_cutX (fun (x : Int × ByteArray) => O2_ = .inl x) (fun (⟨n0z, out3⟩ : Int × ByteArray) => [(3, (strA out3)), (4, (boolA (decide (n0 < 0))))]) (fun (⟨n0z, out3⟩ : Int × ByteArray) => []) ?_ ?_
   ·skip
    refine T_block ?_
    refine T_loopX (fun k => fun (⟨n0z, out3⟩ : Int × ByteArray) => whileF B2_ k (n0z, out3) = some O2_) (fun (⟨n0z, out3⟩ : Int × ByteArray) => [(0, (intA n0z)), (3, (strA out3)), (4, (boolA (decide (n0 < 0))))]) (fun (⟨n0z, out3⟩ : Int × ByteArray) => []) u (n0, (⟨#[]⟩ : ByteArray)) (w0 0) L2_ ?_
    rintro _ ⟨n0z, out3⟩ L2_
    obtain ⟨k2, rfl, C2_, H, K2_⟩ := while_step L2_
    rw [hb2] at H
    refine T_seq ?_
    refine sr ?_
    refine pv tb 2 rfl ?_
    refine TO_nil ?_
    refine T_cond (t := decide (n0z ≠ 0)) rfl (fun c_3 => ?_) (fun c_3 => ?_)
    ·replace H := cond_t c_3 H
     refine T_skip ?_
     refine T_block ?_
     refine sr ?_
     refine pv tb 1 rfl ?_
     refine Tp rfl rfl (pur_rem rfl rfl rfl (by decide)) rfl ?_
     refine pv tb 1 rfl ?_
     refine TO_nil ?_
     refine T_seq ?_
     refine sr ?_
     refine pv tb 2 rfl ?_
     refine TO_nil ?_
     refine T_cond (t := decide ((n0z.tmod 10) < 0)) rfl (fun c_4 => ?_) (fun c_4 => ?_)
     ·replace H := cond_t c_4 H
      refine T_region ?_
      refine pv tb 1 rfl ?_
      refine Tp rfl rfl (pur_wneg rfl rfl) rfl ?_
      refine pv tb 1 rfl ?_
      refine TO_nil ?_
      refine sr ?_
      refine pv tb 2 rfl ?_
      refine Tp rfl rfl (pur_convI (k := .u8) (k' := .i64) ⟨_, Tryd.underlying3⟩ Tryd.underlying5 rfl rfl) rfl ?_
      refine TO_cons rfl (TOp_lit (nn := 1) (k := 1) sl85 zero5 rfl rfl rfl rfl (by decide) ?_)
      refine TO_st (σ' := [.row (flat (tI .u8).enc ([(IntKind.wrap .u8 (w64 (48 + (w64 (-(n0z.tmod 10))))))] : (List Int)))]) rfl ?_
      refine Tp rfl rfl (pur_strM (zs := ([(IntKind.wrap .u8 (w64 (48 + (w64 (-(n0z.tmod 10))))))] : (List Int))) Tryd.underlying85 Tryd.underlying5 Tryd.underlying9 rfl rfl rfl) rfl ?_
      obtain ⟨cat_5, h_6, H⟩ := bind_inv H
      refine pv tb 1 rfl ?_
      refine Tp rfl rfl (pur_cat rfl rfl rfl h_6) rfl ?_
      refine pv tb 1 rfl ?_
      refine TO_nil ?_
      refine te [(0, (intA n0z)), (3, (strA cat_5)), (4, (boolA (decide (n0 < 0))))] rfl ?_
      refine T_region ?_
      refine pv tb 1 rfl ?_
      refine Tp rfl rfl (pur_wquo rfl rfl rfl (by decide)) rfl ?_
      refine pv tb 1 rfl ?_
      refine TO_nil ?_
      obtain rfl := some_inj H
      exact again k2 ((w64 (n0z.tdiv 10)), cat_5) (Nat.lt_succ_self _) (w0 0) K2_
     ·replace H := cond_f c_4 H
      refine T_skip ?_
      refine sr ?_
      refine pv tb 2 rfl ?_
      refine Tp rfl rfl (pur_convI (k := .u8) (k' := .i64) ⟨_, Tryd.underlying3⟩ Tryd.underlying5 rfl rfl) rfl ?_
      refine TO_cons rfl (TOp_lit (nn := 1) (k := 1) sl85 zero5 rfl rfl rfl rfl (by decide) ?_)
      refine TO_st (σ' := [.row (flat (tI .u8).enc ([(IntKind.wrap .u8 (w64 (48 + (n0z.tmod 10))))] : (List Int)))]) rfl ?_
      refine Tp rfl rfl (pur_strM (zs := ([(IntKind.wrap .u8 (w64 (48 + (n0z.tmod 10))))] : (List Int))) Tryd.underlying85 Tryd.underlying5 Tryd.underlying9 rfl rfl rfl) rfl ?_
      obtain ⟨cat_7, h_8, H⟩ := bind_inv H
      refine pv tb 1 rfl ?_
      refine Tp rfl rfl (pur_cat rfl rfl rfl h_8) rfl ?_
      refine pv tb 1 rfl ?_
      refine TO_nil ?_
      refine T_region ?_
      refine pv tb 1 rfl ?_
      refine Tp rfl rfl (pur_wquo rfl rfl rfl (by decide)) rfl ?_
      refine pv tb 1 rfl ?_
      refine TO_nil ?_
      obtain rfl := some_inj H
      exact again k2 ((w64 (n0z.tdiv 10)), cat_7) (Nat.lt_succ_self _) (w0 0) K2_
    ·replace H := cond_f c_3 H
     refine T_exit ?_
     refine then_exit ?_
     refine then_exit ?_
     refine block_exit ?_
     obtain rfl := some_inj H
     obtain rfl := some_inj K2_
     exact joined (n0z, out3) (w0 0) rfl
   ·rintro ⟨n0z, out3⟩ rfl
    replace H := onS_l N2_
    refine T_seq ?_
    refine sr ?_
    refine pv tb 1 rfl ?_
    refine TO_nil ?_
    refine T_cond (t := decide (n0 < 0)) rfl (fun c_9 => ?_) (fun c_9 => ?_)
    ·replace H := cond_t c_9 H
     refine sr ?_
     obtain ⟨cat_10, h_11, H⟩ := bind_inv H
     refine pv tb 1 rfl ?_
     refine Tp rfl rfl (pur_cat rfl rfl rfl h_11) rfl ?_
     refine pv tb 1 rfl ?_
     refine TO_nil ?_
     refine T_ret ?_
     refine then_ret ?_
     obtain rfl := some_inj H
     refine end_ret (.tmp .nil) rfl rfl ⟨?_, rfl⟩
     rfl
    ·replace H := cond_f c_9 H
     refine T_skip ?_
     refine sr ?_
     refine pv tb 2 rfl ?_
     refine TO_nil ?_
     refine T_ret ?_
     obtain rfl := some_inj H
     refine end_ret (.tmp .nil) rfl rfl ⟨?_, rfl⟩
     rfl

set_option maxHeartbeats 1000000 in
theorem m_spec_FormatFraction_ok (u : Nat) (s0 : Fraction) (r : ByteArray) (H : m_spec_FormatFraction u s0 = some r) : FnV prg 7 [(.g (tFraction.enc s0))] (strA r) := by
  unfold m_spec_FormatFraction at H
  refine fnV_of_T Tryd.func7 rfl rfl (Nat.le_of_ble_eq_true rfl) ?_
  refine te [(0, (.g (tFraction.enc s0)))] rfl ?_
  refine sr ?_
  refine TO_cons rfl (TOp_box rfl (boxAll rfl) rfl rfl ?_)
  refine pv tb 1 rfl ?_
  refine TO_nil ?_
  refine T_seq ?_
  refine T_regionD mixed (by kernel_rfl) ?_
  obtain ⟨r_1, h_2, H⟩ := bind_inv H
  refine pq tb 2 rfl ?_
  refine TQ_callV rfl (call_static ent28 rfl) (m_spec_FormatInt_ok u _ _ h_2) rfl rfl ?_
  obtain ⟨cat_3, h_4, H⟩ := bind_inv H
  refine TQ_pure rfl (pur_cat rfl rfl rfl h_4) rfl ?_
  obtain ⟨r_5, h_6, H⟩ := bind_inv H
  refine pq tb 2 rfl ?_
  refine TQ_callV rfl (call_static ent28 rfl) (m_spec_FormatInt_ok u _ _ h_6) rfl rfl ?_
  obtain ⟨cat_7, h_8, H⟩ := bind_inv H
  refine TQ_pure rfl (pur_cat rfl rfl rfl h_8) rfl ?_
  refine pq tb 1 rfl ?_
  refine TQ_nil ?_
  refine T_ret ?_
  obtain rfl := some_inj H
  refine end_ret (.tmp .nil) rfl rfl ⟨?_, rfl⟩
  rfl

set_option maxHeartbeats 1000000 in
theorem m_laws_toFraction_ok (a0 : Fraction) (r : Fraction) (H : m_laws_toFraction a0 = some r) : FnV prg 8 [(.g (tFraction.enc a0))] (.g (tFraction.enc r)) := by
  unfold m_laws_toFraction at H
  refine fnV_of_T Tryd.func8 rfl rfl (Nat.le_of_ble_eq_true rfl) ?_
  refine te [(0, (.g (tFraction.enc a0)))] rfl ?_
  refine sr ?_
  refine TO_cons rfl (TOp_box rfl (boxAll rfl) rfl rfl ?_)
  refine TO_cons rfl (TOp_alloc zero25 rfl rfl ?_)
  refine TO_nil ?_
  refine sr ?_
  refine TO_cons rfl (TOp_alloc zero25 rfl rfl ?_)
  refine TO_nil ?_
  refine sr ?_
  refine pv tb 3 rfl ?_
  refine TO_cons rfl (TOp_storeB sz3 rfl rfl rfl rfl rfl rfl rfl (by decide) (lb rfl) rfl ?_)
  refine TO_st (σ' := [.box [(intA a0.numerator), (intA a0.denominator)], .box [(intA 0), (intA 0)], .box [(intA a0.numerator), (intA 0)]]) rfl ?_
  refine TO_nil ?_
  refine sr ?_
  refine pv tb 3 rfl ?_
  refine TO_cons rfl (TOp_storeB sz3 rfl rfl rfl rfl rfl rfl rfl (by decide) (lb rfl) rfl ?_)
  refine TO_st (σ' := [.box [(intA a0.numerator), (intA a0.denominator)], .box [(intA 0), (intA 0)], .box [(intA a0.numerator), (intA a0.denominator)]]) rfl ?_
  refine TO_nil ?_
  refine sr ?_
  refine pv tb 1 rfl ?_
  refine TO_cons rfl (TOp_storeB sz25 rfl rfl rfl rfl rfl rfl rfl (by decide) (lb rfl) rfl ?_)
  refine TO_st (σ' := [.box [(intA a0.numerator), (intA a0.denominator)], .box [(intA a0.numerator), (intA a0.denominator)], .box [(intA a0.numerator), (intA a0.denominator)]]) rfl ?_
  refine TO_nil ?_
  refine T_ret ?_
  obtain rfl := some_inj H
  refine end_ret (.cellK rfl agg25 rfl (lb rfl) .nil) rfl rfl ⟨?_, rfl⟩
  rfl

theorem m_strconv_Itoa_ok (v0 : Int) (r : ByteArray) (H : m_strconv_Itoa v0 = some r) : FnV prg 53 [intA v0] (strA r) := by
  unfold m_strconv_Itoa at H
  split at H
  case isFalse => cases H
  rename_i h0
  cases H
  refine FnV.ofCalls [.int .i64 v0] fun w hw => ?_
  obtain ⟨te, fr, hg⟩ := hw _ (List.mem_singleton.2 rfl)
  have ht : Go.Lib.TabIs prg w "internal/strconv.uint64pow10" .u64 Go.Lib.pow10Tab := by
   unfold Go.Lib.TabIs World.var?
   rw [show prg.globalNamed "internal/strconv.uint64pow10" = some 1 by kernel_rfl]
   simp only [Option.bind_some, hg]
  refine Calls.mono (Any.strconv_Itoa shl171 v0 h0.1 h0.2 w ht) fun e w' h => ?_
  obtain ⟨h1, k, os, rfl⟩ := h
  exact ⟨h1, below_grown w k os⟩


set_option maxHeartbeats 1000000 in
theorem m_impl_FormatInt_ok (n0 : Int) (r : ByteArray) (H : m_impl_FormatInt n0 = some r) : FnV prg 29 [(intA n0)] (strA r) := by
  unfold m_impl_FormatInt at H
  refine fnV_of_T Tryd.func29 rfl rfl (Nat.le_of_ble_eq_true rfl) ?_
  refine te [(0, (intA n0))] rfl ?_
  refine sr ?_
  refine pv tb 1 rfl ?_
  refine TO_nil ?_
  refine sr ?_
  obtain ⟨r_1, h_2, H⟩ := bind_inv H
  refine pv tb 1 rfl ?_
  refine TO_cons rfl (TOp_callV (call_static ent53 rfl) (m_strconv_Itoa_ok _ _ h_2) rfl rfl rfl ?_)
  refine pv tb 1 rfl ?_
  refine TO_nil ?_
  refine T_ret ?_
  obtain rfl := some_inj H
  refine end_ret (.tmp .nil) rfl rfl ⟨?_, rfl⟩
  rfl

set_option maxHeartbeats 1000000 in
theorem m_impl_FormatFraction_ok (fraction0 : Fraction) (r : ByteArray) (H : m_impl_FormatFraction fraction0 = some r) : FnV prg 9 [(.g (tFraction.enc fraction0))] (strA r) := by
  unfold m_impl_FormatFraction at H
  refine fnV_of_T Tryd.func9 rfl rfl (Nat.le_of_ble_eq_true rfl) ?_
  refine te [(0, (.g (tFraction.enc fraction0)))] rfl ?_
  refine sr ?_
  refine TO_cons rfl (TOp_box rfl (boxAll rfl) rfl rfl ?_)
  refine pv tb 1 rfl ?_
  refine TO_nil ?_
  refine T_seq ?_
  refine T_regionD mixed (by kernel_rfl) ?_
  obtain ⟨r_1, h_2, H⟩ := bind_inv H
  refine pq tb 2 rfl ?_
  refine TQ_callV rfl (call_static ent29 rfl) (m_impl_FormatInt_ok _ _ h_2) rfl rfl ?_
  obtain ⟨cat_3, h_4, H⟩ := bind_inv H
  refine TQ_pure rfl (pur_cat rfl rfl rfl h_4) rfl ?_
  obtain ⟨r_5, h_6, H⟩ := bind_inv H
  refine pq tb 2 rfl ?_
  refine TQ_callV rfl (call_static ent29 rfl) (m_impl_FormatInt_ok _ _ h_6) rfl rfl ?_
  obtain ⟨cat_7, h_8, H⟩ := bind_inv H
  refine TQ_pure rfl (pur_cat rfl rfl rfl h_8) rfl ?_
  refine pq tb 1 rfl ?_
  refine TQ_nil ?_
  refine T_ret ?_
  obtain rfl := some_inj H
  refine end_ret (.tmp .nil) rfl rfl ⟨?_, rfl⟩
  rfl

set_option maxHeartbeats 1000000 in
theorem m_laws_FnExactFormatFraction_ok (u : Nat) (aFraction0 : Fraction) (r : Bool) (H : m_laws_FnExactFormatFraction u aFraction0 = some r) : FnV prg 3 [(.g (tFraction.enc aFraction0))] (boolA r) := by
  unfold m_laws_FnExactFormatFraction at H
  refine fnV_of_T Tryd.func3 rfl rfl (Nat.le_of_ble_eq_true rfl) ?_
  refine te [(0, (.g (tFraction.enc aFraction0)))] rfl ?_
  refine sr ?_
  refine TO_cons rfl (TOp_box rfl (boxAll rfl) rfl rfl ?_)
  refine pv tb 1 rfl ?_
  refine TO_nil ?_
  refine sr ?_
  obtain ⟨r_1, h_2, H⟩ := bind_inv H
  refine pv tb 1 rfl ?_
  refine TO_cons rfl (TOp_callV (call_static ent8 rfl) (m_laws_toFraction_ok _ _ h_2) rfl rfl rfl ?_)
  obtain ⟨r_3, h_4, H⟩ := bind_inv H
  refine TO_cons rfl (TOp_callV (call_static ent7 rfl) (m_spec_FormatFraction_ok u _ _ h_4) rfl rfl rfl ?_)
  refine pv tb 1 rfl ?_
  refine TO_nil ?_
  refine sr ?_
  obtain ⟨r_5, h_6, H⟩ := bind_inv H
  refine pv tb 1 rfl ?_
  refine TO_cons rfl (TOp_callV (call_static ent8 rfl) (m_laws_toFraction_ok _ _ h_6) rfl rfl rfl ?_)
  obtain ⟨r_7, h_8, H⟩ := bind_inv H
  refine TO_cons rfl (TOp_callV (call_static ent9 rfl) (m_impl_FormatFraction_ok _ _ h_8) rfl rfl rfl ?_)
  refine pv tb 1 rfl ?_
  refine TO_nil ?_
  refine T_seq ?_
  refine sr ?_
  refine pv tb 2 rfl ?_
  refine Tp rfl rfl (pur_neqS rfl rfl rfl) rfl ?_
  refine TO_nil ?_
  refine T_cond (t := decide (r_7 ≠ r_3)) rfl (fun c_9 => ?_) (fun c_9 => ?_)
  ·replace H := cond_t c_9 H
   refine sr ?_
   refine pv tb 1 rfl ?_
   refine TO_nil ?_
   refine T_ret ?_
   refine then_ret ?_
   obtain rfl := some_inj H
   refine end_ret (.tmp .nil) rfl rfl ⟨?_, rfl⟩
   rfl
  ·replace H := cond_f c_9 H
   refine T_skip ?_
   refine sr ?_
   refine pv tb 1 rfl ?_
   refine TO_nil ?_
   refine T_ret ?_
   obtain rfl := some_inj H
   refine end_ret (.tmp .nil) rfl rfl ⟨?_, rfl⟩
   rfl
end Go.Proofs.YtaadmoaanhdboaaDoor

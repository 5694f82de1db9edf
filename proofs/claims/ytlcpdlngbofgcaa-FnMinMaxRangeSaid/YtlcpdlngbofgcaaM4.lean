/- Walks. -/
import Derived.Test.YtlcpdlngbofgcaaM1
import Derived.Test.YtlcpdlngbofgcaaM3
set_option linter.unusedVariables false
set_option linter.unusedSimpArgs false
set_option maxRecDepth 4000
namespace Go.Proofs.Ytlcpdlngbofgcaa
open Go Go.Proofs Go.Sep
set_option maxHeartbeats 1000000 in
/-- impl.isColumn -/
theorem m_impl_isColumn_ok (db0 : Database) (relation1 : Int) (column2 : Int) (r : Bool) (H : m_impl_isColumn db0 relation1 column2 = some r) : FnV prg 55 [(.g (tDatabase.enc db0)), (intA relation1), (intA column2)] (boolA r) := by
  unfold m_impl_isColumn at H
  refine fnV_of_T Try.func55 rfl rfl (Nat.le_of_ble_eq_true rfl) ?_
  refine te [(0, (.g (tDatabase.enc db0))), (1, (intA relation1)), (2, (intA column2))] rfl ?_
  refine sr ?_
  refine TO_cons rfl (TOp_box rfl (boxAll rfl) rfl rfl ?_)
  refine Tp rfl rfl (pur_assign rfl) rfl ?_
  refine TO_nil ?_
  refine te [(1, (intA relation1)), (2, (intA column2)), (3, (.b 0 0))] rfl ?_
  obtain ⟨t6_1, J_1, H_2⟩ := bind_inv H
  refine T_cutX (fun x => t6_1 = x) (fun (t6_1 : Bool) => [(6, (boolA t6_1))]) (fun (t6_1 : Bool) => []) ?_ ?_
  ·replace H := J_1
   refine T_region ?_
   refine Tp rfl rfl (pur_ldK_b agg32 rfl rfl (lb rfl) rfl) rfl ?_
   obtain ⟨r_3, h_4, H⟩ := bind_inv H
   refine TO_cons rfl (TOp_callV (call_static ent89 rfl) (m_impl_IsValidDatabase_ok _ _ h_4) rfl rfl rfl ?_)
   refine Tp rfl rfl (pur_move rfl) rfl ?_
   refine TO_split (t := r_3) 9 rfl (fun g_5 => ?_) (fun g_5 => ?_)
   ·replace H := cond_t g_5 H
    refine TO_on rfl rfl (by decide) rfl rfl (TOp_pure (pur_move rfl) rfl ?_)
    refine TO_on rfl rfl (by decide) rfl rfl (TOp_pure (pur_fa_b fld32_0 rfl rfl) rfl ?_)
    refine TO_on rfl rfl (by decide) rfl rfl (TOp_pure (pur_ld_b one29 rfl rfl rfl rfl) rfl ?_)
    refine TO_on rfl rfl (by decide) rfl rfl (TOp_pure (pur_lenT (T := tRelation) sl29 rfl rfl) rfl ?_)
    refine TO_fact (len_sl (T := tRelation) (.tmp 12) rfl) (fun hl_6 => ?_)
    refine TO_on rfl rfl (by decide) rfl rfl (TOp_pure (pur_sub rfl rfl rfl (fits64 (by omega) (by omega))) rfl ?_)
    obtain ⟨r_7, h_8, H⟩ := bind_inv H
    refine TO_on rfl rfl (by decide) rfl rfl (TOp_callV (call_static ent90 rfl) (m_impl_within_ok _ _ _ _ h_8) rfl rfl rfl ?_)
    refine Tp rfl rfl (pur_pick (t := true) rfl rfl rfl) rfl ?_
    refine Tp rfl rfl (pur_move rfl) rfl ?_
    refine toe [(1, (intA relation1)), (2, (intA column2)), (3, (.b 0 0)), (17, (boolA r_7))] rfl ?_
    refine TO_split (t := r_7) 17 rfl (fun g_9 => ?_) (fun g_9 => ?_)
    ·replace H := cond_t g_9 H
     refine TO_on rfl rfl (by decide) rfl rfl (TOp_pure (pur_move rfl) rfl ?_)
     refine TO_on rfl rfl (by decide) rfl rfl (TOp_pure (pur_fa_b fld32_0 rfl rfl) rfl ?_)
     refine TO_on rfl rfl (by decide) rfl rfl (TOp_pure (pur_ld_b one29 rfl rfl rfl rfl) rfl ?_)
     refine TO_on rfl rfl (by decide) rfl rfl (TOp_pure (pur_move rfl) rfl ?_)
     obtain ⟨v_10, h_11, H⟩ := bind_inv H
     obtain ⟨n_12, hz_13, hv_14⟩ := getI_inv h_11
     refine TO_on rfl rfl (by decide) rfl rfl (TOp_pure (pur_ixT (T := tRelation) sl29 rfl rfl hz_13 hv_14 rfl) rfl ?_)
     refine TO_on rfl rfl (by decide) rfl rfl (TOp_pure (pur_fa_q fld97_1 rfl rfl) rfl ?_)
     refine TO_on rfl rfl (by decide) rfl rfl (TOp_pure (pur_ldT (T := tRelation) (i := n_12) (off := 1) rfl one3 rfl rfl hv_14 rfl) rfl ?_)
     refine TO_on rfl rfl (by decide) rfl rfl (TOp_pure (pur_wsub rfl rfl rfl) rfl ?_)
     refine toe [(17, (boolA true)), (18, (intA column2)), (25, (intA (w64 (v_10.arity - 1))))] rfl ?_
     obtain ⟨r_15, h_16, H⟩ := bind_inv H
     refine TO_on rfl rfl (by decide) rfl rfl (TOp_callV (call_static ent90 rfl) (m_impl_within_ok _ _ _ _ h_16) rfl rfl rfl ?_)
     refine Tp rfl rfl (pur_pick (t := true) rfl rfl rfl) rfl ?_
     refine Tp rfl rfl (pur_assign rfl) rfl ?_
     refine TO_nil ?_
     exact joined r_15 (wp 0 (lb rfl) rfl rfl rfl rfl rfl) (some_inj H).symm
    ·replace H := cond_f g_9 H
     refine TO_off rfl rfl (by decide) rfl rfl rfl ?_
     refine TO_off rfl rfl (by decide) rfl rfl rfl ?_
     refine TO_off rfl rfl (by decide) rfl rfl rfl ?_
     refine TO_off rfl rfl (by decide) rfl rfl rfl ?_
     refine TO_off rfl rfl (by decide) rfl rfl rfl ?_
     refine TO_off rfl rfl (by decide) rfl rfl rfl ?_
     refine TO_off rfl rfl (by decide) rfl rfl rfl ?_
     refine TO_off rfl rfl (by decide) rfl rfl rfl ?_
     refine toe [(17, (boolA false)), (18, (.v undef)), (25, (.v undef))] rfl ?_
     refine TO_off rfl rfl (by decide) rfl rfl rfl ?_
     refine Tp rfl rfl (pur_pick (t := false) rfl rfl rfl) rfl ?_
     refine Tp rfl rfl (pur_assign rfl) rfl ?_
     refine TO_nil ?_
     exact joined false (wp 0 (lb rfl) rfl rfl rfl rfl rfl) (some_inj H).symm
   ·replace H := cond_f g_5 H
    refine TO_off rfl rfl (by decide) rfl rfl rfl ?_
    refine TO_off rfl rfl (by decide) rfl rfl rfl ?_
    refine TO_off rfl rfl (by decide) rfl rfl rfl ?_
    refine TO_off rfl rfl (by decide) rfl rfl rfl ?_
    refine TO_off rfl rfl (by decide) rfl rfl rfl ?_
    refine TO_off rfl rfl (by decide) rfl rfl rfl ?_
    refine Tp rfl rfl (pur_pick (t := false) rfl rfl rfl) rfl ?_
    refine Tp rfl rfl (pur_move rfl) rfl ?_
    refine toe [(1, (intA relation1)), (2, (intA column2)), (3, (.b 0 0)), (17, (boolA false))] rfl ?_
    refine TO_off rfl rfl (by decide) rfl rfl rfl ?_
    refine TO_off rfl rfl (by decide) rfl rfl rfl ?_
    refine TO_off rfl rfl (by decide) rfl rfl rfl ?_
    refine TO_off rfl rfl (by decide) rfl rfl rfl ?_
    refine TO_off rfl rfl (by decide) rfl rfl rfl ?_
    refine TO_off rfl rfl (by decide) rfl rfl rfl ?_
    refine TO_off rfl rfl (by decide) rfl rfl rfl ?_
    refine TO_off rfl rfl (by decide) rfl rfl rfl ?_
    refine toe [(17, (boolA false)), (18, (.v undef)), (25, (.v undef))] rfl ?_
    refine TO_off rfl rfl (by decide) rfl rfl rfl ?_
    refine Tp rfl rfl (pur_pick (t := false) rfl rfl rfl) rfl ?_
    refine Tp rfl rfl (pur_assign rfl) rfl ?_
    refine TO_nil ?_
    exact joined false (wp 0 (lb rfl) rfl rfl rfl rfl rfl) (some_inj H).symm
  ·rintro _ rfl
   replace H := H_2
   refine te [(6, (boolA t6_1))] rfl ?_
   refine T_ret ?_
   obtain rfl := some_inj H
   refine end_ret (.tmp .nil) rfl rfl ⟨?_, rfl⟩
   rfl

set_option maxHeartbeats 1000000 in
/-- impl.Fact] -/
theorem m_slices_IndexFunc_Simpl_Fact_impl_Fact_ok (s0 : (List Fact)) (f1 : (Fact → Option Bool)) (f1_g : Nat) (f1_c : List A) (f1_E : EnT prg f1_g) (f1_l : looseL f1_c = true) (f1_m : firmL f1_c = true ∧ fzL f1_c = f1_c) (f1_H : ∀ (x0 : Fact) r, f1 x0 = some r → FnV prg f1_g ([(.g (tFact.enc x0))] ++ f1_c) (boolA r)) (r : Int) (H : m_slices_IndexFunc_Simpl_Fact_impl_Fact s0 f1 = some r) : FnV prg 116 [(sl tFact s0), (.f f1_g f1_c)] (intA r) := by
  unfold m_slices_IndexFunc_Simpl_Fact_impl_Fact at H
  refine fnV_of_T Try.func116 rfl rfl (Nat.le_of_ble_eq_true rfl) ?_
  refine te [(0, (sl tFact s0)), (1, (.f f1_g f1_c))] rfl ?_
  refine sr ?_
  refine Tp rfl rfl (pur_assign rfl) rfl ?_
  refine TO_nil ?_
  refine te [(0, (sl tFact s0)), (1, (.f f1_g f1_c))] rfl ?_
  refine T_seq ?_
  refine sr ?_
  refine Tp rfl rfl (pur_move rfl) rfl ?_
  refine Tp rfl rfl (pur_lenT (T := tFact) sl30 rfl rfl) rfl ?_
  refine Tp rfl rfl (pur_move rfl) rfl ?_
  refine TO_nil ?_
  refine te [(0, (sl tFact s0)), (1, (.f f1_g f1_c)), (7, (intA (s0.length : Int))), (8, (intA 0))] rfl ?_
  obtain ⟨O2_, L2_, N2_⟩ := bind_inv H
  clear H
  obtain ⟨B2_, hb2, L2_⟩ := gen_forL L2_
  refine T_block ?_
  refine T_loopX (fun k => fun (t_1 : Nat) => k = s0.length - t_1 ∧ forL B2_ (s0.drop t_1) (t_1 : Int) () = some O2_) (fun (t_1 : Nat) => [(0, (sl tFact s0)), (1, (.f f1_g f1_c)), (7, (intA (s0.length : Int))), (8, (intA (t_1 : Int)))]) (fun (t_1 : Nat) => []) _ (0 : Nat) (wp 0 (lb rfl) rfl rfl (by simp only [namesE, A.names, namesL_enc, Bool.false_or, Bool.or_false, looseL_names f1_l]) rfl rfl) ⟨rfl, L2_⟩ ?_
  rintro _ t_1 ⟨rfl, L2_⟩
  refine te [(0, (sl tFact s0)), (1, (.f f1_g f1_c)), (7, (intA (s0.length : Int))), (8, (intA (t_1 : Int)))] rfl ?_
  refine T_st (σ' := []) rfl ?_
  refine T_fact (len_sl (T := tFact) (.tmp 0) rfl) (fun hl2 => ?_)
  refine sr ?_
  refine Tp rfl rfl (pur_lss rfl rfl rfl) rfl ?_
  refine TO_nil ?_
  refine te [(0, (sl tFact s0)), (1, (.f f1_g f1_c)), (7, (intA (s0.length : Int))), (8, (intA (t_1 : Int))), (9, (boolA (decide ((t_1 : Int) < (s0.length : Int)))))] rfl ?_
  refine T_seq ?_
  refine T_cond (t := decide ((t_1 : Int) < (s0.length : Int))) rfl (fun d2 => ?_) (fun d2 => ?_)
  ·replace d2 := of_decide_eq_true d2
   obtain ⟨x_t_1, hx_t_1⟩ : ∃ v, (s0)[t_1]? = some v := ⟨_, List.getElem?_eq_getElem (by omega)⟩
   obtain ⟨C2_, H, K2_⟩ := forL_step L2_ hx_t_1
   rw [hb2] at H
   refine T_skip ?_
   refine te [(0, (sl tFact s0)), (1, (.f f1_g f1_c)), (7, (intA (s0.length : Int))), (8, (intA (t_1 : Int)))] rfl ?_
   refine T_seq ?_
   refine T_block ?_
   refine sr ?_
   refine Tp rfl rfl (pur_move rfl) rfl ?_
   refine Tp rfl rfl (pur_assign rfl) rfl ?_
   refine TO_nil ?_
   refine te [(0, (sl tFact s0)), (1, (.f f1_g f1_c)), (5, (intA (t_1 : Int))), (7, (intA (s0.length : Int))), (8, (intA (t_1 : Int)))] rfl ?_
   refine sr ?_
   refine Tp rfl rfl (pur_move rfl) rfl ?_
   refine Tp rfl rfl (pur_move rfl) rfl ?_
   refine Tp rfl rfl (pur_move rfl) rfl ?_
   refine Tp rfl rfl (pur_ixT (T := tFact) sl30 rfl rfl rfl hx_t_1 rfl) rfl ?_
   refine Tp rfl rfl (pur_ldTK (T := tFact) (i := t_1) (off := 0) rfl agg60 rfl rfl hx_t_1 (by decide) rfl) rfl ?_
   obtain ⟨r_3, h_4, H⟩ := bind_inv H
   refine TO_cons rfl (TOp_callV (call_closure f1_E rfl rfl) (f1_H _  _ h_4) (looseL_app rfl f1_l) rfl rfl ?_)
   refine TO_nil ?_
   refine te [(0, (sl tFact s0)), (1, (.f f1_g f1_c)), (5, (intA (t_1 : Int))), (7, (intA (s0.length : Int))), (8, (intA (t_1 : Int))), (16, (boolA r_3))] rfl ?_
   refine T_cond (t := r_3) rfl (fun c_5 => ?_) (fun c_5 => ?_)
   ·replace H := cond_t c_5 H
    refine sr ?_
    refine Tp rfl rfl (pur_move rfl) rfl ?_
    refine Tp rfl rfl (pur_assign rfl) rfl ?_
    refine TO_nil ?_
    refine te [(4, (intA (t_1 : Int)))] rfl ?_
    refine T_ret ?_
    refine block_ret ?_
    refine then_ret ?_
    refine then_ret ?_
    refine block_ret ?_
    refine then_ret ?_
    obtain rfl := some_inj H
    obtain rfl := some_inj K2_
    replace H := onS_r N2_
    obtain rfl := some_inj H
    refine end_ret (.tmp .nil) rfl rfl ⟨?_, rfl⟩
    rfl
   ·replace H := cond_f c_5 H
    refine T_skip ?_
    refine te [(0, (sl tFact s0)), (1, (.f f1_g f1_c)), (7, (intA (s0.length : Int))), (8, (intA (t_1 : Int)))] rfl ?_
    refine T_region ?_
    refine Tp rfl rfl (pur_add rfl rfl rfl (fits64 (by omega) (by omega))) rfl ?_
    refine Tp rfl rfl (pur_move rfl) rfl ?_
    refine TO_nil ?_
    obtain rfl := some_inj H
    exact again (s0.length - (t_1 + 1)) (t_1 + 1) (by omega) (wp 0 (lb rfl) rfl rfl (by simp only [namesE, A.names, namesL_enc, Bool.false_or, Bool.or_false, looseL_names f1_l]) rfl rfl) ⟨rfl, K2_⟩
  ·replace d2 := of_decide_eq_false d2
   obtain rfl := forL_end L2_ (by omega)
   refine T_exit ?_
   refine then_exit ?_
   refine then_exit ?_
   refine block_exit ?_
   replace H := onS_l N2_
   refine te [] rfl ?_
   refine sr ?_
   refine Tp rfl rfl (pur_assign rfl) rfl ?_
   refine TO_nil ?_
   refine te [(4, (intA (-1)))] rfl ?_
   refine T_ret ?_
   obtain rfl := some_inj H
   refine end_ret (.tmp .nil) rfl rfl ⟨?_, rfl⟩
   rfl

set_option maxHeartbeats 1000000 in
/-- impl.Fact] -/
theorem m_slices_ContainsFunc_Simpl_Fact_impl_Fact_ok (s0 : (List Fact)) (f1 : (Fact → Option Bool)) (f1_g : Nat) (f1_c : List A) (f1_E : EnT prg f1_g) (f1_l : looseL f1_c = true) (f1_m : firmL f1_c = true ∧ fzL f1_c = f1_c) (f1_H : ∀ (x0 : Fact) r, f1 x0 = some r → FnV prg f1_g ([(.g (tFact.enc x0))] ++ f1_c) (boolA r)) (r : Bool) (H : m_slices_ContainsFunc_Simpl_Fact_impl_Fact s0 f1 = some r) : FnV prg 97 [(sl tFact s0), (.f f1_g f1_c)] (boolA r) := by
  unfold m_slices_ContainsFunc_Simpl_Fact_impl_Fact at H
  refine fnV_of_T Try.func97 rfl rfl (Nat.le_of_ble_eq_true rfl) ?_
  refine te [(0, (sl tFact s0)), (1, (.f f1_g f1_c))] rfl ?_
  refine sr ?_
  refine Tp rfl rfl (pur_assign rfl) rfl ?_
  refine TO_nil ?_
  refine te [(0, (sl tFact s0)), (1, (.f f1_g f1_c))] rfl ?_
  refine sr ?_
  refine Tp rfl rfl (pur_move rfl) rfl ?_
  refine Tp rfl rfl (pur_move rfl) rfl ?_
  obtain ⟨r_1, h_2, H⟩ := bind_inv H
  refine TO_cons rfl (TOp_callV (call_static ent116 rfl) (m_slices_IndexFunc_Simpl_Fact_impl_Fact_ok _ f1 f1_g f1_c f1_E f1_l f1_m f1_H _ h_2) (looseC rfl (looseC f1_l rfl)) rfl rfl ?_)
  refine Tp rfl rfl (pur_geq rfl rfl rfl) rfl ?_
  refine Tp rfl rfl (pur_assign rfl) rfl ?_
  refine TO_nil ?_
  refine te [(4, (boolA (decide (0 ≤ r_1))))] rfl ?_
  refine T_ret ?_
  obtain rfl := some_inj H
  refine end_ret (.tmp .nil) rfl rfl ⟨?_, rfl⟩
  rfl

set_option maxHeartbeats 1000000 in
/-- impl.columnRange$1 -/
theorem m_impl_columnRange_1_ok (f0 : Fact) (fv1 : Int) (r : Bool) (H : m_impl_columnRange_1 f0 fv1 = some r) : FnV prg 98 [(.g (tFact.enc f0)), (.q [(intA fv1)] 0)] (boolA r) := by
  unfold m_impl_columnRange_1 at H
  refine fnV_of_T Try.func98 rfl rfl (Nat.le_of_ble_eq_true rfl) ?_
  refine te [(0, (.g (tFact.enc f0))), (1, (.q [(intA fv1)] 0))] rfl ?_
  refine sr ?_
  refine TO_cons rfl (TOp_box rfl (boxAll rfl) rfl rfl ?_)
  refine Tp rfl rfl (pur_assign rfl) rfl ?_
  refine TO_nil ?_
  refine te [(1, (.q [(intA fv1)] 0)), (2, (.b 0 0))] rfl ?_
  refine sr ?_
  refine Tp rfl rfl (pur_fa_b fld60_0 rfl rfl) rfl ?_
  refine Tp rfl rfl (pur_ld_b one3 rfl rfl rfl rfl) rfl ?_
  refine Tp rfl rfl (pur_ld_q one3 rfl rfl rfl) rfl ?_
  refine Tp rfl rfl (pur_eql rfl rfl rfl) rfl ?_
  refine Tp rfl rfl (pur_assign rfl) rfl ?_
  refine TO_nil ?_
  refine te [(3, (boolA (decide (f0.relation = fv1))))] rfl ?_
  refine T_ret ?_
  obtain rfl := some_inj H
  refine end_ret (.tmp .nil) rfl rfl ⟨?_, rfl⟩
  rfl

set_option maxHeartbeats 1000000 in
/-- slices.Equal[[]int,int] -/
theorem m_slices_Equal_Sint_int_ok (s10 : (List Int)) (s21 : (List Int)) (r : Bool) (H : m_slices_Equal_Sint_int s10 s21 = some r) : FnV prg 50 [(sl tInt s10), (sl tInt s21)] (boolA r) := by
  unfold m_slices_Equal_Sint_int at H
  refine fnV_of_T Try.func50 rfl rfl (Nat.le_of_ble_eq_true rfl) ?_
  refine te [(0, (sl tInt s10)), (1, (sl tInt s21))] rfl ?_
  refine sr ?_
  refine Tp rfl rfl (pur_assign rfl) rfl ?_
  refine TO_nil ?_
  refine te [(0, (sl tInt s10)), (1, (sl tInt s21))] rfl ?_
  refine T_seq ?_
  refine sr ?_
  refine Tp rfl rfl (pur_move rfl) rfl ?_
  refine Tp rfl rfl (pur_lenT (T := tInt) sl33 rfl rfl) rfl ?_
  refine Tp rfl rfl (pur_move rfl) rfl ?_
  refine Tp rfl rfl (pur_lenT (T := tInt) sl33 rfl rfl) rfl ?_
  refine Tp rfl rfl (pur_neq rfl rfl rfl) rfl ?_
  refine TO_nil ?_
  refine te [(0, (sl tInt s10)), (1, (sl tInt s21)), (10, (boolA (decide ((s10.length : Int) ≠ (s21.length : Int)))))] rfl ?_
  refine T_cond (t := decide ((s10.length : Int) ≠ (s21.length : Int))) rfl (fun c_1 => ?_) (fun c_1 => ?_)
  ·replace H := cond_t c_1 H
   refine sr ?_
   refine Tp rfl rfl (pur_assign rfl) rfl ?_
   refine TO_nil ?_
   refine te [(4, (boolA false))] rfl ?_
   refine T_ret ?_
   refine then_ret ?_
   obtain rfl := some_inj H
   refine end_ret (.tmp .nil) rfl rfl ⟨?_, rfl⟩
   rfl
  ·replace H := cond_f c_1 H
   refine T_skip ?_
   refine te [(0, (sl tInt s10)), (1, (sl tInt s21))] rfl ?_
   refine T_seq ?_
   refine sr ?_
   refine Tp rfl rfl (pur_move rfl) rfl ?_
   refine Tp rfl rfl (pur_lenT (T := tInt) sl33 rfl rfl) rfl ?_
   refine Tp rfl rfl (pur_move rfl) rfl ?_
   refine TO_nil ?_
   refine te [(0, (sl tInt s10)), (1, (sl tInt s21)), (12, (intA (s10.length : Int))), (13, (intA 0))] rfl ?_
   obtain ⟨O3_, L3_, N3_⟩ := bind_inv H
   clear H
   obtain ⟨B3_, hb3, L3_⟩ := gen_forL L3_
   refine T_block ?_
   refine T_loopX (fun k => fun (t_2 : Nat) => k = s10.length - t_2 ∧ forL B3_ (s10.drop t_2) (t_2 : Int) () = some O3_) (fun (t_2 : Nat) => [(0, (sl tInt s10)), (1, (sl tInt s21)), (12, (intA (s10.length : Int))), (13, (intA (t_2 : Int)))]) (fun (t_2 : Nat) => []) _ (0 : Nat) (wp 0 (lb rfl) rfl rfl rfl rfl rfl) ⟨rfl, L3_⟩ ?_
   rintro _ t_2 ⟨rfl, L3_⟩
   refine te [(0, (sl tInt s10)), (1, (sl tInt s21)), (12, (intA (s10.length : Int))), (13, (intA (t_2 : Int)))] rfl ?_
   refine T_st (σ' := []) rfl ?_
   refine T_fact (len_sl (T := tInt) (.tmp 0) rfl) (fun hl3 => ?_)
   refine sr ?_
   refine Tp rfl rfl (pur_lss rfl rfl rfl) rfl ?_
   refine TO_nil ?_
   refine te [(0, (sl tInt s10)), (1, (sl tInt s21)), (12, (intA (s10.length : Int))), (13, (intA (t_2 : Int))), (14, (boolA (decide ((t_2 : Int) < (s10.length : Int)))))] rfl ?_
   refine T_seq ?_
   refine T_cond (t := decide ((t_2 : Int) < (s10.length : Int))) rfl (fun d3 => ?_) (fun d3 => ?_)
   ·replace d3 := of_decide_eq_true d3
    obtain ⟨x_t_2, hx_t_2⟩ : ∃ v, (s10)[t_2]? = some v := ⟨_, List.getElem?_eq_getElem (by omega)⟩
    obtain ⟨C3_, H, K3_⟩ := forL_step L3_ hx_t_2
    rw [hb3] at H
    refine T_skip ?_
    refine te [(0, (sl tInt s10)), (1, (sl tInt s21)), (12, (intA (s10.length : Int))), (13, (intA (t_2 : Int)))] rfl ?_
    refine T_seq ?_
    refine T_block ?_
    refine sr ?_
    refine Tp rfl rfl (pur_move rfl) rfl ?_
    refine Tp rfl rfl (pur_assign rfl) rfl ?_
    refine TO_nil ?_
    refine te [(0, (sl tInt s10)), (1, (sl tInt s21)), (5, (intA (t_2 : Int))), (12, (intA (s10.length : Int))), (13, (intA (t_2 : Int)))] rfl ?_
    refine T_seq ?_
    refine T_regionD mixed (by kernel_rfl) ?_
    refine TQ_pure rfl (pur_move rfl) rfl ?_
    refine TQ_pure rfl (pur_move rfl) rfl ?_
    refine TQ_pure rfl (pur_ixT (T := tInt) sl33 rfl rfl rfl hx_t_2 rfl) rfl ?_
    refine TQ_pure rfl (pur_ldT (T := tInt) (i := t_2) (off := 0) rfl one3 rfl rfl hx_t_2 rfl) rfl ?_
    refine TQ_pure rfl (pur_move rfl) rfl ?_
    refine TQ_pure rfl (pur_move rfl) rfl ?_
    obtain ⟨v_4, h_5, H⟩ := bind_inv H
    obtain ⟨n_6, hz_7, hv_8⟩ := getI_inv h_5
    refine TQ_pure rfl (pur_ixT (T := tInt) sl33 rfl rfl hz_7 hv_8 rfl) rfl ?_
    refine TQ_pure rfl (pur_ldT (T := tInt) (i := n_6) (off := 0) rfl one3 rfl rfl hv_8 rfl) rfl ?_
    refine TQ_pure rfl (pur_neq rfl rfl rfl) rfl ?_
    refine TQ_nil ?_
    refine te [(0, (sl tInt s10)), (1, (sl tInt s21)), (12, (intA (s10.length : Int))), (13, (intA (t_2 : Int))), (24, (boolA (decide (x_t_2 ≠ v_4))))] rfl ?_
    refine T_cond (t := decide (x_t_2 ≠ v_4)) rfl (fun c_9 => ?_) (fun c_9 => ?_)
    ·replace H := cond_t c_9 H
     refine sr ?_
     refine Tp rfl rfl (pur_assign rfl) rfl ?_
     refine TO_nil ?_
     refine te [(4, (boolA false))] rfl ?_
     refine T_ret ?_
     refine block_ret ?_
     refine then_ret ?_
     refine then_ret ?_
     refine block_ret ?_
     refine then_ret ?_
     obtain rfl := some_inj H
     obtain rfl := some_inj K3_
     replace H := onS_r N3_
     obtain rfl := some_inj H
     refine end_ret (.tmp .nil) rfl rfl ⟨?_, rfl⟩
     rfl
    ·replace H := cond_f c_9 H
     refine T_skip ?_
     refine te [(0, (sl tInt s10)), (1, (sl tInt s21)), (12, (intA (s10.length : Int))), (13, (intA (t_2 : Int)))] rfl ?_
     refine T_region ?_
     refine Tp rfl rfl (pur_add rfl rfl rfl (fits64 (by omega) (by omega))) rfl ?_
     refine Tp rfl rfl (pur_move rfl) rfl ?_
     refine TO_nil ?_
     obtain rfl := some_inj H
     exact again (s10.length - (t_2 + 1)) (t_2 + 1) (by omega) (wp 0 (lb rfl) rfl rfl rfl rfl rfl) ⟨rfl, K3_⟩
   ·replace d3 := of_decide_eq_false d3
    obtain rfl := forL_end L3_ (by omega)
    refine T_exit ?_
    refine then_exit ?_
    refine then_exit ?_
    refine block_exit ?_
    replace H := onS_l N3_
    refine te [] rfl ?_
    refine sr ?_
    refine Tp rfl rfl (pur_assign rfl) rfl ?_
    refine TO_nil ?_
    refine te [(4, (boolA true))] rfl ?_
    refine T_ret ?_
    obtain rfl := some_inj H
    refine end_ret (.tmp .nil) rfl rfl ⟨?_, rfl⟩
    rfl

set_option maxHeartbeats 1000000 in
/-- impl.sameKey -/
theorem m_impl_sameKey_ok (relations0 : (List Relation)) (a1 : Fact) (b2 : Fact) (r : Bool) (H : m_impl_sameKey relations0 a1 b2 = some r) : FnV prg 134 [(sl tRelation relations0), (.g (tFact.enc a1)), (.g (tFact.enc b2))] (boolA r) := by
  unfold m_impl_sameKey at H
  refine fnV_of_T Try.func134 rfl rfl (Nat.le_of_ble_eq_true rfl) ?_
  refine te [(0, (sl tRelation relations0)), (1, (.g (tFact.enc a1))), (2, (.g (tFact.enc b2)))] rfl ?_
  refine sr ?_
  refine TO_cons rfl (TOp_box rfl (boxAll rfl) rfl rfl ?_)
  refine TO_cons rfl (TOp_box rfl (boxAll rfl) rfl rfl ?_)
  refine Tp rfl rfl (pur_assign rfl) rfl ?_
  refine TO_nil ?_
  refine te [(0, (sl tRelation relations0)), (4, (.b 0 0)), (5, (.b 1 0))] rfl ?_
  refine T_seq ?_
  refine sr ?_
  refine Tp rfl rfl (pur_fa_b fld60_0 rfl rfl) rfl ?_
  refine Tp rfl rfl (pur_ld_b one3 rfl rfl rfl rfl) rfl ?_
  refine Tp rfl rfl (pur_fa_b fld60_0 rfl rfl) rfl ?_
  refine Tp rfl rfl (pur_ld_b one3 rfl rfl rfl rfl) rfl ?_
  refine Tp rfl rfl (pur_neq rfl rfl rfl) rfl ?_
  refine TO_nil ?_
  refine te [(0, (sl tRelation relations0)), (4, (.b 0 0)), (5, (.b 1 0)), (12, (boolA (decide (a1.relation ≠ b2.relation))))] rfl ?_
  refine T_cond (t := decide (a1.relation ≠ b2.relation)) rfl (fun c_1 => ?_) (fun c_1 => ?_)
  ·replace H := cond_t c_1 H
   refine sr ?_
   refine Tp rfl rfl (pur_assign rfl) rfl ?_
   refine TO_nil ?_
   refine te [(6, (boolA false))] rfl ?_
   refine T_ret ?_
   refine then_ret ?_
   obtain rfl := some_inj H
   refine end_ret (.tmp .nil) rfl rfl ⟨?_, rfl⟩
   rfl
  ·replace H := cond_f c_1 H
   refine T_skip ?_
   refine te [(0, (sl tRelation relations0)), (4, (.b 0 0)), (5, (.b 1 0))] rfl ?_
   refine sr ?_
   refine Tp rfl rfl (pur_move rfl) rfl ?_
   refine Tp rfl rfl (pur_fa_b fld60_0 rfl rfl) rfl ?_
   refine Tp rfl rfl (pur_ld_b one3 rfl rfl rfl rfl) rfl ?_
   obtain ⟨v_2, h_3, H⟩ := bind_inv H
   obtain ⟨n_4, hz_5, hv_6⟩ := getI_inv h_3
   refine Tp rfl rfl (pur_ixT (T := tRelation) sl29 rfl rfl hz_5 hv_6 rfl) rfl ?_
   refine Tp rfl rfl (pur_fa_q fld97_2 rfl rfl) rfl ?_
   refine Tp rfl rfl (pur_ldT (T := tRelation) (i := n_4) (off := 2) rfl one3 rfl rfl hv_6 rfl) rfl ?_
   refine Tp rfl rfl (pur_assign rfl) rfl ?_
   refine TO_nil ?_
   refine te [(4, (.b 0 0)), (5, (.b 1 0)), (7, (intA v_2.keyLength))] rfl ?_
   refine T_seq ?_
   refine T_regionD mixed (by kernel_rfl) ?_
   refine TQ_pure rfl (pur_fa_b fld60_1 rfl rfl) rfl ?_
   refine TQ_pure rfl (pur_ld_b one33 rfl rfl rfl rfl) rfl ?_
   refine TQ_pure rfl (pur_move rfl) rfl ?_
   obtain ⟨ys_7, h_8, H⟩ := bind_inv H
   refine TQ_pure rfl (pur_cutT (T := tInt) (lo := none) (hi := (some (.tmp 21))) sl33 rfl rfl ⟨_, rfl⟩ h_8 rfl) rfl ?_
   refine TQ_pure rfl (pur_fa_b fld60_1 rfl rfl) rfl ?_
   refine TQ_pure rfl (pur_ld_b one33 rfl rfl rfl rfl) rfl ?_
   refine TQ_pure rfl (pur_move rfl) rfl ?_
   obtain ⟨ys_9, h_10, H⟩ := bind_inv H
   refine TQ_pure rfl (pur_cutT (T := tInt) (lo := none) (hi := (some (.tmp 25))) sl33 rfl rfl ⟨_, rfl⟩ h_10 rfl) rfl ?_
   obtain ⟨r_11, h_12, H⟩ := bind_inv H
   refine TQ_callV rfl (call_static ent50 rfl) (m_slices_Equal_Sint_int_ok _ _ _ h_12) rfl rfl ?_
   refine TQ_pure rfl (pur_assign rfl) rfl ?_
   refine TQ_nil ?_
   refine te [(6, (boolA r_11))] rfl ?_
   refine T_ret ?_
   obtain rfl := some_inj H
   refine end_ret (.tmp .nil) rfl rfl ⟨?_, rfl⟩
   rfl

set_option maxHeartbeats 1000000 in
/-- impl.blocks -/
theorem m_impl_blocks_own (db0 : Database) (r : (List (List Int))) (H : m_impl_blocks db0 = some r) : FnO prg 117 [(.g (tDatabase.enc db0))] (.m [0] 0 r.length (tSl tInt).k) [.row (flat (tSl tInt).own r)] := by
  unfold m_impl_blocks at H
  refine fnO_of_T Try.func117 rfl rfl (Nat.le_of_ble_eq_true rfl) ?_
  refine te [(0, (.g (tDatabase.enc db0)))] rfl ?_
  refine sr ?_
  refine TO_cons rfl (TOp_box rfl (boxAll rfl) rfl rfl ?_)
  refine Tp rfl rfl (pur_assign rfl) rfl ?_
  refine TO_nil ?_
  refine te [(1, (.b 0 0))] rfl ?_
  refine sr ?_
  refine TO_cons rfl (TOp_lit (nn := 0) (k := 1) sl22 zero33 rfl rfl rfl rfl (by decide) ?_)
  refine TO_st (σ' := [.box [(sl tRelation db0.relations), (sl tFact db0.facts)], .row (flat (tSl tInt).own ([] : (List (List Int))))]) rfl ?_
  refine Tp rfl rfl (pur_assign rfl) rfl ?_
  refine TO_nil ?_
  refine te [(1, (.b 0 0)), (3, (.m [1] 0 ([] : (List (List Int))).length (tSl tInt).k))] rfl ?_
  refine T_seq ?_
  refine sr ?_
  refine Tp rfl rfl (pur_fa_b fld32_1 rfl rfl) rfl ?_
  refine Tp rfl rfl (pur_ld_b one30 rfl rfl rfl rfl) rfl ?_
  refine Tp rfl rfl (pur_lenT (T := tFact) sl30 rfl rfl) rfl ?_
  refine Tp rfl rfl (pur_move rfl) rfl ?_
  refine TO_nil ?_
  refine te [(1, (.b 0 0)), (3, (.m [1] 0 ([] : (List (List Int))).length (tSl tInt).k)), (9, (sl tFact db0.facts)), (10, (intA (db0.facts.length : Int))), (11, (intA 0))] rfl ?_
  obtain ⟨O2_, L2_, N2_⟩ := bind_inv H
  clear H
  obtain ⟨B2_, hb2, L2_⟩ := gen_forS L2_
  refine T_block ?_
  refine T_loopX (fun k => fun (x_ : Nat × (List (List Int))) => k = db0.facts.length - x_.1 ∧ forS B2_ (db0.facts.drop x_.1) (x_.1 : Int) x_.2 = some O2_) (fun (x_ : Nat × (List (List Int))) => [(1, (.b 0 0)), (3, (.m [1] 0 x_.2.length (tSl tInt).k)), (9, (sl tFact db0.facts)), (10, (intA (db0.facts.length : Int))), (11, (intA (x_.1 : Int)))]) (fun (x_ : Nat × (List (List Int))) => [.box [(sl tRelation db0.relations), (sl tFact db0.facts)], .row (flat (tSl tInt).own x_.2)]) _ (0, ([] : (List (List Int)))) (wp 2 (lb rfl) rfl rfl rfl rfl rfl) ⟨rfl, L2_⟩ ?_
  rintro _ ⟨t_1, out3⟩ ⟨rfl, L2_⟩
  refine te [(1, (.b 0 0)), (3, (.m [1] 0 out3.length (tSl tInt).k)), (9, (sl tFact db0.facts)), (10, (intA (db0.facts.length : Int))), (11, (intA (t_1 : Int)))] rfl ?_
  refine T_st (σ' := [.box [(sl tRelation db0.relations), (sl tFact db0.facts)], .row (flat (tSl tInt).own out3)]) rfl ?_
  refine T_fact (len_sl (T := tFact) (.tmp 9) rfl) (fun hl2 => ?_)
  refine sr ?_
  refine Tp rfl rfl (pur_lss rfl rfl rfl) rfl ?_
  refine TO_nil ?_
  refine te [(1, (.b 0 0)), (3, (.m [1] 0 out3.length (tSl tInt).k)), (9, (sl tFact db0.facts)), (10, (intA (db0.facts.length : Int))), (11, (intA (t_1 : Int))), (12, (boolA (decide ((t_1 : Int) < (db0.facts.length : Int)))))] rfl ?_
  refine T_seq ?_
  refine T_cond (t := decide ((t_1 : Int) < (db0.facts.length : Int))) rfl (fun d2 => ?_) (fun d2 => ?_)
  ·replace d2 := of_decide_eq_true d2
   obtain ⟨x_t_1, hx_t_1⟩ : ∃ v, (db0.facts)[t_1]? = some v := ⟨_, List.getElem?_eq_getElem (by omega)⟩
   obtain ⟨C2_, H, K2_⟩ := forS_step L2_ hx_t_1
   rw [hb2] at H
   refine T_skip ?_
   refine te [(1, (.b 0 0)), (3, (.m [1] 0 out3.length (tSl tInt).k)), (9, (sl tFact db0.facts)), (10, (intA (db0.facts.length : Int))), (11, (intA (t_1 : Int)))] rfl ?_
   refine T_seq ?_
   refine T_block ?_
   refine sr ?_
   refine Tp rfl rfl (pur_move rfl) rfl ?_
   refine Tp rfl rfl (pur_ixT (T := tFact) sl30 rfl rfl rfl hx_t_1 rfl) rfl ?_
   refine Tp rfl rfl (pur_ldTK (T := tFact) (i := t_1) (off := 0) rfl agg60 rfl rfl hx_t_1 (by decide) rfl) rfl ?_
   refine TO_cons rfl (TOp_alloc zero60 rfl rfl ?_)
   refine Tp rfl rfl (pur_assign rfl) rfl ?_
   refine TO_cons rfl (TOp_storeB sz60 rfl rfl rfl rfl rfl rfl rfl (by decide) (lb rfl) rfl ?_)
   refine TO_st (σ' := [.box [(sl tRelation db0.relations), (sl tFact db0.facts)], .row (flat (tSl tInt).own out3), .box [(intA x_t_1.relation), (sl tInt x_t_1.values)]]) rfl ?_
   refine TO_nil ?_
   refine te [(1, (.b 0 0)), (3, (.m [1] 0 out3.length (tSl tInt).k)), (4, (intA (t_1 : Int))), (5, (.b 2 0)), (9, (sl tFact db0.facts)), (10, (intA (db0.facts.length : Int))), (11, (intA (t_1 : Int)))] rfl ?_
   refine sr ?_
   refine Tp rfl rfl (pur_move rfl) rfl ?_
   refine Tp rfl rfl (pur_len_m sl22 rfl rfl) rfl ?_
   refine TO_fact (len_m (.tmp 3) rfl) (fun hl_3 => ?_)
   refine Tp rfl rfl (pur_sub rfl rfl rfl (fits64 (by omega) (by omega))) rfl ?_
   refine Tp rfl rfl (pur_assign rfl) rfl ?_
   refine TO_nil ?_
   refine te [(1, (.b 0 0)), (3, (.m [1] 0 out3.length (tSl tInt).k)), (4, (intA (t_1 : Int))), (5, (.b 2 0)), (6, (intA ((out3.length : Int) - 1))), (9, (sl tFact db0.facts)), (10, (intA (db0.facts.length : Int))), (11, (intA (t_1 : Int)))] rfl ?_
   obtain ⟨t36_4, J_4, H_5⟩ := bind_inv H
   refine T_cutX (fun x => t36_4 = x) (fun (t36_4 : Bool) => [(1, (.b 0 0)), (3, (.m [1] 0 out3.length (tSl tInt).k)), (4, (intA (t_1 : Int))), (6, (intA ((out3.length : Int) - 1))), (9, (sl tFact db0.facts)), (10, (intA (db0.facts.length : Int))), (11, (intA (t_1 : Int))), (36, (boolA t36_4))]) (fun (t36_4 : Bool) => [.box [(sl tRelation db0.relations), (sl tFact db0.facts)], .row (flat (tSl tInt).own out3)]) ?_ ?_
   ·replace H := J_4
    refine T_regionD mixed (by kernel_rfl) ?_
    refine TQ_pure rfl (pur_move rfl) rfl ?_
    refine TQ_pure rfl (pur_geq rfl rfl rfl) rfl ?_
    refine TQ_pure rfl (pur_move rfl) rfl ?_
    refine TQ_split (t := decide (0 ≤ ((out3.length : Int) - 1))) 21 rfl (fun g_6 => ?_) (fun g_6 => ?_)
    ·replace H := cond_t g_6 H
     refine TQ_on rfl rfl (by decide) rfl (pur_fa_b fld32_0 rfl rfl) rfl ?_
     refine TQ_on rfl rfl (by decide) rfl (pur_ld_b one29 rfl rfl rfl rfl) rfl ?_
     refine TQ_on rfl rfl (by decide) rfl (pur_fa_b fld32_1 rfl rfl) rfl ?_
     refine TQ_on rfl rfl (by decide) rfl (pur_ld_b one30 rfl rfl rfl rfl) rfl ?_
     refine TQ_on rfl rfl (by decide) rfl (pur_move rfl) rfl ?_
     refine TQ_on rfl rfl (by decide) rfl (pur_move rfl) rfl ?_
     obtain ⟨v_7, h_8, H⟩ := bind_inv H
     obtain ⟨n_9, hz_10, hv_11⟩ := getI_inv h_8
     refine TQ_on rfl rfl (by decide) rfl (pur_ixM (T := (tSl tInt)) sl22 rfl rfl hz_10 hv_11 rfl) rfl ?_
     refine TQ_on rfl rfl (by decide) rfl (pur_ldE (f := (tSl tInt).own) (k := (tSl tInt).k) (i := n_9) (off := 0) (tSl tInt).lenO rfl one33 rfl rfl rfl hv_11 rfl cellVal_sl) rfl ?_
     refine tqe [(1, (.b 0 0)), (3, (.m [1] 0 out3.length (tSl tInt).k)), (4, (intA (t_1 : Int))), (5, (.b 2 0)), (6, (intA ((out3.length : Int) - 1))), (9, (sl tFact db0.facts)), (10, (intA (db0.facts.length : Int))), (11, (intA (t_1 : Int))), (21, (boolA true)), (23, (sl tRelation db0.relations)), (25, (sl tFact db0.facts)), (29, (.m [1, n_9 * (tSl tInt).k] 0 v_7.length tInt.k))] rfl ?_
     obtain ⟨v_12, h_13, H⟩ := bind_inv H
     obtain ⟨n_14, hz_15, hv_16⟩ := getI_inv h_13
     refine TQ_on rfl rfl (by decide) rfl (pur_ixM (T := tInt) sl33 rfl rfl hz_15 hv_16 rfl) rfl ?_
     refine TQ_on rfl rfl (by decide) rfl (pur_ldE (f := tInt.own) (k := tInt.k) (i := n_14) (off := 0) tInt.lenO rfl one3 rfl (rowAt_el (f := (tSl tInt).own) (i := n_9) (off := 0) (tSl tInt).lenO rfl hv_11 rfl) rfl hv_16 rfl rfl) rfl ?_
     obtain ⟨v_17, h_18, H⟩ := bind_inv H
     obtain ⟨n_19, hz_20, hv_21⟩ := getI_inv h_18
     refine TQ_on rfl rfl (by decide) rfl (pur_ixT (T := tFact) sl30 rfl rfl hz_20 hv_21 rfl) rfl ?_
     refine TQ_on rfl rfl (by decide) rfl (pur_ldTK (T := tFact) (i := n_19) (off := 0) rfl agg60 rfl rfl hv_21 (by decide) rfl) rfl ?_
     refine TQ_on rfl rfl (by decide) rfl (pur_ldK_b agg60 rfl rfl (lb rfl) rfl) rfl ?_
     obtain ⟨r_22, h_23, H⟩ := bind_inv H
     refine TQ_onV rfl rfl (by decide) rfl (call_static ent134 rfl) (m_impl_sameKey_ok _ _ _ _ h_23) rfl rfl ?_
     refine TQ_pure rfl (pur_pick (t := true) rfl rfl rfl) rfl ?_
     refine TQ_nil ?_
     exact joined r_22 (wp 2 (lb rfl) rfl rfl rfl rfl rfl) (some_inj H).symm
    ·replace H := cond_f g_6 H
     refine TQ_off rfl rfl (by decide) rfl rfl rfl ?_
     refine TQ_off rfl rfl (by decide) rfl rfl rfl ?_
     refine TQ_off rfl rfl (by decide) rfl rfl rfl ?_
     refine TQ_off rfl rfl (by decide) rfl rfl rfl ?_
     refine TQ_off rfl rfl (by decide) rfl rfl rfl ?_
     refine TQ_off rfl rfl (by decide) rfl rfl rfl ?_
     refine TQ_off rfl rfl (by decide) rfl rfl rfl ?_
     refine TQ_off rfl rfl (by decide) rfl rfl rfl ?_
     refine tqe [(1, (.b 0 0)), (3, (.m [1] 0 out3.length (tSl tInt).k)), (4, (intA (t_1 : Int))), (5, (.b 2 0)), (6, (intA ((out3.length : Int) - 1))), (9, (sl tFact db0.facts)), (10, (intA (db0.facts.length : Int))), (11, (intA (t_1 : Int))), (21, (boolA false)), (23, (.v undef)), (25, (.v undef)), (29, (.v undef))] rfl ?_
     refine TQ_off rfl rfl (by decide) rfl rfl rfl ?_
     refine TQ_off rfl rfl (by decide) rfl rfl rfl ?_
     refine TQ_off rfl rfl (by decide) rfl rfl rfl ?_
     refine TQ_off rfl rfl (by decide) rfl rfl rfl ?_
     refine TQ_off rfl rfl (by decide) rfl rfl rfl ?_
     refine TQ_off rfl rfl (by decide) rfl rfl rfl ?_
     refine TQ_pure rfl (pur_pick (t := false) rfl rfl rfl) rfl ?_
     refine TQ_nil ?_
     exact joined false (wp 2 (lb rfl) rfl rfl rfl rfl rfl) (some_inj H).symm
   ·rintro _ rfl
    replace H := H_5
    refine te [(1, (.b 0 0)), (3, (.m [1] 0 out3.length (tSl tInt).k)), (4, (intA (t_1 : Int))), (6, (intA ((out3.length : Int) - 1))), (9, (sl tFact db0.facts)), (10, (intA (db0.facts.length : Int))), (11, (intA (t_1 : Int))), (36, (boolA t36_4))] rfl ?_
    refine T_cond (t := t36_4) rfl (fun c_24 => ?_) (fun c_24 => ?_)
    ·replace H := cond_t c_24 H
     refine T_region ?_
     refine Tp rfl rfl (pur_move rfl) rfl ?_
     refine Tp rfl rfl (pur_move rfl) rfl ?_
     refine Tp rfl rfl (pur_move rfl) rfl ?_
     refine Tp rfl rfl (pur_move rfl) rfl ?_
     obtain ⟨v_25, h_26, H⟩ := bind_inv H
     obtain ⟨n_27, hz_28, hv_29⟩ := getI_inv h_26
     refine Tp rfl rfl (pur_ixM (T := (tSl tInt)) sl22 rfl rfl hz_28 hv_29 rfl) rfl ?_
     refine Tp rfl rfl (pur_ldE (f := (tSl tInt).own) (k := (tSl tInt).k) (i := n_27) (off := 0) (tSl tInt).lenO rfl one33 rfl rfl rfl hv_29 rfl cellVal_sl) rfl ?_
     refine Tp rfl rfl (pur_move rfl) rfl ?_
     refine TO_cons rfl (TOp_lit (nn := 1) (k := 1) sl33 zero3 rfl rfl rfl rfl (by decide) ?_)
     refine TO_st (σ' := [.box [(sl tRelation db0.relations), (sl tFact db0.facts)], .row (flat (tSl tInt).own out3), .row (flat tInt.enc ([(t_1 : Int)] : (List Int)))]) rfl ?_
     refine toe [(1, (.b 0 0)), (3, (.m [1] 0 out3.length (tSl tInt).k)), (9, (sl tFact db0.facts)), (10, (intA (db0.facts.length : Int))), (11, (intA (t_1 : Int))), (37, (.m [1] 0 out3.length (tSl tInt).k)), (38, (intA ((out3.length : Int) - 1))), (42, (.m [1, n_27 * (tSl tInt).k] 0 v_25.length tInt.k)), (44, (.m [2] 0 ([(t_1 : Int)] : (List Int)).length tInt.k))] rfl ?_
     refine TO_boxify 1 rfl (lb rfl) ?_
     refine TO_detach (k := tInt.k) (xs := flat (tSl tInt).own out3) (ys := flat tInt.own v_25) (E' := [(1, (.b 0 0)), (3, (.m [1] 0 out3.length (tSl tInt).k)), (9, (sl tFact db0.facts)), (10, (intA (db0.facts.length : Int))), (11, (intA (t_1 : Int))), (37, (.m [1] 0 out3.length (tSl tInt).k)), (38, (intA ((out3.length : Int) - 1))), (42, (.m [3] 0 v_25.length tInt.k)), (44, (.m [2] 0 ([(t_1 : Int)] : (List Int)).length tInt.k))]) 1 (n_27 * (tSl tInt).k + 0) 42 rfl (flat_at' (tSl tInt).lenO hv_29 rfl) rfl (lb rfl) (nms_box rfl (nms_box namesL_own (nms_row nms_nil))) ⟨.inr ⟨rfl, rfl⟩, .inr ⟨rfl, rfl⟩, .inr ⟨rfl, rfl⟩, .inr ⟨rfl, rfl⟩, .inr ⟨rfl, rfl⟩, .inr ⟨rfl, rfl⟩, .inr ⟨rfl, rfl⟩, .inl ⟨rfl, rfl⟩, .inr ⟨rfl, rfl⟩, trivial⟩ ?_
     refine TO_st (σ' := [.box [(sl tRelation db0.relations), (sl tFact db0.facts)], .box (spl (flat (tSl tInt).own out3) (n_27 * (tSl tInt).k) [.j]), .row (flat tInt.enc ([(t_1 : Int)] : (List Int))), .row (flat tInt.own v_25)]) (by rw [open_T (T := (tSl tInt)) hv_29 (by decide)]; rfl) ?_
     obtain ⟨us_30, h_31, H⟩ := bind_inv H
     refine TO_cons rfl (TOp_appY (T := tInt) (f := tInt.own) (xs := v_25) (ys := ([(t_1 : Int)] : (List Int))) tInt.lenO sl33 zero3 rfl bytes3 (by decide) rfl rfl rfl rfl (src_mT (f := tInt.own) tInt.lenO rfl rfl (flat_cell tInt _)) (flat_cell tInt _) h_31 ?_)
     refine toe [(1, (.b 0 0)), (3, (.m [1] 0 out3.length (tSl tInt).k)), (9, (sl tFact db0.facts)), (10, (intA (db0.facts.length : Int))), (11, (intA (t_1 : Int))), (37, (.m [1] 0 out3.length (tSl tInt).k)), (38, (intA ((out3.length : Int) - 1))), (44, (.m [2] 0 ([(t_1 : Int)] : (List Int)).length tInt.k)), (45, (.m [4] 0 us_30.length tInt.k))] rfl ?_
     refine TO_st (σ' := [.box [(sl tRelation db0.relations), (sl tFact db0.facts)], .box (spl (flat (tSl tInt).own out3) (n_27 * (tSl tInt).k) [.j]), .row (flat tInt.enc ([(t_1 : Int)] : (List Int))), .dead, .row (flat tInt.own us_30)]) rfl ?_
     refine Tp rfl rfl (pur_ixM (T := (tSl tInt)) sl22 rfl rfl hz_28 hv_29 rfl) rfl ?_
     refine TO_cons rfl (TOp_setH (T := (tSl tInt)) (i := n_27) (off := 0) (xs := out3) (v := v_25) (zs := [.j]) sz33 (by decide) rfl rfl rfl rfl rfl rfl hv_29 rfl rfl (lb rfl) rfl ?_)
     refine toe [(1, (.b 0 0)), (3, (.m [1] 0 out3.length (tSl tInt).k)), (9, (sl tFact db0.facts)), (10, (intA (db0.facts.length : Int))), (11, (intA (t_1 : Int))), (37, (.m [1] 0 out3.length (tSl tInt).k)), (38, (intA ((out3.length : Int) - 1))), (44, (.m [2] 0 ([(t_1 : Int)] : (List Int)).length tInt.k))] rfl ?_
     refine TO_st (σ' := [.box [(sl tRelation db0.relations), (sl tFact db0.facts)], .box (spl (flat (tSl tInt).own out3) (n_27 * (tSl tInt).k) [(.m [4] 0 us_30.length tInt.k)]), .row (flat tInt.enc ([(t_1 : Int)] : (List Int))), .dead, .row (flat tInt.own us_30)]) rfl ?_
     refine TO_absorbS (T := (tSl tInt)) (i := n_27) (xs := out3) (v := v_25) 1 0 4 rfl hv_29 rfl rfl rfl (by decide) tInt.pos (flat_len tInt.lenO _) (lb rfl) (lb rfl) rfl (nms_box rfl (nms_box (namesL_spl namesL_own rfl) (nms_row (nms_dead (nms_row nms_nil))))) ?_
     refine TO_st (σ' := [.box [(sl tRelation db0.relations), (sl tFact db0.facts)], .box (spl (flat (tSl tInt).own out3) (n_27 * (tSl tInt).k) [.o tInt.k (flat tInt.own us_30)]), .row (flat tInt.enc ([(t_1 : Int)] : (List Int))), .dead, .dead]) rfl ?_
     refine TO_rowifyS (T := (tSl tInt)) (i := n_27) (xs := out3) 1 us_30 hz_28 rfl hv_29 rfl (lb rfl) ?_
     refine TO_env (E' := [(1, (.b 0 0)), (3, (.m [1] 0 (out3.set (((out3.length : Int) - 1)).toNat us_30).length (tSl tInt).k)), (9, (sl tFact db0.facts)), (10, (intA (db0.facts.length : Int))), (11, (intA (t_1 : Int))), (37, (.m [1] 0 (out3.set (((out3.length : Int) - 1)).toNat us_30).length (tSl tInt).k)), (38, (intA ((out3.length : Int) - 1))), (44, (.m [2] 0 ([(t_1 : Int)] : (List Int)).length tInt.k))]) ⟨rfl, (congrArg (fun q => A.m [1] 0 q (tSl tInt).k) (List.length_set ..).symm), rfl, rfl, rfl, (congrArg (fun q => A.m [1] 0 q (tSl tInt).k) (List.length_set ..).symm), rfl, rfl, trivial⟩ ?_
     refine TO_st (σ' := [.box [(sl tRelation db0.relations), (sl tFact db0.facts)], .row (flat (tSl tInt).own (out3.set (((out3.length : Int) - 1)).toNat us_30)), .row (flat tInt.enc ([(t_1 : Int)] : (List Int))), .dead, .dead]) rfl ?_
     refine TO_nil ?_
     refine te [(1, (.b 0 0)), (3, (.m [1] 0 (out3.set (((out3.length : Int) - 1)).toNat us_30).length (tSl tInt).k)), (9, (sl tFact db0.facts)), (10, (intA (db0.facts.length : Int))), (11, (intA (t_1 : Int)))] rfl ?_
     refine T_region ?_
     refine Tp rfl rfl (pur_add rfl rfl rfl (fits64 (by omega) (by omega))) rfl ?_
     refine Tp rfl rfl (pur_move rfl) rfl ?_
     refine TO_nil ?_
     obtain rfl := some_inj H
     exact again (db0.facts.length - (t_1 + 1)) (t_1 + 1, (out3.set (((out3.length : Int) - 1)).toNat us_30)) (by omega) (wp 2 (lb rfl) rfl rfl rfl rfl rfl) ⟨rfl, K2_⟩
    ·replace H := cond_f c_24 H
     refine T_region ?_
     refine Tp rfl rfl (pur_move rfl) rfl ?_
     refine Tp rfl rfl (pur_move rfl) rfl ?_
     refine TO_cons rfl (TOp_lit (nn := 1) (k := 1) sl33 zero3 rfl rfl rfl rfl (by decide) ?_)
     refine TO_st (σ' := [.box [(sl tRelation db0.relations), (sl tFact db0.facts)], .row (flat (tSl tInt).own out3), .row (flat tInt.enc ([(t_1 : Int)] : (List Int)))]) rfl ?_
     refine TO_cons rfl (TOp_litB (nn := 1) (k := 1) sl22 zero33 rfl rfl rfl rfl (by decide) ?_)
     refine TO_st (σ' := [.box [(sl tRelation db0.relations), (sl tFact db0.facts)], .row (flat (tSl tInt).own out3), .row (flat tInt.enc ([(t_1 : Int)] : (List Int))), .box [(.m [2] 0 ([(t_1 : Int)] : (List Int)).length tInt.k)]]) rfl ?_
     refine TO_boxify 1 rfl (lb rfl) ?_
     obtain ⟨us_32, h_33, H⟩ := bind_inv H
     refine TO_cons rfl (TOp_appB (T := (tSl tInt)) (xs := out3) (v := ([(t_1 : Int)] : (List Int))) sl22 zero33 rfl bytes33 (by decide) rfl rfl rfl rfl rfl rfl rfl rfl h_33 (lb rfl) ?_)
     refine toe [(1, (.b 0 0)), (4, (intA (t_1 : Int))), (6, (intA ((out3.length : Int) - 1))), (9, (sl tFact db0.facts)), (10, (intA (db0.facts.length : Int))), (11, (intA (t_1 : Int))), (36, (boolA t36_4)), (48, (intA (t_1 : Int))), (51, .m [4] 0 (out3.length + 1) (tSl tInt).k)] rfl ?_
     refine TO_st (σ' := [.box [(sl tRelation db0.relations), (sl tFact db0.facts)], .dead, .row (flat tInt.enc ([(t_1 : Int)] : (List Int))), .box [(.m [2] 0 ([(t_1 : Int)] : (List Int)).length tInt.k)], .box (flat (tSl tInt).own out3 ++ [(.m [2] 0 ([(t_1 : Int)] : (List Int)).length tInt.k)])]) rfl ?_
     refine TO_absorbA (pr := flat (tSl tInt).own out3) 4 0 2 rfl rfl rfl (by decide) tInt.pos (flat_len tInt.len _) (lb rfl) (lb rfl) rfl (nms_box rfl (nms_dead (nms_row (nms_box rfl (nms_box (namesA namesL_own rfl) nms_nil))))) ?_
     refine TO_st (σ' := [.box [(sl tRelation db0.relations), (sl tFact db0.facts)], .dead, .dead, .box [(.m [2] 0 ([(t_1 : Int)] : (List Int)).length tInt.k)], .box (flat (tSl tInt).own out3 ++ [.o tInt.k (flat tInt.enc ([(t_1 : Int)] : (List Int)))])]) rfl ?_
     refine TO_rowifyT (T := (tSl tInt)) (xs := out3) (v := ([(t_1 : Int)] : (List Int))) 4 rfl rfl h_33 (lb rfl) ?_
     refine TO_st (σ' := [.box [(sl tRelation db0.relations), (sl tFact db0.facts)], .dead, .dead, .box [(.m [2] 0 ([(t_1 : Int)] : (List Int)).length tInt.k)], .row (flat (tSl tInt).own us_32)]) rfl ?_
     refine TO_move 1 4 (by decide) (lb rfl) rfl rfl (lb rfl) ?_
     refine TO_env (E' := [(1, (.b 0 0)), (4, (intA (t_1 : Int))), (6, (intA ((out3.length : Int) - 1))), (9, (sl tFact db0.facts)), (10, (intA (db0.facts.length : Int))), (11, (intA (t_1 : Int))), (36, (boolA t36_4)), (48, (intA (t_1 : Int))), (51, (.m [1] 0 us_32.length (tSl tInt).k))]) ⟨rfl, rfl, rfl, rfl, rfl, rfl, rfl, rfl, (congrArg (fun q => A.m [1] 0 q (tSl tInt).k) (app_len h_33)), trivial⟩ ?_
     refine TO_kill 3 (lb rfl) ?_
     refine TO_st (σ' := [.box [(sl tRelation db0.relations), (sl tFact db0.facts)], .row (flat (tSl tInt).own us_32), .dead, .dead, .dead]) rfl ?_
     refine Tp rfl rfl (pur_assign rfl) rfl ?_
     refine TO_nil ?_
     refine te [(1, (.b 0 0)), (3, (.m [1] 0 us_32.length (tSl tInt).k)), (9, (sl tFact db0.facts)), (10, (intA (db0.facts.length : Int))), (11, (intA (t_1 : Int)))] rfl ?_
     refine T_region ?_
     refine Tp rfl rfl (pur_add rfl rfl rfl (fits64 (by omega) (by omega))) rfl ?_
     refine Tp rfl rfl (pur_move rfl) rfl ?_
     refine TO_nil ?_
     obtain rfl := some_inj H
     exact again (db0.facts.length - (t_1 + 1)) (t_1 + 1, us_32) (by omega) (wp 2 (lb rfl) rfl rfl rfl rfl rfl) ⟨rfl, K2_⟩
  ·replace d2 := of_decide_eq_false d2
   obtain rfl := forS_end L2_ (by omega)
   refine T_exit ?_
   refine then_exit ?_
   refine then_exit ?_
   refine block_exit ?_
   replace H := N2_
   refine te [(3, (.m [1] 0 out3.length (tSl tInt).k))] rfl ?_
   refine sr ?_
   refine Tp rfl rfl (pur_move rfl) rfl ?_
   refine Tp rfl rfl (pur_assign rfl) rfl ?_
   refine TO_nil ?_
   refine te [(2, (.m [1] 0 out3.length (tSl tInt).k))] rfl ?_
   refine T_ret ?_
   obtain rfl := some_inj H
   exact end_pick (.tmp .nil) rfl [1] (by decide) rfl rfl rfl rfl rfl rfl
theorem m_impl_blocks_ok (db0 : Database) (r : (List (List Int))) (H : m_impl_blocks db0 = some r) : FnV prg 117 [(.g (tDatabase.enc db0))] (sl (tSl tInt) r) := (m_impl_blocks_own db0 r H).frz (frzT (T := (tSl tInt)) rfl)

set_option maxHeartbeats 1000000 in
/-- impl.nthRepair -/
theorem m_impl_nthRepair_own (u : Nat) (list0 : (List (List Int))) (rank1 : Int) (r : (List Int)) (H : m_impl_nthRepair u list0 rank1 = some r) : FnO prg 118 [(sl (tSl tInt) list0), (intA rank1)] (.m [0] 0 r.length tInt.k) [.row (flat tInt.own r)] := by
  unfold m_impl_nthRepair at H
  refine fnO_of_T Try.func118 rfl rfl (Nat.le_of_ble_eq_true rfl) ?_
  refine te [(0, (sl (tSl tInt) list0)), (1, (intA rank1))] rfl ?_
  refine sr ?_
  refine Tp rfl rfl (pur_assign rfl) rfl ?_
  refine TO_nil ?_
  refine te [(0, (sl (tSl tInt) list0)), (1, (intA rank1))] rfl ?_
  refine sr ?_
  refine Tp rfl rfl (pur_move rfl) rfl ?_
  refine Tp rfl rfl (pur_lenT (T := (tSl tInt)) sl22 rfl rfl) rfl ?_
  obtain ⟨us_1, h_2, H⟩ := bind_inv H
  refine TO_cons rfl (TOp_makeT (T := tInt) (z := (0 : Int)) rfl sl33 zero3 rfl bytes3 rfl rfl rfl rfl h_2 ?_)
  refine Tp rfl rfl (pur_assign rfl) rfl ?_
  refine TO_nil ?_
  refine te [(0, (sl (tSl tInt) list0)), (1, (intA rank1)), (5, (.m [0] 0 us_1.length tInt.k))] rfl ?_
  refine T_seq ?_
  refine sr ?_
  refine Tp rfl rfl (pur_move rfl) rfl ?_
  refine Tp rfl rfl (pur_lenT (T := (tSl tInt)) sl22 rfl rfl) rfl ?_
  refine TO_fact (len_sl (T := (tSl tInt)) (.tmp 0) rfl) (fun hl_3 => ?_)
  refine Tp rfl rfl (pur_sub rfl rfl rfl (fits64 (by omega) (by omega))) rfl ?_
  refine Tp rfl rfl (pur_assign rfl) rfl ?_
  refine TO_nil ?_
  refine te [(0, (sl (tSl tInt) list0)), (1, (intA rank1)), (5, (.m [0] 0 us_1.length tInt.k)), (6, (intA ((list0.length : Int) - 1)))] rfl ?_
  obtain ⟨O4_, L4_, N4_⟩ := bind_inv H
  clear H
  obtain ⟨B4_, hb4, L4_⟩ := gen_whileF L4_
  refine T_block ?_
  refine T_loopX (fun k => fun (x_ : Int × (List Int) × Int) => whileF B4_ k (x_.1, x_.2.1, x_.2.2) = some O4_) (fun (x_ : Int × (List Int) × Int) => [(0, (sl (tSl tInt) list0)), (1, (intA x_.1)), (5, (.m [0] 0 x_.2.1.length tInt.k)), (6, (intA x_.2.2))]) (fun (x_ : Int × (List Int) × Int) => [.row (flat tInt.enc x_.2.1)]) u (rank1, us_1, ((list0.length : Int) - 1)) (wp 1 (lb rfl) rfl rfl rfl rfl rfl) L4_ ?_
  rintro _ ⟨rank1, out5, i6⟩ L4_
  obtain ⟨k4, rfl, C4_, H, K4_⟩ := while_step L4_
  rw [hb4] at H
  refine te [(0, (sl (tSl tInt) list0)), (1, (intA rank1)), (5, (.m [0] 0 out5.length tInt.k)), (6, (intA i6))] rfl ?_
  refine T_st (σ' := [.row (flat tInt.enc out5)]) rfl ?_
  refine T_seq ?_
  refine sr ?_
  refine Tp rfl rfl (pur_move rfl) rfl ?_
  refine Tp rfl rfl (pur_geq rfl rfl rfl) rfl ?_
  refine TO_nil ?_
  refine te [(0, (sl (tSl tInt) list0)), (1, (intA rank1)), (5, (.m [0] 0 out5.length tInt.k)), (6, (intA i6)), (14, (boolA (decide (0 ≤ i6))))] rfl ?_
  refine T_cond (t := decide (0 ≤ i6)) rfl (fun c_5 => ?_) (fun c_5 => ?_)
  ·replace H := cond_t c_5 H
   refine T_skip ?_
   refine te [(0, (sl (tSl tInt) list0)), (1, (intA rank1)), (5, (.m [0] 0 out5.length tInt.k)), (6, (intA i6))] rfl ?_
   refine T_seq ?_
   refine T_block ?_
   obtain ⟨v_6, h_7, H⟩ := bind_inv H
   obtain ⟨n_8, hz_9, hv_10⟩ := getI_inv h_7
   obtain ⟨_u, h_11, H⟩ := bind_inv H
   obtain ⟨v_12, h_13, H⟩ := bind_inv H
   obtain ⟨n_14, hz_15, hv_16⟩ := getI_inv h_13
   obtain ⟨v_17, h_18, H⟩ := bind_inv H
   obtain ⟨n_19, hz_20, hv_21⟩ := getI_inv h_18
   refine T_cutX (fun (_ : Unit) => True) (fun _ => [(0, (sl (tSl tInt) list0)), (1, (intA rank1)), (5, (.m [0] 0 (out5.set (i6).toNat v_12).length tInt.k)), (6, (intA i6))]) (fun _ => [.row (flat tInt.enc (out5.set (i6).toNat v_12))]) ?_ ?_
   ·skip
    refine T_regionP mixed ?_
    refine TA_have 4 #[true, true, true, true, true, true, true, true, true, true, true, true, true, false, false, false, false] [(0, (sl (tSl tInt) list0)), (1, (intA rank1)), (5, (.m [0] 0 out5.length tInt.k)), (6, (intA i6)), (17, (.m [0] 0 out5.length tInt.k)), (18, (intA i6)), (22, (sl tInt v_6)), (29, (intA (rank1.tmod (v_6.length : Int))))] [.row (flat tInt.enc out5)] ?_ (fun hj0_5 => ?_)
    ·skip
     refine tf 13 rfl (purI_ixT (T := tInt) sl33 rfl rfl hz_15 hv_16 rfl) rfl rfl (by kernel_rfl) ?_
     refine t1 14 (by kernel_rfl) rfl rfl (TOp_pure (pur_ldT (T := tInt) (i := n_14) (off := 0) rfl one3 rfl rfl hv_16 rfl) rfl ?_)
     refine tf 15 rfl (purI_ixM (T := tInt) sl33 rfl rfl hz_20 hv_21 rfl) rfl rfl (by kernel_rfl) ?_
     refine t1 16 (by kernel_rfl) rfl rfl (TOp_setT (f := tInt.enc) (z := i6) (y := v_12) tInt.len tInt.pos hz_20 sz3 rfl rfl rfl rfl rfl hv_21 rfl rfl ?_)
     refine TA_env (E' := [(0, (sl (tSl tInt) list0)), (1, (intA rank1)), (5, (.m [0] 0 (out5.set (i6).toNat v_12).length tInt.k)), (6, (intA i6)), (17, (.m [0] 0 (out5.set (i6).toNat v_12).length tInt.k)), (18, (intA i6)), (22, (sl tInt v_6)), (29, (intA (rank1.tmod (v_6.length : Int)))), (30, (.q (flat tInt.enc v_6) (n_14 * tInt.k))), (31, (intA v_12))]) ⟨rfl, rfl, (congrArg (fun q => A.m [0] 0 q tInt.k) (List.length_set ..).symm), rfl, (congrArg (fun q => A.m [0] 0 q tInt.k) (List.length_set ..).symm), rfl, rfl, rfl, rfl, rfl, trivial⟩ ?_
     refine TA_st (σ' := [.row (flat tInt.enc (out5.set (i6).toNat v_12))]) rfl ?_
     exact TA_nil (by kernel_rfl) (joined () (wp 1 (lb rfl) rfl rfl rfl rfl rfl) trivial)
    refine TA_have 5 #[true, true, true, true, true, true, true, true, true, true, true, true, false, false, false, false, false] [(0, (sl (tSl tInt) list0)), (1, (intA rank1)), (5, (.m [0] 0 out5.length tInt.k)), (6, (intA i6)), (17, (.m [0] 0 out5.length tInt.k)), (18, (intA i6)), (22, (sl tInt v_6)), (23, (intA rank1)), (28, (intA (v_6.length : Int)))] [.row (flat tInt.enc out5)] ?_ (fun hj1_5 => ?_)
    ·skip
     refine t1 12 (by kernel_rfl) rfl rfl (TOp_pure (pur_rem rfl rfl rfl (gD_inv h_11)) rfl ?_)
     exact tj hj0_5 rfl (wp 1 (lb rfl) rfl rfl rfl rfl rfl)
    refine tf 0 rfl (purI_move rfl) rfl rfl (by kernel_rfl) ?_
    refine tf 1 rfl (purI_move rfl) rfl rfl (by kernel_rfl) ?_
    refine tf 2 rfl (purI_move rfl) rfl rfl (by kernel_rfl) ?_
    refine tf 3 rfl (purI_move rfl) rfl rfl (by kernel_rfl) ?_
    refine tf 4 rfl (purI_ixT (T := (tSl tInt)) sl22 rfl rfl hz_9 hv_10 rfl) rfl rfl (by kernel_rfl) ?_
    refine tf 6 rfl (purI_move rfl) rfl rfl (by kernel_rfl) ?_
    refine tae [(0, (sl (tSl tInt) list0)), (1, (intA rank1)), (5, (.m [0] 0 out5.length tInt.k)), (6, (intA i6)), (17, (.m [0] 0 out5.length tInt.k)), (18, (intA i6)), (21, (.q (flat (tSl tInt).enc list0) (n_8 * (tSl tInt).k))), (23, (intA rank1))] rfl ?_
    refine tf 7 rfl (purI_move rfl) rfl rfl (by kernel_rfl) ?_
    refine tf 8 rfl (purI_move rfl) rfl rfl (by kernel_rfl) ?_
    refine tf 9 rfl (purI_ixT (T := (tSl tInt)) sl22 rfl rfl hz_9 hv_10 rfl) rfl rfl (by kernel_rfl) ?_
    refine TA_all [5, 10] (by kernel_rfl) (by decide) ⟨?_, ?_, trivial⟩
    ·skip
     refine ⟨_, rfl, rfl, (TOp_pure (pur_ldT (T := (tSl tInt)) (i := n_8) (off := 0) rfl one33 rfl rfl hv_10 rfl) rfl ?_)⟩
     refine t1 10 (by kernel_rfl) rfl rfl (TOp_pure (pur_ldT (T := (tSl tInt)) (i := n_8) (off := 0) rfl one33 rfl rfl hv_10 rfl) rfl ?_)
     refine tf 11 rfl (purI_lenT (T := tInt) sl33 rfl rfl) rfl rfl (by kernel_rfl) ?_
     refine tae [(0, (sl (tSl tInt) list0)), (1, (intA rank1)), (5, (.m [0] 0 out5.length tInt.k)), (6, (intA i6)), (17, (.m [0] 0 out5.length tInt.k)), (18, (intA i6)), (22, (sl tInt v_6)), (23, (intA rank1)), (28, (intA (v_6.length : Int)))] rfl ?_
     exact tj hj1_5 rfl (wp 1 (lb rfl) rfl rfl rfl rfl rfl)
    ·skip
     refine ⟨_, rfl, rfl, (TOp_pure (pur_ldT (T := (tSl tInt)) (i := n_8) (off := 0) rfl one33 rfl rfl hv_10 rfl) rfl ?_)⟩
     refine tf 11 rfl (purI_lenT (T := tInt) sl33 rfl rfl) rfl rfl (by kernel_rfl) ?_
     refine tae [(0, (sl (tSl tInt) list0)), (1, (intA rank1)), (5, (.m [0] 0 out5.length tInt.k)), (6, (intA i6)), (17, (.m [0] 0 out5.length tInt.k)), (18, (intA i6)), (21, (.q (flat (tSl tInt).enc list0) (n_8 * (tSl tInt).k))), (23, (intA rank1)), (28, (intA (v_6.length : Int)))] rfl ?_
     refine TA_all [5, 12] (by kernel_rfl) (by decide) ⟨?_, ?_, trivial⟩
     ·skip
      refine ⟨_, rfl, rfl, (TOp_pure (pur_ldT (T := (tSl tInt)) (i := n_8) (off := 0) rfl one33 rfl rfl hv_10 rfl) rfl ?_)⟩
      exact tj hj1_5 rfl (wp 1 (lb rfl) rfl rfl rfl rfl rfl)
     ·skip
      refine ⟨_, rfl, rfl, (TOp_pure (pur_rem rfl rfl rfl (gD_inv h_11)) rfl ?_)⟩
      refine t1 5 (by kernel_rfl) rfl rfl (TOp_pure (pur_ldT (T := (tSl tInt)) (i := n_8) (off := 0) rfl one33 rfl rfl hv_10 rfl) rfl ?_)
      exact tj hj0_5 rfl (wp 1 (lb rfl) rfl rfl rfl rfl rfl)
   ·rintro _ _
    refine te [(0, (sl (tSl tInt) list0)), (1, (intA rank1)), (5, (.m [0] 0 (out5.set (i6).toNat v_12).length tInt.k)), (6, (intA i6))] rfl ?_
    refine T_region ?_
    refine Tp rfl rfl (pur_move rfl) rfl ?_
    refine Tp rfl rfl (pur_move rfl) rfl ?_
    refine Tp rfl rfl (pur_move rfl) rfl ?_
    refine Tp rfl rfl (pur_ixT (T := (tSl tInt)) sl22 rfl rfl hz_9 hv_10 rfl) rfl ?_
    refine Tp rfl rfl (pur_ldT (T := (tSl tInt)) (i := n_8) (off := 0) rfl one33 rfl rfl hv_10 rfl) rfl ?_
    refine Tp rfl rfl (pur_lenT (T := tInt) sl33 rfl rfl) rfl ?_
    obtain ⟨_u, h_22, H⟩ := bind_inv H
    refine Tp rfl rfl (pur_wquo rfl rfl rfl (gD_inv h_22)) rfl ?_
    refine Tp rfl rfl (pur_assign rfl) rfl ?_
    refine TO_nil ?_
    refine te [(0, (sl (tSl tInt) list0)), (1, (intA (w64 (rank1.tdiv (v_6.length : Int))))), (5, (.m [0] 0 (out5.set (i6).toNat v_12).length tInt.k)), (6, (intA i6))] rfl ?_
    refine T_region ?_
    refine Tp rfl rfl (pur_move rfl) rfl ?_
    refine Tp rfl rfl (pur_wsub rfl rfl rfl) rfl ?_
    refine Tp rfl rfl (pur_assign rfl) rfl ?_
    refine TO_nil ?_
    obtain rfl := some_inj H
    exact again k4 ((w64 (rank1.tdiv (v_6.length : Int))), (out5.set (i6).toNat v_12), (w64 (i6 - 1))) (Nat.lt_succ_self _) (wp 1 (lb rfl) rfl rfl rfl rfl rfl) K4_
  ·replace H := cond_f c_5 H
   refine T_exit ?_
   refine then_exit ?_
   refine then_exit ?_
   refine block_exit ?_
   obtain rfl := some_inj H
   obtain rfl := some_inj K4_
   replace H := onS_l N4_
   refine te [(5, (.m [0] 0 out5.length tInt.k))] rfl ?_
   refine sr ?_
   refine Tp rfl rfl (pur_move rfl) rfl ?_
   refine Tp rfl rfl (pur_assign rfl) rfl ?_
   refine TO_nil ?_
   refine te [(4, (.m [0] 0 out5.length tInt.k))] rfl ?_
   refine T_ret ?_
   obtain rfl := some_inj H
   exact end_pick (.tmp .nil) rfl [0] (by decide) rfl rfl rfl rfl rfl rfl
theorem m_impl_nthRepair_ok (u : Nat) (list0 : (List (List Int))) (rank1 : Int) (r : (List Int)) (H : m_impl_nthRepair u list0 rank1 = some r) : FnV prg 118 [(sl (tSl tInt) list0), (intA rank1)] (sl tInt r) := (m_impl_nthRepair_own u list0 rank1 r H).frz (frzT (T := tInt) rfl)

set_option maxHeartbeats 1000000 in
/-- impl.countRepairs -/
theorem m_impl_countRepairs_ok (list0 : (List (List Int))) (r : Int) (H : m_impl_countRepairs list0 = some r) : FnV prg 119 [(sl (tSl tInt) list0)] (intA r) := by
  unfold m_impl_countRepairs at H
  refine fnV_of_T Try.func119 rfl rfl (Nat.le_of_ble_eq_true rfl) ?_
  refine te [(0, (sl (tSl tInt) list0))] rfl ?_
  refine sr ?_
  refine Tp rfl rfl (pur_assign rfl) rfl ?_
  refine TO_nil ?_
  refine te [(0, (sl (tSl tInt) list0))] rfl ?_
  refine sr ?_
  refine Tp rfl rfl (pur_assign rfl) rfl ?_
  refine TO_nil ?_
  refine te [(0, (sl (tSl tInt) list0)), (3, (intA 1))] rfl ?_
  refine T_seq ?_
  refine sr ?_
  refine Tp rfl rfl (pur_move rfl) rfl ?_
  refine Tp rfl rfl (pur_lenT (T := (tSl tInt)) sl22 rfl rfl) rfl ?_
  refine Tp rfl rfl (pur_move rfl) rfl ?_
  refine TO_nil ?_
  refine te [(3, (intA 1)), (6, (sl (tSl tInt) list0)), (7, (intA (list0.length : Int))), (8, (intA 0))] rfl ?_
  obtain ⟨O2_, L2_, N2_⟩ := bind_inv H
  clear H
  obtain ⟨B2_, hb2, L2_⟩ := gen_forS L2_
  refine T_block ?_
  refine T_loopX (fun k => fun (x_ : Nat × Int) => k = list0.length - x_.1 ∧ forS B2_ (list0.drop x_.1) (x_.1 : Int) x_.2 = some O2_) (fun (x_ : Nat × Int) => [(3, (intA x_.2)), (6, (sl (tSl tInt) list0)), (7, (intA (list0.length : Int))), (8, (intA (x_.1 : Int)))]) (fun (x_ : Nat × Int) => []) _ (0, 1) (wp 0 (lb rfl) rfl rfl rfl rfl rfl) ⟨rfl, L2_⟩ ?_
  rintro _ ⟨t_1, out3⟩ ⟨rfl, L2_⟩
  refine te [(3, (intA out3)), (6, (sl (tSl tInt) list0)), (7, (intA (list0.length : Int))), (8, (intA (t_1 : Int)))] rfl ?_
  refine T_st (σ' := []) rfl ?_
  refine T_fact (len_sl (T := (tSl tInt)) (.tmp 6) rfl) (fun hl2 => ?_)
  refine sr ?_
  refine Tp rfl rfl (pur_lss rfl rfl rfl) rfl ?_
  refine TO_nil ?_
  refine te [(3, (intA out3)), (6, (sl (tSl tInt) list0)), (7, (intA (list0.length : Int))), (8, (intA (t_1 : Int))), (9, (boolA (decide ((t_1 : Int) < (list0.length : Int)))))] rfl ?_
  refine T_seq ?_
  refine T_cond (t := decide ((t_1 : Int) < (list0.length : Int))) rfl (fun d2 => ?_) (fun d2 => ?_)
  ·replace d2 := of_decide_eq_true d2
   obtain ⟨x_t_1, hx_t_1⟩ : ∃ v, (list0)[t_1]? = some v := ⟨_, List.getElem?_eq_getElem (by omega)⟩
   obtain ⟨C2_, H, K2_⟩ := forS_step L2_ hx_t_1
   rw [hb2] at H
   refine T_skip ?_
   refine te [(3, (intA out3)), (6, (sl (tSl tInt) list0)), (7, (intA (list0.length : Int))), (8, (intA (t_1 : Int)))] rfl ?_
   refine T_seq ?_
   refine T_block ?_
   refine sr ?_
   refine Tp rfl rfl (pur_ixT (T := (tSl tInt)) sl22 rfl rfl rfl hx_t_1 rfl) rfl ?_
   refine Tp rfl rfl (pur_ldT (T := (tSl tInt)) (i := t_1) (off := 0) rfl one33 rfl rfl hx_t_1 rfl) rfl ?_
   refine Tp rfl rfl (pur_assign rfl) rfl ?_
   refine TO_nil ?_
   refine te [(3, (intA out3)), (5, (sl tInt x_t_1)), (6, (sl (tSl tInt) list0)), (7, (intA (list0.length : Int))), (8, (intA (t_1 : Int)))] rfl ?_
   refine T_region ?_
   refine Tp rfl rfl (pur_move rfl) rfl ?_
   refine Tp rfl rfl (pur_move rfl) rfl ?_
   refine Tp rfl rfl (pur_lenT (T := tInt) sl33 rfl rfl) rfl ?_
   refine Tp rfl rfl (pur_wmul rfl rfl rfl) rfl ?_
   refine Tp rfl rfl (pur_assign rfl) rfl ?_
   refine TO_nil ?_
   refine te [(3, (intA (w64 (out3 * (x_t_1.length : Int))))), (6, (sl (tSl tInt) list0)), (7, (intA (list0.length : Int))), (8, (intA (t_1 : Int)))] rfl ?_
   refine T_region ?_
   refine Tp rfl rfl (pur_add rfl rfl rfl (fits64 (by omega) (by omega))) rfl ?_
   refine Tp rfl rfl (pur_move rfl) rfl ?_
   refine TO_nil ?_
   obtain rfl := some_inj H
   exact again (list0.length - (t_1 + 1)) (t_1 + 1, (w64 (out3 * (x_t_1.length : Int)))) (by omega) (wp 0 (lb rfl) rfl rfl rfl rfl rfl) ⟨rfl, K2_⟩
  ·replace d2 := of_decide_eq_false d2
   obtain rfl := forS_end L2_ (by omega)
   refine T_exit ?_
   refine then_exit ?_
   refine then_exit ?_
   refine block_exit ?_
   replace H := N2_
   refine te [(3, (intA out3))] rfl ?_
   refine sr ?_
   refine Tp rfl rfl (pur_move rfl) rfl ?_
   refine Tp rfl rfl (pur_assign rfl) rfl ?_
   refine TO_nil ?_
   refine te [(2, (intA out3))] rfl ?_
   refine T_ret ?_
   obtain rfl := some_inj H
   refine end_ret (.tmp .nil) rfl rfl ⟨?_, rfl⟩
   rfl

set_option maxHeartbeats 1000000 in
/-- impl.rangeOf -/
theorem m_impl_rangeOf_ok (u : Nat) (db0 : Database) (aggregate1 : ((List Int) → Option Int)) (aggregate1_g : Nat) (aggregate1_c : List A) (aggregate1_E : EnT prg aggregate1_g) (aggregate1_l : looseL aggregate1_c = true) (aggregate1_m : firmL aggregate1_c = true ∧ fzL aggregate1_c = aggregate1_c) (aggregate1_H : ∀ (x0 : (List Int)) r, aggregate1 x0 = some r → FnV prg aggregate1_g ([(sl tInt x0)] ++ aggregate1_c) (intA r)) (r : (Int × Int)) (H : m_impl_rangeOf u db0 aggregate1 = some r) : FnV prg 99 [(.g (tDatabase.enc db0)), (.f aggregate1_g aggregate1_c)] (.t [(intA r.1), (intA r.2)]) := by
  unfold m_impl_rangeOf at H
  refine fnV_of_T Try.func99 rfl rfl (Nat.le_of_ble_eq_true rfl) ?_
  refine te [(0, (.g (tDatabase.enc db0))), (1, (.f aggregate1_g aggregate1_c))] rfl ?_
  refine sr ?_
  refine TO_cons rfl (TOp_box rfl (boxAll rfl) rfl rfl ?_)
  refine Tp rfl rfl (pur_assign rfl) rfl ?_
  refine Tp rfl rfl (pur_assign rfl) rfl ?_
  refine TO_nil ?_
  refine te [(1, (.f aggregate1_g aggregate1_c)), (2, (.b 0 0))] rfl ?_
  refine sr ?_
  refine Tp rfl rfl (pur_ldK_b agg32 rfl rfl (lb rfl) rfl) rfl ?_
  obtain ⟨r_1, h_2, H⟩ := bind_inv H
  refine TO_cons rfl (TOp_callV (call_static ent117 rfl) (m_impl_blocks_ok _ _ h_2) rfl rfl rfl ?_)
  refine Tp rfl rfl (pur_assign rfl) rfl ?_
  refine TO_nil ?_
  refine te [(1, (.f aggregate1_g aggregate1_c)), (6, (sl (tSl tInt) r_1))] rfl ?_
  refine sr ?_
  refine Tp rfl rfl (pur_move rfl) rfl ?_
  refine Tp rfl rfl (pur_move rfl) rfl ?_
  obtain ⟨r_3, h_4, H⟩ := bind_inv H
  refine TO_cons rfl (TOp_callV (call_static ent118 rfl) (m_impl_nthRepair_ok u _ _ _ h_4) rfl rfl rfl ?_)
  obtain ⟨r_5, h_6, H⟩ := bind_inv H
  refine TO_cons rfl (TOp_callV (call_closure aggregate1_E rfl rfl) (aggregate1_H _  _ h_6) (looseL_app rfl aggregate1_l) rfl rfl ?_)
  refine Tp rfl rfl (pur_assign rfl) rfl ?_
  refine TO_nil ?_
  refine te [(1, (.f aggregate1_g aggregate1_c)), (6, (sl (tSl tInt) r_1)), (7, (intA r_5))] rfl ?_
  refine sr ?_
  refine Tp rfl rfl (pur_move rfl) rfl ?_
  refine Tp rfl rfl (pur_assign rfl) rfl ?_
  refine TO_nil ?_
  refine te [(1, (.f aggregate1_g aggregate1_c)), (6, (sl (tSl tInt) r_1)), (7, (intA r_5)), (8, (intA r_5))] rfl ?_
  refine T_seq ?_
  refine sr ?_
  refine Tp rfl rfl (pur_move rfl) rfl ?_
  obtain ⟨r_7, h_8, H⟩ := bind_inv H
  refine TO_cons rfl (TOp_callV (call_static ent119 rfl) (m_impl_countRepairs_ok _ _ h_8) rfl rfl rfl ?_)
  refine Tp rfl rfl (pur_move rfl) rfl ?_
  refine TO_nil ?_
  refine te [(1, (.f aggregate1_g aggregate1_c)), (6, (sl (tSl tInt) r_1)), (7, (intA r_5)), (8, (intA r_5)), (19, (intA r_7)), (20, (intA 0))] rfl ?_
  obtain ⟨_, h_11, H⟩ := bind_inv H
  replace h_11 := gN_inv h_11
  obtain ⟨O10_, L10_, N10_⟩ := bind_inv H
  clear H
  obtain ⟨B10_, hb10, L10_⟩ := gen_forM L10_
  refine T_block ?_
  refine T_loopX (fun k => fun (x_ : Int × Int × Int) => k = (r_7 - x_.1).toNat ∧ 0 ≤ x_.1 ∧ forM B10_ (r_7 - x_.1).toNat x_.1 (x_.2.1, x_.2.2) = some O10_) (fun (x_ : Int × Int × Int) => [(1, (.f aggregate1_g aggregate1_c)), (6, (sl (tSl tInt) r_1)), (7, (intA x_.2.1)), (8, (intA x_.2.2)), (19, (intA r_7)), (20, (intA (x_.1 : Int)))]) (fun (x_ : Int × Int × Int) => [.box [(sl tRelation db0.relations), (sl tFact db0.facts)]]) _ (0, (r_5, r_5)) (wp 1 (lb rfl) rfl rfl (by simp only [namesE, A.names, namesL_enc, Bool.false_or, Bool.or_false, looseL_names aggregate1_l]) rfl rfl) ⟨rfl, Int.le_refl _, L10_⟩ ?_
  rintro _ ⟨t_9, least7, most8⟩ ⟨rfl, hi10, L10_⟩
  refine te [(1, (.f aggregate1_g aggregate1_c)), (6, (sl (tSl tInt) r_1)), (7, (intA least7)), (8, (intA most8)), (19, (intA r_7)), (20, (intA (t_9 : Int)))] rfl ?_
  refine T_st (σ' := [.box [(sl tRelation db0.relations), (sl tFact db0.facts)]]) rfl ?_
  refine sr ?_
  refine Tp rfl rfl (pur_lss rfl rfl rfl) rfl ?_
  refine TO_nil ?_
  refine te [(1, (.f aggregate1_g aggregate1_c)), (6, (sl (tSl tInt) r_1)), (7, (intA least7)), (8, (intA most8)), (19, (intA r_7)), (20, (intA (t_9 : Int))), (21, (boolA (decide ((t_9 : Int) < r_7))))] rfl ?_
  refine T_seq ?_
  refine T_cond (t := decide ((t_9 : Int) < r_7)) rfl (fun d10 => ?_) (fun d10 => ?_)
  ·replace d10 := of_decide_eq_true d10
   obtain ⟨C10_, H, K10_⟩ := forM_step L10_ d10
   rw [hb10] at H
   refine T_skip ?_
   refine te [(1, (.f aggregate1_g aggregate1_c)), (6, (sl (tSl tInt) r_1)), (7, (intA least7)), (8, (intA most8)), (19, (intA r_7)), (20, (intA (t_9 : Int)))] rfl ?_
   refine T_seq ?_
   refine T_block ?_
   refine sr ?_
   refine Tp rfl rfl (pur_move rfl) rfl ?_
   refine Tp rfl rfl (pur_assign rfl) rfl ?_
   refine TO_nil ?_
   refine te [(1, (.f aggregate1_g aggregate1_c)), (6, (sl (tSl tInt) r_1)), (7, (intA least7)), (8, (intA most8)), (9, (intA (t_9 : Int))), (19, (intA r_7)), (20, (intA (t_9 : Int)))] rfl ?_
   refine sr ?_
   refine Tp rfl rfl (pur_move rfl) rfl ?_
   refine Tp rfl rfl (pur_move rfl) rfl ?_
   refine Tp rfl rfl (pur_move rfl) rfl ?_
   obtain ⟨r_12, h_13, H⟩ := bind_inv H
   refine TO_cons rfl (TOp_callV (call_static ent118 rfl) (m_impl_nthRepair_ok u _ _ _ h_13) rfl rfl rfl ?_)
   obtain ⟨r_14, h_15, H⟩ := bind_inv H
   refine TO_cons rfl (TOp_callV (call_closure aggregate1_E rfl rfl) (aggregate1_H _  _ h_15) (looseL_app rfl aggregate1_l) rfl rfl ?_)
   refine Tp rfl rfl (pur_assign rfl) rfl ?_
   refine TO_nil ?_
   refine te [(1, (.f aggregate1_g aggregate1_c)), (6, (sl (tSl tInt) r_1)), (7, (intA least7)), (8, (intA most8)), (10, (intA r_14)), (19, (intA r_7)), (20, (intA (t_9 : Int)))] rfl ?_
   refine T_region ?_
   refine Tp rfl rfl (pur_move rfl) rfl ?_
   refine Tp rfl rfl (pur_move rfl) rfl ?_
   refine Tp rfl rfl (pur_min rfl rfl rfl) rfl ?_
   refine Tp rfl rfl (pur_move rfl) rfl ?_
   refine Tp rfl rfl (pur_move rfl) rfl ?_
   refine Tp rfl rfl (pur_max rfl rfl rfl) rfl ?_
   refine Tp rfl rfl (pur_assign rfl) rfl ?_
   refine Tp rfl rfl (pur_assign rfl) rfl ?_
   refine TO_nil ?_
   refine te [(1, (.f aggregate1_g aggregate1_c)), (6, (sl (tSl tInt) r_1)), (7, (intA (if r_14 < least7 then r_14 else least7))), (8, (intA (if most8 < r_14 then r_14 else most8))), (19, (intA r_7)), (20, (intA (t_9 : Int)))] rfl ?_
   refine T_region ?_
   refine Tp rfl rfl (pur_add rfl rfl rfl (fits64 (by omega) (by omega))) rfl ?_
   refine Tp rfl rfl (pur_move rfl) rfl ?_
   refine TO_nil ?_
   obtain rfl := some_inj H
   exact again (r_7 - (t_9 + 1)).toNat (t_9 + 1, ((if r_14 < least7 then r_14 else least7), (if most8 < r_14 then r_14 else most8))) (by omega) (wp 1 (lb rfl) rfl rfl (by simp only [namesE, A.names, namesL_enc, Bool.false_or, Bool.or_false, looseL_names aggregate1_l]) rfl rfl) ⟨rfl, by omega, K10_⟩
  ·replace d10 := of_decide_eq_false d10
   obtain rfl := forM_end L10_ (by omega)
   refine T_exit ?_
   refine then_exit ?_
   refine then_exit ?_
   refine block_exit ?_
   replace H := N10_
   refine te [(7, (intA least7)), (8, (intA most8))] rfl ?_
   refine sr ?_
   refine Tp rfl rfl (pur_move rfl) rfl ?_
   refine Tp rfl rfl (pur_move rfl) rfl ?_
   refine Tp rfl rfl (pur_assign rfl) rfl ?_
   refine Tp rfl rfl (pur_assign rfl) rfl ?_
   refine TO_nil ?_
   refine te [(4, (intA least7)), (5, (intA most8))] rfl ?_
   refine T_ret ?_
   obtain rfl := some_inj H
   refine end_ret (.tmp (.tmp .nil)) rfl rfl ⟨?_, rfl⟩
   rfl

set_option maxHeartbeats 1000000 in
/-- impl.columnOf -/
theorem m_impl_columnOf_own (db0 : Database) (indices1 : (List Int)) (relation2 : Int) (column3 : Int) (r : (List Int)) (H : m_impl_columnOf db0 indices1 relation2 column3 = some r) : FnO prg 58 [(.g (tDatabase.enc db0)), (sl tInt indices1), (intA relation2), (intA column3)] (.m [0] 0 r.length tInt.k) [.row (flat tInt.own r)] := by
  unfold m_impl_columnOf at H
  refine fnO_of_T Try.func58 rfl rfl (Nat.le_of_ble_eq_true rfl) ?_
  refine te [(0, (.g (tDatabase.enc db0))), (1, (sl tInt indices1)), (2, (intA relation2)), (3, (intA column3))] rfl ?_
  refine sr ?_
  refine TO_cons rfl (TOp_box rfl (boxAll rfl) rfl rfl ?_)
  refine Tp rfl rfl (pur_assign rfl) rfl ?_
  refine TO_nil ?_
  refine te [(1, (sl tInt indices1)), (2, (intA relation2)), (3, (intA column3)), (4, (.b 0 0))] rfl ?_
  refine sr ?_
  refine TO_cons rfl (TOp_lit (nn := 0) (k := 1) sl33 zero3 rfl rfl rfl rfl (by decide) ?_)
  refine TO_st (σ' := [.box [(sl tRelation db0.relations), (sl tFact db0.facts)], .row (flat tInt.enc ([] : (List Int)))]) rfl ?_
  refine Tp rfl rfl (pur_assign rfl) rfl ?_
  refine TO_nil ?_
  refine te [(1, (sl tInt indices1)), (2, (intA relation2)), (3, (intA column3)), (4, (.b 0 0)), (9, (.m [1] 0 ([] : (List Int)).length tInt.k))] rfl ?_
  refine T_seq ?_
  refine sr ?_
  refine Tp rfl rfl (pur_move rfl) rfl ?_
  refine Tp rfl rfl (pur_lenT (T := tInt) sl33 rfl rfl) rfl ?_
  refine Tp rfl rfl (pur_move rfl) rfl ?_
  refine TO_nil ?_
  refine te [(2, (intA relation2)), (3, (intA column3)), (4, (.b 0 0)), (9, (.m [1] 0 ([] : (List Int)).length tInt.k)), (13, (sl tInt indices1)), (14, (intA (indices1.length : Int))), (15, (intA 0))] rfl ?_
  obtain ⟨O2_, L2_, N2_⟩ := bind_inv H
  clear H
  obtain ⟨B2_, hb2, L2_⟩ := gen_forS L2_
  refine T_block ?_
  refine T_loopX (fun k => fun (x_ : Nat × (List Int)) => k = indices1.length - x_.1 ∧ forS B2_ (indices1.drop x_.1) (x_.1 : Int) x_.2 = some O2_) (fun (x_ : Nat × (List Int)) => [(2, (intA relation2)), (3, (intA column3)), (4, (.b 0 0)), (9, (.m [1] 0 x_.2.length tInt.k)), (13, (sl tInt indices1)), (14, (intA (indices1.length : Int))), (15, (intA (x_.1 : Int)))]) (fun (x_ : Nat × (List Int)) => [.box [(sl tRelation db0.relations), (sl tFact db0.facts)], .row (flat tInt.enc x_.2)]) _ (0, ([] : (List Int))) (wp 2 (lb rfl) rfl rfl rfl rfl rfl) ⟨rfl, L2_⟩ ?_
  rintro _ ⟨t_1, out9⟩ ⟨rfl, L2_⟩
  refine te [(2, (intA relation2)), (3, (intA column3)), (4, (.b 0 0)), (9, (.m [1] 0 out9.length tInt.k)), (13, (sl tInt indices1)), (14, (intA (indices1.length : Int))), (15, (intA (t_1 : Int)))] rfl ?_
  refine T_st (σ' := [.box [(sl tRelation db0.relations), (sl tFact db0.facts)], .row (flat tInt.enc out9)]) rfl ?_
  refine T_fact (len_sl (T := tInt) (.tmp 13) rfl) (fun hl2 => ?_)
  refine sr ?_
  refine Tp rfl rfl (pur_lss rfl rfl rfl) rfl ?_
  refine TO_nil ?_
  refine te [(2, (intA relation2)), (3, (intA column3)), (4, (.b 0 0)), (9, (.m [1] 0 out9.length tInt.k)), (13, (sl tInt indices1)), (14, (intA (indices1.length : Int))), (15, (intA (t_1 : Int))), (16, (boolA (decide ((t_1 : Int) < (indices1.length : Int)))))] rfl ?_
  refine T_seq ?_
  refine T_cond (t := decide ((t_1 : Int) < (indices1.length : Int))) rfl (fun d2 => ?_) (fun d2 => ?_)
  ·replace d2 := of_decide_eq_true d2
   obtain ⟨x_t_1, hx_t_1⟩ : ∃ v, (indices1)[t_1]? = some v := ⟨_, List.getElem?_eq_getElem (by omega)⟩
   obtain ⟨C2_, H, K2_⟩ := forS_step L2_ hx_t_1
   rw [hb2] at H
   refine T_skip ?_
   refine te [(2, (intA relation2)), (3, (intA column3)), (4, (.b 0 0)), (9, (.m [1] 0 out9.length tInt.k)), (13, (sl tInt indices1)), (14, (intA (indices1.length : Int))), (15, (intA (t_1 : Int)))] rfl ?_
   refine T_seq ?_
   refine T_block ?_
   refine sr ?_
   refine Tp rfl rfl (pur_ixT (T := tInt) sl33 rfl rfl rfl hx_t_1 rfl) rfl ?_
   refine Tp rfl rfl (pur_ldT (T := tInt) (i := t_1) (off := 0) rfl one3 rfl rfl hx_t_1 rfl) rfl ?_
   refine Tp rfl rfl (pur_assign rfl) rfl ?_
   refine TO_nil ?_
   refine te [(2, (intA relation2)), (3, (intA column3)), (4, (.b 0 0)), (9, (.m [1] 0 out9.length tInt.k)), (11, (intA x_t_1)), (13, (sl tInt indices1)), (14, (intA (indices1.length : Int))), (15, (intA (t_1 : Int)))] rfl ?_
   refine sr ?_
   refine Tp rfl rfl (pur_fa_b fld32_1 rfl rfl) rfl ?_
   refine Tp rfl rfl (pur_ld_b one30 rfl rfl rfl rfl) rfl ?_
   refine Tp rfl rfl (pur_move rfl) rfl ?_
   obtain ⟨v_3, h_4, H⟩ := bind_inv H
   obtain ⟨n_5, hz_6, hv_7⟩ := getI_inv h_4
   refine Tp rfl rfl (pur_ixT (T := tFact) sl30 rfl rfl hz_6 hv_7 rfl) rfl ?_
   refine Tp rfl rfl (pur_fa_q fld60_0 rfl rfl) rfl ?_
   refine Tp rfl rfl (pur_ldT (T := tFact) (i := n_5) (off := 0) rfl one3 rfl rfl hv_7 rfl) rfl ?_
   refine Tp rfl rfl (pur_move rfl) rfl ?_
   refine Tp rfl rfl (pur_eql rfl rfl rfl) rfl ?_
   refine TO_nil ?_
   refine te [(2, (intA relation2)), (3, (intA column3)), (4, (.b 0 0)), (9, (.m [1] 0 out9.length tInt.k)), (11, (intA x_t_1)), (13, (sl tInt indices1)), (14, (intA (indices1.length : Int))), (15, (intA (t_1 : Int))), (26, (boolA (decide (v_3.relation = relation2))))] rfl ?_
   refine T_cond (t := decide (v_3.relation = relation2)) rfl (fun c_8 => ?_) (fun c_8 => ?_)
   ·replace H := cond_t c_8 H
    refine T_region ?_
    refine Tp rfl rfl (pur_move rfl) rfl ?_
    refine Tp rfl rfl (pur_fa_b fld32_1 rfl rfl) rfl ?_
    refine Tp rfl rfl (pur_ld_b one30 rfl rfl rfl rfl) rfl ?_
    refine Tp rfl rfl (pur_move rfl) rfl ?_
    refine Tp rfl rfl (pur_ixT (T := tFact) sl30 rfl rfl hz_6 hv_7 rfl) rfl ?_
    refine Tp rfl rfl (pur_fa_q fld60_1 rfl rfl) rfl ?_
    refine Tp rfl rfl (pur_ldT (T := tFact) (i := n_5) (off := 1) rfl one33 rfl rfl hv_7 rfl) rfl ?_
    refine Tp rfl rfl (pur_move rfl) rfl ?_
    refine toe [(2, (intA relation2)), (3, (intA column3)), (4, (.b 0 0)), (9, (.m [1] 0 out9.length tInt.k)), (13, (sl tInt indices1)), (14, (intA (indices1.length : Int))), (15, (intA (t_1 : Int))), (27, (.m [1] 0 out9.length tInt.k)), (33, (sl tInt v_3.values)), (34, (intA column3))] rfl ?_
    obtain ⟨v_9, h_10, H⟩ := bind_inv H
    obtain ⟨n_11, hz_12, hv_13⟩ := getI_inv h_10
    refine Tp rfl rfl (pur_ixT (T := tInt) sl33 rfl rfl hz_12 hv_13 rfl) rfl ?_
    refine Tp rfl rfl (pur_ldT (T := tInt) (i := n_11) (off := 0) rfl one3 rfl rfl hv_13 rfl) rfl ?_
    refine TO_cons rfl (TOp_lit (nn := 1) (k := 1) sl33 zero3 rfl rfl rfl rfl (by decide) ?_)
    refine TO_st (σ' := [.box [(sl tRelation db0.relations), (sl tFact db0.facts)], .row (flat tInt.enc out9), .row (flat tInt.enc ([v_9] : (List Int)))]) rfl ?_
    obtain ⟨us_14, h_15, H⟩ := bind_inv H
    refine TO_cons rfl (TOp_appZ (T := tInt) (f := tInt.enc) (xs := out9) (ys := ([v_9] : (List Int))) tInt.len sl33 zero3 rfl bytes3 (by decide) rfl rfl rfl rfl (src_mT (f := tInt.enc) tInt.len rfl rfl (flat_cell tInt _)) (flat_cell tInt _) h_15 (lb rfl) ?_)
    refine toe [(2, (intA relation2)), (3, (intA column3)), (4, (.b 0 0)), (13, (sl tInt indices1)), (14, (intA (indices1.length : Int))), (15, (intA (t_1 : Int))), (33, (sl tInt v_3.values)), (34, (intA column3)), (35, (.q (flat tInt.enc v_3.values) (n_11 * tInt.k))), (36, (intA v_9)), (37, (.m [2] 0 ([v_9] : (List Int)).length tInt.k)), (38, (.m [1] 0 us_14.length tInt.k))] rfl ?_
    refine TO_st (σ' := [.box [(sl tRelation db0.relations), (sl tFact db0.facts)], .row (flat tInt.enc us_14), .row (flat tInt.enc ([v_9] : (List Int))), .dead]) rfl ?_
    refine Tp rfl rfl (pur_assign rfl) rfl ?_
    refine TO_nil ?_
    refine te [(2, (intA relation2)), (3, (intA column3)), (4, (.b 0 0)), (9, (.m [1] 0 us_14.length tInt.k)), (13, (sl tInt indices1)), (14, (intA (indices1.length : Int))), (15, (intA (t_1 : Int)))] rfl ?_
    refine T_region ?_
    refine Tp rfl rfl (pur_add rfl rfl rfl (fits64 (by omega) (by omega))) rfl ?_
    refine Tp rfl rfl (pur_move rfl) rfl ?_
    refine TO_nil ?_
    obtain rfl := some_inj H
    exact again (indices1.length - (t_1 + 1)) (t_1 + 1, us_14) (by omega) (wp 2 (lb rfl) rfl rfl rfl rfl rfl) ⟨rfl, K2_⟩
   ·replace H := cond_f c_8 H
    refine T_skip ?_
    refine te [(2, (intA relation2)), (3, (intA column3)), (4, (.b 0 0)), (9, (.m [1] 0 out9.length tInt.k)), (13, (sl tInt indices1)), (14, (intA (indices1.length : Int))), (15, (intA (t_1 : Int)))] rfl ?_
    refine T_region ?_
    refine Tp rfl rfl (pur_add rfl rfl rfl (fits64 (by omega) (by omega))) rfl ?_
    refine Tp rfl rfl (pur_move rfl) rfl ?_
    refine TO_nil ?_
    obtain rfl := some_inj H
    exact again (indices1.length - (t_1 + 1)) (t_1 + 1, out9) (by omega) (wp 2 (lb rfl) rfl rfl rfl rfl rfl) ⟨rfl, K2_⟩
  ·replace d2 := of_decide_eq_false d2
   obtain rfl := forS_end L2_ (by omega)
   refine T_exit ?_
   refine then_exit ?_
   refine then_exit ?_
   refine block_exit ?_
   replace H := N2_
   refine te [(9, (.m [1] 0 out9.length tInt.k))] rfl ?_
   refine sr ?_
   refine Tp rfl rfl (pur_move rfl) rfl ?_
   refine Tp rfl rfl (pur_assign rfl) rfl ?_
   refine TO_nil ?_
   refine te [(8, (.m [1] 0 out9.length tInt.k))] rfl ?_
   refine T_ret ?_
   obtain rfl := some_inj H
   exact end_pick (.tmp .nil) rfl [1] (by decide) rfl rfl rfl rfl rfl rfl
theorem m_impl_columnOf_ok (db0 : Database) (indices1 : (List Int)) (relation2 : Int) (column3 : Int) (r : (List Int)) (H : m_impl_columnOf db0 indices1 relation2 column3 = some r) : FnV prg 58 [(.g (tDatabase.enc db0)), (sl tInt indices1), (intA relation2), (intA column3)] (sl tInt r) := (m_impl_columnOf_own db0 indices1 relation2 column3 r H).frz (frzT (T := tInt) rfl)

set_option maxHeartbeats 1000000 in
/-- impl.columnRange$2 -/
theorem m_impl_columnRange_2_ok (repair0 : (List Int)) (fv1 : ((List Int) → Option Int)) (fv1_g : Nat) (fv1_c : List A) (fv1_E : EnT prg fv1_g) (fv1_l : looseL fv1_c = true) (fv1_m : firmL fv1_c = true ∧ fzL fv1_c = fv1_c) (fv1_H : ∀ (x0 : (List Int)) r, fv1 x0 = some r → FnV prg fv1_g ([(sl tInt x0)] ++ fv1_c) (intA r)) (fv2 : Database) (fv3 : Int) (fv4 : Int) (r : Int) (H : m_impl_columnRange_2 repair0 fv1 fv2 fv3 fv4 = some r) : FnV prg 100 [(sl tInt repair0), (.q [(.f fv1_g fv1_c)] 0), (.q [(sl tRelation fv2.relations), (sl tFact fv2.facts)] 0), (.q [(intA fv3)] 0), (.q [(intA fv4)] 0)] (intA r) := by
  unfold m_impl_columnRange_2 at H
  refine fnV_of_T Try.func100 rfl rfl (Nat.le_of_ble_eq_true rfl) ?_
  refine te [(0, (sl tInt repair0)), (1, (.q [(.f fv1_g fv1_c)] 0)), (2, (.q [(sl tRelation fv2.relations), (sl tFact fv2.facts)] 0)), (3, (.q [(intA fv3)] 0)), (4, (.q [(intA fv4)] 0))] rfl ?_
  refine sr ?_
  refine Tp rfl rfl (pur_assign rfl) rfl ?_
  refine TO_nil ?_
  refine te [(0, (sl tInt repair0)), (1, (.q [(.f fv1_g fv1_c)] 0)), (2, (.q [(sl tRelation fv2.relations), (sl tFact fv2.facts)] 0)), (3, (.q [(intA fv3)] 0)), (4, (.q [(intA fv4)] 0))] rfl ?_
  obtain ⟨r_1, h_2, H⟩ := bind_inv H
  obtain ⟨r_3, h_4, H⟩ := bind_inv H
  refine T_cutX (fun (_ : Unit) => True) (fun _ => [(6, (intA r_3))]) (fun _ => []) ?_ ?_
  ·skip
   refine T_regionP mixed ?_
   refine TA_have 2 #[true, true, true, true, true, true, false, false] [(7, (.f fv1_g fv1_c)), (12, (sl tInt r_1))] [] ?_ (fun hj0_1 => ?_)
   ·skip
    refine t1 6 (by kernel_rfl) rfl rfl (TOp_callV (call_closure fv1_E rfl rfl) (fv1_H _  _ h_4) (looseL_app rfl fv1_l) rfl rfl ?_)
    refine tf 7 rfl (purI_assign rfl) rfl rfl (by kernel_rfl) ?_
    exact TA_nil (by kernel_rfl) (joined () (wp 0 (lb rfl) rfl rfl rfl rfl rfl) trivial)
   refine TA_have 3 #[true, true, true, true, true, false, false, false] [(7, (.f fv1_g fv1_c)), (8, (.g (tDatabase.enc fv2))), (9, (sl tInt repair0)), (10, (intA fv3)), (11, (intA fv4))] [] ?_ (fun hj1_1 => ?_)
   ·skip
    refine t1 5 (by kernel_rfl) rfl rfl (TOp_callV (call_static ent58 rfl) (m_impl_columnOf_ok _ _ _ _ _ h_2) rfl rfl rfl ?_)
    exact tj hj0_1 rfl (wp 0 (lb rfl) rfl rfl (by simp only [namesE, A.names, namesL_enc, Bool.false_or, Bool.or_false, looseL_names fv1_l]) rfl rfl)
   refine TA_have 4 #[false, true, true, true, true, false, false, false] [(1, (.q [(.f fv1_g fv1_c)] 0)), (8, (.g (tDatabase.enc fv2))), (9, (sl tInt repair0)), (10, (intA fv3)), (11, (intA fv4))] [] ?_ (fun hj2_1 => ?_)
   ·skip
    refine TA_all [0, 5] (by kernel_rfl) (by decide) ⟨?_, ?_, trivial⟩
    ·skip
     refine ⟨_, rfl, rfl, (TOp_pure (pur_ld_q one73 rfl rfl rfl) rfl ?_)⟩
     exact tj hj1_1 rfl (wp 0 (lb rfl) rfl rfl (by simp only [namesE, A.names, namesL_enc, Bool.false_or, Bool.or_false, looseL_names fv1_l]) rfl rfl)
    ·skip
     refine ⟨_, rfl, rfl, (TOp_callV (call_static ent58 rfl) (m_impl_columnOf_ok _ _ _ _ _ h_2) rfl rfl rfl ?_)⟩
     refine t1 0 (by kernel_rfl) rfl rfl (TOp_pure (pur_ld_q one73 rfl rfl rfl) rfl ?_)
     exact tj hj0_1 rfl (wp 0 (lb rfl) rfl rfl (by simp only [namesE, A.names, namesL_enc, Bool.false_or, Bool.or_false, looseL_names fv1_l]) rfl rfl)
   refine TA_have 4 #[true, false, true, true, true, false, false, false] [(2, (.q [(sl tRelation fv2.relations), (sl tFact fv2.facts)] 0)), (7, (.f fv1_g fv1_c)), (9, (sl tInt repair0)), (10, (intA fv3)), (11, (intA fv4))] [] ?_ (fun hj3_1 => ?_)
   ·skip
    refine t1 1 (by kernel_rfl) rfl rfl (TOp_pure (pur_ldK_q agg32 rfl (lb rfl) rfl) rfl ?_)
    exact tj hj1_1 rfl (wp 0 (lb rfl) rfl rfl (by simp only [namesE, A.names, namesL_enc, Bool.false_or, Bool.or_false, looseL_names fv1_l]) rfl rfl)
   refine TA_have 4 #[true, true, true, false, true, false, false, false] [(3, (.q [(intA fv3)] 0)), (7, (.f fv1_g fv1_c)), (8, (.g (tDatabase.enc fv2))), (9, (sl tInt repair0)), (11, (intA fv4))] [] ?_ (fun hj4_1 => ?_)
   ·skip
    refine t1 3 (by kernel_rfl) rfl rfl (TOp_pure (pur_ld_q one3 rfl rfl rfl) rfl ?_)
    exact tj hj1_1 rfl (wp 0 (lb rfl) rfl rfl (by simp only [namesE, A.names, namesL_enc, Bool.false_or, Bool.or_false, looseL_names fv1_l]) rfl rfl)
   refine TA_have 4 #[true, true, true, true, false, false, false, false] [(4, (.q [(intA fv4)] 0)), (7, (.f fv1_g fv1_c)), (8, (.g (tDatabase.enc fv2))), (9, (sl tInt repair0)), (10, (intA fv3))] [] ?_ (fun hj5_1 => ?_)
   ·skip
    refine t1 4 (by kernel_rfl) rfl rfl (TOp_pure (pur_ld_q one3 rfl rfl rfl) rfl ?_)
    exact tj hj1_1 rfl (wp 0 (lb rfl) rfl rfl (by simp only [namesE, A.names, namesL_enc, Bool.false_or, Bool.or_false, looseL_names fv1_l]) rfl rfl)
   refine TA_have 5 #[false, false, true, true, true, false, false, false] [(1, (.q [(.f fv1_g fv1_c)] 0)), (2, (.q [(sl tRelation fv2.relations), (sl tFact fv2.facts)] 0)), (9, (sl tInt repair0)), (10, (intA fv3)), (11, (intA fv4))] [] ?_ (fun hj6_1 => ?_)
   ·skip
    refine TA_all [0, 1] (by kernel_rfl) (by decide) ⟨?_, ?_, trivial⟩
    ·skip
     refine ⟨_, rfl, rfl, (TOp_pure (pur_ld_q one73 rfl rfl rfl) rfl ?_)⟩
     exact tj hj3_1 rfl (wp 0 (lb rfl) rfl rfl (by simp only [namesE, A.names, namesL_enc, Bool.false_or, Bool.or_false, looseL_names fv1_l]) rfl rfl)
    ·skip
     refine ⟨_, rfl, rfl, (TOp_pure (pur_ldK_q agg32 rfl (lb rfl) rfl) rfl ?_)⟩
     exact tj hj2_1 rfl (wp 0 (lb rfl) rfl rfl rfl rfl rfl)
   refine TA_have 5 #[false, true, true, false, true, false, false, false] [(1, (.q [(.f fv1_g fv1_c)] 0)), (3, (.q [(intA fv3)] 0)), (8, (.g (tDatabase.enc fv2))), (9, (sl tInt repair0)), (11, (intA fv4))] [] ?_ (fun hj7_1 => ?_)
   ·skip
    refine TA_all [0, 3] (by kernel_rfl) (by decide) ⟨?_, ?_, trivial⟩
    ·skip
     refine ⟨_, rfl, rfl, (TOp_pure (pur_ld_q one73 rfl rfl rfl) rfl ?_)⟩
     exact tj hj4_1 rfl (wp 0 (lb rfl) rfl rfl (by simp only [namesE, A.names, namesL_enc, Bool.false_or, Bool.or_false, looseL_names fv1_l]) rfl rfl)
    ·skip
     refine ⟨_, rfl, rfl, (TOp_pure (pur_ld_q one3 rfl rfl rfl) rfl ?_)⟩
     exact tj hj2_1 rfl (wp 0 (lb rfl) rfl rfl rfl rfl rfl)
   refine TA_have 5 #[false, true, true, true, false, false, false, false] [(1, (.q [(.f fv1_g fv1_c)] 0)), (4, (.q [(intA fv4)] 0)), (8, (.g (tDatabase.enc fv2))), (9, (sl tInt repair0)), (10, (intA fv3))] [] ?_ (fun hj8_1 => ?_)
   ·skip
    refine TA_all [0, 4] (by kernel_rfl) (by decide) ⟨?_, ?_, trivial⟩
    ·skip
     refine ⟨_, rfl, rfl, (TOp_pure (pur_ld_q one73 rfl rfl rfl) rfl ?_)⟩
     exact tj hj5_1 rfl (wp 0 (lb rfl) rfl rfl (by simp only [namesE, A.names, namesL_enc, Bool.false_or, Bool.or_false, looseL_names fv1_l]) rfl rfl)
    ·skip
     refine ⟨_, rfl, rfl, (TOp_pure (pur_ld_q one3 rfl rfl rfl) rfl ?_)⟩
     exact tj hj2_1 rfl (wp 0 (lb rfl) rfl rfl rfl rfl rfl)
   refine TA_have 5 #[true, false, true, false, true, false, false, false] [(2, (.q [(sl tRelation fv2.relations), (sl tFact fv2.facts)] 0)), (3, (.q [(intA fv3)] 0)), (7, (.f fv1_g fv1_c)), (9, (sl tInt repair0)), (11, (intA fv4))] [] ?_ (fun hj9_1 => ?_)
   ·skip
    refine TA_all [1, 3] (by kernel_rfl) (by decide) ⟨?_, ?_, trivial⟩
    ·skip
     refine ⟨_, rfl, rfl, (TOp_pure (pur_ldK_q agg32 rfl (lb rfl) rfl) rfl ?_)⟩
     exact tj hj4_1 rfl (wp 0 (lb rfl) rfl rfl (by simp only [namesE, A.names, namesL_enc, Bool.false_or, Bool.or_false, looseL_names fv1_l]) rfl rfl)
    ·skip
     refine ⟨_, rfl, rfl, (TOp_pure (pur_ld_q one3 rfl rfl rfl) rfl ?_)⟩
     exact tj hj3_1 rfl (wp 0 (lb rfl) rfl rfl (by simp only [namesE, A.names, namesL_enc, Bool.false_or, Bool.or_false, looseL_names fv1_l]) rfl rfl)
   refine TA_have 5 #[true, false, true, true, false, false, false, false] [(2, (.q [(sl tRelation fv2.relations), (sl tFact fv2.facts)] 0)), (4, (.q [(intA fv4)] 0)), (7, (.f fv1_g fv1_c)), (9, (sl tInt repair0)), (10, (intA fv3))] [] ?_ (fun hj10_1 => ?_)
   ·skip
    refine TA_all [1, 4] (by kernel_rfl) (by decide) ⟨?_, ?_, trivial⟩
    ·skip
     refine ⟨_, rfl, rfl, (TOp_pure (pur_ldK_q agg32 rfl (lb rfl) rfl) rfl ?_)⟩
     exact tj hj5_1 rfl (wp 0 (lb rfl) rfl rfl (by simp only [namesE, A.names, namesL_enc, Bool.false_or, Bool.or_false, looseL_names fv1_l]) rfl rfl)
    ·skip
     refine ⟨_, rfl, rfl, (TOp_pure (pur_ld_q one3 rfl rfl rfl) rfl ?_)⟩
     exact tj hj3_1 rfl (wp 0 (lb rfl) rfl rfl (by simp only [namesE, A.names, namesL_enc, Bool.false_or, Bool.or_false, looseL_names fv1_l]) rfl rfl)
   refine TA_have 5 #[true, true, true, false, false, false, false, false] [(3, (.q [(intA fv3)] 0)), (4, (.q [(intA fv4)] 0)), (7, (.f fv1_g fv1_c)), (8, (.g (tDatabase.enc fv2))), (9, (sl tInt repair0))] [] ?_ (fun hj11_1 => ?_)
   ·skip
    refine TA_all [3, 4] (by kernel_rfl) (by decide) ⟨?_, ?_, trivial⟩
    ·skip
     refine ⟨_, rfl, rfl, (TOp_pure (pur_ld_q one3 rfl rfl rfl) rfl ?_)⟩
     exact tj hj5_1 rfl (wp 0 (lb rfl) rfl rfl (by simp only [namesE, A.names, namesL_enc, Bool.false_or, Bool.or_false, looseL_names fv1_l]) rfl rfl)
    ·skip
     refine ⟨_, rfl, rfl, (TOp_pure (pur_ld_q one3 rfl rfl rfl) rfl ?_)⟩
     exact tj hj4_1 rfl (wp 0 (lb rfl) rfl rfl (by simp only [namesE, A.names, namesL_enc, Bool.false_or, Bool.or_false, looseL_names fv1_l]) rfl rfl)
   refine tf 2 rfl (purI_move rfl) rfl rfl (by kernel_rfl) ?_
   refine TA_all [0, 1, 3, 4] (by kernel_rfl) (by decide) ⟨?_, ?_, ?_, ?_, trivial⟩
   ·skip
    refine ⟨_, rfl, rfl, (TOp_pure (pur_ld_q one73 rfl rfl rfl) rfl ?_)⟩
    refine TA_all [1, 3, 4] (by kernel_rfl) (by decide) ⟨?_, ?_, ?_, trivial⟩
    ·skip
     refine ⟨_, rfl, rfl, (TOp_pure (pur_ldK_q agg32 rfl (lb rfl) rfl) rfl ?_)⟩
     exact tj hj11_1 rfl (wp 0 (lb rfl) rfl rfl (by simp only [namesE, A.names, namesL_enc, Bool.false_or, Bool.or_false, looseL_names fv1_l]) rfl rfl)
    ·skip
     refine ⟨_, rfl, rfl, (TOp_pure (pur_ld_q one3 rfl rfl rfl) rfl ?_)⟩
     exact tj hj10_1 rfl (wp 0 (lb rfl) rfl rfl (by simp only [namesE, A.names, namesL_enc, Bool.false_or, Bool.or_false, looseL_names fv1_l]) rfl rfl)
    ·skip
     refine ⟨_, rfl, rfl, (TOp_pure (pur_ld_q one3 rfl rfl rfl) rfl ?_)⟩
     exact tj hj9_1 rfl (wp 0 (lb rfl) rfl rfl (by simp only [namesE, A.names, namesL_enc, Bool.false_or, Bool.or_false, looseL_names fv1_l]) rfl rfl)
   ·skip
    refine ⟨_, rfl, rfl, (TOp_pure (pur_ldK_q agg32 rfl (lb rfl) rfl) rfl ?_)⟩
    refine TA_all [0, 3, 4] (by kernel_rfl) (by decide) ⟨?_, ?_, ?_, trivial⟩
    ·skip
     refine ⟨_, rfl, rfl, (TOp_pure (pur_ld_q one73 rfl rfl rfl) rfl ?_)⟩
     exact tj hj11_1 rfl (wp 0 (lb rfl) rfl rfl (by simp only [namesE, A.names, namesL_enc, Bool.false_or, Bool.or_false, looseL_names fv1_l]) rfl rfl)
    ·skip
     refine ⟨_, rfl, rfl, (TOp_pure (pur_ld_q one3 rfl rfl rfl) rfl ?_)⟩
     exact tj hj8_1 rfl (wp 0 (lb rfl) rfl rfl rfl rfl rfl)
    ·skip
     refine ⟨_, rfl, rfl, (TOp_pure (pur_ld_q one3 rfl rfl rfl) rfl ?_)⟩
     exact tj hj7_1 rfl (wp 0 (lb rfl) rfl rfl rfl rfl rfl)
   ·skip
    refine ⟨_, rfl, rfl, (TOp_pure (pur_ld_q one3 rfl rfl rfl) rfl ?_)⟩
    refine TA_all [0, 1, 4] (by kernel_rfl) (by decide) ⟨?_, ?_, ?_, trivial⟩
    ·skip
     refine ⟨_, rfl, rfl, (TOp_pure (pur_ld_q one73 rfl rfl rfl) rfl ?_)⟩
     exact tj hj10_1 rfl (wp 0 (lb rfl) rfl rfl (by simp only [namesE, A.names, namesL_enc, Bool.false_or, Bool.or_false, looseL_names fv1_l]) rfl rfl)
    ·skip
     refine ⟨_, rfl, rfl, (TOp_pure (pur_ldK_q agg32 rfl (lb rfl) rfl) rfl ?_)⟩
     exact tj hj8_1 rfl (wp 0 (lb rfl) rfl rfl rfl rfl rfl)
    ·skip
     refine ⟨_, rfl, rfl, (TOp_pure (pur_ld_q one3 rfl rfl rfl) rfl ?_)⟩
     exact tj hj6_1 rfl (wp 0 (lb rfl) rfl rfl rfl rfl rfl)
   ·skip
    refine ⟨_, rfl, rfl, (TOp_pure (pur_ld_q one3 rfl rfl rfl) rfl ?_)⟩
    refine TA_all [0, 1, 3] (by kernel_rfl) (by decide) ⟨?_, ?_, ?_, trivial⟩
    ·skip
     refine ⟨_, rfl, rfl, (TOp_pure (pur_ld_q one73 rfl rfl rfl) rfl ?_)⟩
     exact tj hj9_1 rfl (wp 0 (lb rfl) rfl rfl (by simp only [namesE, A.names, namesL_enc, Bool.false_or, Bool.or_false, looseL_names fv1_l]) rfl rfl)
    ·skip
     refine ⟨_, rfl, rfl, (TOp_pure (pur_ldK_q agg32 rfl (lb rfl) rfl) rfl ?_)⟩
     exact tj hj7_1 rfl (wp 0 (lb rfl) rfl rfl rfl rfl rfl)
    ·skip
     refine ⟨_, rfl, rfl, (TOp_pure (pur_ld_q one3 rfl rfl rfl) rfl ?_)⟩
     exact tj hj6_1 rfl (wp 0 (lb rfl) rfl rfl rfl rfl rfl)
  ·rintro _ _
   refine te [(6, (intA r_3))] rfl ?_
   refine T_ret ?_
   obtain rfl := some_inj H
   refine end_ret (.tmp .nil) rfl rfl ⟨?_, rfl⟩
   rfl

set_option maxHeartbeats 1000000 in
/-- impl.columnRange -/
theorem m_impl_columnRange_ok (u : Nat) (db0 : Database) (relation1 : Int) (column2 : Int) (nonEmpty3 : Bool) (aggregate4 : ((List Int) → Option Int)) (aggregate4_g : Nat) (aggregate4_c : List A) (aggregate4_E : EnT prg aggregate4_g) (aggregate4_l : looseL aggregate4_c = true) (aggregate4_m : firmL aggregate4_c = true ∧ fzL aggregate4_c = aggregate4_c) (aggregate4_H : ∀ (x0 : (List Int)) r, aggregate4 x0 = some r → FnV prg aggregate4_g ([(sl tInt x0)] ++ aggregate4_c) (intA r)) (r : (Int × Int × Bool)) (H : m_impl_columnRange u db0 relation1 column2 nonEmpty3 aggregate4 = some r) : FnV prg 71 [(.g (tDatabase.enc db0)), (intA relation1), (intA column2), (boolA nonEmpty3), (.f aggregate4_g aggregate4_c)] (.t [(intA r.1), (intA r.2.1), (boolA r.2.2)]) := by
  unfold m_impl_columnRange at H
  refine fnV_of_T Try.func71 rfl rfl (Nat.le_of_ble_eq_true rfl) ?_
  refine te [(0, (.g (tDatabase.enc db0))), (1, (intA relation1)), (2, (intA column2)), (3, (boolA nonEmpty3)), (4, (.f aggregate4_g aggregate4_c))] rfl ?_
  refine sr ?_
  refine TO_cons rfl (TOp_box rfl (boxAll rfl) rfl rfl ?_)
  refine TO_cons rfl (TOp_box rfl (boxAll rfl) rfl rfl ?_)
  refine TO_cons rfl (TOp_box rfl (boxAll rfl) rfl rfl ?_)
  refine TO_cons rfl (TOp_box rfl (boxAll rfl) rfl rfl ?_)
  refine Tp rfl rfl (pur_assign rfl) rfl ?_
  refine Tp rfl rfl (pur_assign rfl) rfl ?_
  refine Tp rfl rfl (pur_assign rfl) rfl ?_
  refine TO_nil ?_
  refine te [(3, (boolA nonEmpty3)), (5, (.b 0 0)), (6, (.b 1 0)), (7, (.b 2 0)), (9, (.b 3 0))] rfl ?_
  refine T_seq ?_
  obtain ⟨t29_1, J_1, H_2⟩ := bind_inv H
  refine T_cutX (fun x => t29_1 = x) (fun (t29_1 : Bool) => [(5, (.b 0 0)), (6, (.b 1 0)), (7, (.b 2 0)), (9, (.b 3 0)), (29, (boolA t29_1))]) (fun (t29_1 : Bool) => [.box [(sl tRelation db0.relations), (sl tFact db0.facts)], .box [(intA relation1)], .box [(intA column2)], .box [(.f aggregate4_g aggregate4_c)]]) ?_ ?_
  ·replace H := J_1
   refine T_region ?_
   refine Tp rfl rfl (pur_ldK_b agg32 rfl rfl (lb rfl) rfl) rfl ?_
   refine Tp rfl rfl (pur_ld_b one3 rfl rfl rfl rfl) rfl ?_
   refine Tp rfl rfl (pur_ld_b one3 rfl rfl rfl rfl) rfl ?_
   obtain ⟨r_3, h_4, H⟩ := bind_inv H
   refine TO_cons rfl (TOp_callV (call_static ent55 rfl) (m_impl_isColumn_ok _ _ _ _ h_4) rfl rfl rfl ?_)
   refine Tp rfl rfl (pur_not rfl rfl) rfl ?_
   refine Tp rfl rfl (pur_move rfl) rfl ?_
   refine TO_split (t := (!r_3)) 20 rfl (fun g_5 => ?_) (fun g_5 => ?_)
   ·replace H := cond_t g_5 H
    refine TO_off rfl rfl (by decide) rfl rfl rfl ?_
    refine TO_off rfl rfl (by decide) rfl rfl rfl ?_
    refine TO_off rfl rfl (by decide) rfl rfl rfl ?_
    refine TO_off rfl rfl (by decide) rfl rfl rfl ?_
    refine TO_off rfl rfl (by decide) rfl rfl rfl ?_
    refine TO_off rfl rfl (by decide) rfl rfl rfl ?_
    refine TO_off rfl rfl (by decide) rfl rfl rfl ?_
    refine TO_off rfl rfl (by decide) rfl rfl rfl ?_
    refine Tp rfl rfl (pur_pick (t := true) rfl rfl rfl) rfl ?_
    refine TO_nil ?_
    exact joined true (wp 4 (lb rfl) rfl rfl rfl (by simp [boxesE, boxNames, namesL, A.names, looseL_names aggregate4_l]) rfl) (some_inj H).symm
   ·replace H := cond_f g_5 H
    refine TO_on rfl rfl (by decide) rfl rfl (TOp_pure (pur_move rfl) rfl ?_)
    refine TO_on rfl rfl (by decide) rfl rfl (TOp_pure (pur_move rfl) rfl ?_)
    refine TO_split (t := nonEmpty3) 22 rfl (fun g_6 => ?_) (fun g_6 => ?_)
    ·replace H := cond_t g_6 H
     refine TO_on rfl rfl (by decide) rfl rfl (TOp_pure (pur_fa_b fld32_1 rfl rfl) rfl ?_)
     refine TO_on rfl rfl (by decide) rfl rfl (TOp_pure (pur_ld_b one30 rfl rfl rfl rfl) rfl ?_)
     refine TO_on rfl rfl (by decide) rfl rfl (TOp_pure (pur_makeFunc rfl) rfl ?_)
     obtain ⟨r_7, h_8, H⟩ := bind_inv H
     refine TO_on rfl rfl (by decide) rfl rfl (TOp_callB (call_static ent97 rfl) (frz_cons (frz_loose rfl) (frz_cons (frzOK_f (frz_cons (frzOK_b (xs := [(intA relation1)]) (ys := [(intA relation1)]) rfl rfl rfl) frz_nil).1 (frz_cons (frzOK_b (xs := [(intA relation1)]) (ys := [(intA relation1)]) rfl rfl rfl) frz_nil).2) frz_nil)).1 (frz_cons (frz_loose rfl) (frz_cons (frzOK_f (frz_cons (frzOK_b (xs := [(intA relation1)]) (ys := [(intA relation1)]) rfl rfl rfl) frz_nil).1 (frz_cons (frzOK_b (xs := [(intA relation1)]) (ys := [(intA relation1)]) rfl rfl rfl) frz_nil).2) frz_nil)).2 (m_slices_ContainsFunc_Simpl_Fact_impl_Fact_ok _ (fun x0 => m_impl_columnRange_1 x0 relation1) 98 [(.q [(intA relation1)] 0)] ent98 rfl ⟨rfl, rfl⟩ (fun x0 r h => m_impl_columnRange_1_ok x0 relation1 r h) _ h_8) rfl ?_)
     refine TO_on rfl rfl (by decide) rfl rfl (TOp_pure (pur_not rfl rfl) rfl ?_)
     refine TO_on rfl rfl (by decide) rfl rfl (TOp_pure (pur_pick (t := true) rfl rfl rfl) rfl ?_)
     refine Tp rfl rfl (pur_pick (t := false) rfl rfl rfl) rfl ?_
     refine TO_nil ?_
     exact joined (!r_7) (wp 4 (lb rfl) rfl rfl rfl (by simp [boxesE, boxNames, namesL, A.names, looseL_names aggregate4_l]) rfl) (some_inj H).symm
    ·replace H := cond_f g_6 H
     refine TO_off rfl rfl (by decide) rfl rfl rfl ?_
     refine TO_off rfl rfl (by decide) rfl rfl rfl ?_
     refine TO_off rfl rfl (by decide) rfl rfl rfl ?_
     refine TO_off rfl rfl (by decide) rfl rfl rfl ?_
     refine TO_off rfl rfl (by decide) rfl rfl rfl ?_
     refine TO_on rfl rfl (by decide) rfl rfl (TOp_pure (pur_pick (t := false) rfl rfl rfl) rfl ?_)
     refine Tp rfl rfl (pur_pick (t := false) rfl rfl rfl) rfl ?_
     refine TO_nil ?_
     exact joined false (wp 4 (lb rfl) rfl rfl rfl (by simp [boxesE, boxNames, namesL, A.names, looseL_names aggregate4_l]) rfl) (some_inj H).symm
  ·rintro _ rfl
   replace H := H_2
   refine te [(5, (.b 0 0)), (6, (.b 1 0)), (7, (.b 2 0)), (9, (.b 3 0)), (29, (boolA t29_1))] rfl ?_
   refine T_cond (t := t29_1) rfl (fun c_9 => ?_) (fun c_9 => ?_)
   ·replace H := cond_t c_9 H
    refine sr ?_
    refine Tp rfl rfl (pur_assign rfl) rfl ?_
    refine Tp rfl rfl (pur_assign rfl) rfl ?_
    refine Tp rfl rfl (pur_assign rfl) rfl ?_
    refine TO_nil ?_
    refine te [(10, (intA 0)), (11, (intA 0)), (12, (boolA false))] rfl ?_
    refine T_ret ?_
    refine then_ret ?_
    obtain rfl := some_inj H
    refine end_ret (.tmp (.tmp (.tmp .nil))) rfl rfl ⟨?_, rfl⟩
    rfl
   ·replace H := cond_f c_9 H
    refine T_skip ?_
    refine te [(5, (.b 0 0)), (6, (.b 1 0)), (7, (.b 2 0)), (9, (.b 3 0))] rfl ?_
    refine sr ?_
    refine Tp rfl rfl (pur_ldK_b agg32 rfl rfl (lb rfl) rfl) rfl ?_
    refine Tp rfl rfl (pur_makeFunc rfl) rfl ?_
    obtain ⟨r_10, h_11, H⟩ := bind_inv H
    refine TO_cons rfl (TOp_callOG (call_static ent99 rfl) (frz_cons (frz_loose rfl) (frz_cons (frzOK_f (frz_cons (frzOK_b (xs := [(.f aggregate4_g aggregate4_c)]) (ys := [(.f aggregate4_g aggregate4_c)]) rfl (by simp [firmL, firm, aggregate4_m.1]) (by simp [fzL, fz, aggregate4_m.2])) (frz_cons (frzOK_b (xs := [(sl tRelation db0.relations), (sl tFact db0.facts)]) (ys := [(sl tRelation db0.relations), (sl tFact db0.facts)]) rfl rfl rfl) (frz_cons (frzOK_b (xs := [(intA relation1)]) (ys := [(intA relation1)]) rfl rfl rfl) (frz_cons (frzOK_b (xs := [(intA column2)]) (ys := [(intA column2)]) rfl rfl rfl) frz_nil)))).1 (frz_cons (frzOK_b (xs := [(.f aggregate4_g aggregate4_c)]) (ys := [(.f aggregate4_g aggregate4_c)]) rfl (by simp [firmL, firm, aggregate4_m.1]) (by simp [fzL, fz, aggregate4_m.2])) (frz_cons (frzOK_b (xs := [(sl tRelation db0.relations), (sl tFact db0.facts)]) (ys := [(sl tRelation db0.relations), (sl tFact db0.facts)]) rfl rfl rfl) (frz_cons (frzOK_b (xs := [(intA relation1)]) (ys := [(intA relation1)]) rfl rfl rfl) (frz_cons (frzOK_b (xs := [(intA column2)]) (ys := [(intA column2)]) rfl rfl rfl) frz_nil)))).2) frz_nil)).1 (frz_cons (frz_loose rfl) (frz_cons (frzOK_f (frz_cons (frzOK_b (xs := [(.f aggregate4_g aggregate4_c)]) (ys := [(.f aggregate4_g aggregate4_c)]) rfl (by simp [firmL, firm, aggregate4_m.1]) (by simp [fzL, fz, aggregate4_m.2])) (frz_cons (frzOK_b (xs := [(sl tRelation db0.relations), (sl tFact db0.facts)]) (ys := [(sl tRelation db0.relations), (sl tFact db0.facts)]) rfl rfl rfl) (frz_cons (frzOK_b (xs := [(intA relation1)]) (ys := [(intA relation1)]) rfl rfl rfl) (frz_cons (frzOK_b (xs := [(intA column2)]) (ys := [(intA column2)]) rfl rfl rfl) frz_nil)))).1 (frz_cons (frzOK_b (xs := [(.f aggregate4_g aggregate4_c)]) (ys := [(.f aggregate4_g aggregate4_c)]) rfl (by simp [firmL, firm, aggregate4_m.1]) (by simp [fzL, fz, aggregate4_m.2])) (frz_cons (frzOK_b (xs := [(sl tRelation db0.relations), (sl tFact db0.facts)]) (ys := [(sl tRelation db0.relations), (sl tFact db0.facts)]) rfl rfl rfl) (frz_cons (frzOK_b (xs := [(intA relation1)]) (ys := [(intA relation1)]) rfl rfl rfl) (frz_cons (frzOK_b (xs := [(intA column2)]) (ys := [(intA column2)]) rfl rfl rfl) frz_nil)))).2) frz_nil)).2 (m_impl_rangeOf_ok u _ (fun x0 => m_impl_columnRange_2 x0 aggregate4 db0 relation1 column2) 100 [(.q [(.f aggregate4_g aggregate4_c)] 0), (.q [(sl tRelation db0.relations), (sl tFact db0.facts)] 0), (.q [(intA relation1)] 0), (.q [(intA column2)] 0)] ent100 (by simp only [looseL, A.loose, Bool.true_and, Bool.and_true, Bool.and_self]) ⟨rfl, rfl⟩ (fun x0 r h => m_impl_columnRange_2_ok x0 aggregate4 aggregate4_g aggregate4_c aggregate4_E aggregate4_l aggregate4_m aggregate4_H db0 relation1 column2 r h) _ h_11) rfl (ownC_of ownSB_nil) rfl rfl rfl ?_)
    refine toe [(5, (.b 0 0)), (6, (.b 1 0)), (7, (.b 2 0)), (9, (.b 3 0)), (31, (.g (tDatabase.enc db0))), (32, (.f 100 [(.b 3 0), (.b 0 0), (.b 1 0), (.b 2 0)])), (33, (.t [(intA r_10.1), (intA r_10.2)]))] rfl ?_
    refine TO_st (σ' := [.box [(sl tRelation db0.relations), (sl tFact db0.facts)], .box [(intA relation1)], .box [(intA column2)], .box [(.f aggregate4_g aggregate4_c)]]) rfl ?_
    refine Tp rfl rfl (pur_move rfl) rfl ?_
    refine Tp rfl rfl (pur_extract rfl rfl rfl) rfl ?_
    refine Tp rfl rfl (pur_extract rfl rfl rfl) rfl ?_
    refine Tp rfl rfl (pur_assign rfl) rfl ?_
    refine Tp rfl rfl (pur_assign rfl) rfl ?_
    refine TO_nil ?_
    refine te [(13, (intA r_10.1)), (14, (intA r_10.2))] rfl ?_
    refine sr ?_
    refine Tp rfl rfl (pur_move rfl) rfl ?_
    refine Tp rfl rfl (pur_move rfl) rfl ?_
    refine Tp rfl rfl (pur_assign rfl) rfl ?_
    refine Tp rfl rfl (pur_assign rfl) rfl ?_
    refine Tp rfl rfl (pur_assign rfl) rfl ?_
    refine TO_nil ?_
    refine te [(10, (intA r_10.1)), (11, (intA r_10.2)), (12, (boolA true))] rfl ?_
    refine T_ret ?_
    obtain rfl := some_inj H
    refine end_ret (.tmp (.tmp (.tmp .nil))) rfl rfl ⟨?_, rfl⟩
    rfl

set_option maxHeartbeats 1000000 in
/-- slices.Max[[]int,int] -/
theorem m_slices_Max_Sint_int_ok (x0 : (List Int)) (r : Int) (H : m_slices_Max_Sint_int x0 = some r) : FnV prg 72 [(sl tInt x0)] (intA r) := by
  unfold m_slices_Max_Sint_int at H
  refine fnV_of_T Try.func72 rfl rfl (Nat.le_of_ble_eq_true rfl) ?_
  refine te [(0, (sl tInt x0))] rfl ?_
  refine sr ?_
  refine Tp rfl rfl (pur_assign rfl) rfl ?_
  refine TO_nil ?_
  refine te [(0, (sl tInt x0))] rfl ?_
  refine T_seq ?_
  refine sr ?_
  refine Tp rfl rfl (pur_move rfl) rfl ?_
  refine Tp rfl rfl (pur_lenT (T := tInt) sl33 rfl rfl) rfl ?_
  refine Tp rfl rfl (pur_lss rfl rfl rfl) rfl ?_
  refine TO_nil ?_
  refine te [(0, (sl tInt x0)), (7, (boolA (decide ((x0.length : Int) < 1))))] rfl ?_
  refine T_cond (t := decide ((x0.length : Int) < 1)) rfl (fun c_1 => ?_) (fun c_1 => ?_)
  ·replace H := cond_t c_1 H
   cases H
  ·replace H := cond_f c_1 H
   refine T_skip ?_
   refine te [(0, (sl tInt x0))] rfl ?_
   refine sr ?_
   refine Tp rfl rfl (pur_move rfl) rfl ?_
   obtain ⟨v_2, h_3, H⟩ := bind_inv H
   obtain ⟨n_4, hz_5, hv_6⟩ := getI_inv h_3
   refine Tp rfl rfl (pur_ixT (T := tInt) sl33 rfl rfl hz_5 hv_6 rfl) rfl ?_
   refine Tp rfl rfl (pur_ldT (T := tInt) (i := n_4) (off := 0) rfl one3 rfl rfl hv_6 rfl) rfl ?_
   refine Tp rfl rfl (pur_assign rfl) rfl ?_
   refine TO_nil ?_
   refine te [(0, (sl tInt x0)), (3, (intA v_2))] rfl ?_
   refine T_seq ?_
   refine sr ?_
   refine Tp rfl rfl (pur_assign rfl) rfl ?_
   refine TO_nil ?_
   refine te [(0, (sl tInt x0)), (3, (intA v_2)), (4, (intA 1))] rfl ?_
   obtain ⟨O8_, L8_, N8_⟩ := bind_inv H
   clear H
   obtain ⟨B8_, hb8, L8_⟩ := gen_forS L8_
   refine T_block ?_
   refine T_loopX (fun k => fun (x_ : Nat × Int) => k = x0.length - x_.1 ∧ forS B8_ (x0.drop x_.1) (x_.1 : Int) x_.2 = some O8_) (fun (x_ : Nat × Int) => [(0, (sl tInt x0)), (3, (intA x_.2)), (4, (intA (x_.1 : Int)))]) (fun (x_ : Nat × Int) => []) _ (1, v_2) (wp 0 (lb rfl) rfl rfl rfl rfl rfl) ⟨rfl, L8_⟩ ?_
   rintro _ ⟨i_7, m3⟩ ⟨rfl, L8_⟩
   refine te [(0, (sl tInt x0)), (3, (intA m3)), (4, (intA (i_7 : Int)))] rfl ?_
   refine T_st (σ' := []) rfl ?_
   refine T_fact (len_sl (T := tInt) (.tmp 0) rfl) (fun hl8 => ?_)
   refine T_seq ?_
   refine sr ?_
   refine Tp rfl rfl (pur_move rfl) rfl ?_
   refine Tp rfl rfl (pur_move rfl) rfl ?_
   refine Tp rfl rfl (pur_lenT (T := tInt) sl33 rfl rfl) rfl ?_
   refine Tp rfl rfl (pur_lss rfl rfl rfl) rfl ?_
   refine TO_nil ?_
   refine te [(0, (sl tInt x0)), (3, (intA m3)), (4, (intA (i_7 : Int))), (15, (boolA (decide ((i_7 : Int) < (x0.length : Int)))))] rfl ?_
   refine T_cond (t := decide ((i_7 : Int) < (x0.length : Int))) rfl (fun d8 => ?_) (fun d8 => ?_)
   ·replace d8 := of_decide_eq_true d8
    obtain ⟨x_i_7, hx_i_7⟩ : ∃ v, (x0)[i_7]? = some v := ⟨_, List.getElem?_eq_getElem (by omega)⟩
    obtain ⟨C8_, H, K8_⟩ := forS_step L8_ hx_i_7
    rw [hb8] at H
    refine T_skip ?_
    refine te [(0, (sl tInt x0)), (3, (intA m3)), (4, (intA (i_7 : Int)))] rfl ?_
    refine T_seq ?_
    refine T_block ?_
    refine T_region ?_
    refine Tp rfl rfl (pur_move rfl) rfl ?_
    refine Tp rfl rfl (pur_move rfl) rfl ?_
    refine Tp rfl rfl (pur_move rfl) rfl ?_
    refine Tp rfl rfl (pur_ixT (T := tInt) sl33 rfl rfl rfl hx_i_7 rfl) rfl ?_
    refine Tp rfl rfl (pur_ldT (T := tInt) (i := i_7) (off := 0) rfl one3 rfl rfl hx_i_7 rfl) rfl ?_
    refine Tp rfl rfl (pur_max rfl rfl rfl) rfl ?_
    refine Tp rfl rfl (pur_assign rfl) rfl ?_
    refine TO_nil ?_
    refine te [(0, (sl tInt x0)), (3, (intA (if m3 < x_i_7 then x_i_7 else m3))), (4, (intA (i_7 : Int)))] rfl ?_
    refine T_region ?_
    refine Tp rfl rfl (pur_move rfl) rfl ?_
    refine Tp rfl rfl (pur_add rfl rfl rfl (fits64 (by omega) (by omega))) rfl ?_
    refine Tp rfl rfl (pur_assign rfl) rfl ?_
    refine TO_nil ?_
    obtain rfl := some_inj H
    exact again (x0.length - (i_7 + 1)) (i_7 + 1, (if m3 < x_i_7 then x_i_7 else m3)) (by omega) (wp 0 (lb rfl) rfl rfl rfl rfl rfl) ⟨rfl, K8_⟩
   ·replace d8 := of_decide_eq_false d8
    obtain rfl := forS_end L8_ (by omega)
    refine T_exit ?_
    refine then_exit ?_
    refine then_exit ?_
    refine block_exit ?_
    replace H := N8_
    refine te [(3, (intA m3))] rfl ?_
    refine sr ?_
    refine Tp rfl rfl (pur_move rfl) rfl ?_
    refine Tp rfl rfl (pur_assign rfl) rfl ?_
    refine TO_nil ?_
    refine te [(2, (intA m3))] rfl ?_
    refine T_ret ?_
    obtain rfl := some_inj H
    refine end_ret (.tmp .nil) rfl rfl ⟨?_, rfl⟩
    rfl

set_option maxHeartbeats 1000000 in
/-- impl.MaxRange -/
theorem m_impl_MaxRange_ok (u : Nat) (db0 : Database) (relation1 : Int) (column2 : Int) (r : (Int × Int × Bool)) (H : m_impl_MaxRange u db0 relation1 column2 = some r) : FnV prg 34 [(.g (tDatabase.enc db0)), (intA relation1), (intA column2)] (.t [(intA r.1), (intA r.2.1), (boolA r.2.2)]) := by
  unfold m_impl_MaxRange at H
  refine fnV_of_T Try.func34 rfl rfl (Nat.le_of_ble_eq_true rfl) ?_
  refine te [(0, (.g (tDatabase.enc db0))), (1, (intA relation1)), (2, (intA column2))] rfl ?_
  refine sr ?_
  refine TO_cons rfl (TOp_box rfl (boxAll rfl) rfl rfl ?_)
  refine Tp rfl rfl (pur_assign rfl) rfl ?_
  refine Tp rfl rfl (pur_assign rfl) rfl ?_
  refine Tp rfl rfl (pur_assign rfl) rfl ?_
  refine TO_nil ?_
  refine te [(1, (intA relation1)), (2, (intA column2)), (3, (.b 0 0))] rfl ?_
  refine sr ?_
  refine Tp rfl rfl (pur_ldK_b agg32 rfl rfl (lb rfl) rfl) rfl ?_
  refine Tp rfl rfl (pur_move rfl) rfl ?_
  refine Tp rfl rfl (pur_move rfl) rfl ?_
  obtain ⟨r_1, h_2, H⟩ := bind_inv H
  refine TO_cons rfl (TOp_callV (call_static ent71 rfl) (m_impl_columnRange_ok u _ _ _ _ (fun x0 => m_slices_Max_Sint_int x0) 72 [] ent72 rfl ⟨rfl, rfl⟩ (fun x0 r h => m_slices_Max_Sint_int_ok x0  r h) _ h_2) rfl rfl rfl ?_)
  refine Tp rfl rfl (pur_extract rfl rfl rfl) rfl ?_
  refine Tp rfl rfl (pur_extract rfl rfl rfl) rfl ?_
  refine Tp rfl rfl (pur_extract rfl rfl rfl) rfl ?_
  refine Tp rfl rfl (pur_assign rfl) rfl ?_
  refine Tp rfl rfl (pur_assign rfl) rfl ?_
  refine Tp rfl rfl (pur_assign rfl) rfl ?_
  refine TO_nil ?_
  refine te [(6, (intA r_1.1)), (7, (intA r_1.2.1)), (8, (boolA r_1.2.2))] rfl ?_
  refine T_ret ?_
  obtain rfl := some_inj H
  refine end_ret (.tmp (.tmp (.tmp .nil))) rfl rfl ⟨?_, rfl⟩
  rfl
end Go.Proofs.Ytlcpdlngbofgcaa

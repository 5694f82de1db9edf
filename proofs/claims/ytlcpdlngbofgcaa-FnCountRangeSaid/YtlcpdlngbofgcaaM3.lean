import Derived.Test.YtlcpdlngbofgcaaM1
import Derived.Test.YtlcpdlngbofgcaaM2
set_option linter.unusedVariables false
set_option linter.unusedSimpArgs false
set_option maxRecDepth 4000
namespace Go.Proofs.Ytlcpdlngbofgcaa
open Go Go.Proofs Go.Sep
set_option maxHeartbeats 1000000 in
theorem m_impl_isColumn_ok (db0 : Database) (relation1 : Int) (column2 : Int) (r : Bool) (H : m_impl_isColumn db0 relation1 column2 = some r) : FnV prg 55 [(.g (tDatabase.enc db0)), (intA relation1), (intA column2)] (boolA r) := by
  unfold m_impl_isColumn at H
  refine fnV_of_T Try.func55 rfl rfl (Nat.le_of_ble_eq_true rfl) ?_
  refine te [(0, (.g (tDatabase.enc db0))), (1, (intA relation1)), (2, (intA column2))] rfl ?_
  refine sr ?_
  refine TO_cons rfl (TOp_box rfl (boxAll rfl) rfl rfl ?_)
  refine pv tb 1 rfl ?_
  refine TO_nil ?_
  obtain ⟨t6_1, J_1, H_2⟩ := bind_inv H
  refine T_cutX (fun x => t6_1 = x) (fun (t6_1 : Bool) => [(6, (boolA t6_1))]) (fun (t6_1 : Bool) => []) ?_ ?_
  ·replace H := J_1
   refine T_region ?_
   obtain ⟨r_3, h_4, H⟩ := bind_inv H
   refine pv tb 1 rfl ?_
   refine TO_cons rfl (TOp_callV (call_static ent89 rfl) (m_impl_IsValidDatabase_ok _ _ h_4) rfl rfl rfl ?_)
   refine pv tb 1 rfl ?_
   refine TO_split (t := r_3) 9 rfl (fun g_5 => ?_) (fun g_5 => ?_)
   ·replace H := cond_t g_5 H
    refine pv tb 3 rfl ?_
    refine TO_on rfl rfl (by decide) rfl rfl (TOp_pure (pur_lenT (T := tRelation) sl29 rfl rfl) rfl ?_)
    refine TO_fact (len_sl (T := tRelation) (.tmp 12) rfl) (fun hl_6 => ?_)
    refine TO_on rfl rfl (by decide) rfl rfl (TOp_pure (pur_sub rfl rfl rfl (fits64 (by omega) (by omega))) rfl ?_)
    obtain ⟨r_7, h_8, H⟩ := bind_inv H
    refine TO_on rfl rfl (by decide) rfl rfl (TOp_callV (call_static ent90 rfl) (m_impl_within_ok _ _ _ _ h_8) rfl rfl rfl ?_)
    refine pv tb 2 rfl ?_
    refine TO_split (t := r_7) 17 rfl (fun g_9 => ?_) (fun g_9 => ?_)
    ·replace H := cond_t g_9 H
     obtain ⟨v_10, h_11, H⟩ := bind_inv H
     obtain ⟨n_12, hz_13, hv_14⟩ := getI_inv h_11
     refine pv tb 4 rfl ?_
     refine TO_on rfl rfl (by decide) rfl rfl (TOp_pure (pur_ixT (T := tRelation) sl29 rfl rfl hz_13 hv_14 rfl) rfl ?_)
     refine pv tb 1 rfl ?_
     refine TO_on rfl rfl (by decide) rfl rfl (TOp_pure (pur_ldT (T := tRelation) (i := n_12) (off := 1) rfl one3 rfl rfl hv_14 rfl) rfl ?_)
     refine pv tb 1 rfl ?_
     refine toe [(17, (boolA true)), (18, (intA column2)), (25, (intA (w64 (v_10.arity - 1))))] rfl ?_
     obtain ⟨r_15, h_16, H⟩ := bind_inv H
     refine TO_on rfl rfl (by decide) rfl rfl (TOp_callV (call_static ent90 rfl) (m_impl_within_ok _ _ _ _ h_16) rfl rfl rfl ?_)
     refine pv tb 2 rfl ?_
     refine TO_nil ?_
     exact joined r_15 (w0 0) (some_inj H).symm
    ·replace H := cond_f g_9 H
     refine pv tb 8 rfl ?_
     refine toe [(17, (boolA false)), (18, (.v undef)), (25, (.v undef))] rfl ?_
     refine pv tb 3 rfl ?_
     refine TO_nil ?_
     exact joined false (w0 0) (some_inj H).symm
   ·replace H := cond_f g_5 H
    refine pv tb 16 rfl ?_
    refine toe [(17, (boolA false)), (18, (.v undef)), (25, (.v undef))] rfl ?_
    refine pv tb 3 rfl ?_
    refine TO_nil ?_
    exact joined false (w0 0) (some_inj H).symm
  ·rintro _ rfl
   replace H := H_2
   refine T_ret ?_
   obtain rfl := some_inj H
   refine end_ret (.tmp .nil) rfl rfl ⟨?_, rfl⟩
   rfl

set_option maxHeartbeats 1000000 in
theorem m_slices_IndexFunc_Simpl_Fact_impl_Fact_ok (s0 : (List Fact)) (f1 : (Fact → Option Bool)) (f1_g : Nat) (f1_c : List A) (f1_E : EnT prg f1_g) (f1_l : looseL f1_c = true) (f1_m : firmL f1_c = true ∧ fzL f1_c = f1_c) (f1_H : ∀ (x0 : Fact) r, f1 x0 = some r → FnV prg f1_g ([(.g (tFact.enc x0))] ++ f1_c) (boolA r)) (r : Int) (H : m_slices_IndexFunc_Simpl_Fact_impl_Fact s0 f1 = some r) : FnV prg 116 [(sl tFact s0), (.f f1_g f1_c)] (intA r) := by
  unfold m_slices_IndexFunc_Simpl_Fact_impl_Fact at H
  refine fnV_of_T Try.func116 rfl rfl (Nat.le_of_ble_eq_true rfl) ?_
  refine te [(0, (sl tFact s0)), (1, (.f f1_g f1_c))] rfl ?_
  refine sr ?_
  refine pv tb 1 rfl ?_
  refine TO_nil ?_
  refine T_seq ?_
  refine sr ?_
  refine pv tb 1 rfl ?_
  refine Tp rfl rfl (pur_lenT (T := tFact) sl30 rfl rfl) rfl ?_
  refine pv tb 1 rfl ?_
  refine TO_nil ?_
  obtain ⟨O2_, L2_, N2_⟩ := bind_inv H
  clear H
  obtain ⟨B2_, hb2, L2_⟩ := gen_forL L2_
  refine T_block ?_
  refine T_loopX (fun k => fun (t_1 : Nat) => k = s0.length - t_1 ∧ forL B2_ (s0.drop t_1) (t_1 : Int) () = some O2_) (fun (t_1 : Nat) => [(0, (sl tFact s0)), (1, (.f f1_g f1_c)), (7, (intA (s0.length : Int))), (8, (intA (t_1 : Int)))]) (fun (t_1 : Nat) => []) _ (0 : Nat) (wp 0 (lb rfl) rfl rfl (by simp only [namesE, A.names, namesL_enc, Bool.false_or, Bool.or_false, looseL_names f1_l]) rfl rfl) ⟨rfl, L2_⟩ ?_
  rintro _ t_1 ⟨rfl, L2_⟩
  refine T_fact (len_sl (T := tFact) (.tmp 0) rfl) (fun hl2 => ?_)
  refine sr ?_
  refine pv tb 1 rfl ?_
  refine TO_nil ?_
  refine T_seq ?_
  refine T_cond (t := decide ((t_1 : Int) < (s0.length : Int))) rfl (fun d2 => ?_) (fun d2 => ?_)
  ·replace d2 := of_decide_eq_true d2
   obtain ⟨x_t_1, hx_t_1⟩ : ∃ v, (s0)[t_1]? = some v := ⟨_, List.getElem?_eq_getElem (by omega)⟩
   obtain ⟨C2_, H, K2_⟩ := forL_step L2_ hx_t_1
   rw [hb2] at H
   refine T_skip ?_
   refine T_seq ?_
   refine T_block ?_
   refine sr ?_
   refine pv tb 2 rfl ?_
   refine TO_nil ?_
   refine sr ?_
   refine pv tb 3 rfl ?_
   refine Tp rfl rfl (pur_ixT (T := tFact) sl30 rfl rfl rfl hx_t_1 rfl) rfl ?_
   refine Tp rfl rfl (pur_ldTK (T := tFact) (i := t_1) (off := 0) rfl agg60 rfl rfl hx_t_1 (by decide) rfl) rfl ?_
   obtain ⟨r_3, h_4, H⟩ := bind_inv H
   refine TO_cons rfl (TOp_callV (call_closure f1_E rfl rfl) (f1_H _  _ h_4) (looseL_app rfl f1_l) rfl rfl ?_)
   refine TO_nil ?_
   refine T_cond (t := r_3) rfl (fun c_5 => ?_) (fun c_5 => ?_)
   ·replace H := cond_t c_5 H
    refine sr ?_
    refine pv tb 2 rfl ?_
    refine TO_nil ?_
    refine T_ret ?_
    refine block_ret ?_
    refine then_ret ?_
    refine then_ret ?_
    refine block_ret ?_
    refine then_ret ?_
    obtain rfl := some_inj H
    obtain rfl := some_inj K2_
    replace H := onS_r N2_
    obtain rfl := some_inj H
    refine end_ret (.tmp .nil) rfl rfl ⟨?_, rfl⟩
    rfl
   ·replace H := cond_f c_5 H
    refine T_skip ?_
    refine T_region ?_
    refine Tp rfl rfl (pur_add rfl rfl rfl (fits64 (by omega) (by omega))) rfl ?_
    refine pv tb 1 rfl ?_
    refine TO_nil ?_
    obtain rfl := some_inj H
    exact again (s0.length - (t_1 + 1)) (t_1 + 1) (by omega) (wp 0 (lb rfl) rfl rfl (by simp only [namesE, A.names, namesL_enc, Bool.false_or, Bool.or_false, looseL_names f1_l]) rfl rfl) ⟨rfl, K2_⟩
  ·replace d2 := of_decide_eq_false d2
   obtain rfl := forL_end L2_ (by omega)
   refine T_exit ?_
   refine then_exit ?_
   refine then_exit ?_
   refine block_exit ?_
   replace H := onS_l N2_
   refine sr ?_
   refine pv tb 1 rfl ?_
   refine TO_nil ?_
   refine T_ret ?_
   obtain rfl := some_inj H
   refine end_ret (.tmp .nil) rfl rfl ⟨?_, rfl⟩
   rfl

set_option maxHeartbeats 1000000 in
theorem m_slices_ContainsFunc_Simpl_Fact_impl_Fact_ok (s0 : (List Fact)) (f1 : (Fact → Option Bool)) (f1_g : Nat) (f1_c : List A) (f1_E : EnT prg f1_g) (f1_l : looseL f1_c = true) (f1_m : firmL f1_c = true ∧ fzL f1_c = f1_c) (f1_H : ∀ (x0 : Fact) r, f1 x0 = some r → FnV prg f1_g ([(.g (tFact.enc x0))] ++ f1_c) (boolA r)) (r : Bool) (H : m_slices_ContainsFunc_Simpl_Fact_impl_Fact s0 f1 = some r) : FnV prg 97 [(sl tFact s0), (.f f1_g f1_c)] (boolA r) := by
  unfold m_slices_ContainsFunc_Simpl_Fact_impl_Fact at H
  refine fnV_of_T Try.func97 rfl rfl (Nat.le_of_ble_eq_true rfl) ?_
  refine te [(0, (sl tFact s0)), (1, (.f f1_g f1_c))] rfl ?_
  refine sr ?_
  refine pv tb 1 rfl ?_
  refine TO_nil ?_
  refine sr ?_
  obtain ⟨r_1, h_2, H⟩ := bind_inv H
  refine pv tb 2 rfl ?_
  refine TO_cons rfl (TOp_callV (call_static ent116 rfl) (m_slices_IndexFunc_Simpl_Fact_impl_Fact_ok _ f1 f1_g f1_c f1_E f1_l f1_m f1_H _ h_2) (looseC rfl (looseC f1_l rfl)) rfl rfl ?_)
  refine pv tb 2 rfl ?_
  refine TO_nil ?_
  refine T_ret ?_
  obtain rfl := some_inj H
  refine end_ret (.tmp .nil) rfl rfl ⟨?_, rfl⟩
  rfl

set_option maxHeartbeats 1000000 in
theorem m_impl_columnRange_1_ok (f0 : Fact) (fv1 : Int) (r : Bool) (H : m_impl_columnRange_1 f0 fv1 = some r) : FnV prg 98 [(.g (tFact.enc f0)), (.q [(intA fv1)] 0)] (boolA r) := by
  unfold m_impl_columnRange_1 at H
  refine fnV_of_T Try.func98 rfl rfl (Nat.le_of_ble_eq_true rfl) ?_
  refine te [(0, (.g (tFact.enc f0))), (1, (.q [(intA fv1)] 0))] rfl ?_
  refine sr ?_
  refine TO_cons rfl (TOp_box rfl (boxAll rfl) rfl rfl ?_)
  refine pv tb 1 rfl ?_
  refine TO_nil ?_
  refine sr ?_
  refine pv tb 5 rfl ?_
  refine TO_nil ?_
  refine T_ret ?_
  obtain rfl := some_inj H
  refine end_ret (.tmp .nil) rfl rfl ⟨?_, rfl⟩
  rfl

set_option maxHeartbeats 1000000 in
theorem m_slices_Equal_Sint_int_ok (s10 : (List Int)) (s21 : (List Int)) (r : Bool) (H : m_slices_Equal_Sint_int s10 s21 = some r) : FnV prg 50 [(sl tInt s10), (sl tInt s21)] (boolA r) := by
  unfold m_slices_Equal_Sint_int at H
  refine fnV_of_T Try.func50 rfl rfl (Nat.le_of_ble_eq_true rfl) ?_
  refine te [(0, (sl tInt s10)), (1, (sl tInt s21))] rfl ?_
  refine sr ?_
  refine pv tb 1 rfl ?_
  refine TO_nil ?_
  refine T_seq ?_
  refine sr ?_
  refine pv tb 1 rfl ?_
  refine Tp rfl rfl (pur_lenT (T := tInt) sl33 rfl rfl) rfl ?_
  refine pv tb 1 rfl ?_
  refine Tp rfl rfl (pur_lenT (T := tInt) sl33 rfl rfl) rfl ?_
  refine pv tb 1 rfl ?_
  refine TO_nil ?_
  refine T_cond (t := decide ((s10.length : Int) ≠ (s21.length : Int))) rfl (fun c_1 => ?_) (fun c_1 => ?_)
  ·replace H := cond_t c_1 H
   refine sr ?_
   refine pv tb 1 rfl ?_
   refine TO_nil ?_
   refine T_ret ?_
   refine then_ret ?_
   obtain rfl := some_inj H
   refine end_ret (.tmp .nil) rfl rfl ⟨?_, rfl⟩
   rfl
  ·replace H := cond_f c_1 H
   refine T_skip ?_
   refine T_seq ?_
   refine sr ?_
   refine pv tb 1 rfl ?_
   refine Tp rfl rfl (pur_lenT (T := tInt) sl33 rfl rfl) rfl ?_
   refine pv tb 1 rfl ?_
   refine TO_nil ?_
   obtain ⟨O3_, L3_, N3_⟩ := bind_inv H
   clear H
   obtain ⟨B3_, hb3, L3_⟩ := gen_forL L3_
   refine T_block ?_
   refine T_loopX (fun k => fun (t_2 : Nat) => k = s10.length - t_2 ∧ forL B3_ (s10.drop t_2) (t_2 : Int) () = some O3_) (fun (t_2 : Nat) => [(0, (sl tInt s10)), (1, (sl tInt s21)), (12, (intA (s10.length : Int))), (13, (intA (t_2 : Int)))]) (fun (t_2 : Nat) => []) _ (0 : Nat) (w0 0) ⟨rfl, L3_⟩ ?_
   rintro _ t_2 ⟨rfl, L3_⟩
   refine T_fact (len_sl (T := tInt) (.tmp 0) rfl) (fun hl3 => ?_)
   refine sr ?_
   refine pv tb 1 rfl ?_
   refine TO_nil ?_
   refine T_seq ?_
   refine T_cond (t := decide ((t_2 : Int) < (s10.length : Int))) rfl (fun d3 => ?_) (fun d3 => ?_)
   ·replace d3 := of_decide_eq_true d3
    obtain ⟨x_t_2, hx_t_2⟩ : ∃ v, (s10)[t_2]? = some v := ⟨_, List.getElem?_eq_getElem (by omega)⟩
    obtain ⟨C3_, H, K3_⟩ := forL_step L3_ hx_t_2
    rw [hb3] at H
    refine T_skip ?_
    refine T_seq ?_
    refine T_block ?_
    refine sr ?_
    refine pv tb 2 rfl ?_
    refine TO_nil ?_
    refine T_seq ?_
    refine T_regionD mixed (by kernel_rfl) ?_
    refine pq tb 2 rfl ?_
    refine TQ_pure rfl (pur_ixT (T := tInt) sl33 rfl rfl rfl hx_t_2 rfl) rfl ?_
    refine TQ_pure rfl (pur_ldT (T := tInt) (i := t_2) (off := 0) rfl one3 rfl rfl hx_t_2 rfl) rfl ?_
    obtain ⟨v_4, h_5, H⟩ := bind_inv H
    obtain ⟨n_6, hz_7, hv_8⟩ := getI_inv h_5
    refine pq tb 2 rfl ?_
    refine TQ_pure rfl (pur_ixT (T := tInt) sl33 rfl rfl hz_7 hv_8 rfl) rfl ?_
    refine TQ_pure rfl (pur_ldT (T := tInt) (i := n_6) (off := 0) rfl one3 rfl rfl hv_8 rfl) rfl ?_
    refine pq tb 1 rfl ?_
    refine TQ_nil ?_
    refine T_cond (t := decide (x_t_2 ≠ v_4)) rfl (fun c_9 => ?_) (fun c_9 => ?_)
    ·replace H := cond_t c_9 H
     refine sr ?_
     refine pv tb 1 rfl ?_
     refine TO_nil ?_
     refine te [(4, (boolA false))] rfl ?_
     refine T_ret ?_
     refine block_ret ?_
     refine then_ret ?_
     refine then_ret ?_
     refine block_ret ?_
     refine then_ret ?_
     obtain rfl := some_inj H
     obtain rfl := some_inj K3_
     replace H := onS_r N3_
     obtain rfl := some_inj H
     refine end_ret (.tmp .nil) rfl rfl ⟨?_, rfl⟩
     rfl
    ·replace H := cond_f c_9 H
     refine T_skip ?_
     refine T_region ?_
     refine Tp rfl rfl (pur_add rfl rfl rfl (fits64 (by omega) (by omega))) rfl ?_
     refine pv tb 1 rfl ?_
     refine TO_nil ?_
     obtain rfl := some_inj H
     exact again (s10.length - (t_2 + 1)) (t_2 + 1) (by omega) (w0 0) ⟨rfl, K3_⟩
   ·replace d3 := of_decide_eq_false d3
    obtain rfl := forL_end L3_ (by omega)
    refine T_exit ?_
    refine then_exit ?_
    refine then_exit ?_
    refine block_exit ?_
    replace H := onS_l N3_
    refine sr ?_
    refine pv tb 1 rfl ?_
    refine TO_nil ?_
    refine T_ret ?_
    obtain rfl := some_inj H
    refine end_ret (.tmp .nil) rfl rfl ⟨?_, rfl⟩
    rfl

set_option maxHeartbeats 1000000 in
theorem m_impl_sameKey_ok (relations0 : (List Relation)) (a1 : Fact) (b2 : Fact) (r : Bool) (H : m_impl_sameKey relations0 a1 b2 = some r) : FnV prg 134 [(sl tRelation relations0), (.g (tFact.enc a1)), (.g (tFact.enc b2))] (boolA r) := by
  unfold m_impl_sameKey at H
  refine fnV_of_T Try.func134 rfl rfl (Nat.le_of_ble_eq_true rfl) ?_
  refine te [(0, (sl tRelation relations0)), (1, (.g (tFact.enc a1))), (2, (.g (tFact.enc b2)))] rfl ?_
  refine sr ?_
  refine TO_cons rfl (TOp_box rfl (boxAll rfl) rfl rfl ?_)
  refine TO_cons rfl (TOp_box rfl (boxAll rfl) rfl rfl ?_)
  refine pv tb 1 rfl ?_
  refine TO_nil ?_
  refine T_seq ?_
  refine sr ?_
  refine pv tb 5 rfl ?_
  refine TO_nil ?_
  refine T_cond (t := decide (a1.relation ≠ b2.relation)) rfl (fun c_1 => ?_) (fun c_1 => ?_)
  ·replace H := cond_t c_1 H
   refine sr ?_
   refine pv tb 1 rfl ?_
   refine TO_nil ?_
   refine T_ret ?_
   refine then_ret ?_
   obtain rfl := some_inj H
   refine end_ret (.tmp .nil) rfl rfl ⟨?_, rfl⟩
   rfl
  ·replace H := cond_f c_1 H
   refine T_skip ?_
   refine sr ?_
   obtain ⟨v_2, h_3, H⟩ := bind_inv H
   obtain ⟨n_4, hz_5, hv_6⟩ := getI_inv h_3
   refine pv tb 3 rfl ?_
   refine Tp rfl rfl (pur_ixT (T := tRelation) sl29 rfl rfl hz_5 hv_6 rfl) rfl ?_
   refine pv tb 1 rfl ?_
   refine Tp rfl rfl (pur_ldT (T := tRelation) (i := n_4) (off := 2) rfl one3 rfl rfl hv_6 rfl) rfl ?_
   refine pv tb 1 rfl ?_
   refine TO_nil ?_
   refine te [(4, (.b 0 0)), (5, (.b 1 0)), (7, (intA v_2.keyLength))] rfl ?_
   refine T_seq ?_
   refine T_regionD mixed (by kernel_rfl) ?_
   obtain ⟨ys_7, h_8, H⟩ := bind_inv H
   refine pq tb 3 rfl ?_
   refine TQ_pure rfl (pur_cutT (T := tInt) (lo := none) (hi := (some (.tmp 21))) sl33 rfl rfl ⟨_, rfl⟩ h_8 rfl) rfl ?_
   obtain ⟨ys_9, h_10, H⟩ := bind_inv H
   refine pq tb 3 rfl ?_
   refine TQ_pure rfl (pur_cutT (T := tInt) (lo := none) (hi := (some (.tmp 25))) sl33 rfl rfl ⟨_, rfl⟩ h_10 rfl) rfl ?_
   obtain ⟨r_11, h_12, H⟩ := bind_inv H
   refine TQ_callV rfl (call_static ent50 rfl) (m_slices_Equal_Sint_int_ok _ _ _ h_12) rfl rfl ?_
   refine pq tb 1 rfl ?_
   refine TQ_nil ?_
   refine T_ret ?_
   obtain rfl := some_inj H
   refine end_ret (.tmp .nil) rfl rfl ⟨?_, rfl⟩
   rfl

set_option maxHeartbeats 1000000 in
theorem m_impl_blocks_own (db0 : Database) (r : (List (List Int))) (H : m_impl_blocks db0 = some r) : FnO prg 117 [(.g (tDatabase.enc db0))] (.m [0] 0 r.length (tSl tInt).k) [.row (flat (tSl tInt).own r)] := by
  unfold m_impl_blocks at H
  refine fnO_of_T Try.func117 rfl rfl (Nat.le_of_ble_eq_true rfl) ?_
  refine te [(0, (.g (tDatabase.enc db0)))] rfl ?_
  refine sr ?_
  refine TO_cons rfl (TOp_box rfl (boxAll rfl) rfl rfl ?_)
  refine pv tb 1 rfl ?_
  refine TO_nil ?_
  refine sr ?_
  refine TO_cons rfl (TOp_lit (nn := 0) (k := 1) sl22 zero33 rfl rfl rfl rfl (by decide) ?_)
  refine TO_st (σ' := [.box [(sl tRelation db0.relations), (sl tFact db0.facts)], .row (flat (tSl tInt).own ([] : (List (List Int))))]) rfl ?_
  refine pv tb 1 rfl ?_
  refine TO_nil ?_
  refine T_seq ?_
  refine sr ?_
  refine pv tb 2 rfl ?_
  refine Tp rfl rfl (pur_lenT (T := tFact) sl30 rfl rfl) rfl ?_
  refine pv tb 1 rfl ?_
  refine TO_nil ?_
  obtain ⟨O2_, L2_, N2_⟩ := bind_inv H
  clear H
  obtain ⟨B2_, hb2, L2_⟩ := gen_forS L2_
  refine T_block ?_
  refine T_loopX (fun k => fun (⟨t_1, out3⟩ : Nat × (List (List Int))) => k = db0.facts.length - t_1 ∧ forS B2_ (db0.facts.drop t_1) (t_1 : Int) out3 = some O2_) (fun (⟨t_1, out3⟩ : Nat × (List (List Int))) => [(1, (.b 0 0)), (3, (.m [1] 0 out3.length (tSl tInt).k)), (9, (sl tFact db0.facts)), (10, (intA (db0.facts.length : Int))), (11, (intA (t_1 : Int)))]) (fun (⟨t_1, out3⟩ : Nat × (List (List Int))) => [.box [(sl tRelation db0.relations), (sl tFact db0.facts)], .row (flat (tSl tInt).own out3)]) _ (0, ([] : (List (List Int)))) (w0 2) ⟨rfl, L2_⟩ ?_
  rintro _ ⟨t_1, out3⟩ ⟨rfl, L2_⟩
  refine T_fact (len_sl (T := tFact) (.tmp 9) rfl) (fun hl2 => ?_)
  refine sr ?_
  refine pv tb 1 rfl ?_
  refine TO_nil ?_
  refine T_seq ?_
  refine T_cond (t := decide ((t_1 : Int) < (db0.facts.length : Int))) rfl (fun d2 => ?_) (fun d2 => ?_)
  ·replace d2 := of_decide_eq_true d2
   obtain ⟨x_t_1, hx_t_1⟩ : ∃ v, (db0.facts)[t_1]? = some v := ⟨_, List.getElem?_eq_getElem (by omega)⟩
   obtain ⟨C2_, H, K2_⟩ := forS_step L2_ hx_t_1
   rw [hb2] at H
   refine T_skip ?_
   refine T_seq ?_
   refine T_block ?_
   refine sr ?_
   refine pv tb 1 rfl ?_
   refine Tp rfl rfl (pur_ixT (T := tFact) sl30 rfl rfl rfl hx_t_1 rfl) rfl ?_
   refine Tp rfl rfl (pur_ldTK (T := tFact) (i := t_1) (off := 0) rfl agg60 rfl rfl hx_t_1 (by decide) rfl) rfl ?_
   refine TO_cons rfl (TOp_alloc zero60 rfl rfl ?_)
   refine pv tb 1 rfl ?_
   refine TO_cons rfl (TOp_storeB sz60 rfl rfl rfl rfl rfl rfl rfl (by decide) (lb rfl) rfl ?_)
   refine TO_st (σ' := [.box [(sl tRelation db0.relations), (sl tFact db0.facts)], .row (flat (tSl tInt).own out3), .box [(intA x_t_1.relation), (sl tInt x_t_1.values)]]) rfl ?_
   refine TO_nil ?_
   refine sr ?_
   refine pv tb 1 rfl ?_
   refine Tp rfl rfl (pur_len_m sl22 rfl rfl) rfl ?_
   refine TO_fact (len_m (.tmp 3) rfl) (fun hl_3 => ?_)
   refine Tp rfl rfl (pur_sub rfl rfl rfl (fits64 (by omega) (by omega))) rfl ?_
   refine pv tb 1 rfl ?_
   refine TO_nil ?_
   obtain ⟨t36_4, J_4, H_5⟩ := bind_inv H
   refine T_cutX (fun x => t36_4 = x) (fun (t36_4 : Bool) => [(1, (.b 0 0)), (3, (.m [1] 0 out3.length (tSl tInt).k)), (4, (intA (t_1 : Int))), (6, (intA ((out3.length : Int) - 1))), (9, (sl tFact db0.facts)), (10, (intA (db0.facts.length : Int))), (11, (intA (t_1 : Int))), (36, (boolA t36_4))]) (fun (t36_4 : Bool) => [.box [(sl tRelation db0.relations), (sl tFact db0.facts)], .row (flat (tSl tInt).own out3)]) ?_ ?_
   ·replace H := J_4
    refine T_regionD mixed (by kernel_rfl) ?_
    refine pq tb 3 rfl ?_
    refine TQ_split (t := decide (0 ≤ ((out3.length : Int) - 1))) 21 rfl (fun g_6 => ?_) (fun g_6 => ?_)
    ·replace H := cond_t g_6 H
     obtain ⟨v_7, h_8, H⟩ := bind_inv H
     obtain ⟨n_9, hz_10, hv_11⟩ := getI_inv h_8
     refine pq tb 6 rfl ?_
     refine TQ_on rfl rfl (by decide) rfl (pur_ixM (T := (tSl tInt)) sl22 rfl rfl hz_10 hv_11 rfl) rfl ?_
     refine TQ_on rfl rfl (by decide) rfl (pur_ldE (f := (tSl tInt).own) (k := (tSl tInt).k) (i := n_9) (off := 0) (tSl tInt).lenO rfl one33 rfl rfl rfl hv_11 rfl cellVal_sl) rfl ?_
     obtain ⟨v_12, h_13, H⟩ := bind_inv H
     obtain ⟨n_14, hz_15, hv_16⟩ := getI_inv h_13
     refine TQ_on rfl rfl (by decide) rfl (pur_ixM (T := tInt) sl33 rfl rfl hz_15 hv_16 rfl) rfl ?_
     refine TQ_on rfl rfl (by decide) rfl (pur_ldE (f := tInt.own) (k := tInt.k) (i := n_14) (off := 0) tInt.lenO rfl one3 rfl (rowAt_el (f := (tSl tInt).own) (i := n_9) (off := 0) (tSl tInt).lenO rfl hv_11 rfl) rfl hv_16 rfl rfl) rfl ?_
     obtain ⟨v_17, h_18, H⟩ := bind_inv H
     obtain ⟨n_19, hz_20, hv_21⟩ := getI_inv h_18
     refine TQ_on rfl rfl (by decide) rfl (pur_ixT (T := tFact) sl30 rfl rfl hz_20 hv_21 rfl) rfl ?_
     refine TQ_on rfl rfl (by decide) rfl (pur_ldTK (T := tFact) (i := n_19) (off := 0) rfl agg60 rfl rfl hv_21 (by decide) rfl) rfl ?_
     obtain ⟨r_22, h_23, H⟩ := bind_inv H
     refine pq tb 1 rfl ?_
     refine TQ_onV rfl rfl (by decide) rfl (call_static ent134 rfl) (m_impl_sameKey_ok _ _ _ _ h_23) rfl rfl ?_
     refine pq tb 1 rfl ?_
     refine TQ_nil ?_
     exact joined r_22 (w0 2) (some_inj H).symm
    ·replace H := cond_f g_6 H
     refine pq tb 15 rfl ?_
     refine TQ_nil ?_
     exact joined false (w0 2) (some_inj H).symm
   ·rintro _ rfl
    replace H := H_5
    refine T_cond (t := t36_4) rfl (fun c_24 => ?_) (fun c_24 => ?_)
    ·replace H := cond_t c_24 H
     refine T_region ?_
     obtain ⟨v_25, h_26, H⟩ := bind_inv H
     obtain ⟨n_27, hz_28, hv_29⟩ := getI_inv h_26
     refine pv tb 4 rfl ?_
     refine Tp rfl rfl (pur_ixM (T := (tSl tInt)) sl22 rfl rfl hz_28 hv_29 rfl) rfl ?_
     refine Tp rfl rfl (pur_ldE (f := (tSl tInt).own) (k := (tSl tInt).k) (i := n_27) (off := 0) (tSl tInt).lenO rfl one33 rfl rfl rfl hv_29 rfl cellVal_sl) rfl ?_
     refine pv tb 1 rfl ?_
     refine TO_cons rfl (TOp_lit (nn := 1) (k := 1) sl33 zero3 rfl rfl rfl rfl (by decide) ?_)
     refine TO_st (σ' := [.box [(sl tRelation db0.relations), (sl tFact db0.facts)], .row (flat (tSl tInt).own out3), .row (flat tInt.enc ([(t_1 : Int)] : (List Int)))]) rfl ?_
     refine TO_boxify 1 rfl (lb rfl) ?_
     refine TO_detach (k := tInt.k) (xs := flat (tSl tInt).own out3) (ys := flat tInt.own v_25) (E' := [(1, (.b 0 0)), (3, (.m [1] 0 out3.length (tSl tInt).k)), (9, (sl tFact db0.facts)), (10, (intA (db0.facts.length : Int))), (11, (intA (t_1 : Int))), (37, (.m [1] 0 out3.length (tSl tInt).k)), (38, (intA ((out3.length : Int) - 1))), (42, (.m [3] 0 v_25.length tInt.k)), (44, (.m [2] 0 ([(t_1 : Int)] : (List Int)).length tInt.k))]) 1 (n_27 * (tSl tInt).k + 0) 42 rfl (flat_at' (tSl tInt).lenO hv_29 rfl) rfl (lb rfl) (nms_box rfl (nms_box namesL_own (nms_row nms_nil))) ⟨.inr ⟨rfl, rfl⟩, .inr ⟨rfl, rfl⟩, .inr ⟨rfl, rfl⟩, .inr ⟨rfl, rfl⟩, .inr ⟨rfl, rfl⟩, .inr ⟨rfl, rfl⟩, .inr ⟨rfl, rfl⟩, .inl ⟨rfl, rfl⟩, .inr ⟨rfl, rfl⟩, trivial⟩ ?_
     refine TO_st (σ' := [.box [(sl tRelation db0.relations), (sl tFact db0.facts)], .box (spl (flat (tSl tInt).own out3) (n_27 * (tSl tInt).k) [.j]), .row (flat tInt.enc ([(t_1 : Int)] : (List Int))), .row (flat tInt.own v_25)]) (by rw [open_T (T := (tSl tInt)) hv_29 (by decide)]; rfl) ?_
     obtain ⟨us_30, h_31, H⟩ := bind_inv H
     refine TO_cons rfl (TOp_appY (T := tInt) (f := tInt.own) (xs := v_25) (ys := ([(t_1 : Int)] : (List Int))) tInt.lenO sl33 zero3 rfl bytes3 (by decide) rfl rfl rfl rfl (src_mT (f := tInt.own) tInt.lenO rfl rfl (flat_cell tInt _)) (flat_cell tInt _) h_31 ?_)
     refine toe [(1, (.b 0 0)), (3, (.m [1] 0 out3.length (tSl tInt).k)), (9, (sl tFact db0.facts)), (10, (intA (db0.facts.length : Int))), (11, (intA (t_1 : Int))), (37, (.m [1] 0 out3.length (tSl tInt).k)), (38, (intA ((out3.length : Int) - 1))), (44, (.m [2] 0 ([(t_1 : Int)] : (List Int)).length tInt.k)), (45, (.m [4] 0 us_30.length tInt.k))] rfl ?_
     refine TO_st (σ' := [.box [(sl tRelation db0.relations), (sl tFact db0.facts)], .box (spl (flat (tSl tInt).own out3) (n_27 * (tSl tInt).k) [.j]), .row (flat tInt.enc ([(t_1 : Int)] : (List Int))), .dead, .row (flat tInt.own us_30)]) rfl ?_
     refine Tp rfl rfl (pur_ixM (T := (tSl tInt)) sl22 rfl rfl hz_28 hv_29 rfl) rfl ?_
     refine TO_cons rfl (TOp_setH (T := (tSl tInt)) (i := n_27) (off := 0) (xs := out3) (v := v_25) (zs := [.j]) sz33 (by decide) rfl rfl rfl rfl rfl rfl hv_29 rfl rfl (lb rfl) rfl ?_)
     refine toe [(1, (.b 0 0)), (3, (.m [1] 0 out3.length (tSl tInt).k)), (9, (sl tFact db0.facts)), (10, (intA (db0.facts.length : Int))), (11, (intA (t_1 : Int))), (37, (.m [1] 0 out3.length (tSl tInt).k)), (38, (intA ((out3.length : Int) - 1))), (44, (.m [2] 0 ([(t_1 : Int)] : (List Int)).length tInt.k))] rfl ?_
     refine TO_st (σ' := [.box [(sl tRelation db0.relations), (sl tFact db0.facts)], .box (spl (flat (tSl tInt).own out3) (n_27 * (tSl tInt).k) [(.m [4] 0 us_30.length tInt.k)]), .row (flat tInt.enc ([(t_1 : Int)] : (List Int))), .dead, .row (flat tInt.own us_30)]) rfl ?_
     refine TO_absorbS (T := (tSl tInt)) (i := n_27) (xs := out3) (v := v_25) 1 0 4 rfl hv_29 rfl rfl rfl (by decide) tInt.pos (flat_len tInt.lenO _) (lb rfl) (lb rfl) rfl (nms_box rfl (nms_box (namesL_spl namesL_own rfl) (nms_row (nms_dead (nms_row nms_nil))))) ?_
     refine TO_st (σ' := [.box [(sl tRelation db0.relations), (sl tFact db0.facts)], .box (spl (flat (tSl tInt).own out3) (n_27 * (tSl tInt).k) [.o tInt.k (flat tInt.own us_30)]), .row (flat tInt.enc ([(t_1 : Int)] : (List Int))), .dead, .dead]) rfl ?_
     refine TO_rowifyS (T := (tSl tInt)) (i := n_27) (xs := out3) 1 us_30 hz_28 rfl hv_29 rfl (lb rfl) ?_
     refine TO_env (E' := [(1, (.b 0 0)), (3, (.m [1] 0 (out3.set (((out3.length : Int) - 1)).toNat us_30).length (tSl tInt).k)), (9, (sl tFact db0.facts)), (10, (intA (db0.facts.length : Int))), (11, (intA (t_1 : Int))), (37, (.m [1] 0 (out3.set (((out3.length : Int) - 1)).toNat us_30).length (tSl tInt).k)), (38, (intA ((out3.length : Int) - 1))), (44, (.m [2] 0 ([(t_1 : Int)] : (List Int)).length tInt.k))]) ⟨rfl, (congrArg (fun q => A.m [1] 0 q (tSl tInt).k) (List.length_set ..).symm), rfl, rfl, rfl, (congrArg (fun q => A.m [1] 0 q (tSl tInt).k) (List.length_set ..).symm), rfl, rfl, trivial⟩ ?_
     refine TO_st (σ' := [.box [(sl tRelation db0.relations), (sl tFact db0.facts)], .row (flat (tSl tInt).own (out3.set (((out3.length : Int) - 1)).toNat us_30)), .row (flat tInt.enc ([(t_1 : Int)] : (List Int))), .dead, .dead]) rfl ?_
     refine TO_nil ?_
     refine T_region ?_
     refine Tp rfl rfl (pur_add rfl rfl rfl (fits64 (by omega) (by omega))) rfl ?_
     refine pv tb 1 rfl ?_
     refine TO_nil ?_
     obtain rfl := some_inj H
     exact again (db0.facts.length - (t_1 + 1)) (t_1 + 1, (out3.set (((out3.length : Int) - 1)).toNat us_30)) (by omega) (w0 2) ⟨rfl, K2_⟩
    ·replace H := cond_f c_24 H
     refine T_region ?_
     refine pv tb 2 rfl ?_
     refine TO_cons rfl (TOp_lit (nn := 1) (k := 1) sl33 zero3 rfl rfl rfl rfl (by decide) ?_)
     refine TO_st (σ' := [.box [(sl tRelation db0.relations), (sl tFact db0.facts)], .row (flat (tSl tInt).own out3), .row (flat tInt.enc ([(t_1 : Int)] : (List Int)))]) rfl ?_
     refine TO_cons rfl (TOp_litB (nn := 1) (k := 1) sl22 zero33 rfl rfl rfl rfl (by decide) ?_)
     refine TO_st (σ' := [.box [(sl tRelation db0.relations), (sl tFact db0.facts)], .row (flat (tSl tInt).own out3), .row (flat tInt.enc ([(t_1 : Int)] : (List Int))), .box [(.m [2] 0 ([(t_1 : Int)] : (List Int)).length tInt.k)]]) rfl ?_
     refine TO_boxify 1 rfl (lb rfl) ?_
     obtain ⟨us_32, h_33, H⟩ := bind_inv H
     refine TO_cons rfl (TOp_appB (T := (tSl tInt)) (xs := out3) (v := ([(t_1 : Int)] : (List Int))) sl22 zero33 rfl bytes33 (by decide) rfl rfl rfl rfl rfl rfl rfl rfl h_33 (lb rfl) ?_)
     refine toe [(1, (.b 0 0)), (4, (intA (t_1 : Int))), (6, (intA ((out3.length : Int) - 1))), (9, (sl tFact db0.facts)), (10, (intA (db0.facts.length : Int))), (11, (intA (t_1 : Int))), (36, (boolA t36_4)), (48, (intA (t_1 : Int))), (51, .m [4] 0 (out3.length + 1) (tSl tInt).k)] rfl ?_
     refine TO_st (σ' := [.box [(sl tRelation db0.relations), (sl tFact db0.facts)], .dead, .row (flat tInt.enc ([(t_1 : Int)] : (List Int))), .box [(.m [2] 0 ([(t_1 : Int)] : (List Int)).length tInt.k)], .box (flat (tSl tInt).own out3 ++ [(.m [2] 0 ([(t_1 : Int)] : (List Int)).length tInt.k)])]) rfl ?_
     refine TO_absorbA (pr := flat (tSl tInt).own out3) 4 0 2 rfl rfl rfl (by decide) tInt.pos (flat_len tInt.len _) (lb rfl) (lb rfl) rfl (nms_box rfl (nms_dead (nms_row (nms_box rfl (nms_box (namesA namesL_own rfl) nms_nil))))) ?_
     refine TO_st (σ' := [.box [(sl tRelation db0.relations), (sl tFact db0.facts)], .dead, .dead, .box [(.m [2] 0 ([(t_1 : Int)] : (List Int)).length tInt.k)], .box (flat (tSl tInt).own out3 ++ [.o tInt.k (flat tInt.enc ([(t_1 : Int)] : (List Int)))])]) rfl ?_
     refine TO_rowifyT (T := (tSl tInt)) (xs := out3) (v := ([(t_1 : Int)] : (List Int))) 4 rfl rfl h_33 (lb rfl) ?_
     refine TO_st (σ' := [.box [(sl tRelation db0.relations), (sl tFact db0.facts)], .dead, .dead, .box [(.m [2] 0 ([(t_1 : Int)] : (List Int)).length tInt.k)], .row (flat (tSl tInt).own us_32)]) rfl ?_
     refine TO_move 1 4 (by decide) (lb rfl) rfl rfl (lb rfl) ?_
     refine TO_env (E' := [(1, (.b 0 0)), (4, (intA (t_1 : Int))), (6, (intA ((out3.length : Int) - 1))), (9, (sl tFact db0.facts)), (10, (intA (db0.facts.length : Int))), (11, (intA (t_1 : Int))), (36, (boolA t36_4)), (48, (intA (t_1 : Int))), (51, (.m [1] 0 us_32.length (tSl tInt).k))]) ⟨rfl, rfl, rfl, rfl, rfl, rfl, rfl, rfl, (congrArg (fun q => A.m [1] 0 q (tSl tInt).k) (app_len h_33)), trivial⟩ ?_
     refine TO_kill 3 (lb rfl) ?_
     refine TO_st (σ' := [.box [(sl tRelation db0.relations), (sl tFact db0.facts)], .row (flat (tSl tInt).own us_32), .dead, .dead, .dead]) rfl ?_
     refine pv tb 1 rfl ?_
     refine TO_nil ?_
     refine T_region ?_
     refine Tp rfl rfl (pur_add rfl rfl rfl (fits64 (by omega) (by omega))) rfl ?_
     refine pv tb 1 rfl ?_
     refine TO_nil ?_
     obtain rfl := some_inj H
     exact again (db0.facts.length - (t_1 + 1)) (t_1 + 1, us_32) (by omega) (w0 2) ⟨rfl, K2_⟩
  ·replace d2 := of_decide_eq_false d2
   obtain rfl := forS_end L2_ (by omega)
   refine T_exit ?_
   refine then_exit ?_
   refine then_exit ?_
   refine block_exit ?_
   replace H := N2_
   refine sr ?_
   refine pv tb 2 rfl ?_
   refine TO_nil ?_
   refine T_ret ?_
   obtain rfl := some_inj H
   exact end_pick (.tmp .nil) rfl [1] (by decide) rfl rfl rfl rfl rfl rfl
theorem m_impl_blocks_ok (db0 : Database) (r : (List (List Int))) (H : m_impl_blocks db0 = some r) : FnV prg 117 [(.g (tDatabase.enc db0))] (sl (tSl tInt) r) := (m_impl_blocks_own db0 r H).frz (frzT (T := (tSl tInt)) rfl)

set_option maxHeartbeats 1000000 in
theorem m_impl_nthRepair_own (u : Nat) (list0 : (List (List Int))) (rank1 : Int) (r : (List Int)) (H : m_impl_nthRepair u list0 rank1 = some r) : FnO prg 118 [(sl (tSl tInt) list0), (intA rank1)] (.m [0] 0 r.length tInt.k) [.row (flat tInt.own r)] := by
  unfold m_impl_nthRepair at H
  refine fnO_of_T Try.func118 rfl rfl (Nat.le_of_ble_eq_true rfl) ?_
  refine te [(0, (sl (tSl tInt) list0)), (1, (intA rank1))] rfl ?_
  refine sr ?_
  refine pv tb 1 rfl ?_
  refine TO_nil ?_
  refine sr ?_
  refine pv tb 1 rfl ?_
  refine Tp rfl rfl (pur_lenT (T := (tSl tInt)) sl22 rfl rfl) rfl ?_
  obtain ⟨us_1, h_2, H⟩ := bind_inv H
  refine TO_cons rfl (TOp_makeT (T := tInt) (z := (0 : Int)) rfl sl33 zero3 rfl bytes3 rfl rfl rfl rfl h_2 ?_)
  refine pv tb 1 rfl ?_
  refine TO_nil ?_
  refine T_seq ?_
  refine sr ?_
  refine pv tb 1 rfl ?_
  refine Tp rfl rfl (pur_lenT (T := (tSl tInt)) sl22 rfl rfl) rfl ?_
  refine TO_fact (len_sl (T := (tSl tInt)) (.tmp 0) rfl) (fun hl_3 => ?_)
  refine Tp rfl rfl (pur_sub rfl rfl rfl (fits64 (by omega) (by omega))) rfl ?_
  refine pv tb 1 rfl ?_
  refine TO_nil ?_
  obtain ⟨O4_, L4_, N4_⟩ := bind_inv H
  clear H
  obtain ⟨B4_, hb4, L4_⟩ := gen_whileF L4_
  refine T_block ?_
  refine T_loopX (fun k => fun (⟨rank1, out5, i6⟩ : Int × (List Int) × Int) => whileF B4_ k (rank1, out5, i6) = some O4_) (fun (⟨rank1, out5, i6⟩ : Int × (List Int) × Int) => [(0, (sl (tSl tInt) list0)), (1, (intA rank1)), (5, (.m [0] 0 out5.length tInt.k)), (6, (intA i6))]) (fun (⟨rank1, out5, i6⟩ : Int × (List Int) × Int) => [.row (flat tInt.enc out5)]) u (rank1, us_1, ((list0.length : Int) - 1)) (w0 1) L4_ ?_
  rintro _ ⟨rank1, out5, i6⟩ L4_
  obtain ⟨k4, rfl, C4_, H, K4_⟩ := while_step L4_
  rw [hb4] at H
  refine T_seq ?_
  refine sr ?_
  refine pv tb 2 rfl ?_
  refine TO_nil ?_
  refine T_cond (t := decide (0 ≤ i6)) rfl (fun c_5 => ?_) (fun c_5 => ?_)
  ·replace H := cond_t c_5 H
   refine T_skip ?_
   refine T_seq ?_
   refine T_block ?_
   obtain ⟨v_6, h_7, H⟩ := bind_inv H
   obtain ⟨n_8, hz_9, hv_10⟩ := getI_inv h_7
   obtain ⟨_u, h_11, H⟩ := bind_inv H
   obtain ⟨v_12, h_13, H⟩ := bind_inv H
   obtain ⟨n_14, hz_15, hv_16⟩ := getI_inv h_13
   obtain ⟨v_17, h_18, H⟩ := bind_inv H
   obtain ⟨n_19, hz_20, hv_21⟩ := getI_inv h_18
   refine T_cutX (fun (_ : Unit) => True) (fun _ => [(0, (sl (tSl tInt) list0)), (1, (intA rank1)), (5, (.m [0] 0 (out5.set (i6).toNat v_12).length tInt.k)), (6, (intA i6))]) (fun _ => [.row (flat tInt.enc (out5.set (i6).toNat v_12))]) ?_ ?_
   ·skip
    refine T_regionP 0 mixed rfl ?_
    refine pa tb [0, 1, 2, 3] 13 rfl (by kernel_rfl) rfl ?_
    refine tf 4 rfl (pur_ixT (T := (tSl tInt)) sl22 rfl rfl hz_9 hv_10 rfl) rfl rfl (by kernel_rfl) ?_
    refine tf 5 rfl (pur_ldT (T := (tSl tInt)) (i := n_8) (off := 0) rfl one33 rfl rfl hv_10 rfl) rfl rfl (by kernel_rfl) ?_
    refine pa tb [6, 7, 8] 8 rfl (by kernel_rfl) rfl ?_
    refine tf 9 rfl (pur_ixT (T := (tSl tInt)) sl22 rfl rfl hz_9 hv_10 rfl) rfl rfl (by kernel_rfl) ?_
    refine tf 10 rfl (pur_ldT (T := (tSl tInt)) (i := n_8) (off := 0) rfl one33 rfl rfl hv_10 rfl) rfl rfl (by kernel_rfl) ?_
    refine tf 11 rfl (pur_lenT (T := tInt) sl33 rfl rfl) rfl rfl (by kernel_rfl) ?_
    refine tf 12 rfl (pur_rem rfl rfl rfl (gD_inv h_11)) rfl rfl (by kernel_rfl) ?_
    refine tf 13 rfl (pur_ixT (T := tInt) sl33 rfl rfl hz_15 hv_16 rfl) rfl rfl (by kernel_rfl) ?_
    refine tf 14 rfl (pur_ldT (T := tInt) (i := n_14) (off := 0) rfl one3 rfl rfl hv_16 rfl) rfl rfl (by kernel_rfl) ?_
    refine tf 15 rfl (pur_ixM (T := tInt) sl33 rfl rfl hz_20 hv_21 rfl) rfl rfl (by kernel_rfl) ?_
    refine tae [(0, (sl (tSl tInt) list0)), (1, (intA rank1)), (5, (.m [0] 0 out5.length tInt.k)), (6, (intA i6)), (31, (intA v_12)), (32, (.e [0] (n_19 * tInt.k)))] rfl ?_
    refine t1 16 (by kernel_rfl) rfl rfl (TOp_setT (f := tInt.enc) (z := i6) (y := v_12) tInt.len tInt.pos hz_20 sz3 rfl rfl rfl rfl rfl hv_21 rfl rfl ?_)
    refine TA_env (E' := [(0, (sl (tSl tInt) list0)), (1, (intA rank1)), (5, (.m [0] 0 (out5.set (i6).toNat v_12).length tInt.k)), (6, (intA i6)), (31, (intA v_12))]) ⟨rfl, rfl, (congrArg (fun q => A.m [0] 0 q tInt.k) (List.length_set ..).symm), rfl, rfl, trivial⟩ ?_
    refine TA_st (σ' := [.row (flat tInt.enc (out5.set (i6).toNat v_12))]) rfl ?_
    exact TA_nil (by kernel_rfl) (joined () (w0 1) trivial)
   ·rintro _ _
    refine T_region ?_
    refine pv tb 3 rfl ?_
    refine Tp rfl rfl (pur_ixT (T := (tSl tInt)) sl22 rfl rfl hz_9 hv_10 rfl) rfl ?_
    refine Tp rfl rfl (pur_ldT (T := (tSl tInt)) (i := n_8) (off := 0) rfl one33 rfl rfl hv_10 rfl) rfl ?_
    refine Tp rfl rfl (pur_lenT (T := tInt) sl33 rfl rfl) rfl ?_
    obtain ⟨_u, h_22, H⟩ := bind_inv H
    refine Tp rfl rfl (pur_wquo rfl rfl rfl (gD_inv h_22)) rfl ?_
    refine pv tb 1 rfl ?_
    refine TO_nil ?_
    refine T_region ?_
    refine pv tb 3 rfl ?_
    refine TO_nil ?_
    obtain rfl := some_inj H
    exact again k4 ((w64 (rank1.tdiv (v_6.length : Int))), (out5.set (i6).toNat v_12), (w64 (i6 - 1))) (Nat.lt_succ_self _) (w0 1) K4_
  ·replace H := cond_f c_5 H
   refine T_exit ?_
   refine then_exit ?_
   refine then_exit ?_
   refine block_exit ?_
   obtain rfl := some_inj H
   obtain rfl := some_inj K4_
   replace H := onS_l N4_
   refine sr ?_
   refine pv tb 2 rfl ?_
   refine TO_nil ?_
   refine T_ret ?_
   obtain rfl := some_inj H
   exact end_pick (.tmp .nil) rfl [0] (by decide) rfl rfl rfl rfl rfl rfl
theorem m_impl_nthRepair_ok (u : Nat) (list0 : (List (List Int))) (rank1 : Int) (r : (List Int)) (H : m_impl_nthRepair u list0 rank1 = some r) : FnV prg 118 [(sl (tSl tInt) list0), (intA rank1)] (sl tInt r) := (m_impl_nthRepair_own u list0 rank1 r H).frz (frzT (T := tInt) rfl)

set_option maxHeartbeats 1000000 in
theorem m_impl_countRepairs_ok (list0 : (List (List Int))) (r : Int) (H : m_impl_countRepairs list0 = some r) : FnV prg 119 [(sl (tSl tInt) list0)] (intA r) := by
  unfold m_impl_countRepairs at H
  refine fnV_of_T Try.func119 rfl rfl (Nat.le_of_ble_eq_true rfl) ?_
  refine te [(0, (sl (tSl tInt) list0))] rfl ?_
  refine sr ?_
  refine pv tb 1 rfl ?_
  refine TO_nil ?_
  refine sr ?_
  refine pv tb 1 rfl ?_
  refine TO_nil ?_
  refine T_seq ?_
  refine sr ?_
  refine pv tb 1 rfl ?_
  refine Tp rfl rfl (pur_lenT (T := (tSl tInt)) sl22 rfl rfl) rfl ?_
  refine pv tb 1 rfl ?_
  refine TO_nil ?_
  obtain ⟨O2_, L2_, N2_⟩ := bind_inv H
  clear H
  obtain ⟨B2_, hb2, L2_⟩ := gen_forS L2_
  refine T_block ?_
  refine T_loopX (fun k => fun (⟨t_1, out3⟩ : Nat × Int) => k = list0.length - t_1 ∧ forS B2_ (list0.drop t_1) (t_1 : Int) out3 = some O2_) (fun (⟨t_1, out3⟩ : Nat × Int) => [(3, (intA out3)), (6, (sl (tSl tInt) list0)), (7, (intA (list0.length : Int))), (8, (intA (t_1 : Int)))]) (fun (⟨t_1, out3⟩ : Nat × Int) => []) _ (0, 1) (w0 0) ⟨rfl, L2_⟩ ?_
  rintro _ ⟨t_1, out3⟩ ⟨rfl, L2_⟩
  refine T_fact (len_sl (T := (tSl tInt)) (.tmp 6) rfl) (fun hl2 => ?_)
  refine sr ?_
  refine pv tb 1 rfl ?_
  refine TO_nil ?_
  refine T_seq ?_
  refine T_cond (t := decide ((t_1 : Int) < (list0.length : Int))) rfl (fun d2 => ?_) (fun d2 => ?_)
  ·replace d2 := of_decide_eq_true d2
   obtain ⟨x_t_1, hx_t_1⟩ : ∃ v, (list0)[t_1]? = some v := ⟨_, List.getElem?_eq_getElem (by omega)⟩
   obtain ⟨C2_, H, K2_⟩ := forS_step L2_ hx_t_1
   rw [hb2] at H
   refine T_skip ?_
   refine T_seq ?_
   refine T_block ?_
   refine sr ?_
   refine Tp rfl rfl (pur_ixT (T := (tSl tInt)) sl22 rfl rfl rfl hx_t_1 rfl) rfl ?_
   refine Tp rfl rfl (pur_ldT (T := (tSl tInt)) (i := t_1) (off := 0) rfl one33 rfl rfl hx_t_1 rfl) rfl ?_
   refine pv tb 1 rfl ?_
   refine TO_nil ?_
   refine T_region ?_
   refine pv tb 2 rfl ?_
   refine Tp rfl rfl (pur_lenT (T := tInt) sl33 rfl rfl) rfl ?_
   refine pv tb 2 rfl ?_
   refine TO_nil ?_
   refine T_region ?_
   refine Tp rfl rfl (pur_add rfl rfl rfl (fits64 (by omega) (by omega))) rfl ?_
   refine pv tb 1 rfl ?_
   refine TO_nil ?_
   obtain rfl := some_inj H
   exact again (list0.length - (t_1 + 1)) (t_1 + 1, (w64 (out3 * (x_t_1.length : Int)))) (by omega) (w0 0) ⟨rfl, K2_⟩
  ·replace d2 := of_decide_eq_false d2
   obtain rfl := forS_end L2_ (by omega)
   refine T_exit ?_
   refine then_exit ?_
   refine then_exit ?_
   refine block_exit ?_
   replace H := N2_
   refine sr ?_
   refine pv tb 2 rfl ?_
   refine TO_nil ?_
   refine T_ret ?_
   obtain rfl := some_inj H
   refine end_ret (.tmp .nil) rfl rfl ⟨?_, rfl⟩
   rfl

set_option maxHeartbeats 1000000 in
theorem m_impl_rangeOf_ok (u : Nat) (db0 : Database) (aggregate1 : ((List Int) → Option Int)) (aggregate1_g : Nat) (aggregate1_c : List A) (aggregate1_E : EnT prg aggregate1_g) (aggregate1_l : looseL aggregate1_c = true) (aggregate1_m : firmL aggregate1_c = true ∧ fzL aggregate1_c = aggregate1_c) (aggregate1_H : ∀ (x0 : (List Int)) r, aggregate1 x0 = some r → FnV prg aggregate1_g ([(sl tInt x0)] ++ aggregate1_c) (intA r)) (r : (Int × Int)) (H : m_impl_rangeOf u db0 aggregate1 = some r) : FnV prg 99 [(.g (tDatabase.enc db0)), (.f aggregate1_g aggregate1_c)] (.t [(intA r.1), (intA r.2)]) := by
  unfold m_impl_rangeOf at H
  refine fnV_of_T Try.func99 rfl rfl (Nat.le_of_ble_eq_true rfl) ?_
  refine te [(0, (.g (tDatabase.enc db0))), (1, (.f aggregate1_g aggregate1_c))] rfl ?_
  refine sr ?_
  refine TO_cons rfl (TOp_box rfl (boxAll rfl) rfl rfl ?_)
  refine pv tb 2 rfl ?_
  refine TO_nil ?_
  refine sr ?_
  obtain ⟨r_1, h_2, H⟩ := bind_inv H
  refine pv tb 1 rfl ?_
  refine TO_cons rfl (TOp_callV (call_static ent117 rfl) (m_impl_blocks_ok _ _ h_2) rfl rfl rfl ?_)
  refine pv tb 1 rfl ?_
  refine TO_nil ?_
  refine sr ?_
  obtain ⟨r_3, h_4, H⟩ := bind_inv H
  refine pv tb 2 rfl ?_
  refine TO_cons rfl (TOp_callV (call_static ent118 rfl) (m_impl_nthRepair_ok u _ _ _ h_4) rfl rfl rfl ?_)
  obtain ⟨r_5, h_6, H⟩ := bind_inv H
  refine TO_cons rfl (TOp_callV (call_closure aggregate1_E rfl rfl) (aggregate1_H _  _ h_6) (looseL_app rfl aggregate1_l) rfl rfl ?_)
  refine pv tb 1 rfl ?_
  refine TO_nil ?_
  refine sr ?_
  refine pv tb 2 rfl ?_
  refine TO_nil ?_
  refine T_seq ?_
  refine sr ?_
  obtain ⟨r_7, h_8, H⟩ := bind_inv H
  refine pv tb 1 rfl ?_
  refine TO_cons rfl (TOp_callV (call_static ent119 rfl) (m_impl_countRepairs_ok _ _ h_8) rfl rfl rfl ?_)
  refine pv tb 1 rfl ?_
  refine TO_nil ?_
  obtain ⟨_, h_11, H⟩ := bind_inv H
  replace h_11 := gN_inv h_11
  obtain ⟨O10_, L10_, N10_⟩ := bind_inv H
  clear H
  obtain ⟨B10_, hb10, L10_⟩ := gen_forM L10_
  refine T_block ?_
  refine T_loopX (fun k => fun (⟨t_9, least7, most8⟩ : Int × Int × Int) => k = (r_7 - t_9).toNat ∧ 0 ≤ t_9 ∧ forM B10_ (r_7 - t_9).toNat t_9 (least7, most8) = some O10_) (fun (⟨t_9, least7, most8⟩ : Int × Int × Int) => [(1, (.f aggregate1_g aggregate1_c)), (6, (sl (tSl tInt) r_1)), (7, (intA least7)), (8, (intA most8)), (19, (intA r_7)), (20, (intA (t_9 : Int)))]) (fun (⟨t_9, least7, most8⟩ : Int × Int × Int) => [.box [(sl tRelation db0.relations), (sl tFact db0.facts)]]) _ (0, (r_5, r_5)) (wp 1 (lb rfl) rfl rfl (by simp only [namesE, A.names, namesL_enc, Bool.false_or, Bool.or_false, looseL_names aggregate1_l]) rfl rfl) ⟨rfl, Int.le_refl _, L10_⟩ ?_
  rintro _ ⟨t_9, least7, most8⟩ ⟨rfl, hi10, L10_⟩
  refine sr ?_
  refine pv tb 1 rfl ?_
  refine TO_nil ?_
  refine T_seq ?_
  refine T_cond (t := decide ((t_9 : Int) < r_7)) rfl (fun d10 => ?_) (fun d10 => ?_)
  ·replace d10 := of_decide_eq_true d10
   obtain ⟨C10_, H, K10_⟩ := forM_step L10_ d10
   rw [hb10] at H
   refine T_skip ?_
   refine T_seq ?_
   refine T_block ?_
   refine sr ?_
   refine pv tb 2 rfl ?_
   refine TO_nil ?_
   refine sr ?_
   obtain ⟨r_12, h_13, H⟩ := bind_inv H
   refine pv tb 3 rfl ?_
   refine TO_cons rfl (TOp_callV (call_static ent118 rfl) (m_impl_nthRepair_ok u _ _ _ h_13) rfl rfl rfl ?_)
   obtain ⟨r_14, h_15, H⟩ := bind_inv H
   refine TO_cons rfl (TOp_callV (call_closure aggregate1_E rfl rfl) (aggregate1_H _  _ h_15) (looseL_app rfl aggregate1_l) rfl rfl ?_)
   refine pv tb 1 rfl ?_
   refine TO_nil ?_
   refine T_region ?_
   refine pv tb 2 rfl ?_
   refine Tp rfl rfl (pur_min rfl rfl rfl) rfl ?_
   refine pv tb 2 rfl ?_
   refine Tp rfl rfl (pur_max rfl rfl rfl) rfl ?_
   refine pv tb 2 rfl ?_
   refine TO_nil ?_
   refine te [(1, (.f aggregate1_g aggregate1_c)), (6, (sl (tSl tInt) r_1)), (7, (intA (if r_14 < least7 then r_14 else least7))), (8, (intA (if most8 < r_14 then r_14 else most8))), (19, (intA r_7)), (20, (intA (t_9 : Int)))] rfl ?_
   refine T_region ?_
   refine Tp rfl rfl (pur_add rfl rfl rfl (fits64 (by omega) (by omega))) rfl ?_
   refine pv tb 1 rfl ?_
   refine TO_nil ?_
   obtain rfl := some_inj H
   exact again (r_7 - (t_9 + 1)).toNat (t_9 + 1, ((if r_14 < least7 then r_14 else least7), (if most8 < r_14 then r_14 else most8))) (by omega) (wp 1 (lb rfl) rfl rfl (by simp only [namesE, A.names, namesL_enc, Bool.false_or, Bool.or_false, looseL_names aggregate1_l]) rfl rfl) ⟨rfl, by omega, K10_⟩
  ·replace d10 := of_decide_eq_false d10
   obtain rfl := forM_end L10_ (by omega)
   refine T_exit ?_
   refine then_exit ?_
   refine then_exit ?_
   refine block_exit ?_
   replace H := N10_
   refine sr ?_
   refine pv tb 4 rfl ?_
   refine TO_nil ?_
   refine T_ret ?_
   obtain rfl := some_inj H
   refine end_ret (.tmp (.tmp .nil)) rfl rfl ⟨?_, rfl⟩
   rfl

set_option maxHeartbeats 1000000 in
theorem m_impl_columnOf_own (db0 : Database) (indices1 : (List Int)) (relation2 : Int) (column3 : Int) (r : (List Int)) (H : m_impl_columnOf db0 indices1 relation2 column3 = some r) : FnO prg 58 [(.g (tDatabase.enc db0)), (sl tInt indices1), (intA relation2), (intA column3)] (.m [0] 0 r.length tInt.k) [.row (flat tInt.own r)] := by
  unfold m_impl_columnOf at H
  refine fnO_of_T Try.func58 rfl rfl (Nat.le_of_ble_eq_true rfl) ?_
  refine te [(0, (.g (tDatabase.enc db0))), (1, (sl tInt indices1)), (2, (intA relation2)), (3, (intA column3))] rfl ?_
  refine sr ?_
  refine TO_cons rfl (TOp_box rfl (boxAll rfl) rfl rfl ?_)
  refine pv tb 1 rfl ?_
  refine TO_nil ?_
  refine sr ?_
  refine TO_cons rfl (TOp_lit (nn := 0) (k := 1) sl33 zero3 rfl rfl rfl rfl (by decide) ?_)
  refine TO_st (σ' := [.box [(sl tRelation db0.relations), (sl tFact db0.facts)], .row (flat tInt.enc ([] : (List Int)))]) rfl ?_
  refine pv tb 1 rfl ?_
  refine TO_nil ?_
  refine T_seq ?_
  refine sr ?_
  refine pv tb 1 rfl ?_
  refine Tp rfl rfl (pur_lenT (T := tInt) sl33 rfl rfl) rfl ?_
  refine pv tb 1 rfl ?_
  refine TO_nil ?_
  obtain ⟨O2_, L2_, N2_⟩ := bind_inv H
  clear H
  obtain ⟨B2_, hb2, L2_⟩ := gen_forS L2_
  refine T_block ?_
  refine T_loopX (fun k => fun (⟨t_1, out9⟩ : Nat × (List Int)) => k = indices1.length - t_1 ∧ forS B2_ (indices1.drop t_1) (t_1 : Int) out9 = some O2_) (fun (⟨t_1, out9⟩ : Nat × (List Int)) => [(2, (intA relation2)), (3, (intA column3)), (4, (.b 0 0)), (9, (.m [1] 0 out9.length tInt.k)), (13, (sl tInt indices1)), (14, (intA (indices1.length : Int))), (15, (intA (t_1 : Int)))]) (fun (⟨t_1, out9⟩ : Nat × (List Int)) => [.box [(sl tRelation db0.relations), (sl tFact db0.facts)], .row (flat tInt.enc out9)]) _ (0, ([] : (List Int))) (w0 2) ⟨rfl, L2_⟩ ?_
  rintro _ ⟨t_1, out9⟩ ⟨rfl, L2_⟩
  refine T_fact (len_sl (T := tInt) (.tmp 13) rfl) (fun hl2 => ?_)
  refine sr ?_
  refine pv tb 1 rfl ?_
  refine TO_nil ?_
  refine T_seq ?_
  refine T_cond (t := decide ((t_1 : Int) < (indices1.length : Int))) rfl (fun d2 => ?_) (fun d2 => ?_)
  ·replace d2 := of_decide_eq_true d2
   obtain ⟨x_t_1, hx_t_1⟩ : ∃ v, (indices1)[t_1]? = some v := ⟨_, List.getElem?_eq_getElem (by omega)⟩
   obtain ⟨C2_, H, K2_⟩ := forS_step L2_ hx_t_1
   rw [hb2] at H
   refine T_skip ?_
   refine T_seq ?_
   refine T_block ?_
   refine sr ?_
   refine Tp rfl rfl (pur_ixT (T := tInt) sl33 rfl rfl rfl hx_t_1 rfl) rfl ?_
   refine Tp rfl rfl (pur_ldT (T := tInt) (i := t_1) (off := 0) rfl one3 rfl rfl hx_t_1 rfl) rfl ?_
   refine pv tb 1 rfl ?_
   refine TO_nil ?_
   refine sr ?_
   obtain ⟨v_3, h_4, H⟩ := bind_inv H
   obtain ⟨n_5, hz_6, hv_7⟩ := getI_inv h_4
   refine pv tb 3 rfl ?_
   refine Tp rfl rfl (pur_ixT (T := tFact) sl30 rfl rfl hz_6 hv_7 rfl) rfl ?_
   refine pv tb 1 rfl ?_
   refine Tp rfl rfl (pur_ldT (T := tFact) (i := n_5) (off := 0) rfl one3 rfl rfl hv_7 rfl) rfl ?_
   refine pv tb 2 rfl ?_
   refine TO_nil ?_
   refine T_cond (t := decide (v_3.relation = relation2)) rfl (fun c_8 => ?_) (fun c_8 => ?_)
   ·replace H := cond_t c_8 H
    refine T_region ?_
    refine pv tb 4 rfl ?_
    refine Tp rfl rfl (pur_ixT (T := tFact) sl30 rfl rfl hz_6 hv_7 rfl) rfl ?_
    refine pv tb 1 rfl ?_
    refine Tp rfl rfl (pur_ldT (T := tFact) (i := n_5) (off := 1) rfl one33 rfl rfl hv_7 rfl) rfl ?_
    refine pv tb 1 rfl ?_
    refine toe [(2, (intA relation2)), (3, (intA column3)), (4, (.b 0 0)), (9, (.m [1] 0 out9.length tInt.k)), (13, (sl tInt indices1)), (14, (intA (indices1.length : Int))), (15, (intA (t_1 : Int))), (27, (.m [1] 0 out9.length tInt.k)), (33, (sl tInt v_3.values)), (34, (intA column3))] rfl ?_
    obtain ⟨v_9, h_10, H⟩ := bind_inv H
    obtain ⟨n_11, hz_12, hv_13⟩ := getI_inv h_10
    refine Tp rfl rfl (pur_ixT (T := tInt) sl33 rfl rfl hz_12 hv_13 rfl) rfl ?_
    refine Tp rfl rfl (pur_ldT (T := tInt) (i := n_11) (off := 0) rfl one3 rfl rfl hv_13 rfl) rfl ?_
    refine TO_cons rfl (TOp_lit (nn := 1) (k := 1) sl33 zero3 rfl rfl rfl rfl (by decide) ?_)
    refine TO_st (σ' := [.box [(sl tRelation db0.relations), (sl tFact db0.facts)], .row (flat tInt.enc out9), .row (flat tInt.enc ([v_9] : (List Int)))]) rfl ?_
    obtain ⟨us_14, h_15, H⟩ := bind_inv H
    refine TO_cons rfl (TOp_appZ (T := tInt) (f := tInt.enc) (xs := out9) (ys := ([v_9] : (List Int))) tInt.len sl33 zero3 rfl bytes3 (by decide) rfl rfl rfl rfl (src_mT (f := tInt.enc) tInt.len rfl rfl (flat_cell tInt _)) (flat_cell tInt _) h_15 (lb rfl) ?_)
    refine toe [(2, (intA relation2)), (3, (intA column3)), (4, (.b 0 0)), (13, (sl tInt indices1)), (14, (intA (indices1.length : Int))), (15, (intA (t_1 : Int))), (33, (sl tInt v_3.values)), (34, (intA column3)), (35, (.q (flat tInt.enc v_3.values) (n_11 * tInt.k))), (36, (intA v_9)), (37, (.m [2] 0 ([v_9] : (List Int)).length tInt.k)), (38, (.m [1] 0 us_14.length tInt.k))] rfl ?_
    refine TO_st (σ' := [.box [(sl tRelation db0.relations), (sl tFact db0.facts)], .row (flat tInt.enc us_14), .row (flat tInt.enc ([v_9] : (List Int))), .dead]) rfl ?_
    refine pv tb 1 rfl ?_
    refine TO_nil ?_
    refine T_region ?_
    refine Tp rfl rfl (pur_add rfl rfl rfl (fits64 (by omega) (by omega))) rfl ?_
    refine pv tb 1 rfl ?_
    refine TO_nil ?_
    obtain rfl := some_inj H
    exact again (indices1.length - (t_1 + 1)) (t_1 + 1, us_14) (by omega) (w0 2) ⟨rfl, K2_⟩
   ·replace H := cond_f c_8 H
    refine T_skip ?_
    refine T_region ?_
    refine Tp rfl rfl (pur_add rfl rfl rfl (fits64 (by omega) (by omega))) rfl ?_
    refine pv tb 1 rfl ?_
    refine TO_nil ?_
    obtain rfl := some_inj H
    exact again (indices1.length - (t_1 + 1)) (t_1 + 1, out9) (by omega) (w0 2) ⟨rfl, K2_⟩
  ·replace d2 := of_decide_eq_false d2
   obtain rfl := forS_end L2_ (by omega)
   refine T_exit ?_
   refine then_exit ?_
   refine then_exit ?_
   refine block_exit ?_
   replace H := N2_
   refine sr ?_
   refine pv tb 2 rfl ?_
   refine TO_nil ?_
   refine T_ret ?_
   obtain rfl := some_inj H
   exact end_pick (.tmp .nil) rfl [1] (by decide) rfl rfl rfl rfl rfl rfl
theorem m_impl_columnOf_ok (db0 : Database) (indices1 : (List Int)) (relation2 : Int) (column3 : Int) (r : (List Int)) (H : m_impl_columnOf db0 indices1 relation2 column3 = some r) : FnV prg 58 [(.g (tDatabase.enc db0)), (sl tInt indices1), (intA relation2), (intA column3)] (sl tInt r) := (m_impl_columnOf_own db0 indices1 relation2 column3 r H).frz (frzT (T := tInt) rfl)

set_option maxHeartbeats 1000000 in
theorem m_impl_columnRange_2_ok (repair0 : (List Int)) (fv1 : ((List Int) → Option Int)) (fv1_g : Nat) (fv1_c : List A) (fv1_E : EnT prg fv1_g) (fv1_l : looseL fv1_c = true) (fv1_m : firmL fv1_c = true ∧ fzL fv1_c = fv1_c) (fv1_H : ∀ (x0 : (List Int)) r, fv1 x0 = some r → FnV prg fv1_g ([(sl tInt x0)] ++ fv1_c) (intA r)) (fv2 : Database) (fv3 : Int) (fv4 : Int) (r : Int) (H : m_impl_columnRange_2 repair0 fv1 fv2 fv3 fv4 = some r) : FnV prg 100 [(sl tInt repair0), (.q [(.f fv1_g fv1_c)] 0), (.q [(sl tRelation fv2.relations), (sl tFact fv2.facts)] 0), (.q [(intA fv3)] 0), (.q [(intA fv4)] 0)] (intA r) := by
  unfold m_impl_columnRange_2 at H
  refine fnV_of_T Try.func100 rfl rfl (Nat.le_of_ble_eq_true rfl) ?_
  refine te [(0, (sl tInt repair0)), (1, (.q [(.f fv1_g fv1_c)] 0)), (2, (.q [(sl tRelation fv2.relations), (sl tFact fv2.facts)] 0)), (3, (.q [(intA fv3)] 0)), (4, (.q [(intA fv4)] 0))] rfl ?_
  refine sr ?_
  refine pv tb 1 rfl ?_
  refine TO_nil ?_
  obtain ⟨r_1, h_2, H⟩ := bind_inv H
  obtain ⟨r_3, h_4, H⟩ := bind_inv H
  refine T_cutX (fun (_ : Unit) => True) (fun _ => [(6, (intA r_3))]) (fun _ => []) ?_ ?_
  ·skip
   refine T_regionP 0 mixed rfl ?_
   refine pa tb [0, 1, 2, 3, 4] 3 rfl (by kernel_rfl) rfl ?_
   refine t1 5 (by kernel_rfl) rfl rfl (TOp_callV (call_static ent58 rfl) (m_impl_columnOf_ok _ _ _ _ _ h_2) rfl rfl rfl ?_)
   refine t1 6 (by kernel_rfl) rfl rfl (TOp_callV (call_closure fv1_E rfl rfl) (fv1_H _  _ h_4) (looseL_app rfl fv1_l) rfl rfl ?_)
   refine pa tb [7] 0 rfl (by kernel_rfl) rfl ?_
   exact TA_nil (by kernel_rfl) (joined () (w0 0) trivial)
  ·rintro _ _
   refine T_ret ?_
   obtain rfl := some_inj H
   refine end_ret (.tmp .nil) rfl rfl ⟨?_, rfl⟩
   rfl

set_option maxHeartbeats 1000000 in
theorem m_impl_columnRange_ok (u : Nat) (db0 : Database) (relation1 : Int) (column2 : Int) (nonEmpty3 : Bool) (aggregate4 : ((List Int) → Option Int)) (aggregate4_g : Nat) (aggregate4_c : List A) (aggregate4_E : EnT prg aggregate4_g) (aggregate4_l : looseL aggregate4_c = true) (aggregate4_m : firmL aggregate4_c = true ∧ fzL aggregate4_c = aggregate4_c) (aggregate4_H : ∀ (x0 : (List Int)) r, aggregate4 x0 = some r → FnV prg aggregate4_g ([(sl tInt x0)] ++ aggregate4_c) (intA r)) (r : (Int × Int × Bool)) (H : m_impl_columnRange u db0 relation1 column2 nonEmpty3 aggregate4 = some r) : FnV prg 71 [(.g (tDatabase.enc db0)), (intA relation1), (intA column2), (boolA nonEmpty3), (.f aggregate4_g aggregate4_c)] (.t [(intA r.1), (intA r.2.1), (boolA r.2.2)]) := by
  unfold m_impl_columnRange at H
  refine fnV_of_T Try.func71 rfl rfl (Nat.le_of_ble_eq_true rfl) ?_
  refine te [(0, (.g (tDatabase.enc db0))), (1, (intA relation1)), (2, (intA column2)), (3, (boolA nonEmpty3)), (4, (.f aggregate4_g aggregate4_c))] rfl ?_
  refine sr ?_
  refine TO_cons rfl (TOp_box rfl (boxAll rfl) rfl rfl ?_)
  refine TO_cons rfl (TOp_box rfl (boxAll rfl) rfl rfl ?_)
  refine TO_cons rfl (TOp_box rfl (boxAll rfl) rfl rfl ?_)
  refine TO_cons rfl (TOp_box rfl (boxAll rfl) rfl rfl ?_)
  refine pv tb 3 rfl ?_
  refine TO_nil ?_
  refine T_seq ?_
  obtain ⟨t29_1, J_1, H_2⟩ := bind_inv H
  refine T_cutX (fun x => t29_1 = x) (fun (t29_1 : Bool) => [(5, (.b 0 0)), (6, (.b 1 0)), (7, (.b 2 0)), (9, (.b 3 0)), (29, (boolA t29_1))]) (fun (t29_1 : Bool) => [.box [(sl tRelation db0.relations), (sl tFact db0.facts)], .box [(intA relation1)], .box [(intA column2)], .box [(.f aggregate4_g aggregate4_c)]]) ?_ ?_
  ·replace H := J_1
   refine T_region ?_
   obtain ⟨r_3, h_4, H⟩ := bind_inv H
   refine pv tb 3 rfl ?_
   refine TO_cons rfl (TOp_callV (call_static ent55 rfl) (m_impl_isColumn_ok _ _ _ _ h_4) rfl rfl rfl ?_)
   refine pv tb 2 rfl ?_
   refine TO_split (t := (!r_3)) 20 rfl (fun g_5 => ?_) (fun g_5 => ?_)
   ·replace H := cond_t g_5 H
    refine pv tb 9 rfl ?_
    refine TO_nil ?_
    exact joined true (wp 4 (lb rfl) rfl rfl rfl (by simp [boxesE, boxNames, namesL, A.names, looseL_names aggregate4_l]) rfl) (some_inj H).symm
   ·replace H := cond_f g_5 H
    refine pv tb 2 rfl ?_
    refine TO_split (t := nonEmpty3) 22 rfl (fun g_6 => ?_) (fun g_6 => ?_)
    ·replace H := cond_t g_6 H
     obtain ⟨r_7, h_8, H⟩ := bind_inv H
     refine pv tb 3 rfl ?_
     refine TO_on rfl rfl (by decide) rfl rfl (TOp_callB (call_static ent97 rfl) (frz_cons (frz_loose rfl) (frz_cons (frzOK_f (frz_cons (frzOK_b (xs := [(intA relation1)]) (ys := [(intA relation1)]) rfl rfl rfl) frz_nil).1 (frz_cons (frzOK_b (xs := [(intA relation1)]) (ys := [(intA relation1)]) rfl rfl rfl) frz_nil).2) frz_nil)).1 (frz_cons (frz_loose rfl) (frz_cons (frzOK_f (frz_cons (frzOK_b (xs := [(intA relation1)]) (ys := [(intA relation1)]) rfl rfl rfl) frz_nil).1 (frz_cons (frzOK_b (xs := [(intA relation1)]) (ys := [(intA relation1)]) rfl rfl rfl) frz_nil).2) frz_nil)).2 (m_slices_ContainsFunc_Simpl_Fact_impl_Fact_ok _ (fun x0 => m_impl_columnRange_1 x0 relation1) 98 [(.q [(intA relation1)] 0)] ent98 rfl ⟨rfl, rfl⟩ (fun x0 r h => m_impl_columnRange_1_ok x0 relation1 r h) _ h_8) rfl ?_)
     refine pv tb 3 rfl ?_
     refine TO_nil ?_
     exact joined (!r_7) (wp 4 (lb rfl) rfl rfl rfl (by simp [boxesE, boxNames, namesL, A.names, looseL_names aggregate4_l]) rfl) (some_inj H).symm
    ·replace H := cond_f g_6 H
     refine pv tb 7 rfl ?_
     refine TO_nil ?_
     exact joined false (wp 4 (lb rfl) rfl rfl rfl (by simp [boxesE, boxNames, namesL, A.names, looseL_names aggregate4_l]) rfl) (some_inj H).symm
  ·rintro _ rfl
   replace H := H_2
   refine T_cond (t := t29_1) rfl (fun c_9 => ?_) (fun c_9 => ?_)
   ·replace H := cond_t c_9 H
    refine sr ?_
    refine pv tb 3 rfl ?_
    refine TO_nil ?_
    refine T_ret ?_
    refine then_ret ?_
    obtain rfl := some_inj H
    refine end_ret (.tmp (.tmp (.tmp .nil))) rfl rfl ⟨?_, rfl⟩
    rfl
   ·replace H := cond_f c_9 H
    refine T_skip ?_
    refine sr ?_
    obtain ⟨r_10, h_11, H⟩ := bind_inv H
    refine pv tb 2 rfl ?_
    refine TO_cons rfl (TOp_callOG (call_static ent99 rfl) (frz_cons (frz_loose rfl) (frz_cons (frzOK_f (frz_cons (frzOK_b (xs := [(.f aggregate4_g aggregate4_c)]) (ys := [(.f aggregate4_g aggregate4_c)]) rfl (by simp [firmL, firm, aggregate4_m.1]) (by simp [fzL, fz, aggregate4_m.2])) (frz_cons (frzOK_b (xs := [(sl tRelation db0.relations), (sl tFact db0.facts)]) (ys := [(sl tRelation db0.relations), (sl tFact db0.facts)]) rfl rfl rfl) (frz_cons (frzOK_b (xs := [(intA relation1)]) (ys := [(intA relation1)]) rfl rfl rfl) (frz_cons (frzOK_b (xs := [(intA column2)]) (ys := [(intA column2)]) rfl rfl rfl) frz_nil)))).1 (frz_cons (frzOK_b (xs := [(.f aggregate4_g aggregate4_c)]) (ys := [(.f aggregate4_g aggregate4_c)]) rfl (by simp [firmL, firm, aggregate4_m.1]) (by simp [fzL, fz, aggregate4_m.2])) (frz_cons (frzOK_b (xs := [(sl tRelation db0.relations), (sl tFact db0.facts)]) (ys := [(sl tRelation db0.relations), (sl tFact db0.facts)]) rfl rfl rfl) (frz_cons (frzOK_b (xs := [(intA relation1)]) (ys := [(intA relation1)]) rfl rfl rfl) (frz_cons (frzOK_b (xs := [(intA column2)]) (ys := [(intA column2)]) rfl rfl rfl) frz_nil)))).2) frz_nil)).1 (frz_cons (frz_loose rfl) (frz_cons (frzOK_f (frz_cons (frzOK_b (xs := [(.f aggregate4_g aggregate4_c)]) (ys := [(.f aggregate4_g aggregate4_c)]) rfl (by simp [firmL, firm, aggregate4_m.1]) (by simp [fzL, fz, aggregate4_m.2])) (frz_cons (frzOK_b (xs := [(sl tRelation db0.relations), (sl tFact db0.facts)]) (ys := [(sl tRelation db0.relations), (sl tFact db0.facts)]) rfl rfl rfl) (frz_cons (frzOK_b (xs := [(intA relation1)]) (ys := [(intA relation1)]) rfl rfl rfl) (frz_cons (frzOK_b (xs := [(intA column2)]) (ys := [(intA column2)]) rfl rfl rfl) frz_nil)))).1 (frz_cons (frzOK_b (xs := [(.f aggregate4_g aggregate4_c)]) (ys := [(.f aggregate4_g aggregate4_c)]) rfl (by simp [firmL, firm, aggregate4_m.1]) (by simp [fzL, fz, aggregate4_m.2])) (frz_cons (frzOK_b (xs := [(sl tRelation db0.relations), (sl tFact db0.facts)]) (ys := [(sl tRelation db0.relations), (sl tFact db0.facts)]) rfl rfl rfl) (frz_cons (frzOK_b (xs := [(intA relation1)]) (ys := [(intA relation1)]) rfl rfl rfl) (frz_cons (frzOK_b (xs := [(intA column2)]) (ys := [(intA column2)]) rfl rfl rfl) frz_nil)))).2) frz_nil)).2 (m_impl_rangeOf_ok u _ (fun x0 => m_impl_columnRange_2 x0 aggregate4 db0 relation1 column2) 100 [(.q [(.f aggregate4_g aggregate4_c)] 0), (.q [(sl tRelation db0.relations), (sl tFact db0.facts)] 0), (.q [(intA relation1)] 0), (.q [(intA column2)] 0)] ent100 (by simp only [looseL, A.loose, Bool.true_and, Bool.and_true, Bool.and_self]) ⟨rfl, rfl⟩ (fun x0 r h => m_impl_columnRange_2_ok x0 aggregate4 aggregate4_g aggregate4_c aggregate4_E aggregate4_l aggregate4_m aggregate4_H db0 relation1 column2 r h) _ h_11) rfl (ownC_of ownSB_nil) rfl rfl rfl ?_)
    refine toe [(5, (.b 0 0)), (6, (.b 1 0)), (7, (.b 2 0)), (9, (.b 3 0)), (31, (.g (tDatabase.enc db0))), (32, (.f 100 [(.b 3 0), (.b 0 0), (.b 1 0), (.b 2 0)])), (33, (.t [(intA r_10.1), (intA r_10.2)]))] rfl ?_
    refine TO_st (σ' := [.box [(sl tRelation db0.relations), (sl tFact db0.facts)], .box [(intA relation1)], .box [(intA column2)], .box [(.f aggregate4_g aggregate4_c)]]) rfl ?_
    refine pv tb 5 rfl ?_
    refine TO_nil ?_
    refine sr ?_
    refine pv tb 5 rfl ?_
    refine TO_nil ?_
    refine T_ret ?_
    obtain rfl := some_inj H
    refine end_ret (.tmp (.tmp (.tmp .nil))) rfl rfl ⟨?_, rfl⟩
    rfl

set_option maxHeartbeats 1000000 in
theorem m_slices_Index_Sint_int_ok (s0 : (List Int)) (v1 : Int) (r : Int) (H : m_slices_Index_Sint_int s0 v1 = some r) : FnV prg 120 [(sl tInt s0), (intA v1)] (intA r) := by
  unfold m_slices_Index_Sint_int at H
  refine fnV_of_T Try.func120 rfl rfl (Nat.le_of_ble_eq_true rfl) ?_
  refine te [(0, (sl tInt s0)), (1, (intA v1))] rfl ?_
  refine sr ?_
  refine pv tb 1 rfl ?_
  refine TO_nil ?_
  refine T_seq ?_
  refine sr ?_
  refine pv tb 1 rfl ?_
  refine Tp rfl rfl (pur_lenT (T := tInt) sl33 rfl rfl) rfl ?_
  refine pv tb 1 rfl ?_
  refine TO_nil ?_
  obtain ⟨O2_, L2_, N2_⟩ := bind_inv H
  clear H
  obtain ⟨B2_, hb2, L2_⟩ := gen_forL L2_
  refine T_block ?_
  refine T_loopX (fun k => fun (t_1 : Nat) => k = s0.length - t_1 ∧ forL B2_ (s0.drop t_1) (t_1 : Int) () = some O2_) (fun (t_1 : Nat) => [(0, (sl tInt s0)), (1, (intA v1)), (7, (intA (s0.length : Int))), (8, (intA (t_1 : Int)))]) (fun (t_1 : Nat) => []) _ (0 : Nat) (w0 0) ⟨rfl, L2_⟩ ?_
  rintro _ t_1 ⟨rfl, L2_⟩
  refine T_fact (len_sl (T := tInt) (.tmp 0) rfl) (fun hl2 => ?_)
  refine sr ?_
  refine pv tb 1 rfl ?_
  refine TO_nil ?_
  refine T_seq ?_
  refine T_cond (t := decide ((t_1 : Int) < (s0.length : Int))) rfl (fun d2 => ?_) (fun d2 => ?_)
  ·replace d2 := of_decide_eq_true d2
   obtain ⟨x_t_1, hx_t_1⟩ : ∃ v, (s0)[t_1]? = some v := ⟨_, List.getElem?_eq_getElem (by omega)⟩
   obtain ⟨C2_, H, K2_⟩ := forL_step L2_ hx_t_1
   rw [hb2] at H
   refine T_skip ?_
   refine T_seq ?_
   refine T_block ?_
   refine sr ?_
   refine pv tb 2 rfl ?_
   refine TO_nil ?_
   refine sr ?_
   refine pv tb 3 rfl ?_
   refine Tp rfl rfl (pur_ixT (T := tInt) sl33 rfl rfl rfl hx_t_1 rfl) rfl ?_
   refine Tp rfl rfl (pur_ldT (T := tInt) (i := t_1) (off := 0) rfl one3 rfl rfl hx_t_1 rfl) rfl ?_
   refine pv tb 1 rfl ?_
   refine TO_nil ?_
   refine T_cond (t := decide (v1 = x_t_1)) rfl (fun c_3 => ?_) (fun c_3 => ?_)
   ·replace H := cond_t c_3 H
    refine sr ?_
    refine pv tb 2 rfl ?_
    refine TO_nil ?_
    refine T_ret ?_
    refine block_ret ?_
    refine then_ret ?_
    refine then_ret ?_
    refine block_ret ?_
    refine then_ret ?_
    obtain rfl := some_inj H
    obtain rfl := some_inj K2_
    replace H := onS_r N2_
    obtain rfl := some_inj H
    refine end_ret (.tmp .nil) rfl rfl ⟨?_, rfl⟩
    rfl
   ·replace H := cond_f c_3 H
    refine T_skip ?_
    refine T_region ?_
    refine Tp rfl rfl (pur_add rfl rfl rfl (fits64 (by omega) (by omega))) rfl ?_
    refine pv tb 1 rfl ?_
    refine TO_nil ?_
    obtain rfl := some_inj H
    exact again (s0.length - (t_1 + 1)) (t_1 + 1) (by omega) (w0 0) ⟨rfl, K2_⟩
  ·replace d2 := of_decide_eq_false d2
   obtain rfl := forL_end L2_ (by omega)
   refine T_exit ?_
   refine then_exit ?_
   refine then_exit ?_
   refine block_exit ?_
   replace H := onS_l N2_
   refine sr ?_
   refine pv tb 1 rfl ?_
   refine TO_nil ?_
   refine T_ret ?_
   obtain rfl := some_inj H
   refine end_ret (.tmp .nil) rfl rfl ⟨?_, rfl⟩
   rfl

set_option maxHeartbeats 1000000 in
theorem m_slices_Contains_Sint_int_ok (s0 : (List Int)) (v1 : Int) (r : Bool) (H : m_slices_Contains_Sint_int s0 v1 = some r) : FnV prg 101 [(sl tInt s0), (intA v1)] (boolA r) := by
  unfold m_slices_Contains_Sint_int at H
  refine fnV_of_T Try.func101 rfl rfl (Nat.le_of_ble_eq_true rfl) ?_
  refine te [(0, (sl tInt s0)), (1, (intA v1))] rfl ?_
  refine sr ?_
  refine pv tb 1 rfl ?_
  refine TO_nil ?_
  refine sr ?_
  obtain ⟨r_1, h_2, H⟩ := bind_inv H
  refine pv tb 2 rfl ?_
  refine TO_cons rfl (TOp_callV (call_static ent120 rfl) (m_slices_Index_Sint_int_ok _ _ _ h_2) rfl rfl rfl ?_)
  refine pv tb 2 rfl ?_
  refine TO_nil ?_
  refine T_ret ?_
  obtain rfl := some_inj H
  refine end_ret (.tmp .nil) rfl rfl ⟨?_, rfl⟩
  rfl

set_option maxHeartbeats 1000000 in
theorem m_impl_without_own (a0 : (List Int)) (b1 : (List Int)) (r : (List Int)) (H : m_impl_without a0 b1 = some r) : FnO prg 75 [(sl tInt a0), (sl tInt b1)] (.m [0] 0 r.length tInt.k) [.row (flat tInt.own r)] := by
  unfold m_impl_without at H
  refine fnO_of_T Try.func75 rfl rfl (Nat.le_of_ble_eq_true rfl) ?_
  refine te [(0, (sl tInt a0)), (1, (sl tInt b1))] rfl ?_
  refine sr ?_
  refine pv tb 1 rfl ?_
  refine TO_nil ?_
  refine sr ?_
  refine TO_cons rfl (TOp_lit (nn := 0) (k := 1) sl33 zero3 rfl rfl rfl rfl (by decide) ?_)
  refine TO_st (σ' := [.row (flat tInt.enc ([] : (List Int)))]) rfl ?_
  refine pv tb 1 rfl ?_
  refine TO_nil ?_
  refine T_seq ?_
  refine sr ?_
  refine pv tb 1 rfl ?_
  refine Tp rfl rfl (pur_lenT (T := tInt) sl33 rfl rfl) rfl ?_
  refine pv tb 1 rfl ?_
  refine TO_nil ?_
  obtain ⟨O2_, L2_, N2_⟩ := bind_inv H
  clear H
  obtain ⟨B2_, hb2, L2_⟩ := gen_forS L2_
  refine T_block ?_
  refine T_loopX (fun k => fun (⟨t_1, out5⟩ : Nat × (List Int)) => k = a0.length - t_1 ∧ forS B2_ (a0.drop t_1) (t_1 : Int) out5 = some O2_) (fun (⟨t_1, out5⟩ : Nat × (List Int)) => [(1, (sl tInt b1)), (5, (.m [0] 0 out5.length tInt.k)), (9, (sl tInt a0)), (10, (intA (a0.length : Int))), (11, (intA (t_1 : Int)))]) (fun (⟨t_1, out5⟩ : Nat × (List Int)) => [.row (flat tInt.enc out5)]) _ (0, ([] : (List Int))) (w0 1) ⟨rfl, L2_⟩ ?_
  rintro _ ⟨t_1, out5⟩ ⟨rfl, L2_⟩
  refine T_fact (len_sl (T := tInt) (.tmp 9) rfl) (fun hl2 => ?_)
  refine sr ?_
  refine pv tb 1 rfl ?_
  refine TO_nil ?_
  refine T_seq ?_
  refine T_cond (t := decide ((t_1 : Int) < (a0.length : Int))) rfl (fun d2 => ?_) (fun d2 => ?_)
  ·replace d2 := of_decide_eq_true d2
   obtain ⟨x_t_1, hx_t_1⟩ : ∃ v, (a0)[t_1]? = some v := ⟨_, List.getElem?_eq_getElem (by omega)⟩
   obtain ⟨C2_, H, K2_⟩ := forS_step L2_ hx_t_1
   rw [hb2] at H
   refine T_skip ?_
   refine T_seq ?_
   refine T_block ?_
   refine sr ?_
   refine Tp rfl rfl (pur_ixT (T := tInt) sl33 rfl rfl rfl hx_t_1 rfl) rfl ?_
   refine Tp rfl rfl (pur_ldT (T := tInt) (i := t_1) (off := 0) rfl one3 rfl rfl hx_t_1 rfl) rfl ?_
   refine pv tb 1 rfl ?_
   refine TO_nil ?_
   refine sr ?_
   obtain ⟨r_3, h_4, H⟩ := bind_inv H
   refine pv tb 2 rfl ?_
   refine TO_cons rfl (TOp_callV (call_static ent101 rfl) (m_slices_Contains_Sint_int_ok _ _ _ h_4) rfl rfl rfl ?_)
   refine pv tb 1 rfl ?_
   refine TO_nil ?_
   refine T_cond (t := (!r_3)) rfl (fun c_5 => ?_) (fun c_5 => ?_)
   ·replace H := cond_t c_5 H
    refine T_region ?_
    refine pv tb 2 rfl ?_
    refine TO_cons rfl (TOp_lit (nn := 1) (k := 1) sl33 zero3 rfl rfl rfl rfl (by decide) ?_)
    refine TO_st (σ' := [.row (flat tInt.enc out5), .row (flat tInt.enc ([x_t_1] : (List Int)))]) rfl ?_
    obtain ⟨us_6, h_7, H⟩ := bind_inv H
    refine TO_cons rfl (TOp_appZ (T := tInt) (f := tInt.enc) (xs := out5) (ys := ([x_t_1] : (List Int))) tInt.len sl33 zero3 rfl bytes3 (by decide) rfl rfl rfl rfl (src_mT (f := tInt.enc) tInt.len rfl rfl (flat_cell tInt _)) (flat_cell tInt _) h_7 (lb rfl) ?_)
    refine toe [(1, (sl tInt b1)), (7, (intA x_t_1)), (9, (sl tInt a0)), (10, (intA (a0.length : Int))), (11, (intA (t_1 : Int))), (18, (boolA (!r_3))), (20, (intA x_t_1)), (21, (.m [1] 0 ([x_t_1] : (List Int)).length tInt.k)), (22, (.m [0] 0 us_6.length tInt.k))] rfl ?_
    refine TO_st (σ' := [.row (flat tInt.enc us_6), .row (flat tInt.enc ([x_t_1] : (List Int))), .dead]) rfl ?_
    refine pv tb 1 rfl ?_
    refine TO_nil ?_
    refine T_region ?_
    refine Tp rfl rfl (pur_add rfl rfl rfl (fits64 (by omega) (by omega))) rfl ?_
    refine pv tb 1 rfl ?_
    refine TO_nil ?_
    obtain rfl := some_inj H
    exact again (a0.length - (t_1 + 1)) (t_1 + 1, us_6) (by omega) (w0 1) ⟨rfl, K2_⟩
   ·replace H := cond_f c_5 H
    refine T_skip ?_
    refine T_region ?_
    refine Tp rfl rfl (pur_add rfl rfl rfl (fits64 (by omega) (by omega))) rfl ?_
    refine pv tb 1 rfl ?_
    refine TO_nil ?_
    obtain rfl := some_inj H
    exact again (a0.length - (t_1 + 1)) (t_1 + 1, out5) (by omega) (w0 1) ⟨rfl, K2_⟩
  ·replace d2 := of_decide_eq_false d2
   obtain rfl := forS_end L2_ (by omega)
   refine T_exit ?_
   refine then_exit ?_
   refine then_exit ?_
   refine block_exit ?_
   replace H := N2_
   refine sr ?_
   refine pv tb 2 rfl ?_
   refine TO_nil ?_
   refine T_ret ?_
   obtain rfl := some_inj H
   exact end_pick (.tmp .nil) rfl [0] (by decide) rfl rfl rfl rfl rfl rfl
theorem m_impl_without_ok (a0 : (List Int)) (b1 : (List Int)) (r : (List Int)) (H : m_impl_without a0 b1 = some r) : FnV prg 75 [(sl tInt a0), (sl tInt b1)] (sl tInt r) := (m_impl_without_own a0 b1 r H).frz (frzT (T := tInt) rfl)

set_option maxHeartbeats 1000000 in
theorem m_impl_CountRange_1_ok (values0 : (List Int)) (fv1 : Int) (r : Int) (H : m_impl_CountRange_1 values0 fv1 = some r) : FnV prg 74 [(sl tInt values0), (.q [(intA fv1)] 0)] (intA r) := by
  unfold m_impl_CountRange_1 at H
  refine fnV_of_T Try.func74 rfl rfl (Nat.le_of_ble_eq_true rfl) ?_
  refine te [(0, (sl tInt values0)), (1, (.q [(intA fv1)] 0))] rfl ?_
  refine sr ?_
  refine pv tb 1 rfl ?_
  refine TO_nil ?_
  refine sr ?_
  refine pv tb 1 rfl ?_
  refine Tp rfl rfl (pur_lenT (T := tInt) sl33 rfl rfl) rfl ?_
  refine pv tb 2 rfl ?_
  refine TO_cons rfl (TOp_lit (nn := 1) (k := 1) sl33 zero3 rfl rfl rfl rfl (by decide) ?_)
  refine TO_st (σ' := [.row (flat tInt.enc ([fv1] : (List Int)))]) rfl ?_
  refine TO_frz1 0 (E' := [(0, (sl tInt values0)), (1, (.q [(intA fv1)] 0)), (4, (sl tInt values0)), (5, (intA (values0.length : Int))), (6, (sl tInt values0)), (7, (intA fv1)), (8, (sl tInt ([fv1] : (List Int))))]) rfl rfl (lb rfl) ⟨(.keep rfl), (.keep rfl), (.keep rfl), (.keep rfl), (.keep rfl), (.keep rfl), fz1E, trivial⟩ ?_
  refine TO_st (σ' := [.dead]) rfl ?_
  obtain ⟨r_1, h_2, H⟩ := bind_inv H
  refine TO_cons rfl (TOp_callV (call_static ent75 rfl) (m_impl_without_ok _ _ _ h_2) rfl rfl rfl ?_)
  refine Tp rfl rfl (pur_lenT (T := tInt) sl33 rfl rfl) rfl ?_
  refine pv tb 2 rfl ?_
  refine TO_nil ?_
  refine T_ret ?_
  obtain rfl := some_inj H
  refine end_ret (.tmp .nil) rfl rfl ⟨?_, rfl⟩
  rfl

set_option maxHeartbeats 1000000 in
theorem m_impl_CountRange_ok (u : Nat) (db0 : Database) (relation1 : Int) (column2 : Int) (value3 : Int) (r : (Int × Int × Bool)) (H : m_impl_CountRange u db0 relation1 column2 value3 = some r) : FnV prg 38 [(.g (tDatabase.enc db0)), (intA relation1), (intA column2), (intA value3)] (.t [(intA r.1), (intA r.2.1), (boolA r.2.2)]) := by
  unfold m_impl_CountRange at H
  refine fnV_of_T Try.func38 rfl rfl (Nat.le_of_ble_eq_true rfl) ?_
  refine te [(0, (.g (tDatabase.enc db0))), (1, (intA relation1)), (2, (intA column2)), (3, (intA value3))] rfl ?_
  refine sr ?_
  refine TO_cons rfl (TOp_box rfl (boxAll rfl) rfl rfl ?_)
  refine TO_cons rfl (TOp_box rfl (boxAll rfl) rfl rfl ?_)
  refine pv tb 3 rfl ?_
  refine TO_nil ?_
  refine sr ?_
  obtain ⟨r_1, h_2, H⟩ := bind_inv H
  refine pv tb 4 rfl ?_
  refine TO_cons rfl (TOp_callOG (call_static ent71 rfl) (frz_cons (frz_loose rfl) (frz_cons (frz_loose rfl) (frz_cons (frz_loose rfl) (frz_cons (frz_loose rfl) (frz_cons (frzOK_f (frz_cons (frzOK_b (xs := [(intA value3)]) (ys := [(intA value3)]) rfl rfl rfl) frz_nil).1 (frz_cons (frzOK_b (xs := [(intA value3)]) (ys := [(intA value3)]) rfl rfl rfl) frz_nil).2) frz_nil))))).1 (frz_cons (frz_loose rfl) (frz_cons (frz_loose rfl) (frz_cons (frz_loose rfl) (frz_cons (frz_loose rfl) (frz_cons (frzOK_f (frz_cons (frzOK_b (xs := [(intA value3)]) (ys := [(intA value3)]) rfl rfl rfl) frz_nil).1 (frz_cons (frzOK_b (xs := [(intA value3)]) (ys := [(intA value3)]) rfl rfl rfl) frz_nil).2) frz_nil))))).2 (m_impl_columnRange_ok u _ _ _ _ (fun x0 => m_impl_CountRange_1 x0 value3) 74 [(.q [(intA value3)] 0)] ent74 rfl ⟨rfl, rfl⟩ (fun x0 r h => m_impl_CountRange_1_ok x0 value3 r h) _ h_2) rfl (ownC_of ownSB_nil) rfl rfl rfl ?_)
  refine toe [(1, (intA relation1)), (2, (intA column2)), (4, (.b 0 0)), (7, (.b 1 0)), (11, (.g (tDatabase.enc db0))), (12, (intA relation1)), (13, (intA column2)), (14, (.f 74 [(.b 1 0)])), (15, (.t [(intA r_1.1), (intA r_1.2.1), (boolA r_1.2.2)]))] rfl ?_
  refine TO_st (σ' := [.box [(sl tRelation db0.relations), (sl tFact db0.facts)], .box [(intA value3)]]) rfl ?_
  refine pv tb 6 rfl ?_
  refine TO_nil ?_
  refine T_ret ?_
  obtain rfl := some_inj H
  refine end_ret (.tmp (.tmp (.tmp .nil))) rfl rfl ⟨?_, rfl⟩
  rfl

set_option maxHeartbeats 1000000 in
theorem m_spec_BlockSizes_own (u : Nat) (d0 : Database) (r : (List Int)) (H : m_spec_BlockSizes u d0 = some r) : FnO prg 77 [(.g (tDatabase.enc d0))] (.m [0] 0 r.length tInt.k) [.row (flat tInt.own r)] := by
  unfold m_spec_BlockSizes at H
  refine fnO_of_T Try.func77 rfl rfl (Nat.le_of_ble_eq_true rfl) ?_
  refine te [(0, (.g (tDatabase.enc d0)))] rfl ?_
  refine sr ?_
  refine TO_cons rfl (TOp_box rfl (boxAll rfl) rfl rfl ?_)
  refine pv tb 1 rfl ?_
  refine TO_nil ?_
  refine sr ?_
  refine TO_cons rfl (TOp_lit (nn := 0) (k := 1) sl33 zero3 rfl rfl rfl rfl (by decide) ?_)
  refine TO_st (σ' := [.box [(sl tRelation d0.relations), (sl tFact d0.facts)], .row (flat tInt.enc ([] : (List Int)))]) rfl ?_
  refine pv tb 1 rfl ?_
  refine TO_nil ?_
  refine sr ?_
  obtain ⟨r_1, h_2, H⟩ := bind_inv H
  refine pv tb 1 rfl ?_
  refine TO_cons rfl (TOp_callV (call_static ent79 rfl) (m_spec_Blocks_ok u _ _ h_2) rfl rfl rfl ?_)
  refine pv tb 1 rfl ?_
  refine TO_nil ?_
  refine T_seq ?_
  refine sr ?_
  refine pv tb 1 rfl ?_
  refine TO_nil ?_
  obtain ⟨O4_, L4_, N4_⟩ := bind_inv H
  clear H
  obtain ⟨B4_, hb4, L4_⟩ := gen_forS L4_
  refine T_block ?_
  refine T_loopX (fun k => fun (⟨i_3, out3⟩ : Nat × (List Int)) => k = r_1.length - i_3 ∧ forS B4_ (r_1.drop i_3) (i_3 : Int) out3 = some O4_) (fun (⟨i_3, out3⟩ : Nat × (List Int)) => [(3, (.m [1] 0 out3.length tInt.k)), (4, (sl (tSl tInt) r_1)), (5, (intA (i_3 : Int)))]) (fun (⟨i_3, out3⟩ : Nat × (List Int)) => [.box [(sl tRelation d0.relations), (sl tFact d0.facts)], .row (flat tInt.enc out3)]) _ (0, ([] : (List Int))) (w0 2) ⟨rfl, L4_⟩ ?_
  rintro _ ⟨i_3, out3⟩ ⟨rfl, L4_⟩
  refine T_fact (len_sl (T := (tSl tInt)) (.tmp 4) rfl) (fun hl4 => ?_)
  refine T_seq ?_
  refine sr ?_
  refine pv tb 2 rfl ?_
  refine Tp rfl rfl (pur_lenT (T := (tSl tInt)) sl22 rfl rfl) rfl ?_
  refine pv tb 1 rfl ?_
  refine TO_nil ?_
  refine T_cond (t := decide ((i_3 : Int) < (r_1.length : Int))) rfl (fun d4 => ?_) (fun d4 => ?_)
  ·replace d4 := of_decide_eq_true d4
   obtain ⟨x_i_3, hx_i_3⟩ : ∃ v, (r_1)[i_3]? = some v := ⟨_, List.getElem?_eq_getElem (by omega)⟩
   obtain ⟨C4_, H, K4_⟩ := forS_step L4_ hx_i_3
   rw [hb4] at H
   refine T_skip ?_
   refine T_seq ?_
   refine T_block ?_
   refine T_region ?_
   refine pv tb 3 rfl ?_
   refine Tp rfl rfl (pur_ixT (T := (tSl tInt)) sl22 rfl rfl rfl hx_i_3 rfl) rfl ?_
   refine Tp rfl rfl (pur_ldT (T := (tSl tInt)) (i := i_3) (off := 0) rfl one33 rfl rfl hx_i_3 rfl) rfl ?_
   refine Tp rfl rfl (pur_lenT (T := tInt) sl33 rfl rfl) rfl ?_
   refine TO_cons rfl (TOp_lit (nn := 1) (k := 1) sl33 zero3 rfl rfl rfl rfl (by decide) ?_)
   refine TO_st (σ' := [.box [(sl tRelation d0.relations), (sl tFact d0.facts)], .row (flat tInt.enc out3), .row (flat tInt.enc ([(x_i_3.length : Int)] : (List Int)))]) rfl ?_
   obtain ⟨us_5, h_6, H⟩ := bind_inv H
   refine TO_cons rfl (TOp_appZ (T := tInt) (f := tInt.enc) (xs := out3) (ys := ([(x_i_3.length : Int)] : (List Int))) tInt.len sl33 zero3 rfl bytes3 (by decide) rfl rfl rfl rfl (src_mT (f := tInt.enc) tInt.len rfl rfl (flat_cell tInt _)) (flat_cell tInt _) h_6 (lb rfl) ?_)
   refine toe [(4, (sl (tSl tInt) r_1)), (5, (intA (i_3 : Int))), (16, (sl (tSl tInt) r_1)), (17, (intA (i_3 : Int))), (18, (.q (flat (tSl tInt).enc r_1) (i_3 * (tSl tInt).k))), (19, (sl tInt x_i_3)), (20, (intA (x_i_3.length : Int))), (21, (.m [2] 0 ([(x_i_3.length : Int)] : (List Int)).length tInt.k)), (22, (.m [1] 0 us_5.length tInt.k))] rfl ?_
   refine TO_st (σ' := [.box [(sl tRelation d0.relations), (sl tFact d0.facts)], .row (flat tInt.enc us_5), .row (flat tInt.enc ([(x_i_3.length : Int)] : (List Int))), .dead]) rfl ?_
   refine pv tb 1 rfl ?_
   refine TO_nil ?_
   refine T_region ?_
   refine pv tb 1 rfl ?_
   refine Tp rfl rfl (pur_add rfl rfl rfl (fits64 (by omega) (by omega))) rfl ?_
   refine pv tb 1 rfl ?_
   refine TO_nil ?_
   obtain rfl := some_inj H
   exact again (r_1.length - (i_3 + 1)) (i_3 + 1, us_5) (by omega) (w0 2) ⟨rfl, K4_⟩
  ·replace d4 := of_decide_eq_false d4
   obtain rfl := forS_end L4_ (by omega)
   refine T_exit ?_
   refine then_exit ?_
   refine then_exit ?_
   refine block_exit ?_
   replace H := N4_
   refine sr ?_
   refine pv tb 2 rfl ?_
   refine TO_nil ?_
   refine T_ret ?_
   obtain rfl := some_inj H
   exact end_pick (.tmp .nil) rfl [1] (by decide) rfl rfl rfl rfl rfl rfl
theorem m_spec_BlockSizes_ok (u : Nat) (d0 : Database) (r : (List Int)) (H : m_spec_BlockSizes u d0 = some r) : FnV prg 77 [(.g (tDatabase.enc d0))] (sl tInt r) := (m_spec_BlockSizes_own u d0 r H).frz (frzT (T := tInt) rfl)

set_option maxHeartbeats 1000000 in
theorem m_spec_CountRepairs_ok (u : Nat) (d0 : Database) (r : Int) (H : m_spec_CountRepairs u d0 = some r) : FnV prg 40 [(.g (tDatabase.enc d0))] (intA r) := by
  unfold m_spec_CountRepairs at H
  refine fnV_of_T Try.func40 rfl rfl (Nat.le_of_ble_eq_true rfl) ?_
  refine te [(0, (.g (tDatabase.enc d0)))] rfl ?_
  refine sr ?_
  refine TO_cons rfl (TOp_box rfl (boxAll rfl) rfl rfl ?_)
  refine pv tb 1 rfl ?_
  refine TO_nil ?_
  refine T_seq ?_
  refine sr ?_
  obtain ⟨r_1, h_2, H⟩ := bind_inv H
  refine pv tb 1 rfl ?_
  refine TO_cons rfl (TOp_callV (call_static ent76 rfl) (m_spec_IsValidDatabase_ok u _ _ h_2) rfl rfl rfl ?_)
  refine pv tb 1 rfl ?_
  refine TO_nil ?_
  refine T_cond (t := (!r_1)) rfl (fun c_3 => ?_) (fun c_3 => ?_)
  ·replace H := cond_t c_3 H
   refine sr ?_
   refine pv tb 1 rfl ?_
   refine TO_nil ?_
   refine T_ret ?_
   refine then_ret ?_
   obtain rfl := some_inj H
   refine end_ret (.tmp .nil) rfl rfl ⟨?_, rfl⟩
   rfl
  ·replace H := cond_f c_3 H
   refine T_skip ?_
   refine sr ?_
   refine pv tb 1 rfl ?_
   refine TO_nil ?_
   refine sr ?_
   obtain ⟨r_4, h_5, H⟩ := bind_inv H
   refine pv tb 1 rfl ?_
   refine TO_cons rfl (TOp_callV (call_static ent77 rfl) (m_spec_BlockSizes_ok u _ _ h_5) rfl rfl rfl ?_)
   refine pv tb 1 rfl ?_
   refine TO_nil ?_
   refine T_seq ?_
   refine sr ?_
   refine pv tb 1 rfl ?_
   refine TO_nil ?_
   obtain ⟨O7_, L7_, N7_⟩ := bind_inv H
   clear H
   obtain ⟨B7_, hb7, L7_⟩ := gen_forS L7_
   refine T_block ?_
   refine T_loopX (fun k => fun (⟨i_6, n3⟩ : Nat × Int) => k = r_4.length - i_6 ∧ forS B7_ (r_4.drop i_6) (i_6 : Int) n3 = some O7_) (fun (⟨i_6, n3⟩ : Nat × Int) => [(3, (intA n3)), (4, (sl tInt r_4)), (5, (intA (i_6 : Int)))]) (fun (⟨i_6, n3⟩ : Nat × Int) => [.box [(sl tRelation d0.relations), (sl tFact d0.facts)]]) _ (0, 1) (w0 1) ⟨rfl, L7_⟩ ?_
   rintro _ ⟨i_6, n3⟩ ⟨rfl, L7_⟩
   refine T_fact (len_sl (T := tInt) (.tmp 4) rfl) (fun hl7 => ?_)
   refine T_seq ?_
   refine sr ?_
   refine pv tb 2 rfl ?_
   refine Tp rfl rfl (pur_lenT (T := tInt) sl33 rfl rfl) rfl ?_
   refine pv tb 1 rfl ?_
   refine TO_nil ?_
   refine T_cond (t := decide ((i_6 : Int) < (r_4.length : Int))) rfl (fun d7 => ?_) (fun d7 => ?_)
   ·replace d7 := of_decide_eq_true d7
    obtain ⟨x_i_6, hx_i_6⟩ : ∃ v, (r_4)[i_6]? = some v := ⟨_, List.getElem?_eq_getElem (by omega)⟩
    obtain ⟨C7_, H, K7_⟩ := forS_step L7_ hx_i_6
    rw [hb7] at H
    refine T_skip ?_
    refine T_seq ?_
    refine T_block ?_
    refine T_region ?_
    refine pv tb 3 rfl ?_
    refine Tp rfl rfl (pur_ixT (T := tInt) sl33 rfl rfl rfl hx_i_6 rfl) rfl ?_
    refine Tp rfl rfl (pur_ldT (T := tInt) (i := i_6) (off := 0) rfl one3 rfl rfl hx_i_6 rfl) rfl ?_
    refine pv tb 2 rfl ?_
    refine TO_nil ?_
    refine T_region ?_
    refine pv tb 1 rfl ?_
    refine Tp rfl rfl (pur_add rfl rfl rfl (fits64 (by omega) (by omega))) rfl ?_
    refine pv tb 1 rfl ?_
    refine TO_nil ?_
    obtain rfl := some_inj H
    exact again (r_4.length - (i_6 + 1)) (i_6 + 1, (w64 (n3 * x_i_6))) (by omega) (w0 1) ⟨rfl, K7_⟩
   ·replace d7 := of_decide_eq_false d7
    obtain rfl := forS_end L7_ (by omega)
    refine T_exit ?_
    refine then_exit ?_
    refine then_exit ?_
    refine block_exit ?_
    replace H := N7_
    refine sr ?_
    refine pv tb 2 rfl ?_
    refine TO_nil ?_
    refine T_ret ?_
    obtain rfl := some_inj H
    refine end_ret (.tmp .nil) rfl rfl ⟨?_, rfl⟩
    rfl

set_option maxHeartbeats 1000000 in
theorem m_spec_l7Sorted_own (u : Nat) (l0 : (List Int)) (r : (List Int)) (H : m_spec_l7Sorted u l0 = some r) : FnO prg 80 [(sl tInt l0)] (.m [0] 0 r.length tInt.k) [.row (flat tInt.own r)] := by
  unfold m_spec_l7Sorted at H
  refine fnO_of_T Try.func80 rfl rfl (Nat.le_of_ble_eq_true rfl) ?_
  refine te [(0, (sl tInt l0))] rfl ?_
  refine sr ?_
  refine pv tb 1 rfl ?_
  refine TO_nil ?_
  refine sr ?_
  refine TO_cons rfl (TOp_lit (nn := 0) (k := 1) sl33 zero3 rfl rfl rfl rfl (by decide) ?_)
  refine TO_st (σ' := [.row (flat tInt.enc ([] : (List Int)))]) rfl ?_
  refine pv tb 1 rfl ?_
  refine TO_nil ?_
  refine T_seq ?_
  refine sr ?_
  refine pv tb 1 rfl ?_
  refine TO_nil ?_
  obtain ⟨O2_, L2_, N2_⟩ := bind_inv H
  clear H
  obtain ⟨B2_, hb2, L2_⟩ := gen_forS L2_
  refine T_block ?_
  refine T_loopX (fun k => fun (⟨i_1, out3⟩ : Nat × (List Int)) => k = l0.length - i_1 ∧ forS B2_ (l0.drop i_1) (i_1 : Int) out3 = some O2_) (fun (⟨i_1, out3⟩ : Nat × (List Int)) => [(0, (sl tInt l0)), (3, (.m [0] 0 out3.length tInt.k)), (4, (intA (i_1 : Int)))]) (fun (⟨i_1, out3⟩ : Nat × (List Int)) => [.row (flat tInt.enc out3)]) _ (0, ([] : (List Int))) (w0 1) ⟨rfl, L2_⟩ ?_
  rintro _ ⟨i_1, out3⟩ ⟨rfl, L2_⟩
  refine T_fact (len_sl (T := tInt) (.tmp 0) rfl) (fun hl2 => ?_)
  refine T_seq ?_
  refine sr ?_
  refine pv tb 2 rfl ?_
  refine Tp rfl rfl (pur_lenT (T := tInt) sl33 rfl rfl) rfl ?_
  refine pv tb 1 rfl ?_
  refine TO_nil ?_
  refine T_cond (t := decide ((i_1 : Int) < (l0.length : Int))) rfl (fun d2 => ?_) (fun d2 => ?_)
  ·replace d2 := of_decide_eq_true d2
   obtain ⟨x_i_1, hx_i_1⟩ : ∃ v, (l0)[i_1]? = some v := ⟨_, List.getElem?_eq_getElem (by omega)⟩
   obtain ⟨C2_, H, K2_⟩ := forS_step L2_ hx_i_1
   rw [hb2] at H
   refine T_skip ?_
   refine T_seq ?_
   refine T_block ?_
   refine sr ?_
   refine pv tb 1 rfl ?_
   refine Tp rfl rfl (pur_len_m sl33 rfl rfl) rfl ?_
   refine pv tb 1 rfl ?_
   refine TO_nil ?_
   obtain ⟨O3_, L3_, N3_⟩ := bind_inv H
   clear H
   obtain ⟨B3_, hb3, L3_⟩ := gen_whileF L3_
   refine T_cutX (fun (x : Int) => O3_ = .inl x) (fun (k5 : Int) => [(0, (sl tInt l0)), (3, (.m [0] 0 out3.length tInt.k)), (4, (intA (i_1 : Int))), (5, (intA k5))]) (fun (k5 : Int) => [.row (flat tInt.enc out3)]) ?_ ?_
   ·skip
    refine T_block ?_
    refine T_loopX (fun k => fun (k5 : Int) => whileF B3_ k k5 = some O3_) (fun (k5 : Int) => [(0, (sl tInt l0)), (3, (.m [0] 0 out3.length tInt.k)), (4, (intA (i_1 : Int))), (5, (intA k5))]) (fun (k5 : Int) => [.row (flat tInt.enc out3)]) u (out3.length : Int) (w0 1) L3_ ?_
    rintro _ k5 L3_
    obtain ⟨k3, rfl, C3_, H, K3_⟩ := while_step L3_
    rw [hb3] at H
    refine T_seq ?_
    obtain ⟨t28_4, J_4, H_5⟩ := bind_inv H
    refine T_cutX (fun x => t28_4 = x) (fun (t28_4 : Bool) => [(0, (sl tInt l0)), (3, (.m [0] 0 out3.length tInt.k)), (4, (intA (i_1 : Int))), (5, (intA k5)), (28, (boolA t28_4))]) (fun (t28_4 : Bool) => [.row (flat tInt.enc out3)]) ?_ ?_
    ·replace H := J_4
     refine T_regionD mixed (by kernel_rfl) ?_
     refine pq tb 3 rfl ?_
     refine TQ_split (t := decide (0 < k5)) 17 rfl (fun g_6 => ?_) (fun g_6 => ?_)
     ·replace H := cond_t g_6 H
      obtain ⟨v_7, h_8, H⟩ := bind_inv H
      obtain ⟨n_9, hz_10, hv_11⟩ := getI_inv h_8
      refine pq tb 3 rfl ?_
      refine TQ_on rfl rfl (by decide) rfl (pur_ixM (T := tInt) sl33 rfl rfl hz_10 hv_11 rfl) rfl ?_
      refine TQ_on rfl rfl (by decide) rfl (pur_ldE (f := tInt.enc) (k := tInt.k) (i := n_9) (off := 0) tInt.len rfl one3 rfl rfl rfl hv_11 rfl rfl) rfl ?_
      refine pq tb 2 rfl ?_
      refine TQ_on rfl rfl (by decide) rfl (pur_ixT (T := tInt) sl33 rfl rfl rfl hx_i_1 rfl) rfl ?_
      refine TQ_on rfl rfl (by decide) rfl (pur_ldT (T := tInt) (i := i_1) (off := 0) rfl one3 rfl rfl hx_i_1 rfl) rfl ?_
      refine pq tb 2 rfl ?_
      refine TQ_nil ?_
      exact joined (decide (x_i_1 < v_7)) (w0 1) (some_inj H).symm
     ·replace H := cond_f g_6 H
      refine pq tb 11 rfl ?_
      refine TQ_nil ?_
      exact joined false (w0 1) (some_inj H).symm
    ·rintro _ rfl
     replace H := H_5
     refine T_cond (t := t28_4) rfl (fun c_12 => ?_) (fun c_12 => ?_)
     ·replace H := cond_t c_12 H
      refine T_skip ?_
      refine T_block ?_
      refine T_region ?_
      refine pv tb 3 rfl ?_
      refine TO_nil ?_
      obtain rfl := some_inj H
      exact again k3 (w64 (k5 - 1)) (Nat.lt_succ_self _) (w0 1) K3_
     ·replace H := cond_f c_12 H
      refine T_exit ?_
      refine then_exit ?_
      refine then_exit ?_
      refine block_exit ?_
      obtain rfl := some_inj H
      obtain rfl := some_inj K3_
      exact joined k5 (w0 1) rfl
   ·rintro k5 rfl
    replace H := onS_l N3_
    obtain ⟨ys_13, h_14, H⟩ := bind_inv H
    obtain ⟨i_15, j_16, hi_17, hj_18, hij_19, hjl_20, hys_21, _⟩ := cutI_inv h_14
    obtain ⟨us_22, h_23, H⟩ := bind_inv H
    obtain ⟨us_24, h_25, H⟩ := bind_inv H
    obtain ⟨ys_26, h_27, H⟩ := bind_inv H
    obtain ⟨i_28, j_29, hi_30, hj_31, hij_32, hjl_33, hys_34, _⟩ := cutI_inv h_27
    obtain ⟨us_35, h_36, H⟩ := bind_inv H
    refine T_pad ?_
    refine T_pad ?_
    refine T_pad ?_
    refine T_regionP 1 mixed rfl ?_
    refine TA_have 3 #[true, true, true, true, true, true, true, true, true, true, false, true, true, true, false, false] [(0, (sl tInt l0)), (3, (.m [0] 0 out3.length tInt.k)), (4, (intA (i_1 : Int))), (35, (.m [2] 0 us_22.length tInt.k)), (40, (.m [3] 0 ([x_i_1] : (List Int)).length tInt.k)), (44, (.m [0] (i_28 * tInt.k) (j_29 - i_28) tInt.k))] [.row (flat tInt.enc out3), .dead, .row (flat tInt.enc us_22), .row (flat tInt.enc ([x_i_1] : (List Int)))] ?_ (fun hj0_8 => ?_)
    ·skip
     refine t1 10 (by kernel_rfl) rfl rfl (TOp_appY (T := tInt) (f := tInt.enc) (xs := us_22) (ys := ([x_i_1] : (List Int))) tInt.len sl33 zero3 rfl bytes3 (by decide) rfl rfl rfl rfl (src_mT (f := tInt.enc) tInt.len rfl rfl (flat_cell tInt _)) (flat_cell tInt _) h_25 ?_)
     refine tmw 2 4 (by decide) (lb rfl) rfl rfl (lb rfl) rfl ?_
     refine t1 14 (by kernel_rfl) rfl rfl (TOp_appY (T := tInt) (f := tInt.enc) (xs := us_24) (ys := ys_26) tInt.len sl33 zero3 rfl bytes3 (by decide) rfl rfl rfl rfl (src_cut (T := tInt) (xs := out3) (i := i_28) (j := j_29) rfl rfl hij_32 hjl_33 hys_34) (flat_cell tInt _) h_36 ?_)
     refine tmw 2 5 (by decide) (lb rfl) rfl rfl (lb rfl) rfl ?_
     refine tae [(0, (sl tInt l0)), (3, (.m [0] 0 out3.length tInt.k)), (4, (intA (i_1 : Int))), (45, (.m [2] 0 us_35.length tInt.k))] rfl ?_
     refine TA_st (σ' := [.row (flat tInt.enc out3), .dead, .row (flat tInt.enc us_35), .row (flat tInt.enc ([x_i_1] : (List Int))), .dead, .dead]) rfl ?_
     refine pa tb [15] 0 rfl (by kernel_rfl) rfl ?_
     refine TA_ghost (E' := [(0, (sl tInt l0)), (3, (.m [1] 0 us_35.length tInt.k)), (4, (intA (i_1 : Int)))]) (σ' := [.row (flat tInt.enc out3), .row (flat tInt.enc us_35), .dead, .row (flat tInt.enc ([x_i_1] : (List Int))), .dead, .dead]) (Ghost.move 1 2 (by decide) (lb rfl) rfl rfl (lb rfl) (Ghost.weak (WeakL.to 6 (lb rfl) rfl rfl rfl rfl ⟨leR rfl, leR rfl, leR rfl, trivial⟩))) ?_
     refine TA_nil (by kernel_rfl) ?_
     refine T_move' 0 1 (by decide) (lb rfl) rfl rfl (lb rfl) ?_
     refine te [(0, (sl tInt l0)), (3, (.m [0] 0 us_35.length tInt.k)), (4, (intA (i_1 : Int)))] rfl ?_
     refine T_st (σ' := [.row (flat tInt.enc us_35), .dead, .dead, .row (flat tInt.enc ([x_i_1] : (List Int))), .dead, .dead]) rfl ?_
     refine T_region ?_
     refine pv tb 1 rfl ?_
     refine Tp rfl rfl (pur_add rfl rfl rfl (fits64 (by omega) (by omega))) rfl ?_
     refine pv tb 1 rfl ?_
     refine TO_nil ?_
     obtain rfl := some_inj H
     exact again (l0.length - (i_1 + 1)) (i_1 + 1, us_35) (by omega) (w0 1) ⟨rfl, K2_⟩
    refine TA_have 4 #[true, true, true, true, false, true, true, true, true, true, false, true, true, true, false, false] [(0, (sl tInt l0)), (3, (.m [0] 0 out3.length tInt.k)), (4, (intA (i_1 : Int))), (31, (.m [2] 0 ([] : (List Int)).length tInt.k)), (34, (.m [0] (i_15 * tInt.k) (j_16 - i_15) tInt.k)), (40, (.m [3] 0 ([x_i_1] : (List Int)).length tInt.k)), (44, (.m [0] (i_28 * tInt.k) (j_29 - i_28) tInt.k))] [.row (flat tInt.enc out3), .dead, .row (flat tInt.enc ([] : (List Int))), .row (flat tInt.enc ([x_i_1] : (List Int)))] ?_ (fun hj1_8 => ?_)
    ·skip
     refine t1 4 (by kernel_rfl) rfl rfl (TOp_appY (T := tInt) (f := tInt.enc) (xs := ([] : (List Int))) (ys := ys_13) tInt.len sl33 zero3 rfl bytes3 (by decide) rfl rfl rfl rfl (src_cut (T := tInt) (xs := out3) (i := i_15) (j := j_16) rfl rfl hij_19 hjl_20 hys_21) (flat_cell tInt _) h_23 ?_)
     refine tmw 2 4 (by decide) (lb rfl) rfl rfl (lb rfl) rfl ?_
     exact tj hj0_8 rfl (w0 4)
    refine pa tb [1, 2] 14 rfl (by kernel_rfl) rfl ?_
    refine tf 3 rfl (pur_cutM (lo := none) (hi := (some (.tmp 33))) sl33 rfl hi_17.symm ⟨_, congrArg (fun z => A.v (.int .i64 z)) hj_18⟩ hij_19 hjl_20 rfl) rfl rfl (by kernel_rfl) ?_
    refine pa tb [5, 6] 11 rfl (by kernel_rfl) rfl ?_
    refine tf 7 rfl (pur_ixT (T := tInt) sl33 rfl rfl rfl hx_i_1 rfl) rfl rfl (by kernel_rfl) ?_
    refine tf 8 rfl (pur_ldT (T := tInt) (i := i_1) (off := 0) rfl one3 rfl rfl hx_i_1 rfl) rfl rfl (by kernel_rfl) ?_
    refine pa tb [11, 12] 7 rfl (by kernel_rfl) rfl ?_
    refine tf 13 rfl (pur_cutM (lo := (some (.tmp 43))) (hi := none) sl33 rfl ⟨_, congrArg (fun z => A.v (.int .i64 z)) hi_30⟩ hj_31.symm hij_32 hjl_33 rfl) rfl rfl (by kernel_rfl) ?_
    refine TA_all [0, 9] (by kernel_rfl) (by decide) ⟨?_, ?_, trivial⟩
    ·skip
     refine ⟨_, rfl, rfl, (TOp_lit (nn := 0) (k := 1) sl33 zero3 rfl rfl rfl rfl (by decide) ?_)⟩
     refine tmw 2 4 (by decide) (lb rfl) rfl rfl (lb rfl) rfl ?_
     refine TA_all [4, 9] (by kernel_rfl) (by decide) ⟨?_, ?_, trivial⟩
     ·skip
      refine ⟨_, rfl, rfl, (TOp_appY (T := tInt) (f := tInt.enc) (xs := ([] : (List Int))) (ys := ys_13) tInt.len sl33 zero3 rfl bytes3 (by decide) rfl rfl rfl rfl (src_cut (T := tInt) (xs := out3) (i := i_15) (j := j_16) rfl rfl hij_19 hjl_20 hys_21) (flat_cell tInt _) h_23 ?_)⟩
      refine tmw 2 5 (by decide) (lb rfl) rfl rfl (lb rfl) rfl ?_
      refine tae [(0, (sl tInt l0)), (3, (.m [0] 0 out3.length tInt.k)), (4, (intA (i_1 : Int))), (35, (.m [2] 0 us_22.length tInt.k)), (39, (intA x_i_1)), (44, (.m [0] (i_28 * tInt.k) (j_29 - i_28) tInt.k))] rfl ?_
      refine TA_st (σ' := [.row (flat tInt.enc out3), .dead, .row (flat tInt.enc us_22), .dead, .dead, .dead]) rfl ?_
      refine t1 9 (by kernel_rfl) rfl rfl (TOp_lit (nn := 1) (k := 1) sl33 zero3 rfl rfl rfl rfl (by decide) ?_)
      refine tmw 3 6 (by decide) (lb rfl) rfl rfl (lb rfl) rfl ?_
      exact tj hj0_8 rfl (w0 4)
     ·skip
      refine ⟨_, rfl, rfl, (TOp_lit (nn := 1) (k := 1) sl33 zero3 rfl rfl rfl rfl (by decide) ?_)⟩
      refine tmw 3 5 (by decide) (lb rfl) rfl rfl (lb rfl) rfl ?_
      refine tae [(0, (sl tInt l0)), (3, (.m [0] 0 out3.length tInt.k)), (4, (intA (i_1 : Int))), (31, (.m [2] 0 ([] : (List Int)).length tInt.k)), (34, (.m [0] (i_15 * tInt.k) (j_16 - i_15) tInt.k)), (40, (.m [3] 0 ([x_i_1] : (List Int)).length tInt.k)), (44, (.m [0] (i_28 * tInt.k) (j_29 - i_28) tInt.k))] rfl ?_
      refine TA_st (σ' := [.row (flat tInt.enc out3), .dead, .row (flat tInt.enc ([] : (List Int))), .row (flat tInt.enc ([x_i_1] : (List Int))), .dead, .dead]) rfl ?_
      exact tj hj1_8 rfl (w0 4)
    ·skip
     refine ⟨_, rfl, rfl, (TOp_lit (nn := 1) (k := 1) sl33 zero3 rfl rfl rfl rfl (by decide) ?_)⟩
     refine tmw 3 4 (by decide) (lb rfl) rfl rfl (lb rfl) rfl ?_
     refine t1 0 (by kernel_rfl) rfl rfl (TOp_lit (nn := 0) (k := 1) sl33 zero3 rfl rfl rfl rfl (by decide) ?_)
     refine tmw 2 5 (by decide) (lb rfl) rfl rfl (lb rfl) rfl ?_
     refine tae [(0, (sl tInt l0)), (3, (.m [0] 0 out3.length tInt.k)), (4, (intA (i_1 : Int))), (31, (.m [2] 0 ([] : (List Int)).length tInt.k)), (34, (.m [0] (i_15 * tInt.k) (j_16 - i_15) tInt.k)), (40, (.m [3] 0 ([x_i_1] : (List Int)).length tInt.k)), (44, (.m [0] (i_28 * tInt.k) (j_29 - i_28) tInt.k))] rfl ?_
     refine TA_st (σ' := [.row (flat tInt.enc out3), .dead, .row (flat tInt.enc ([] : (List Int))), .row (flat tInt.enc ([x_i_1] : (List Int))), .dead, .dead]) rfl ?_
     exact tj hj1_8 rfl (w0 4)
  ·replace d2 := of_decide_eq_false d2
   obtain rfl := forS_end L2_ (by omega)
   refine T_exit ?_
   refine then_exit ?_
   refine then_exit ?_
   refine block_exit ?_
   replace H := N2_
   refine sr ?_
   refine pv tb 2 rfl ?_
   refine TO_nil ?_
   refine T_ret ?_
   obtain rfl := some_inj H
   exact end_pick (.tmp .nil) rfl [0] (by decide) rfl rfl rfl rfl rfl rfl
theorem m_spec_l7Sorted_ok (u : Nat) (l0 : (List Int)) (r : (List Int)) (H : m_spec_l7Sorted u l0 = some r) : FnV prg 80 [(sl tInt l0)] (sl tInt r) := (m_spec_l7Sorted_own u l0 r H).frz (frzT (T := tInt) rfl)

set_option maxHeartbeats 1000000 in
theorem m_spec_NthRepair_own (u : Nat) (d0 : Database) (k1 : Int) (r : ((List Int) × Bool)) (H : m_spec_NthRepair u d0 k1 = some r) : FnO prg 41 [(.g (tDatabase.enc d0)), (intA k1)] (.t [(.m [0] 0 r.1.length tInt.k), (boolA r.2)]) [.row (flat tInt.own r.1)] := by
  unfold m_spec_NthRepair at H
  refine fnO_of_T Try.func41 rfl rfl (Nat.le_of_ble_eq_true rfl) ?_
  refine te [(0, (.g (tDatabase.enc d0))), (1, (intA k1))] rfl ?_
  refine sr ?_
  refine TO_cons rfl (TOp_box rfl (boxAll rfl) rfl rfl ?_)
  refine pv tb 2 rfl ?_
  refine TO_nil ?_
  refine T_seq ?_
  refine sr ?_
  obtain ⟨r_1, h_2, H⟩ := bind_inv H
  refine pv tb 2 rfl ?_
  refine TO_cons rfl (TOp_callV (call_static ent40 rfl) (m_spec_CountRepairs_ok u _ _ h_2) rfl rfl rfl ?_)
  obtain ⟨r_3, h_4, H⟩ := bind_inv H
  refine pv tb 1 rfl ?_
  refine TO_cons rfl (TOp_callV (call_static ent78 rfl) (m_spec_l1In_ok _ _ _ _ h_4) rfl rfl rfl ?_)
  refine pv tb 1 rfl ?_
  refine TO_nil ?_
  refine T_cond (t := (!r_3)) rfl (fun c_5 => ?_) (fun c_5 => ?_)
  ·replace H := cond_t c_5 H
   refine sr ?_
   refine TO_cons rfl (TOp_lit (nn := 0) (k := 1) sl33 zero3 rfl rfl rfl rfl (by decide) ?_)
   refine TO_st (σ' := [.box [(sl tRelation d0.relations), (sl tFact d0.facts)], .row (flat tInt.enc ([] : (List Int)))]) rfl ?_
   refine pv tb 2 rfl ?_
   refine TO_nil ?_
   refine T_ret ?_
   refine then_ret ?_
   obtain rfl := some_inj H
   exact end_pick (.tmp (.tmp .nil)) rfl [1] (by decide) rfl rfl rfl rfl rfl rfl
  ·replace H := cond_f c_5 H
   refine T_skip ?_
   refine sr ?_
   obtain ⟨r_6, h_7, H⟩ := bind_inv H
   refine pv tb 1 rfl ?_
   refine TO_cons rfl (TOp_callV (call_static ent79 rfl) (m_spec_Blocks_ok u _ _ h_7) rfl rfl rfl ?_)
   refine pv tb 1 rfl ?_
   refine TO_nil ?_
   refine sr ?_
   refine TO_cons rfl (TOp_lit (nn := 0) (k := 1) sl33 zero3 rfl rfl rfl rfl (by decide) ?_)
   refine TO_st (σ' := [.box [(sl tRelation d0.relations), (sl tFact d0.facts)], .row (flat tInt.enc ([] : (List Int)))]) rfl ?_
   refine pv tb 1 rfl ?_
   refine TO_nil ?_
   refine T_seq ?_
   refine sr ?_
   refine pv tb 1 rfl ?_
   refine Tp rfl rfl (pur_lenT (T := (tSl tInt)) sl22 rfl rfl) rfl ?_
   refine TO_fact (len_sl (T := (tSl tInt)) (.tmp 6) rfl) (fun hl_8 => ?_)
   refine Tp rfl rfl (pur_sub rfl rfl rfl (fits64 (by omega) (by omega))) rfl ?_
   refine pv tb 1 rfl ?_
   refine TO_nil ?_
   refine te [(1, (intA k1)), (6, (sl (tSl tInt) r_6)), (7, (.m [1] 0 ([] : (List Int)).length tInt.k)), (8, (intA ((r_6.length : Int) - 1)))] rfl ?_
   obtain ⟨O9_, L9_, N9_⟩ := bind_inv H
   clear H
   obtain ⟨B9_, hb9, L9_⟩ := gen_whileF L9_
   refine T_block ?_
   refine T_loopX (fun k => fun (⟨k1, out7, i8⟩ : Int × (List Int) × Int) => whileF B9_ k (k1, out7, i8) = some O9_) (fun (⟨k1, out7, i8⟩ : Int × (List Int) × Int) => [(1, (intA k1)), (6, (sl (tSl tInt) r_6)), (7, (.m [1] 0 out7.length tInt.k)), (8, (intA i8))]) (fun (⟨k1, out7, i8⟩ : Int × (List Int) × Int) => [.box [(sl tRelation d0.relations), (sl tFact d0.facts)], .row (flat tInt.enc out7)]) u (k1, ([] : (List Int)), ((r_6.length : Int) - 1)) (w0 2) L9_ ?_
   rintro _ ⟨k1, out7, i8⟩ L9_
   obtain ⟨k9, rfl, C9_, H, K9_⟩ := while_step L9_
   rw [hb9] at H
   refine T_seq ?_
   refine sr ?_
   refine pv tb 2 rfl ?_
   refine TO_nil ?_
   refine T_cond (t := decide (0 ≤ i8)) rfl (fun c_10 => ?_) (fun c_10 => ?_)
   ·replace H := cond_t c_10 H
    refine T_skip ?_
    refine T_seq ?_
    refine T_block ?_
    obtain ⟨v_11, h_12, H⟩ := bind_inv H
    obtain ⟨n_13, hz_14, hv_15⟩ := getI_inv h_12
    obtain ⟨_u, h_16, H⟩ := bind_inv H
    obtain ⟨v_17, h_18, H⟩ := bind_inv H
    obtain ⟨n_19, hz_20, hv_21⟩ := getI_inv h_18
    obtain ⟨us_22, h_23, H⟩ := bind_inv H
    refine T_cutX (fun (_ : Unit) => True) (fun _ => [(1, (intA k1)), (6, (sl (tSl tInt) r_6)), (7, (.m [1] 0 us_22.length tInt.k)), (8, (intA i8))]) (fun _ => [.box [(sl tRelation d0.relations), (sl tFact d0.facts)], .row (flat tInt.enc us_22)]) ?_ ?_
    ·skip
     refine T_regionP 1 mixed rfl ?_
     refine pa tb [0, 1, 2] 14 rfl (by kernel_rfl) rfl ?_
     refine tf 3 rfl (pur_ixT (T := (tSl tInt)) sl22 rfl rfl hz_14 hv_15 rfl) rfl rfl (by kernel_rfl) ?_
     refine tf 4 rfl (pur_ldT (T := (tSl tInt)) (i := n_13) (off := 0) rfl one33 rfl rfl hv_15 rfl) rfl rfl (by kernel_rfl) ?_
     refine pa tb [5, 6, 7] 9 rfl (by kernel_rfl) rfl ?_
     refine tf 8 rfl (pur_ixT (T := (tSl tInt)) sl22 rfl rfl hz_14 hv_15 rfl) rfl rfl (by kernel_rfl) ?_
     refine tf 9 rfl (pur_ldT (T := (tSl tInt)) (i := n_13) (off := 0) rfl one33 rfl rfl hv_15 rfl) rfl rfl (by kernel_rfl) ?_
     refine tf 10 rfl (pur_lenT (T := tInt) sl33 rfl rfl) rfl rfl (by kernel_rfl) ?_
     refine tf 11 rfl (pur_rem rfl rfl rfl (gD_inv h_16)) rfl rfl (by kernel_rfl) ?_
     refine tf 12 rfl (pur_ixT (T := tInt) sl33 rfl rfl hz_20 hv_21 rfl) rfl rfl (by kernel_rfl) ?_
     refine tf 13 rfl (pur_ldT (T := tInt) (i := n_19) (off := 0) rfl one3 rfl rfl hv_21 rfl) rfl rfl (by kernel_rfl) ?_
     refine t1 14 (by kernel_rfl) rfl rfl (TOp_lit (nn := 1) (k := 1) sl33 zero3 rfl rfl rfl rfl (by decide) ?_)
     refine t1 15 (by kernel_rfl) rfl rfl (TOp_appY (T := tInt) (f := tInt.enc) (xs := out7) (ys := ([v_17] : (List Int))) tInt.len sl33 zero3 rfl bytes3 (by decide) rfl rfl rfl rfl (src_mT (f := tInt.enc) tInt.len rfl rfl (flat_cell tInt _)) (flat_cell tInt _) h_23 ?_)
     refine tmw 1 3 (by decide) (lb rfl) rfl rfl (lb rfl) rfl ?_
     refine pa tb [16] 0 rfl (by kernel_rfl) rfl ?_
     refine tae [(1, (intA k1)), (6, (sl (tSl tInt) r_6)), (7, (.m [1] 0 us_22.length tInt.k)), (8, (intA i8))] rfl ?_
     exact TA_nil (by kernel_rfl) (joined () (w0 2) trivial)
    ·rintro _ _
     refine T_region ?_
     refine pv tb 3 rfl ?_
     refine Tp rfl rfl (pur_ixT (T := (tSl tInt)) sl22 rfl rfl hz_14 hv_15 rfl) rfl ?_
     refine Tp rfl rfl (pur_ldT (T := (tSl tInt)) (i := n_13) (off := 0) rfl one33 rfl rfl hv_15 rfl) rfl ?_
     refine Tp rfl rfl (pur_lenT (T := tInt) sl33 rfl rfl) rfl ?_
     obtain ⟨_u, h_24, H⟩ := bind_inv H
     refine Tp rfl rfl (pur_wquo rfl rfl rfl (gD_inv h_24)) rfl ?_
     refine pv tb 1 rfl ?_
     refine TO_nil ?_
     refine T_region ?_
     refine pv tb 3 rfl ?_
     refine TO_nil ?_
     obtain rfl := some_inj H
     exact again k9 ((w64 (k1.tdiv (v_11.length : Int))), us_22, (w64 (i8 - 1))) (Nat.lt_succ_self _) (w0 2) K9_
   ·replace H := cond_f c_10 H
    refine T_exit ?_
    refine then_exit ?_
    refine then_exit ?_
    refine block_exit ?_
    obtain rfl := some_inj H
    obtain rfl := some_inj K9_
    replace H := onS_l N9_
    refine sr ?_
    obtain ⟨r_25, h_26, H⟩ := bind_inv H
    refine pv tb 1 rfl ?_
    refine TO_cons rfl (TOp_callOG (call_static ent80 rfl) (frz_cons (frzTE (T := tInt) rfl) frz_nil).1 (frz_cons (frzTE (T := tInt) rfl) frz_nil).2 (m_spec_l7Sorted_own u _ _ h_26) rfl (ownC_of (ownSB_cons (flat_ownR tInt _) ownSB_nil)) rfl rfl rfl ?_)
    refine toe [(7, (.m [1] 0 out7.length tInt.k)), (49, (.m [1] 0 out7.length tInt.k)), (50, (.m [2] 0 r_25.length tInt.k))] rfl ?_
    refine TO_st (σ' := [.box [(sl tRelation d0.relations), (sl tFact d0.facts)], .row (flat tInt.enc out7), .row (flat tInt.own r_25)]) rfl ?_
    refine pv tb 2 rfl ?_
    refine TO_nil ?_
    refine T_ret ?_
    obtain rfl := some_inj H
    exact end_pick (.tmp (.tmp .nil)) rfl [2] (by decide) rfl rfl rfl rfl rfl rfl
theorem m_spec_NthRepair_ok (u : Nat) (d0 : Database) (k1 : Int) (r : ((List Int) × Bool)) (H : m_spec_NthRepair u d0 k1 = some r) : FnV prg 41 [(.g (tDatabase.enc d0)), (intA k1)] (.t [(sl tInt r.1), (boolA r.2)]) := (m_spec_NthRepair_own u d0 k1 r H).frz (frzOK_t (frz_cons (frzT (T := tInt) rfl) (frz_cons (frz_loose rfl) frz_nil)).1 (frz_cons (frzT (T := tInt) rfl) (frz_cons (frz_loose rfl) frz_nil)).2)

set_option maxHeartbeats 1000000 in
theorem m_spec_DistinctRange_ok (u : Nat) (d0 : Database) (r1 : Int) (col2 : Int) (r : (Int × Int × Bool)) (H : m_spec_DistinctRange u d0 r1 col2 = some r) : FnV prg 43 [(.g (tDatabase.enc d0)), (intA r1), (intA col2)] (.t [(intA r.1), (intA r.2.1), (boolA r.2.2)]) := by
  unfold m_spec_DistinctRange at H
  refine fnV_of_T Try.func43 rfl rfl (Nat.le_of_ble_eq_true rfl) ?_
  refine te [(0, (.g (tDatabase.enc d0))), (1, (intA r1)), (2, (intA col2))] rfl ?_
  refine sr ?_
  refine TO_cons rfl (TOp_box rfl (boxAll rfl) rfl rfl ?_)
  refine pv tb 3 rfl ?_
  refine TO_nil ?_
  refine T_seq ?_
  refine sr ?_
  obtain ⟨r_1, h_2, H⟩ := bind_inv H
  refine pv tb 3 rfl ?_
  refine TO_cons rfl (TOp_callV (call_static ent59 rfl) (m_spec_l27Ok_ok u _ _ _ _ h_2) rfl rfl rfl ?_)
  refine pv tb 1 rfl ?_
  refine TO_nil ?_
  refine T_cond (t := (!r_1)) rfl (fun c_3 => ?_) (fun c_3 => ?_)
  ·replace H := cond_t c_3 H
   refine sr ?_
   refine pv tb 3 rfl ?_
   refine TO_nil ?_
   refine T_ret ?_
   refine then_ret ?_
   obtain rfl := some_inj H
   refine end_ret (.tmp (.tmp (.tmp .nil))) rfl rfl ⟨?_, rfl⟩
   rfl
  ·replace H := cond_f c_3 H
   refine T_skip ?_
   refine sr ?_
   refine pv tb 1 rfl ?_
   refine TO_nil ?_
   refine sr ?_
   refine pv tb 1 rfl ?_
   refine TO_nil ?_
   refine T_seq ?_
   refine sr ?_
   refine pv tb 1 rfl ?_
   refine TO_nil ?_
   obtain ⟨O4_, L4_, N4_⟩ := bind_inv H
   clear H
   obtain ⟨B4_, hb4, L4_⟩ := gen_whileF L4_
   refine T_block ?_
   refine T_loopX (fun k => fun (⟨lo9, hi10, k11⟩ : Int × Int × Int) => whileF B4_ k (lo9, hi10, k11) = some O4_) (fun (⟨lo9, hi10, k11⟩ : Int × Int × Int) => [(1, (intA r1)), (2, (intA col2)), (3, (.b 0 0)), (9, (intA lo9)), (10, (intA hi10)), (11, (intA k11))]) (fun (⟨lo9, hi10, k11⟩ : Int × Int × Int) => [.box [(sl tRelation d0.relations), (sl tFact d0.facts)]]) u (-1, 0, 0) (w0 1) L4_ ?_
   rintro _ ⟨lo9, hi10, k11⟩ L4_
   obtain ⟨k4, rfl, C4_, H, K4_⟩ := while_step L4_
   rw [hb4] at H
   refine T_seq ?_
   refine sr ?_
   obtain ⟨r_5, h_6, H⟩ := bind_inv H
   refine pv tb 2 rfl ?_
   refine TO_cons rfl (TOp_callV (call_static ent40 rfl) (m_spec_CountRepairs_ok u _ _ h_6) rfl rfl rfl ?_)
   refine pv tb 1 rfl ?_
   refine TO_nil ?_
   refine T_cond (t := decide (k11 < r_5)) rfl (fun c_7 => ?_) (fun c_7 => ?_)
   ·replace H := cond_t c_7 H
    refine T_skip ?_
    refine T_seq ?_
    refine T_block ?_
    refine sr ?_
    obtain ⟨r_8, h_9, H⟩ := bind_inv H
    refine pv tb 2 rfl ?_
    refine TO_cons rfl (TOp_callV (call_static ent41 rfl) (m_spec_NthRepair_ok u _ _ _ h_9) rfl rfl rfl ?_)
    refine pv tb 5 rfl ?_
    refine TO_nil ?_
    refine sr ?_
    obtain ⟨us_10, h_11, H⟩ := bind_inv H
    refine TO_cons rfl (TOp_makeT (T := tBool) (z := false) rfl sl58 zero4 rfl bytes4 rfl rfl rfl rfl h_11 ?_)
    refine pv tb 1 rfl ?_
    refine TO_nil ?_
    refine sr ?_
    refine pv tb 1 rfl ?_
    refine TO_nil ?_
    refine T_seq ?_
    refine sr ?_
    refine pv tb 1 rfl ?_
    refine TO_nil ?_
    obtain ⟨O13_, L13_, N13_⟩ := bind_inv H
    clear H
    obtain ⟨B13_, hb13, L13_⟩ := gen_forS L13_
    refine T_block ?_
    refine T_loopX (fun k => fun (⟨i_12, met14, n15⟩ : Nat × (List Bool) × Int) => k = r_8.1.length - i_12 ∧ forS B13_ (r_8.1.drop i_12) (i_12 : Int) (met14, n15) = some O13_) (fun (⟨i_12, met14, n15⟩ : Nat × (List Bool) × Int) => [(1, (intA r1)), (2, (intA col2)), (3, (.b 0 0)), (9, (intA lo9)), (10, (intA hi10)), (11, (intA k11)), (12, (sl tInt r_8.1)), (14, (.m [1] 0 met14.length tBool.k)), (15, (intA n15)), (16, (intA (i_12 : Int)))]) (fun (⟨i_12, met14, n15⟩ : Nat × (List Bool) × Int) => [.box [(sl tRelation d0.relations), (sl tFact d0.facts)], .row (flat tBool.enc met14)]) _ (0, (us_10, 0)) (w0 2) ⟨rfl, L13_⟩ ?_
    rintro _ ⟨i_12, met14, n15⟩ ⟨rfl, L13_⟩
    refine T_fact (len_sl (T := tInt) (.tmp 12) rfl) (fun hl13 => ?_)
    refine T_seq ?_
    refine sr ?_
    refine pv tb 2 rfl ?_
    refine Tp rfl rfl (pur_lenT (T := tInt) sl33 rfl rfl) rfl ?_
    refine pv tb 1 rfl ?_
    refine TO_nil ?_
    refine T_cond (t := decide ((i_12 : Int) < (r_8.1.length : Int))) rfl (fun d13 => ?_) (fun d13 => ?_)
    ·replace d13 := of_decide_eq_true d13
     obtain ⟨x_i_12, hx_i_12⟩ : ∃ v, (r_8.1)[i_12]? = some v := ⟨_, List.getElem?_eq_getElem (by omega)⟩
     obtain ⟨C13_, H, K13_⟩ := forS_step L13_ hx_i_12
     rw [hb13] at H
     refine T_skip ?_
     refine T_seq ?_
     refine T_block ?_
     obtain ⟨v_14, h_15, H⟩ := bind_inv H
     obtain ⟨n_16, hz_17, hv_18⟩ := getI_inv h_15
     refine T_cutX (fun (_ : Unit) => True) (fun _ => [(1, (intA r1)), (2, (intA col2)), (3, (.b 0 0)), (9, (intA lo9)), (10, (intA hi10)), (11, (intA k11)), (12, (sl tInt r_8.1)), (14, (.m [1] 0 met14.length tBool.k)), (15, (intA n15)), (16, (intA (i_12 : Int))), (17, (.b 2 0))]) (fun _ => [.box [(sl tRelation d0.relations), (sl tFact d0.facts)], .row (flat tBool.enc met14), .box [(intA v_14.relation), (sl tInt v_14.values)]]) ?_ ?_
     ·skip
      refine T_regionP 2 mixed rfl ?_
      refine pa tb [0, 1, 2, 3] 6 rfl (by kernel_rfl) rfl ?_
      refine tf 4 rfl (pur_ixT (T := tInt) sl33 rfl rfl rfl hx_i_12 rfl) rfl rfl (by kernel_rfl) ?_
      refine tf 5 rfl (pur_ldT (T := tInt) (i := i_12) (off := 0) rfl one3 rfl rfl hx_i_12 rfl) rfl rfl (by kernel_rfl) ?_
      refine tf 6 rfl (pur_ixT (T := tFact) sl30 rfl rfl hz_17 hv_18 rfl) rfl rfl (by kernel_rfl) ?_
      refine tf 7 rfl (pur_ldTK (T := tFact) (i := n_16) (off := 0) rfl agg60 rfl rfl hv_18 (by decide) rfl) rfl rfl (by kernel_rfl) ?_
      refine t1 8 (by kernel_rfl) rfl rfl (TOp_alloc zero60 rfl rfl ?_)
      refine t1 9 (by kernel_rfl) rfl rfl (TOp_storeB sz60 rfl rfl rfl rfl rfl rfl rfl (by decide) (lb rfl) rfl ?_)
      refine TA_st (σ' := [.dead, .row (flat tBool.enc met14), .box [(intA v_14.relation), (sl tInt v_14.values)]]) rfl ?_
      exact TA_nil (by kernel_rfl) (joined () (w0 3) trivial)
     ·rintro _ _
      obtain ⟨t64_19, J_19, H_20⟩ := bind_inv H
      refine T_cutX (fun x => t64_19 = x) (fun (t64_19 : Bool) => [(1, (intA r1)), (2, (intA col2)), (3, (.b 0 0)), (9, (intA lo9)), (10, (intA hi10)), (11, (intA k11)), (12, (sl tInt r_8.1)), (14, (.m [1] 0 met14.length tBool.k)), (15, (intA n15)), (16, (intA (i_12 : Int))), (17, (.b 2 0)), (64, (boolA t64_19))]) (fun (t64_19 : Bool) => [.box [(sl tRelation d0.relations), (sl tFact d0.facts)], .row (flat tBool.enc met14), .box [(intA v_14.relation), (sl tInt v_14.values)]]) ?_ ?_
      ·replace H := J_19
       refine T_region ?_
       refine pv tb 5 rfl ?_
       refine TO_split (t := decide (v_14.relation = r1)) 54 rfl (fun g_21 => ?_) (fun g_21 => ?_)
       ·replace H := cond_t g_21 H
        obtain ⟨v_22, h_23, H⟩ := bind_inv H
        obtain ⟨n_24, hz_25, hv_26⟩ := getI_inv h_23
        refine pv tb 4 rfl ?_
        refine TO_on rfl rfl (by decide) rfl rfl (TOp_pure (pur_ixT (T := tInt) sl33 rfl rfl hz_25 hv_26 rfl) rfl ?_)
        refine TO_on rfl rfl (by decide) rfl rfl (TOp_pure (pur_ldT (T := tInt) (i := n_24) (off := 0) rfl one3 rfl rfl hv_26 rfl) rfl ?_)
        obtain ⟨v_27, h_28, H⟩ := bind_inv H
        obtain ⟨n_29, hz_30, hv_31⟩ := getI_inv h_28
        refine TO_on rfl rfl (by decide) rfl rfl (TOp_pure (pur_ixM (T := tBool) sl58 rfl rfl hz_30 hv_31 rfl) rfl ?_)
        refine TO_on rfl rfl (by decide) rfl rfl (TOp_pure (pur_ldE (f := tBool.enc) (k := tBool.k) (i := n_29) (off := 0) tBool.len rfl one4 rfl rfl rfl hv_31 rfl rfl) rfl ?_)
        refine pv tb 2 rfl ?_
        refine TO_nil ?_
        exact joined (!v_27) (w0 3) (some_inj H).symm
       ·replace H := cond_f g_21 H
        refine pv tb 10 rfl ?_
        refine TO_nil ?_
        exact joined false (w0 3) (some_inj H).symm
      ·rintro _ rfl
       replace H := H_20
       refine T_cond (t := t64_19) rfl (fun c_32 => ?_) (fun c_32 => ?_)
       ·replace H := cond_t c_32 H
        refine sr ?_
        obtain ⟨v_33, h_34, H⟩ := bind_inv H
        obtain ⟨n_35, hz_36, hv_37⟩ := getI_inv h_34
        refine pv tb 4 rfl ?_
        refine Tp rfl rfl (pur_ixT (T := tInt) sl33 rfl rfl hz_36 hv_37 rfl) rfl ?_
        refine Tp rfl rfl (pur_ldT (T := tInt) (i := n_35) (off := 0) rfl one3 rfl rfl hv_37 rfl) rfl ?_
        obtain ⟨v_38, h_39, H⟩ := bind_inv H
        obtain ⟨n_40, hz_41, hv_42⟩ := getI_inv h_39
        refine Tp rfl rfl (pur_ixM (T := tBool) sl58 rfl rfl hz_41 hv_42 rfl) rfl ?_
        refine TO_cons rfl (TOp_setT (f := tBool.enc) (z := v_33) (y := true) tBool.len tBool.pos hz_41 sz4 rfl rfl rfl rfl rfl hv_42 rfl rfl ?_)
        refine TO_env (E' := [(1, (intA r1)), (2, (intA col2)), (3, (.b 0 0)), (9, (intA lo9)), (10, (intA hi10)), (11, (intA k11)), (12, (sl tInt r_8.1)), (14, (.m [1] 0 (met14.set (v_33).toNat true).length tBool.k)), (15, (intA n15)), (16, (intA (i_12 : Int))), (17, (.b 2 0)), (64, (boolA t64_19)), (65, (.m [1] 0 (met14.set (v_33).toNat true).length tBool.k)), (66, (.b 2 1)), (67, (sl tInt v_14.values)), (68, (intA col2)), (69, (.q (flat tInt.enc v_14.values) (n_35 * tInt.k))), (70, (intA v_33))]) ⟨rfl, rfl, rfl, rfl, rfl, rfl, rfl, (congrArg (fun q => A.m [1] 0 q tBool.k) (List.length_set ..).symm), rfl, rfl, rfl, rfl, (congrArg (fun q => A.m [1] 0 q tBool.k) (List.length_set ..).symm), rfl, rfl, rfl, rfl, rfl, trivial⟩ ?_
        refine TO_st (σ' := [.box [(sl tRelation d0.relations), (sl tFact d0.facts)], .row (flat tBool.enc (met14.set (v_33).toNat true)), .box [(intA v_14.relation), (sl tInt v_14.values)]]) rfl ?_
        refine TO_nil ?_
        refine T_region ?_
        refine pv tb 3 rfl ?_
        refine TO_nil ?_
        refine T_region ?_
        refine pv tb 1 rfl ?_
        refine Tp rfl rfl (pur_add rfl rfl rfl (fits64 (by omega) (by omega))) rfl ?_
        refine pv tb 1 rfl ?_
        refine TO_nil ?_
        obtain rfl := some_inj H
        exact again (r_8.1.length - (i_12 + 1)) (i_12 + 1, ((met14.set (v_33).toNat true), (w64 (n15 + 1)))) (by omega) (w0 2) ⟨rfl, K13_⟩
       ·replace H := cond_f c_32 H
        refine T_skip ?_
        refine T_region ?_
        refine pv tb 1 rfl ?_
        refine Tp rfl rfl (pur_add rfl rfl rfl (fits64 (by omega) (by omega))) rfl ?_
        refine pv tb 1 rfl ?_
        refine TO_nil ?_
        obtain rfl := some_inj H
        exact again (r_8.1.length - (i_12 + 1)) (i_12 + 1, (met14, n15)) (by omega) (w0 2) ⟨rfl, K13_⟩
    ·replace d13 := of_decide_eq_false d13
     obtain rfl := forS_end L13_ (by omega)
     refine T_exit ?_
     refine then_exit ?_
     refine then_exit ?_
     refine block_exit ?_
     replace H := N13_
     refine T_seq ?_
     refine T_cutX (fun x => ((decide (lo9 < 0)) || (decide (n15 < lo9))) = x) (fun (t80_43 : Bool) => [(1, (intA r1)), (2, (intA col2)), (3, (.b 0 0)), (9, (intA lo9)), (10, (intA hi10)), (11, (intA k11)), (15, (intA n15)), (80, (boolA t80_43))]) (fun (t80_43 : Bool) => [.box [(sl tRelation d0.relations), (sl tFact d0.facts)]]) ?_ ?_
     ·skip
      refine T_region ?_
      refine pv tb 3 rfl ?_
      refine TO_split (t := decide (lo9 < 0)) 76 rfl (fun g_45 => ?_) (fun g_45 => ?_)
      ·skip
       refine pv tb 4 rfl ?_
       refine TO_nil ?_
       exact joined true (w0 1) (by first | exact Eq.symm ((or_T g_45 rfl)))
      ·skip
       refine pv tb 4 rfl ?_
       refine TO_nil ?_
       exact joined (decide (n15 < lo9)) (w0 1) (by first | exact Eq.symm ((or_F g_45 rfl)))
     ·rintro _ rfl
      refine T_cond (t := ((decide (lo9 < 0)) || (decide (n15 < lo9)))) rfl (fun c_46 => ?_) (fun c_46 => ?_)
      ·replace H := cond_t c_46 H
       refine T_region ?_
       refine pv tb 2 rfl ?_
       refine TO_nil ?_
       refine T_region ?_
       refine pv tb 2 rfl ?_
       refine Tp rfl rfl (pur_max rfl rfl rfl) rfl ?_
       refine pv tb 1 rfl ?_
       refine TO_nil ?_
       refine T_region ?_
       refine pv tb 3 rfl ?_
       refine TO_nil ?_
       obtain rfl := some_inj H
       exact again k4 (n15, (if hi10 < n15 then n15 else hi10), (w64 (k11 + 1))) (Nat.lt_succ_self _) (w0 1) K4_
      ·replace H := cond_f c_46 H
       refine T_skip ?_
       refine T_region ?_
       refine pv tb 2 rfl ?_
       refine Tp rfl rfl (pur_max rfl rfl rfl) rfl ?_
       refine pv tb 1 rfl ?_
       refine TO_nil ?_
       refine T_region ?_
       refine pv tb 3 rfl ?_
       refine TO_nil ?_
       obtain rfl := some_inj H
       exact again k4 (lo9, (if hi10 < n15 then n15 else hi10), (w64 (k11 + 1))) (Nat.lt_succ_self _) (w0 1) K4_
   ·replace H := cond_f c_7 H
    refine T_exit ?_
    refine then_exit ?_
    refine then_exit ?_
    refine block_exit ?_
    obtain rfl := some_inj H
    obtain rfl := some_inj K4_
    replace H := onS_l N4_
    refine sr ?_
    refine pv tb 5 rfl ?_
    refine TO_nil ?_
    refine T_ret ?_
    obtain rfl := some_inj H
    refine end_ret (.tmp (.tmp (.tmp .nil))) rfl rfl ⟨?_, rfl⟩
    rfl

set_option maxHeartbeats 1000000 in
theorem m_slices_Grow_Sint_int_n0_own (n1 : Int) (r : (List Int)) (H : m_slices_Grow_Sint_int_n0 n1 = some r) : FnO prg 123 [.n, (intA n1)] (.m [0] 0 r.length tInt.k) [.row (flat tInt.own r)] := by
  unfold m_slices_Grow_Sint_int_n0 at H
  refine fnO_of_T Try.func123 rfl rfl (Nat.le_of_ble_eq_true rfl) ?_
  refine te [(0, .n), (1, (intA n1))] rfl ?_
  refine sr ?_
  refine pv tb 1 rfl ?_
  refine TO_nil ?_
  refine T_seq ?_
  refine sr ?_
  refine pv tb 2 rfl ?_
  refine TO_nil ?_
  refine T_cond (t := decide (n1 < 0)) rfl (fun c_1 => ?_) (fun c_1 => ?_)
  ·replace H := cond_t c_1 H
   cases H
  ·replace H := cond_f c_1 H
   refine T_skip ?_
   refine T_seq ?_
   refine sr ?_
   refine pv tb 2 rfl ?_
   refine Tp rfl rfl (pur_cap_n sl33 rfl rfl) rfl ?_
   refine pv tb 1 rfl ?_
   refine Tp rfl rfl (pur_len_n sl33 rfl rfl) rfl ?_
   refine pv tb 3 rfl ?_
   refine TO_nil ?_
   refine sr ?_
   refine pv tb 2 rfl ?_
   refine TO_nil ?_
   refine T_cond (t := decide (0 < (w64 (n1 - (w64 (((0 : Nat) : Int) - ((0 : Nat) : Int))))))) rfl (fun c_2 => ?_) (fun c_2 => ?_)
   ·replace H := cond_t c_2 H
    refine T_region ?_
    refine pv tb 2 rfl ?_
    refine Tp rfl rfl (pur_cap_n sl33 rfl rfl) rfl ?_
    refine Tp rfl rfl (pur_cutN (lo := none) (hi := (some (.tmp 19))) sl33 rfl rfl ⟨_, rfl⟩ (by omega) (by omega) rfl) rfl ?_
    obtain ⟨us_3, h_4, H⟩ := bind_inv H
    refine pv tb 1 rfl ?_
    refine TO_cons rfl (TOp_appNZ (T := tInt) (z := (0 : Int)) rfl sl33 Try.underlying3 zero3 rfl bytes3 (by decide) rfl rfl rfl rfl h_4 ?_)
    refine TO_st (σ' := [.row (flat tInt.enc us_3)]) rfl ?_
    refine pv tb 1 rfl ?_
    refine Tp rfl rfl (pur_len_n sl33 rfl rfl) rfl ?_
    obtain ⟨ys_5, h_6, H⟩ := bind_inv H
    obtain ⟨i_7, j_8, hi_9, hj_10, hij_11, hjl_12, hys_13, _⟩ := cutI_inv h_6
    refine Tp rfl rfl (pur_cutM (lo := none) (hi := (some (.tmp 24))) sl33 rfl hi_9.symm ⟨_, congrArg (fun z => A.v (.int .i64 z)) hj_10⟩ hij_11 hjl_12 rfl) rfl ?_
    refine pv tb 1 rfl ?_
    refine TO_nil ?_
    refine te [(0, (.m [0] (i_7 * tInt.k) (j_8 - i_7) tInt.k))] rfl ?_
    refine sr ?_
    refine pv tb 2 rfl ?_
    refine TO_nil ?_
    refine T_env (E' := [(4, (.m [0] 0 ys_5.length tInt.k))]) ⟨(trunc_A (l := 0) (k := tInt.k) (by omega) hjl_12 hys_13), trivial⟩ ?_
    refine T_gh (Ghost.truncT (f := tInt.enc) (s := 0) (i := i_7) (j := j_8) (ys := ys_5) tInt.len rfl (by omega) hys_13 (by exact lb rfl)) ?_
    refine T_st (σ' := [.row (flat tInt.enc ys_5)]) rfl ?_
    refine T_ret ?_
    obtain rfl := some_inj H
    exact end_pick (.tmp .nil) rfl [0] (by decide) rfl rfl rfl rfl rfl rfl
   ·replace H := cond_f c_2 H
    refine T_skip ?_
    refine sr ?_
    refine pv tb 2 rfl ?_
    refine TO_nil ?_
    refine te [(4, .n)] rfl ?_
    refine T_row0 ?_
    refine T_envL (E' := [(4, (.m [0] 0 ([] : (List Int)).length tInt.k))]) ⟨leM, trivial⟩ ?_
    refine T_st (σ' := [.row (flat tInt.own ([] : (List Int)))]) rfl ?_
    refine T_ret ?_
    obtain rfl := some_inj H
    exact end_pick (.tmp .nil) rfl [0] (by decide) rfl rfl rfl rfl rfl rfl
theorem m_slices_Grow_Sint_int_n0_ok (n1 : Int) (r : (List Int)) (H : m_slices_Grow_Sint_int_n0 n1 = some r) : FnV prg 123 [.n, (intA n1)] (sl tInt r) := (m_slices_Grow_Sint_int_n0_own n1 r H).frz (frzT (T := tInt) rfl)
end Go.Proofs.Ytlcpdlngbofgcaa

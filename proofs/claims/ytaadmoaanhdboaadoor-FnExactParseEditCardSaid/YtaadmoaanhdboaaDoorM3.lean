import Derived.Test.YtaadmoaanhdboaaDoorM1
import Derived.Test.YtaadmoaanhdboaaDoorM2
set_option linter.unusedVariables false
set_option linter.unusedSimpArgs false
set_option maxRecDepth 4000
namespace Go.Proofs.YtaadmoaanhdboaaDoor
open Go Go.Proofs Go.Sep
set_option maxHeartbeats 1000000 in
theorem m_impl_AreValidRelations_ok (relations0 : (List Relation)) (r : Bool) (H : m_impl_AreValidRelations relations0 = some r) : FnV prg 72 [(sl tRelation relations0)] (boolA r) := by
  unfold m_impl_AreValidRelations at H
  refine fnV_of_T Tryd.func72 rfl rfl (Nat.le_of_ble_eq_true rfl) ?_
  refine te [(0, (sl tRelation relations0))] rfl ?_
  refine sr ?_
  refine pv tb 1 rfl ?_
  refine TO_nil ?_
  refine T_seq ?_
  refine sr ?_
  refine pv tb 1 rfl ?_
  refine Tp rfl rfl (pur_lenT (T := tRelation) sl46 rfl rfl) rfl ?_
  refine pv tb 1 rfl ?_
  refine TO_nil ?_
  obtain ⟨O2_, L2_, N2_⟩ := bind_inv H
  clear H
  obtain ⟨B2_, hb2, L2_⟩ := gen_forL L2_
  refine T_block ?_
  refine T_loopX (fun k => fun (t_1 : Nat) => k = relations0.length - t_1 ∧ forL B2_ (relations0.drop t_1) (t_1 : Int) () = some O2_) (fun (t_1 : Nat) => [(0, (sl tRelation relations0)), (5, (sl tRelation relations0)), (6, (intA (relations0.length : Int))), (7, (intA (t_1 : Int)))]) (fun (t_1 : Nat) => []) _ (0 : Nat) (w0 0) ⟨rfl, L2_⟩ ?_
  rintro _ t_1 ⟨rfl, L2_⟩
  refine T_fact (len_sl (T := tRelation) (.tmp 0) rfl) (fun hl2 => ?_)
  refine sr ?_
  refine pv tb 1 rfl ?_
  refine TO_nil ?_
  refine T_seq ?_
  refine T_cond (t := decide ((t_1 : Int) < (relations0.length : Int))) rfl (fun d2 => ?_) (fun d2 => ?_)
  ·replace d2 := of_decide_eq_true d2
   obtain ⟨x_t_1, hx_t_1⟩ : ∃ v, (relations0)[t_1]? = some v := ⟨_, List.getElem?_eq_getElem (by omega)⟩
   obtain ⟨C2_, H, K2_⟩ := forL_step L2_ hx_t_1
   rw [hb2] at H
   refine T_skip ?_
   refine T_seq ?_
   refine T_block ?_
   refine sr ?_
   refine pv tb 1 rfl ?_
   refine Tp rfl rfl (pur_ixT (T := tRelation) sl46 rfl rfl rfl hx_t_1 rfl) rfl ?_
   refine Tp rfl rfl (pur_ldTK (T := tRelation) (i := t_1) (off := 0) rfl agg99 rfl rfl hx_t_1 (by decide) rfl) rfl ?_
   refine TO_cons rfl (TOp_alloc zero99 rfl rfl ?_)
   refine pv tb 1 rfl ?_
   refine TO_cons rfl (TOp_storeB sz99 rfl rfl rfl rfl rfl rfl rfl (by decide) (lb rfl) rfl ?_)
   refine TO_st (σ' := [.box [(strA x_t_1.name), (intA x_t_1.arity), (intA x_t_1.keyLength)]]) rfl ?_
   refine TO_nil ?_
   obtain ⟨t29_3, J_3, H_4⟩ := bind_inv H
   refine T_cutX (fun x => t29_3 = x) (fun (t29_3 : Bool) => [(0, (sl tRelation relations0)), (5, (sl tRelation relations0)), (6, (intA (relations0.length : Int))), (7, (intA (t_1 : Int))), (29, (boolA t29_3))]) (fun (t29_3 : Bool) => []) ?_ ?_
   ·replace H := J_3
    refine T_regionD mixed (by kernel_rfl) ?_
    obtain ⟨r_5, h_6, H⟩ := bind_inv H
    refine pq tb 1 rfl ?_
    refine TQ_callV rfl (call_static ent80 rfl) (m_impl_IsValidRelation_ok _ _ h_6) rfl rfl ?_
    refine pq tb 2 rfl ?_
    refine TQ_split (t := (!r_5)) 15 rfl (fun g_7 => ?_) (fun g_7 => ?_)
    ·replace H := cond_t g_7 H
     refine pq tb 14 rfl ?_
     refine TQ_nil ?_
     exact joined true (w0 0) (some_inj H).symm
    ·replace H := cond_f g_7 H
     refine pq tb 3 rfl ?_
     refine TQ_split (t := decide (0 < (t_1 : Int))) 18 rfl (fun g_8 => ?_) (fun g_8 => ?_)
     ·replace H := cond_t g_8 H
      refine pq tb 2 rfl ?_
      refine TQ_on rfl rfl (by decide) rfl (pur_sub rfl rfl rfl (fits64 (by omega) (by omega))) rfl ?_
      obtain ⟨v_9, h_10, H⟩ := bind_inv H
      obtain ⟨n_11, hz_12, hv_13⟩ := getI_inv h_10
      refine TQ_on rfl rfl (by decide) rfl (pur_ixT (T := tRelation) sl46 rfl rfl hz_12 hv_13 rfl) rfl ?_
      refine pq tb 1 rfl ?_
      refine TQ_on rfl rfl (by decide) rfl (pur_ldT (T := tRelation) (i := n_11) (off := 0) rfl one9 rfl rfl hv_13 rfl) rfl ?_
      refine pq tb 2 rfl ?_
      refine tqe [(0, (sl tRelation relations0)), (5, (sl tRelation relations0)), (6, (intA (relations0.length : Int))), (7, (intA (t_1 : Int))), (15, (boolA false)), (18, (boolA true)), (24, (strA v_9.name)), (26, (strA x_t_1.name))] rfl ?_
      refine TQ_on rfl rfl (by decide) rfl (pur_geqS rfl rfl rfl) rfl ?_
      refine pq tb 2 rfl ?_
      refine TQ_nil ?_
      exact joined (!ltS v_9.name x_t_1.name) (w0 0) (some_inj H).symm
     ·replace H := cond_f g_8 H
      refine pq tb 8 rfl ?_
      refine tqe [(0, (sl tRelation relations0)), (5, (sl tRelation relations0)), (6, (intA (relations0.length : Int))), (7, (intA (t_1 : Int))), (15, (boolA false)), (18, (boolA false)), (24, (.v undef)), (26, (.v undef))] rfl ?_
      refine pq tb 3 rfl ?_
      refine TQ_nil ?_
      exact joined false (w0 0) (some_inj H).symm
   ·rintro _ rfl
    replace H := H_4
    refine T_cond (t := t29_3) rfl (fun c_14 => ?_) (fun c_14 => ?_)
    ·replace H := cond_t c_14 H
     refine sr ?_
     refine pv tb 1 rfl ?_
     refine TO_nil ?_
     refine T_ret ?_
     refine block_ret ?_
     refine then_ret ?_
     refine then_ret ?_
     refine block_ret ?_
     refine then_ret ?_
     obtain rfl := some_inj H
     obtain rfl := some_inj K2_
     replace H := onS_r N2_
     obtain rfl := some_inj H
     refine end_ret (.tmp .nil) rfl rfl ⟨?_, rfl⟩
     rfl
    ·replace H := cond_f c_14 H
     refine T_skip ?_
     refine T_region ?_
     refine Tp rfl rfl (pur_add rfl rfl rfl (fits64 (by omega) (by omega))) rfl ?_
     refine pv tb 1 rfl ?_
     refine TO_nil ?_
     obtain rfl := some_inj H
     exact again (relations0.length - (t_1 + 1)) (t_1 + 1) (by omega) (w0 0) ⟨rfl, K2_⟩
  ·replace d2 := of_decide_eq_false d2
   obtain rfl := forL_end L2_ (by omega)
   refine T_exit ?_
   refine then_exit ?_
   refine then_exit ?_
   refine block_exit ?_
   replace H := onS_l N2_
   refine sr ?_
   refine pv tb 1 rfl ?_
   refine Tp rfl rfl (pur_lenT (T := tRelation) sl46 rfl rfl) rfl ?_
   refine pv tb 2 rfl ?_
   refine TO_nil ?_
   refine T_ret ?_
   obtain rfl := some_inj H
   refine end_ret (.tmp .nil) rfl rfl ⟨?_, rfl⟩
   rfl

set_option maxHeartbeats 1000000 in
theorem m_slices_IndexFunc_Sint_int_ok (s0 : (List Int)) (f1 : (Int → Option Bool)) (f1_g : Nat) (f1_c : List A) (f1_E : EnT prg f1_g) (f1_l : looseL f1_c = true) (f1_m : firmL f1_c = true ∧ fzL f1_c = f1_c) (f1_H : ∀ (x0 : Int) r, f1 x0 = some r → FnV prg f1_g ([(intA x0)] ++ f1_c) (boolA r)) (r : Int) (H : m_slices_IndexFunc_Sint_int s0 f1 = some r) : FnV prg 93 [(sl tInt s0), (.f f1_g f1_c)] (intA r) := by
  unfold m_slices_IndexFunc_Sint_int at H
  refine fnV_of_T Tryd.func93 rfl rfl (Nat.le_of_ble_eq_true rfl) ?_
  refine te [(0, (sl tInt s0)), (1, (.f f1_g f1_c))] rfl ?_
  refine sr ?_
  refine pv tb 1 rfl ?_
  refine TO_nil ?_
  refine T_seq ?_
  refine sr ?_
  refine pv tb 1 rfl ?_
  refine Tp rfl rfl (pur_lenT (T := tInt) sl38 rfl rfl) rfl ?_
  refine pv tb 1 rfl ?_
  refine TO_nil ?_
  obtain ⟨O2_, L2_, N2_⟩ := bind_inv H
  clear H
  obtain ⟨B2_, hb2, L2_⟩ := gen_forL L2_
  refine T_block ?_
  refine T_loopX (fun k => fun (t_1 : Nat) => k = s0.length - t_1 ∧ forL B2_ (s0.drop t_1) (t_1 : Int) () = some O2_) (fun (t_1 : Nat) => [(0, (sl tInt s0)), (1, (.f f1_g f1_c)), (7, (intA (s0.length : Int))), (8, (intA (t_1 : Int)))]) (fun (t_1 : Nat) => []) _ (0 : Nat) (wp 0 (lb rfl) rfl rfl (by simp only [namesE, A.names, namesL_enc, Bool.false_or, Bool.or_false, looseL_names f1_l]) rfl rfl) ⟨rfl, L2_⟩ ?_
  rintro _ t_1 ⟨rfl, L2_⟩
  refine T_fact (len_sl (T := tInt) (.tmp 0) rfl) (fun hl2 => ?_)
  refine sr ?_
  refine pv tb 1 rfl ?_
  refine TO_nil ?_
  refine T_seq ?_
  refine T_cond (t := decide ((t_1 : Int) < (s0.length : Int))) rfl (fun d2 => ?_) (fun d2 => ?_)
  ·replace d2 := of_decide_eq_true d2
   obtain ⟨x_t_1, hx_t_1⟩ : ∃ v, (s0)[t_1]? = some v := ⟨_, List.getElem?_eq_getElem (by omega)⟩
   obtain ⟨C2_, H, K2_⟩ := forL_step L2_ hx_t_1
   rw [hb2] at H
   refine T_skip ?_
   refine T_seq ?_
   refine T_block ?_
   refine sr ?_
   refine pv tb 2 rfl ?_
   refine TO_nil ?_
   refine sr ?_
   refine pv tb 3 rfl ?_
   refine Tp rfl rfl (pur_ixT (T := tInt) sl38 rfl rfl rfl hx_t_1 rfl) rfl ?_
   refine Tp rfl rfl (pur_ldT (T := tInt) (i := t_1) (off := 0) rfl one3 rfl rfl hx_t_1 rfl) rfl ?_
   obtain ⟨r_3, h_4, H⟩ := bind_inv H
   refine TO_cons rfl (TOp_callV (call_closure f1_E rfl rfl) (f1_H _  _ h_4) (looseL_app rfl f1_l) rfl rfl ?_)
   refine TO_nil ?_
   refine T_cond (t := r_3) rfl (fun c_5 => ?_) (fun c_5 => ?_)
   ·replace H := cond_t c_5 H
    refine sr ?_
    refine pv tb 2 rfl ?_
    refine TO_nil ?_
    refine T_ret ?_
    refine block_ret ?_
    refine then_ret ?_
    refine then_ret ?_
    refine block_ret ?_
    refine then_ret ?_
    obtain rfl := some_inj H
    obtain rfl := some_inj K2_
    replace H := onS_r N2_
    obtain rfl := some_inj H
    refine end_ret (.tmp .nil) rfl rfl ⟨?_, rfl⟩
    rfl
   ·replace H := cond_f c_5 H
    refine T_skip ?_
    refine T_region ?_
    refine Tp rfl rfl (pur_add rfl rfl rfl (fits64 (by omega) (by omega))) rfl ?_
    refine pv tb 1 rfl ?_
    refine TO_nil ?_
    obtain rfl := some_inj H
    exact again (s0.length - (t_1 + 1)) (t_1 + 1) (by omega) (wp 0 (lb rfl) rfl rfl (by simp only [namesE, A.names, namesL_enc, Bool.false_or, Bool.or_false, looseL_names f1_l]) rfl rfl) ⟨rfl, K2_⟩
  ·replace d2 := of_decide_eq_false d2
   obtain rfl := forL_end L2_ (by omega)
   refine T_exit ?_
   refine then_exit ?_
   refine then_exit ?_
   refine block_exit ?_
   replace H := onS_l N2_
   refine sr ?_
   refine pv tb 1 rfl ?_
   refine TO_nil ?_
   refine T_ret ?_
   obtain rfl := some_inj H
   refine end_ret (.tmp .nil) rfl rfl ⟨?_, rfl⟩
   rfl

set_option maxHeartbeats 1000000 in
theorem m_slices_ContainsFunc_Sint_int_ok (s0 : (List Int)) (f1 : (Int → Option Bool)) (f1_g : Nat) (f1_c : List A) (f1_E : EnT prg f1_g) (f1_l : looseL f1_c = true) (f1_m : firmL f1_c = true ∧ fzL f1_c = f1_c) (f1_H : ∀ (x0 : Int) r, f1 x0 = some r → FnV prg f1_g ([(intA x0)] ++ f1_c) (boolA r)) (r : Bool) (H : m_slices_ContainsFunc_Sint_int s0 f1 = some r) : FnV prg 86 [(sl tInt s0), (.f f1_g f1_c)] (boolA r) := by
  unfold m_slices_ContainsFunc_Sint_int at H
  refine fnV_of_T Tryd.func86 rfl rfl (Nat.le_of_ble_eq_true rfl) ?_
  refine te [(0, (sl tInt s0)), (1, (.f f1_g f1_c))] rfl ?_
  refine sr ?_
  refine pv tb 1 rfl ?_
  refine TO_nil ?_
  refine sr ?_
  obtain ⟨r_1, h_2, H⟩ := bind_inv H
  refine pv tb 2 rfl ?_
  refine TO_cons rfl (TOp_callV (call_static ent93 rfl) (m_slices_IndexFunc_Sint_int_ok _ f1 f1_g f1_c f1_E f1_l f1_m f1_H _ h_2) (looseC rfl (looseC f1_l rfl)) rfl rfl ?_)
  refine pv tb 2 rfl ?_
  refine TO_nil ?_
  refine T_ret ?_
  obtain rfl := some_inj H
  refine end_ret (.tmp .nil) rfl rfl ⟨?_, rfl⟩
  rfl

set_option maxHeartbeats 1000000 in
theorem m_impl_areValues_1_ok (v0 : Int) (r : Bool) (H : m_impl_areValues_1 v0 = some r) : FnV prg 87 [(intA v0)] (boolA r) := by
  unfold m_impl_areValues_1 at H
  refine fnV_of_T Tryd.func87 rfl rfl (Nat.le_of_ble_eq_true rfl) ?_
  refine te [(0, (intA v0))] rfl ?_
  refine sr ?_
  refine pv tb 1 rfl ?_
  refine TO_nil ?_
  refine sr ?_
  obtain ⟨r_1, h_2, H⟩ := bind_inv H
  refine pv tb 1 rfl ?_
  refine TO_cons rfl (TOp_callV (call_static ent43 rfl) (m_impl_within_ok _ _ _ _ h_2) rfl rfl rfl ?_)
  refine pv tb 2 rfl ?_
  refine TO_nil ?_
  refine T_ret ?_
  obtain rfl := some_inj H
  refine end_ret (.tmp .nil) rfl rfl ⟨?_, rfl⟩
  rfl

set_option maxHeartbeats 1000000 in
theorem m_impl_areValues_ok (list0 : (List Int)) (r : Bool) (H : m_impl_areValues list0 = some r) : FnV prg 81 [(sl tInt list0)] (boolA r) := by
  unfold m_impl_areValues at H
  refine fnV_of_T Tryd.func81 rfl rfl (Nat.le_of_ble_eq_true rfl) ?_
  refine te [(0, (sl tInt list0))] rfl ?_
  refine sr ?_
  refine pv tb 1 rfl ?_
  refine TO_nil ?_
  refine sr ?_
  obtain ⟨r_1, h_2, H⟩ := bind_inv H
  refine pv tb 1 rfl ?_
  refine TO_cons rfl (TOp_callV (call_static ent86 rfl) (m_slices_ContainsFunc_Sint_int_ok _ (fun x0 => m_impl_areValues_1 x0) 87 [] ent87 rfl ⟨rfl, rfl⟩ (fun x0 r h => m_impl_areValues_1_ok x0  r h) _ h_2) rfl rfl rfl ?_)
  refine pv tb 2 rfl ?_
  refine TO_nil ?_
  refine T_ret ?_
  obtain rfl := some_inj H
  refine end_ret (.tmp .nil) rfl rfl ⟨?_, rfl⟩
  rfl

set_option maxHeartbeats 1000000 in
theorem m_impl_isFact_ok (relations0 : (List Relation)) (fact1 : Fact) (r : Bool) (H : m_impl_isFact relations0 fact1 = some r) : FnV prg 73 [(sl tRelation relations0), (.g (tFact.enc fact1))] (boolA r) := by
  unfold m_impl_isFact at H
  refine fnV_of_T Tryd.func73 rfl rfl (Nat.le_of_ble_eq_true rfl) ?_
  refine te [(0, (sl tRelation relations0)), (1, (.g (tFact.enc fact1)))] rfl ?_
  refine sr ?_
  refine TO_cons rfl (TOp_box rfl (boxAll rfl) rfl rfl ?_)
  refine pv tb 1 rfl ?_
  refine TO_nil ?_
  obtain ⟨t4_1, J_1, H_2⟩ := bind_inv H
  refine T_cutX (fun x => t4_1 = x) (fun (t4_1 : Bool) => [(4, (boolA t4_1))]) (fun (t4_1 : Bool) => []) ?_ ?_
  ·replace H := J_1
   refine T_regionD mixed (by kernel_rfl) ?_
   refine pq tb 3 rfl ?_
   refine TQ_pure rfl (pur_lenT (T := tRelation) sl46 rfl rfl) rfl ?_
   refine TQ_fact (len_sl (T := tRelation) (.tmp 0) rfl) (fun hl_3 => ?_)
   refine TQ_pure rfl (pur_sub rfl rfl rfl (fits64 (by omega) (by omega))) rfl ?_
   obtain ⟨r_4, h_5, H⟩ := bind_inv H
   refine TQ_callV rfl (call_static ent43 rfl) (m_impl_within_ok _ _ _ _ h_5) rfl rfl ?_
   refine pq tb 1 rfl ?_
   refine TQ_split (t := r_4) 11 rfl (fun g_6 => ?_) (fun g_6 => ?_)
   ·replace H := cond_t g_6 H
    refine pq tb 2 rfl ?_
    refine TQ_on rfl rfl (by decide) rfl (pur_lenT (T := tInt) sl38 rfl rfl) rfl ?_
    obtain ⟨v_7, h_8, H⟩ := bind_inv H
    obtain ⟨n_9, hz_10, hv_11⟩ := getI_inv h_8
    refine pq tb 3 rfl ?_
    refine TQ_on rfl rfl (by decide) rfl (pur_ixT (T := tRelation) sl46 rfl rfl hz_10 hv_11 rfl) rfl ?_
    refine pq tb 1 rfl ?_
    refine tqe [(3, (.b 0 0)), (11, (boolA true)), (14, (intA (fact1.values.length : Int))), (19, (.q (flat tRelation.enc relations0) (n_9 * tRelation.k + 1)))] rfl ?_
    refine TQ_on rfl rfl (by decide) rfl (pur_ldT (T := tRelation) (i := n_9) (off := 1) rfl one3 rfl rfl hv_11 rfl) rfl ?_
    refine pq tb 3 rfl ?_
    refine TQ_split (t := decide ((fact1.values.length : Int) = v_7.arity)) 23 rfl (fun g_12 => ?_) (fun g_12 => ?_)
    ·replace H := cond_t g_12 H
     obtain ⟨r_13, h_14, H⟩ := bind_inv H
     refine pq tb 2 rfl ?_
     refine TQ_onV rfl rfl (by decide) rfl (call_static ent81 rfl) (m_impl_areValues_ok _ _ h_14) rfl rfl ?_
     refine pq tb 2 rfl ?_
     refine TQ_nil ?_
     exact joined r_13 (w0 0) (some_inj H).symm
    ·replace H := cond_f g_12 H
     refine pq tb 5 rfl ?_
     refine TQ_nil ?_
     exact joined false (w0 0) (some_inj H).symm
   ·replace H := cond_f g_6 H
    refine pq tb 8 rfl ?_
    refine tqe [(3, (.b 0 0)), (11, (boolA false)), (14, (.v undef)), (19, (.v undef))] rfl ?_
    refine pq tb 9 rfl ?_
    refine TQ_nil ?_
    exact joined false (w0 0) (some_inj H).symm
  ·rintro _ rfl
   replace H := H_2
   refine T_ret ?_
   obtain rfl := some_inj H
   refine end_ret (.tmp .nil) rfl rfl ⟨?_, rfl⟩
   rfl

set_option maxHeartbeats 1000000 in
theorem m_impl_IsValidFact_ok (relations0 : (List Relation)) (fact1 : Fact) (r : Bool) (H : m_impl_IsValidFact relations0 fact1 = some r) : FnV prg 60 [(sl tRelation relations0), (.g (tFact.enc fact1))] (boolA r) := by
  unfold m_impl_IsValidFact at H
  refine fnV_of_T Tryd.func60 rfl rfl (Nat.le_of_ble_eq_true rfl) ?_
  refine te [(0, (sl tRelation relations0)), (1, (.g (tFact.enc fact1)))] rfl ?_
  refine sr ?_
  refine TO_cons rfl (TOp_box rfl (boxAll rfl) rfl rfl ?_)
  refine pv tb 1 rfl ?_
  refine TO_nil ?_
  obtain ⟨t4_1, J_1, H_2⟩ := bind_inv H
  refine T_cutX (fun x => t4_1 = x) (fun (t4_1 : Bool) => [(4, (boolA t4_1))]) (fun (t4_1 : Bool) => []) ?_ ?_
  ·replace H := J_1
   refine T_region ?_
   obtain ⟨r_3, h_4, H⟩ := bind_inv H
   refine pv tb 1 rfl ?_
   refine TO_cons rfl (TOp_callV (call_static ent72 rfl) (m_impl_AreValidRelations_ok _ _ h_4) rfl rfl rfl ?_)
   refine pv tb 1 rfl ?_
   refine TO_split (t := r_3) 7 rfl (fun g_5 => ?_) (fun g_5 => ?_)
   ·replace H := cond_t g_5 H
    obtain ⟨r_6, h_7, H⟩ := bind_inv H
    refine pv tb 2 rfl ?_
    refine TO_on rfl rfl (by decide) rfl rfl (TOp_callV (call_static ent73 rfl) (m_impl_isFact_ok _ _ _ h_7) rfl rfl rfl ?_)
    refine pv tb 2 rfl ?_
    refine TO_nil ?_
    exact joined r_6 (w0 0) (some_inj H).symm
   ·replace H := cond_f g_5 H
    refine pv tb 5 rfl ?_
    refine TO_nil ?_
    exact joined false (w0 0) (some_inj H).symm
  ·rintro _ rfl
   replace H := H_2
   refine T_ret ?_
   obtain rfl := some_inj H
   refine end_ret (.tmp .nil) rfl rfl ⟨?_, rfl⟩
   rfl

theorem m_strings_Join_ok (s0 : List ByteArray) (v1 : ByteArray) (r : ByteArray) (H : m_strings_Join s0 v1 = some r) : FnV prg 32 [sl tStr s0, strA v1] (strA r) := by
  unfold m_strings_Join at H
  split at H
  case isFalse => cases H
  rename_i h0
  cases H
  refine FnV.ofStrs (fun e ad c w => ?_) fun b o c w hc hb hn => ?_
  ·subst e
   refine Calls.mono (Any.strings_Join_none shl156 shl156X ad c v1 w) fun e w' h => ?_
   rw [h.2]
   exact ⟨h.1, Go.RowKit.Below.refl _ _⟩
  ·exact Any.strings_Join shl156 shl156X b o c s0 v1 w hc hb h0.1 hn h0.2


set_option maxHeartbeats 1000000 in
theorem m_impl_barred_ok (parts0 : (List ByteArray)) (at1 : Int) (r : ByteArray) (H : m_impl_barred parts0 at1 = some r) : FnV prg 61 [(sl tStr parts0), (intA at1)] (strA r) := by
  unfold m_impl_barred at H
  refine fnV_of_T Tryd.func61 rfl rfl (Nat.le_of_ble_eq_true rfl) ?_
  refine te [(0, (sl tStr parts0)), (1, (intA at1))] rfl ?_
  refine sr ?_
  refine pv tb 1 rfl ?_
  refine TO_nil ?_
  refine sr ?_
  obtain ⟨ys_1, h_2, H⟩ := bind_inv H
  refine pv tb 2 rfl ?_
  refine Tp rfl rfl (pur_cutT (T := tStr) (lo := none) (hi := (some (.tmp 7))) sl66 rfl rfl ⟨_, rfl⟩ h_2 rfl) rfl ?_
  obtain ⟨r_3, h_4, H⟩ := bind_inv H
  refine TO_cons rfl (TOp_callV (call_static ent32 rfl) (m_strings_Join_ok _ _ _ h_4) rfl rfl rfl ?_)
  refine pv tb 1 rfl ?_
  refine TO_nil ?_
  refine T_seq ?_
  refine sr ?_
  refine pv tb 2 rfl ?_
  refine Tp rfl rfl (pur_lenT (T := tStr) sl66 rfl rfl) rfl ?_
  refine pv tb 1 rfl ?_
  refine TO_nil ?_
  refine T_cond (t := decide (at1 < (parts0.length : Int))) rfl (fun c_5 => ?_) (fun c_5 => ?_)
  ·replace H := cond_t c_5 H
   refine T_region ?_
   obtain ⟨ys_6, h_7, H⟩ := bind_inv H
   refine pv tb 3 rfl ?_
   refine Tp rfl rfl (pur_cutT (T := tStr) (lo := (some (.tmp 16))) (hi := none) sl66 rfl ⟨_, rfl⟩ rfl h_7 rfl) rfl ?_
   obtain ⟨r_8, h_9, H⟩ := bind_inv H
   refine TO_cons rfl (TOp_callV (call_static ent32 rfl) (m_strings_Join_ok _ _ _ h_9) rfl rfl rfl ?_)
   obtain ⟨cat_10, h_11, H⟩ := bind_inv H
   refine Tp rfl rfl (pur_cat rfl rfl rfl h_11) rfl ?_
   obtain ⟨cat_12, h_13, H⟩ := bind_inv H
   refine Tp rfl rfl (pur_cat rfl rfl rfl h_13) rfl ?_
   refine pv tb 1 rfl ?_
   refine TO_nil ?_
   refine te [(5, (strA cat_12))] rfl ?_
   refine sr ?_
   refine pv tb 2 rfl ?_
   refine TO_nil ?_
   refine T_ret ?_
   obtain rfl := some_inj H
   refine end_ret (.tmp .nil) rfl rfl ⟨?_, rfl⟩
   rfl
  ·replace H := cond_f c_5 H
   refine T_skip ?_
   refine sr ?_
   refine pv tb 2 rfl ?_
   refine TO_nil ?_
   refine T_ret ?_
   obtain rfl := some_inj H
   refine end_ret (.tmp .nil) rfl rfl ⟨?_, rfl⟩
   rfl

set_option maxHeartbeats 1000000 in
theorem m_impl_FormatFact_ok (relations0 : (List Relation)) (fact1 : Fact) (r : ByteArray) (H : m_impl_FormatFact relations0 fact1 = some r) : FnV prg 42 [(sl tRelation relations0), (.g (tFact.enc fact1))] (strA r) := by
  unfold m_impl_FormatFact at H
  refine fnV_of_T Tryd.func42 rfl rfl (Nat.le_of_ble_eq_true rfl) ?_
  refine te [(0, (sl tRelation relations0)), (1, (.g (tFact.enc fact1)))] rfl ?_
  refine sr ?_
  refine TO_cons rfl (TOp_box rfl (boxAll rfl) rfl rfl ?_)
  refine pv tb 1 rfl ?_
  refine TO_nil ?_
  refine T_seq ?_
  refine sr ?_
  obtain ⟨r_1, h_2, H⟩ := bind_inv H
  refine pv tb 2 rfl ?_
  refine TO_cons rfl (TOp_callV (call_static ent60 rfl) (m_impl_IsValidFact_ok _ _ _ h_2) rfl rfl rfl ?_)
  refine pv tb 1 rfl ?_
  refine TO_nil ?_
  refine T_cond (t := (!r_1)) rfl (fun c_3 => ?_) (fun c_3 => ?_)
  ·replace H := cond_t c_3 H
   refine sr ?_
   refine pv tb 1 rfl ?_
   refine TO_nil ?_
   refine T_ret ?_
   refine then_ret ?_
   obtain rfl := some_inj H
   refine end_ret (.tmp .nil) rfl rfl ⟨?_, rfl⟩
   rfl
  ·replace H := cond_f c_3 H
   refine T_skip ?_
   refine sr ?_
   refine TO_cons rfl (TOp_lit (nn := 0) (k := 1) sl66 zero9 rfl rfl rfl rfl (by decide) ?_)
   refine TO_st (σ' := [.box [(intA fact1.relation), (sl tInt fact1.values)], .row (flat tStr.enc ([] : (List ByteArray)))]) rfl ?_
   refine pv tb 1 rfl ?_
   refine TO_nil ?_
   refine T_seq ?_
   refine sr ?_
   refine pv tb 2 rfl ?_
   refine Tp rfl rfl (pur_lenT (T := tInt) sl38 rfl rfl) rfl ?_
   refine pv tb 1 rfl ?_
   refine TO_nil ?_
   obtain ⟨O5_, L5_, N5_⟩ := bind_inv H
   clear H
   obtain ⟨B5_, hb5, L5_⟩ := gen_forS L5_
   refine T_block ?_
   refine T_loopX (fun k => fun (⟨t_4, parts5⟩ : Nat × (List ByteArray)) => k = fact1.values.length - t_4 ∧ forS B5_ (fact1.values.drop t_4) (t_4 : Int) parts5 = some O5_) (fun (⟨t_4, parts5⟩ : Nat × (List ByteArray)) => [(0, (sl tRelation relations0)), (3, (.b 0 0)), (5, (.m [1] 0 parts5.length tStr.k)), (15, (sl tInt fact1.values)), (16, (intA (fact1.values.length : Int))), (17, (intA (t_4 : Int)))]) (fun (⟨t_4, parts5⟩ : Nat × (List ByteArray)) => [.box [(intA fact1.relation), (sl tInt fact1.values)], .row (flat tStr.enc parts5)]) _ (0, ([] : (List ByteArray))) (w0 2) ⟨rfl, L5_⟩ ?_
   rintro _ ⟨t_4, parts5⟩ ⟨rfl, L5_⟩
   refine T_fact (len_sl (T := tInt) (.tmp 15) rfl) (fun hl5 => ?_)
   refine sr ?_
   refine pv tb 1 rfl ?_
   refine TO_nil ?_
   refine T_seq ?_
   refine T_cond (t := decide ((t_4 : Int) < (fact1.values.length : Int))) rfl (fun d5 => ?_) (fun d5 => ?_)
   ·replace d5 := of_decide_eq_true d5
    obtain ⟨x_t_4, hx_t_4⟩ : ∃ v, (fact1.values)[t_4]? = some v := ⟨_, List.getElem?_eq_getElem (by omega)⟩
    obtain ⟨C5_, H, K5_⟩ := forS_step L5_ hx_t_4
    rw [hb5] at H
    refine T_skip ?_
    refine T_seq ?_
    refine T_block ?_
    refine sr ?_
    refine Tp rfl rfl (pur_ixT (T := tInt) sl38 rfl rfl rfl hx_t_4 rfl) rfl ?_
    refine Tp rfl rfl (pur_ldT (T := tInt) (i := t_4) (off := 0) rfl one3 rfl rfl hx_t_4 rfl) rfl ?_
    refine pv tb 1 rfl ?_
    refine TO_nil ?_
    refine T_region ?_
    obtain ⟨r_6, h_7, H⟩ := bind_inv H
    refine pv tb 2 rfl ?_
    refine TO_cons rfl (TOp_callV (call_static ent29 rfl) (m_impl_FormatInt_ok _ _ h_7) rfl rfl rfl ?_)
    refine TO_cons rfl (TOp_lit (nn := 1) (k := 1) sl66 zero9 rfl rfl rfl rfl (by decide) ?_)
    refine TO_st (σ' := [.box [(intA fact1.relation), (sl tInt fact1.values)], .row (flat tStr.enc parts5), .row (flat tStr.enc ([r_6] : (List ByteArray)))]) rfl ?_
    obtain ⟨us_8, h_9, H⟩ := bind_inv H
    refine TO_cons rfl (TOp_appZ (T := tStr) (f := tStr.enc) (xs := parts5) (ys := ([r_6] : (List ByteArray))) tStr.len sl66 zero9 rfl bytes9 (by decide) rfl rfl rfl rfl (src_mT (f := tStr.enc) tStr.len rfl rfl (flat_cell tStr _)) (flat_cell tStr _) h_9 (lb rfl) ?_)
    refine toe [(0, (sl tRelation relations0)), (3, (.b 0 0)), (7, (intA x_t_4)), (15, (sl tInt fact1.values)), (16, (intA (fact1.values.length : Int))), (17, (intA (t_4 : Int))), (22, (intA x_t_4)), (23, (strA r_6)), (24, (.m [2] 0 ([r_6] : (List ByteArray)).length tStr.k)), (25, (.m [1] 0 us_8.length tStr.k))] rfl ?_
    refine TO_st (σ' := [.box [(intA fact1.relation), (sl tInt fact1.values)], .row (flat tStr.enc us_8), .row (flat tStr.enc ([r_6] : (List ByteArray))), .dead]) rfl ?_
    refine pv tb 1 rfl ?_
    refine TO_nil ?_
    refine T_region ?_
    refine Tp rfl rfl (pur_add rfl rfl rfl (fits64 (by omega) (by omega))) rfl ?_
    refine pv tb 1 rfl ?_
    refine TO_nil ?_
    obtain rfl := some_inj H
    exact again (fact1.values.length - (t_4 + 1)) (t_4 + 1, us_8) (by omega) (w0 2) ⟨rfl, K5_⟩
   ·replace d5 := of_decide_eq_false d5
    obtain rfl := forS_end L5_ (by omega)
    refine T_exit ?_
    refine then_exit ?_
    refine then_exit ?_
    refine block_exit ?_
    replace H := N5_
    refine sr ?_
    obtain ⟨v_10, h_11, H⟩ := bind_inv H
    obtain ⟨n_12, hz_13, hv_14⟩ := getI_inv h_11
    refine pv tb 3 rfl ?_
    refine Tp rfl rfl (pur_ixT (T := tRelation) sl46 rfl rfl hz_13 hv_14 rfl) rfl ?_
    refine Tp rfl rfl (pur_ldTK (T := tRelation) (i := n_12) (off := 0) rfl agg99 rfl rfl hv_14 (by decide) rfl) rfl ?_
    refine TO_cons rfl (TOp_alloc zero99 rfl rfl ?_)
    refine TO_cons rfl (TOp_storeB sz99 rfl rfl rfl rfl rfl rfl rfl (by decide) (lb rfl) rfl ?_)
    refine TO_st (σ' := [.box [(intA fact1.relation), (sl tInt fact1.values)], .row (flat tStr.enc parts5), .box [(strA v_10.name), (intA v_10.arity), (intA v_10.keyLength)]]) rfl ?_
    refine TO_nil ?_
    refine T_seq ?_
    refine T_frz1 1 (E' := [(5, (sl tStr parts5)), (8, (.b 2 0))]) rfl rfl (lb rfl) ⟨fz1E, (.keep rfl), trivial⟩ ?_
    refine T_st (σ' := [.box [(intA fact1.relation), (sl tInt fact1.values)], .dead, .box [(strA v_10.name), (intA v_10.arity), (intA v_10.keyLength)]]) rfl ?_
    refine T_regionD mixed (by kernel_rfl) ?_
    obtain ⟨r_15, h_16, H⟩ := bind_inv H
    refine pq tb 5 rfl ?_
    refine TQ_callV rfl (call_static ent61 rfl) (m_impl_barred_ok _ _ _ h_16) rfl rfl ?_
    obtain ⟨cat_17, h_18, H⟩ := bind_inv H
    refine TQ_pure rfl (pur_cat rfl rfl rfl h_18) rfl ?_
    refine pq tb 1 rfl ?_
    refine TQ_nil ?_
    refine te [(4, (strA cat_17))] rfl ?_
    refine T_ret ?_
    obtain rfl := some_inj H
    refine end_ret (.tmp .nil) rfl rfl ⟨?_, rfl⟩
    rfl

set_option maxHeartbeats 1000000 in
theorem m_slices_IndexFunc_Simpl_Relation_impl_Relation_ok (s0 : (List Relation)) (f1 : (Relation → Option Bool)) (f1_g : Nat) (f1_c : List A) (f1_E : EnT prg f1_g) (f1_l : looseL f1_c = true) (f1_m : firmL f1_c = true ∧ fzL f1_c = f1_c) (f1_H : ∀ (x0 : Relation) r, f1 x0 = some r → FnV prg f1_g ([(.g (tRelation.enc x0))] ++ f1_c) (boolA r)) (r : Int) (H : m_slices_IndexFunc_Simpl_Relation_impl_Relation s0 f1 = some r) : FnV prg 74 [(sl tRelation s0), (.f f1_g f1_c)] (intA r) := by
  unfold m_slices_IndexFunc_Simpl_Relation_impl_Relation at H
  refine fnV_of_T Tryd.func74 rfl rfl (Nat.le_of_ble_eq_true rfl) ?_
  refine te [(0, (sl tRelation s0)), (1, (.f f1_g f1_c))] rfl ?_
  refine sr ?_
  refine pv tb 1 rfl ?_
  refine TO_nil ?_
  refine T_seq ?_
  refine sr ?_
  refine pv tb 1 rfl ?_
  refine Tp rfl rfl (pur_lenT (T := tRelation) sl46 rfl rfl) rfl ?_
  refine pv tb 1 rfl ?_
  refine TO_nil ?_
  obtain ⟨O2_, L2_, N2_⟩ := bind_inv H
  clear H
  obtain ⟨B2_, hb2, L2_⟩ := gen_forL L2_
  refine T_block ?_
  refine T_loopX (fun k => fun (t_1 : Nat) => k = s0.length - t_1 ∧ forL B2_ (s0.drop t_1) (t_1 : Int) () = some O2_) (fun (t_1 : Nat) => [(0, (sl tRelation s0)), (1, (.f f1_g f1_c)), (7, (intA (s0.length : Int))), (8, (intA (t_1 : Int)))]) (fun (t_1 : Nat) => []) _ (0 : Nat) (wp 0 (lb rfl) rfl rfl (by simp only [namesE, A.names, namesL_enc, Bool.false_or, Bool.or_false, looseL_names f1_l]) rfl rfl) ⟨rfl, L2_⟩ ?_
  rintro _ t_1 ⟨rfl, L2_⟩
  refine T_fact (len_sl (T := tRelation) (.tmp 0) rfl) (fun hl2 => ?_)
  refine sr ?_
  refine pv tb 1 rfl ?_
  refine TO_nil ?_
  refine T_seq ?_
  refine T_cond (t := decide ((t_1 : Int) < (s0.length : Int))) rfl (fun d2 => ?_) (fun d2 => ?_)
  ·replace d2 := of_decide_eq_true d2
   obtain ⟨x_t_1, hx_t_1⟩ : ∃ v, (s0)[t_1]? = some v := ⟨_, List.getElem?_eq_getElem (by omega)⟩
   obtain ⟨C2_, H, K2_⟩ := forL_step L2_ hx_t_1
   rw [hb2] at H
   refine T_skip ?_
   refine T_seq ?_
   refine T_block ?_
   refine sr ?_
   refine pv tb 2 rfl ?_
   refine TO_nil ?_
   refine sr ?_
   refine pv tb 3 rfl ?_
   refine Tp rfl rfl (pur_ixT (T := tRelation) sl46 rfl rfl rfl hx_t_1 rfl) rfl ?_
   refine Tp rfl rfl (pur_ldTK (T := tRelation) (i := t_1) (off := 0) rfl agg99 rfl rfl hx_t_1 (by decide) rfl) rfl ?_
   obtain ⟨r_3, h_4, H⟩ := bind_inv H
   refine TO_cons rfl (TOp_callV (call_closure f1_E rfl rfl) (f1_H _  _ h_4) (looseL_app rfl f1_l) rfl rfl ?_)
   refine TO_nil ?_
   refine T_cond (t := r_3) rfl (fun c_5 => ?_) (fun c_5 => ?_)
   ·replace H := cond_t c_5 H
    refine sr ?_
    refine pv tb 2 rfl ?_
    refine TO_nil ?_
    refine T_ret ?_
    refine block_ret ?_
    refine then_ret ?_
    refine then_ret ?_
    refine block_ret ?_
    refine then_ret ?_
    obtain rfl := some_inj H
    obtain rfl := some_inj K2_
    replace H := onS_r N2_
    obtain rfl := some_inj H
    refine end_ret (.tmp .nil) rfl rfl ⟨?_, rfl⟩
    rfl
   ·replace H := cond_f c_5 H
    refine T_skip ?_
    refine T_region ?_
    refine Tp rfl rfl (pur_add rfl rfl rfl (fits64 (by omega) (by omega))) rfl ?_
    refine pv tb 1 rfl ?_
    refine TO_nil ?_
    obtain rfl := some_inj H
    exact again (s0.length - (t_1 + 1)) (t_1 + 1) (by omega) (wp 0 (lb rfl) rfl rfl (by simp only [namesE, A.names, namesL_enc, Bool.false_or, Bool.or_false, looseL_names f1_l]) rfl rfl) ⟨rfl, K2_⟩
  ·replace d2 := of_decide_eq_false d2
   obtain rfl := forL_end L2_ (by omega)
   refine T_exit ?_
   refine then_exit ?_
   refine then_exit ?_
   refine block_exit ?_
   replace H := onS_l N2_
   refine sr ?_
   refine pv tb 1 rfl ?_
   refine TO_nil ?_
   refine T_ret ?_
   obtain rfl := some_inj H
   refine end_ret (.tmp .nil) rfl rfl ⟨?_, rfl⟩
   rfl

set_option maxHeartbeats 1000000 in
theorem m_impl_RelationIndex_1_ok (r0 : Relation) (fv1 : ByteArray) (r : Bool) (H : m_impl_RelationIndex_1 r0 fv1 = some r) : FnV prg 75 [(.g (tRelation.enc r0)), (.q [(strA fv1)] 0)] (boolA r) := by
  unfold m_impl_RelationIndex_1 at H
  refine fnV_of_T Tryd.func75 rfl rfl (Nat.le_of_ble_eq_true rfl) ?_
  refine te [(0, (.g (tRelation.enc r0))), (1, (.q [(strA fv1)] 0))] rfl ?_
  refine sr ?_
  refine TO_cons rfl (TOp_box rfl (boxAll rfl) rfl rfl ?_)
  refine pv tb 1 rfl ?_
  refine TO_nil ?_
  refine sr ?_
  refine pv tb 3 rfl ?_
  refine Tp rfl rfl (pur_eqlS rfl rfl rfl) rfl ?_
  refine pv tb 1 rfl ?_
  refine TO_nil ?_
  refine T_ret ?_
  obtain rfl := some_inj H
  refine end_ret (.tmp .nil) rfl rfl ⟨?_, rfl⟩
  rfl

set_option maxHeartbeats 1000000 in
theorem m_impl_RelationIndex_ok (relations0 : (List Relation)) (name1 : ByteArray) (r : Int) (H : m_impl_RelationIndex relations0 name1 = some r) : FnV prg 64 [(sl tRelation relations0), (strA name1)] (intA r) := by
  unfold m_impl_RelationIndex at H
  refine fnV_of_T Tryd.func64 rfl rfl (Nat.le_of_ble_eq_true rfl) ?_
  refine te [(0, (sl tRelation relations0)), (1, (strA name1))] rfl ?_
  refine sr ?_
  refine TO_cons rfl (TOp_box rfl (boxAll rfl) rfl rfl ?_)
  refine pv tb 1 rfl ?_
  refine TO_nil ?_
  refine sr ?_
  obtain ⟨r_1, h_2, H⟩ := bind_inv H
  refine pv tb 2 rfl ?_
  refine TO_cons rfl (TOp_callB (call_static ent74 rfl) (frz_cons (frz_loose rfl) (frz_cons (frzOK_f (frz_cons (frzOK_b (xs := [(strA name1)]) (ys := [(strA name1)]) rfl rfl rfl) frz_nil).1 (frz_cons (frzOK_b (xs := [(strA name1)]) (ys := [(strA name1)]) rfl rfl rfl) frz_nil).2) frz_nil)).1 (frz_cons (frz_loose rfl) (frz_cons (frzOK_f (frz_cons (frzOK_b (xs := [(strA name1)]) (ys := [(strA name1)]) rfl rfl rfl) frz_nil).1 (frz_cons (frzOK_b (xs := [(strA name1)]) (ys := [(strA name1)]) rfl rfl rfl) frz_nil).2) frz_nil)).2 (m_slices_IndexFunc_Simpl_Relation_impl_Relation_ok _ (fun x0 => m_impl_RelationIndex_1 x0 name1) 75 [(.q [(strA name1)] 0)] ent75 rfl ⟨rfl, rfl⟩ (fun x0 r h => m_impl_RelationIndex_1_ok x0 name1 r h) _ h_2) rfl ?_)
  refine pv tb 1 rfl ?_
  refine TO_nil ?_
  refine T_ret ?_
  obtain rfl := some_inj H
  refine end_ret (.tmp .nil) rfl rfl ⟨?_, rfl⟩
  rfl

set_option maxHeartbeats 1000000 in
theorem m_impl_ParseFact_own (relations0 : (List Relation)) (s1 : ByteArray) (r : (Fact × Bool)) (H : m_impl_ParseFact relations0 s1 = some r) : FnO prg 48 [(sl tRelation relations0), (strA s1)] (.t [(.g [(intA r.1.relation), (.m [0] 0 r.1.values.length tInt.k)]), (boolA r.2)]) [.row (flat tInt.own r.1.values)] := by
  unfold m_impl_ParseFact at H
  refine fnO_of_T Tryd.func48 rfl rfl (Nat.le_of_ble_eq_true rfl) ?_
  refine te [(0, (sl tRelation relations0)), (1, (strA s1))] rfl ?_
  refine sr ?_
  refine TO_cons rfl (TOp_alloc zero51 rfl rfl ?_)
  refine pv tb 1 rfl ?_
  refine TO_nil ?_
  refine T_seq ?_
  refine sr ?_
  refine pv tb 1 rfl ?_
  refine Tp rfl rfl (pur_eqlS rfl rfl rfl) rfl ?_
  refine TO_nil ?_
  refine T_cond (t := decide (s1 = (⟨#[]⟩ : ByteArray))) rfl (fun c_1 => ?_) (fun c_1 => ?_)
  ·replace H := cond_t c_1 H
   refine sr ?_
   refine Tp rfl rfl (pur_build bld51 rfl rfl) rfl ?_
   refine TO_cons rfl (TOp_storeB sz51 rfl rfl rfl rfl rfl rfl rfl (by decide) (lb rfl) rfl ?_)
   refine TO_st (σ' := [.box [(intA 0), .n]]) rfl ?_
   refine pv tb 1 rfl ?_
   refine TO_nil ?_
   refine T_row0 ?_
   refine T_boxle (xs := [(intA 0), .n]) (ys := [(intA 0), (.m [1] 0 ([] : (List Int)).length tInt.k)]) 0 rfl (leCons (leR rfl) (leCons leM leNil)) ?_
   refine T_st (σ' := [.box [(intA 0), (.m [1] 0 ([] : (List Int)).length tInt.k)], .row (flat tInt.own ([] : (List Int)))]) rfl ?_
   refine T_ret ?_
   refine then_ret ?_
   obtain rfl := some_inj H
   exact end_pick (.cellK rfl agg51 rfl (lb rfl) (.tmp .nil)) rfl [1] (by decide) rfl rfl rfl rfl rfl rfl
  ·replace H := cond_f c_1 H
   refine T_skip ?_
   refine sr ?_
   obtain ⟨ss_2, h_3, H⟩ := bind_inv H
   refine pv tb 2 rfl ?_
   refine Tp rfl rfl (pur_cutB (lo := none) (hi := (some (.const (.int .i64 1)))) (by kernel_rfl) rfl rfl ⟨_, rfl⟩ h_3 rfl) rfl ?_
   obtain ⟨r_4, h_5, H⟩ := bind_inv H
   refine TO_cons rfl (TOp_callV (call_static ent64 rfl) (m_impl_RelationIndex_ok _ _ _ h_5) rfl rfl rfl ?_)
   refine Tp rfl rfl (pur_build bld51 rfl rfl) rfl ?_
   refine TO_cons rfl (TOp_alloc zero51 rfl rfl ?_)
   refine TO_cons rfl (TOp_storeB sz51 rfl rfl rfl rfl rfl rfl rfl (by decide) (lb rfl) rfl ?_)
   refine TO_st (σ' := [.box [(intA 0), .n], .box [(intA r_4), .n]]) rfl ?_
   refine TO_nil ?_
   refine T_seq ?_
   refine sr ?_
   refine pv tb 1 rfl ?_
   refine TO_nil ?_
   refine T_row0 ?_
   refine T_boxle (xs := [(intA r_4), .n]) (ys := [(intA r_4), (.m [2] 0 ([] : (List Int)).length tInt.k)]) 1 rfl (leCons (leR rfl) (leCons leM leNil)) ?_
   refine T_st (σ' := [.box [(intA 0), .n], .box [(intA r_4), (.m [2] 0 ([] : (List Int)).length tInt.k)], .row (flat tInt.enc ([] : (List Int)))]) rfl ?_
   obtain ⟨_, h_8, H⟩ := bind_inv H
   replace h_8 := gN_inv h_8
   obtain ⟨O7_, L7_, N7_⟩ := bind_inv H
   clear H
   obtain ⟨B7_, hb7, L7_⟩ := gen_forM L7_
   refine T_block ?_
   refine T_loopX (fun k => fun (⟨i_6, box1_values⟩ : Int × (List Int)) => k = ((s1.size : Int) - i_6).toNat ∧ 1 ≤ i_6 ∧ forM B7_ ((s1.size : Int) - i_6).toNat i_6 box1_values = some O7_) (fun (⟨i_6, box1_values⟩ : Int × (List Int)) => [(0, (sl tRelation relations0)), (1, (strA s1)), (4, (.b 0 0)), (6, (.b 1 0)), (7, (intA (i_6 : Int)))]) (fun (⟨i_6, box1_values⟩ : Int × (List Int)) => [.box [(intA 0), .n], .box [(intA r_4), (.m [2] 0 box1_values.length tInt.k)], .row (flat tInt.enc box1_values)]) _ (1, ([] : (List Int))) (w0 3) ⟨rfl, Int.le_refl _, L7_⟩ ?_
   rintro _ ⟨i_6, box1_values⟩ ⟨rfl, hi7, L7_⟩
   refine T_seq ?_
   refine sr ?_
   refine pv tb 2 rfl ?_
   refine Tp rfl rfl (pur_len_s (by kernel_rfl) rfl rfl) rfl ?_
   refine pv tb 1 rfl ?_
   refine TO_nil ?_
   refine T_cond (t := decide ((i_6 : Int) < (s1.size : Int))) rfl (fun d7 => ?_) (fun d7 => ?_)
   ·replace d7 := of_decide_eq_true d7
    obtain ⟨C7_, H, K7_⟩ := forM_step L7_ d7
    rw [hb7] at H
    refine T_skip ?_
    refine T_seq ?_
    refine T_block ?_
    refine sr ?_
    obtain ⟨b_9, h_10, H⟩ := bind_inv H
    refine pv tb 2 rfl ?_
    refine Tp rfl rfl (pur_ixS (by kernel_rfl) rfl rfl h_10 rfl) rfl ?_
    refine pv tb 1 rfl ?_
    refine TO_nil ?_
    refine T_cond (t := decide (b_9 ≠ 124)) rfl (fun c_11 => ?_) (fun c_11 => ?_)
    ·replace H := cond_t c_11 H
     obtain ⟨b_12, h_13, H⟩ := bind_inv H
     obtain ⟨us_14, h_15, H⟩ := bind_inv H
     refine T_pad ?_
     refine T_pad ?_
     refine T_regionPh 3 10 mixed rfl (by kernel_rfl) ?_
     refine pa tb [0, 1, 2, 3] 6 rfl (by kernel_rfl) rfl ?_
     refine tf 4 rfl (pur_ixS (by kernel_rfl) rfl rfl h_13 rfl) rfl rfl (by kernel_rfl) ?_
     refine tf 5 rfl (pur_convI (k := .i64) (k' := .u8) ⟨_, Tryd.underlying5⟩ Tryd.underlying3 rfl rfl) rfl rfl (by kernel_rfl) ?_
     refine pa tb [6] 3 rfl (by kernel_rfl) rfl ?_
     refine t1 7 (by kernel_rfl) rfl rfl (TOp_lit (nn := 1) (k := 1) sl38 zero3 rfl rfl rfl rfl (by decide) ?_)
     refine tmw 3 5 (by decide) (lb rfl) rfl rfl (lb rfl) rfl ?_
     refine t1 8 (by kernel_rfl) rfl rfl (TOp_appY (T := tInt) (f := tInt.enc) (xs := box1_values) (ys := ([(w64 ((w64 b_12) - 48))] : (List Int))) tInt.len sl38 zero3 rfl bytes3 (by decide) rfl rfl rfl rfl (src_mT (f := tInt.enc) tInt.len rfl rfl (flat_cell tInt _)) (flat_cell tInt _) h_15 ?_)
     refine tmw 4 6 (by decide) (lb rfl) rfl rfl (lb rfl) rfl ?_
     refine tae [(0, (sl tRelation relations0)), (1, (strA s1)), (4, (.b 0 0)), (6, (.b 1 0)), (7, (intA (i_6 : Int))), (34, (.m [4] 0 us_14.length tInt.k))] rfl ?_
     refine TA_st (σ' := [.dead, .dead, .dead, .row (flat tInt.enc ([(w64 ((w64 b_12) - 48))] : (List Int))), .row (flat tInt.enc us_14), .dead, .dead]) rfl ?_
     refine pa tb [9] 0 rfl (by kernel_rfl) rfl ?_
     refine TA_nil (by kernel_rfl) ?_
     refine TA_st (σ' := [.box [(intA 0), .n], .box [(intA r_4), (.m [2] 0 box1_values.length tInt.k)], .dead, .row (flat tInt.enc ([(w64 ((w64 b_12) - 48))] : (List Int))), .row (flat tInt.enc us_14), .dead, .dead]) rfl ?_
     refine tmv 2 4 (by decide) (lb rfl) rfl rfl (lb rfl) ?_
     refine TA_st (σ' := [.box [(intA 0), .n], .box [(intA r_4), .j], .row (flat tInt.enc us_14), .row (flat tInt.enc ([(w64 ((w64 b_12) - 48))] : (List Int))), .dead, .dead, .dead]) rfl ?_
     refine t1 10 (by kernel_rfl) rfl rfl (TOp_storeB sz38 rfl rfl rfl rfl rfl rfl rfl (by decide) (lb rfl) rfl ?_)
     refine TA_st (σ' := [.box [(intA 0), .n], .box [(intA r_4), (.m [2] 0 us_14.length tInt.k)], .row (flat tInt.enc us_14), .row (flat tInt.enc ([(w64 ((w64 b_12) - 48))] : (List Int))), .dead, .dead, .dead]) rfl ?_
     refine TA_nil (by kernel_rfl) ?_
     refine T_region ?_
     refine pv tb 1 rfl ?_
     refine Tp rfl rfl (pur_add rfl rfl rfl (fits64 (by omega) (by omega))) rfl ?_
     refine pv tb 1 rfl ?_
     refine TO_nil ?_
     obtain rfl := some_inj H
     exact again ((s1.size : Int) - (i_6 + 1)).toNat (i_6 + 1, us_14) (by omega) (w0 3) ⟨rfl, by omega, K7_⟩
    ·replace H := cond_f c_11 H
     refine T_skip ?_
     refine T_region ?_
     refine pv tb 1 rfl ?_
     refine Tp rfl rfl (pur_add rfl rfl rfl (fits64 (by omega) (by omega))) rfl ?_
     refine pv tb 1 rfl ?_
     refine TO_nil ?_
     obtain rfl := some_inj H
     exact again ((s1.size : Int) - (i_6 + 1)).toNat (i_6 + 1, box1_values) (by omega) (w0 3) ⟨rfl, by omega, K7_⟩
   ·replace d7 := of_decide_eq_false d7
    obtain rfl := forM_end L7_ (by omega)
    refine T_exit ?_
    refine then_exit ?_
    refine then_exit ?_
    refine block_exit ?_
    replace H := N7_
    refine T_seq ?_
    refine sr ?_
    obtain ⟨r_16, h_17, H⟩ := bind_inv H
    refine pv tb 2 rfl ?_
    refine TO_cons rfl (TOp_callB (call_static ent42 rfl) (frz_cons (frz_loose rfl) (frz_cons (frzOK_g (frz_cons (frz_loose rfl) (frz_cons (frzTE (T := tInt) rfl) frz_nil)).1 (frz_cons (frz_loose rfl) (frz_cons (frzTE (T := tInt) rfl) frz_nil)).2) frz_nil)).1 (frz_cons (frz_loose rfl) (frz_cons (frzOK_g (frz_cons (frz_loose rfl) (frz_cons (frzTE (T := tInt) rfl) frz_nil)).1 (frz_cons (frz_loose rfl) (frz_cons (frzTE (T := tInt) rfl) frz_nil)).2) frz_nil)).2 (m_impl_FormatFact_ok _ _ _ h_17) rfl ?_)
    refine pv tb 1 rfl ?_
    refine Tp rfl rfl (pur_neqS rfl rfl rfl) rfl ?_
    refine TO_nil ?_
    refine T_cond (t := decide (r_16 ≠ s1)) rfl (fun c_18 => ?_) (fun c_18 => ?_)
    ·replace H := cond_t c_18 H
     refine sr ?_
     refine Tp rfl rfl (pur_build bld51 rfl rfl) rfl ?_
     refine TO_cons rfl (TOp_storeB sz51 rfl rfl rfl rfl rfl rfl rfl (by decide) (lb rfl) rfl ?_)
     refine TO_st (σ' := [.box [(intA 0), .n], .box [(intA r_4), (.m [2] 0 box1_values.length tInt.k)], .row (flat tInt.enc box1_values)]) rfl ?_
     refine pv tb 1 rfl ?_
     refine TO_nil ?_
     refine T_row0 ?_
     refine T_boxle (xs := [(intA 0), .n]) (ys := [(intA 0), (.m [3] 0 ([] : (List Int)).length tInt.k)]) 0 rfl (leCons (leR rfl) (leCons leM leNil)) ?_
     refine T_st (σ' := [.box [(intA 0), (.m [3] 0 ([] : (List Int)).length tInt.k)], .box [(intA r_4), (.m [2] 0 box1_values.length tInt.k)], .row (flat tInt.enc box1_values), .row (flat tInt.own ([] : (List Int)))]) rfl ?_
     refine T_ret ?_
     refine then_ret ?_
     obtain rfl := some_inj H
     exact end_pick (.cellK rfl agg51 rfl (lb rfl) (.tmp .nil)) rfl [3] (by decide) rfl rfl rfl rfl rfl rfl
    ·replace H := cond_f c_18 H
     refine T_skip ?_
     refine sr ?_
     refine pv tb 1 rfl ?_
     refine TO_cons rfl (TOp_storeB sz51 rfl rfl rfl rfl rfl rfl rfl (by decide) (lb rfl) rfl ?_)
     refine TO_st (σ' := [.box [(intA r_4), (.m [2] 0 box1_values.length tInt.k)], .box [(intA r_4), (.m [2] 0 box1_values.length tInt.k)], .row (flat tInt.enc box1_values)]) rfl ?_
     refine pv tb 1 rfl ?_
     refine TO_nil ?_
     refine T_ret ?_
     obtain rfl := some_inj H
     exact end_pick (.cellK rfl agg51 rfl (lb rfl) (.tmp .nil)) rfl [2] (by decide) rfl rfl rfl rfl rfl rfl
theorem m_impl_ParseFact_ok (relations0 : (List Relation)) (s1 : ByteArray) (r : (Fact × Bool)) (H : m_impl_ParseFact relations0 s1 = some r) : FnV prg 48 [(sl tRelation relations0), (strA s1)] (.t [(.g (tFact.enc r.1)), (boolA r.2)]) := (m_impl_ParseFact_own relations0 s1 r H).frz (frzOK_t (frz_cons (frzOK_g (frz_cons (frz_loose rfl) (frz_cons (frzT (T := tInt) rfl) frz_nil)).1 (frz_cons (frz_loose rfl) (frz_cons (frzT (T := tInt) rfl) frz_nil)).2) (frz_cons (frz_loose rfl) frz_nil)).1 (frz_cons (frzOK_g (frz_cons (frz_loose rfl) (frz_cons (frzT (T := tInt) rfl) frz_nil)).1 (frz_cons (frz_loose rfl) (frz_cons (frzT (T := tInt) rfl) frz_nil)).2) (frz_cons (frz_loose rfl) frz_nil)).2)

set_option maxHeartbeats 1000000 in
theorem m_impl_ParseEdit_own (u : Nat) (db0 : Database) (s1 : ByteArray) (r : (Edit × Bool)) (H : m_impl_ParseEdit u db0 s1 = some r) : FnO prg 24 [(.g (tDatabase.enc db0)), (strA s1)] (.t [(.g [(intA r.1.kind), (intA r.1.fact.relation), (.m [0] 0 r.1.fact.values.length tInt.k)]), (boolA r.2)]) [.row (flat tInt.own r.1.fact.values)] := by
  unfold m_impl_ParseEdit at H
  refine fnO_of_T Tryd.func24 rfl rfl (Nat.le_of_ble_eq_true rfl) ?_
  refine te [(0, (.g (tDatabase.enc db0))), (1, (strA s1))] rfl ?_
  refine sr ?_
  refine TO_cons rfl (TOp_box rfl (boxAll rfl) rfl rfl ?_)
  refine TO_cons rfl (TOp_alloc zero53 rfl rfl ?_)
  refine pv tb 1 rfl ?_
  refine TO_nil ?_
  refine T_seq ?_
  refine sr ?_
  refine pv tb 1 rfl ?_
  refine TO_nil ?_
  obtain ⟨O1_, L1_, N1_⟩ := bind_inv H
  clear H
  obtain ⟨B1_, hb1, L1_⟩ := gen_whileF L1_
  refine T_block ?_
  refine T_loopX (fun k => fun (kind6 : Int) => whileF B1_ k kind6 = some O1_) (fun (kind6 : Int) => [(1, (strA s1)), (2, (.b 0 0)), (4, (.b 1 0)), (6, (intA kind6))]) (fun (kind6 : Int) => [.box [(sl tRelation db0.relations), (sl tFact db0.facts)], .box [(intA 0), (intA 0), .n]]) u 1 (w0 2) L1_ ?_
  rintro _ kind6 L1_
  obtain ⟨k1, rfl, C1_, H, K1_⟩ := while_step L1_
  rw [hb1] at H
  refine T_seq ?_
  refine T_cutX (fun x => ((decide (kind6 ≤ 3)) && (decide (s1 ≠ (⟨#[]⟩ : ByteArray)))) = x) (fun (t14_2 : Bool) => [(1, (strA s1)), (2, (.b 0 0)), (4, (.b 1 0)), (6, (intA kind6)), (14, (boolA t14_2))]) (fun (t14_2 : Bool) => [.box [(sl tRelation db0.relations), (sl tFact db0.facts)], .box [(intA 0), (intA 0), .n]]) ?_ ?_
  ·skip
   refine T_region ?_
   refine pv tb 3 rfl ?_
   refine TO_split (t := decide (kind6 ≤ 3)) 11 rfl (fun g_4 => ?_) (fun g_4 => ?_)
   ·skip
    refine pv tb 1 rfl ?_
    refine TO_on rfl rfl (by decide) rfl rfl (TOp_pure (pur_neqS rfl rfl rfl) rfl ?_)
    refine pv tb 1 rfl ?_
    refine TO_nil ?_
    exact joined (decide (s1 ≠ (⟨#[]⟩ : ByteArray))) (w0 2) (by first | exact Eq.symm ((and_T g_4 rfl)))
   ·skip
    refine pv tb 3 rfl ?_
    refine TO_nil ?_
    exact joined false (w0 2) (by first | exact Eq.symm ((and_F g_4 rfl)))
  ·rintro _ rfl
   refine T_cond (t := ((decide (kind6 ≤ 3)) && (decide (s1 ≠ (⟨#[]⟩ : ByteArray))))) rfl (fun c_5 => ?_) (fun c_5 => ?_)
   ·replace H := cond_t c_5 H
    refine T_skip ?_
    refine T_seq ?_
    refine T_block ?_
    refine T_seq ?_
    refine T_seq ?_
    refine T_regionD mixed (by kernel_rfl) ?_
    obtain ⟨b_6, h_7, H⟩ := bind_inv H
    refine pq tb 1 rfl ?_
    refine TQ_pure rfl (pur_ixS (by kernel_rfl) rfl rfl h_7 rfl) rfl ?_
    obtain ⟨b_8, h_9, H⟩ := bind_inv H
    refine pq tb 1 rfl ?_
    refine TQ_pure rfl (pur_ixS (by kernel_rfl) rfl rfl h_9 rfl) rfl ?_
    refine pq tb 1 rfl ?_
    refine TQ_nil ?_
    refine T_cond (t := decide (b_6 ≠ b_8)) rfl (fun c_10 => ?_) (fun c_10 => ?_)
    ·replace H := cond_t c_10 H
     refine T_exit ?_
     refine then_exit ?_
     refine block_exit ?_
     refine T_region ?_
     refine pv tb 3 rfl ?_
     refine TO_nil ?_
     obtain rfl := some_inj H
     exact again k1 (w64 (kind6 + 1)) (Nat.lt_succ_self _) (w0 2) K1_
    ·replace H := cond_f c_10 H
     refine T_skip ?_
     obtain ⟨ss_11, h_12, H⟩ := bind_inv H
     obtain ⟨r_13, h_14, H⟩ := bind_inv H
     refine T_pad ?_
     refine T_pad ?_
     refine T_pad ?_
     refine T_cutX (fun (_ : Unit) => True) (fun _ => [(4, (.b 1 0)), (6, (intA kind6)), (7, (.b 5 0)), (8, (boolA r_13.2))]) (fun _ => [.box [(sl tRelation db0.relations), (sl tFact db0.facts)], .box [(intA 0), (intA 0), .n], .row (flat tInt.own r_13.1.values), .dead, .dead, .box [(intA r_13.1.relation), (.m [2] 0 r_13.1.values.length tInt.k)]]) ?_ ?_
     ·skip
      refine T_regionP 2 mixed rfl ?_
      refine TA_have 2 #[true, true, true, true, true, true, true, true, true, false, false] [(4, (.b 1 0)), (6, (intA kind6)), (7, (.b 5 0)), (28, (.g [(intA r_13.1.relation), (.m [3] 0 r_13.1.values.length tInt.k)])), (29, (boolA r_13.2))] [.dead, .dead, .dead, .row (flat tInt.own r_13.1.values), .dead, .box [(intA 0), .n]] ?_ (fun hj0_5 => ?_)
      ·skip
       refine t1 9 (by kernel_rfl) rfl rfl (TOp_storeB sz51 rfl rfl rfl rfl rfl rfl rfl (by decide) (lb rfl) rfl ?_)
       refine TA_st (σ' := [.dead, .dead, .dead, .row (flat tInt.own r_13.1.values), .dead, .box [(intA r_13.1.relation), (.m [3] 0 r_13.1.values.length tInt.k)]]) rfl ?_
       refine pa tb [10] 0 rfl (by kernel_rfl) rfl ?_
       refine TA_ghost (E' := [(4, (.b 1 0)), (6, (intA kind6)), (7, (.b 5 0)), (8, (boolA r_13.2))]) (σ' := [.dead, .dead, .row (flat tInt.own r_13.1.values), .dead, .dead, .box [(intA r_13.1.relation), (.m [2] 0 r_13.1.values.length tInt.k)]]) (Ghost.move 2 3 (by decide) (lb rfl) rfl rfl (lb rfl) (Ghost.weak (WeakL.to 6 (lb rfl) rfl rfl rfl rfl ⟨leR rfl, leR rfl, leR rfl, leR rfl, trivial⟩))) ?_
       exact TA_nil (by kernel_rfl) (joined () (w0 6) trivial)
      refine pa tb [0, 1, 2] 8 rfl (by kernel_rfl) rfl ?_
      refine tf 3 rfl (pur_cutB (lo := (some (.const (.int .i64 1)))) (hi := none) (by kernel_rfl) rfl ⟨_, rfl⟩ rfl h_12 rfl) rfl rfl (by kernel_rfl) ?_
      refine TA_all [4, 8] (by kernel_rfl) (by decide) ⟨?_, ?_, trivial⟩
      ·skip
       refine ⟨_, rfl, rfl, (TOp_callO (call_static ent48 rfl) rfl (m_impl_ParseFact_own _ _ _ h_14) rfl rfl rfl ?_)⟩
       refine tae [(1, (strA s1)), (2, (.b 0 0)), (4, (.b 1 0)), (6, (intA kind6)), (23, (.b 0 0)), (24, (sl tRelation db0.relations)), (25, (strA s1)), (26, (strA ss_11)), (27, (.t [(.g [(intA r_13.1.relation), (.m [5] 0 r_13.1.values.length tInt.k)]), (boolA r_13.2)]))] rfl ?_
       refine TA_st (σ' := [.dead, .dead, .dead, .dead, .dead, .row (flat tInt.own r_13.1.values)]) rfl ?_
       refine TA_ghost (E' := [(1, (strA s1)), (2, (.b 0 0)), (4, (.b 1 0)), (6, (intA kind6)), (23, (.b 0 0)), (24, (sl tRelation db0.relations)), (25, (strA s1)), (26, (strA ss_11)), (27, (.t [(.g [(intA r_13.1.relation), (.m [3] 0 r_13.1.values.length tInt.k)]), (boolA r_13.2)]))]) (σ' := [.dead, .dead, .dead, .row (flat tInt.own r_13.1.values), .dead]) (Ghost.move 3 5 (by decide) (lb rfl) rfl rfl (lb rfl) (Ghost.weak (WeakL.to 5 (lb rfl) rfl rfl rfl rfl ⟨leR rfl, leR rfl, leR rfl, leR rfl, leR rfl, leR rfl, leR rfl, leR rfl, leR rfl, trivial⟩))) ?_
       refine pa tb [5, 6, 7] 3 rfl (by kernel_rfl) rfl ?_
       refine t1 8 (by kernel_rfl) rfl rfl (TOp_alloc zero51 rfl rfl ?_)
       refine tae [(4, (.b 1 0)), (6, (intA kind6)), (7, (.b 5 0)), (28, (.g [(intA r_13.1.relation), (.m [3] 0 r_13.1.values.length tInt.k)])), (29, (boolA r_13.2))] rfl ?_
       refine TA_st (σ' := [.dead, .dead, .dead, .row (flat tInt.own r_13.1.values), .dead, .box [(intA 0), .n]]) rfl ?_
       exact tj hj0_5 rfl (w0 6)
      ·skip
       refine ⟨_, rfl, rfl, (TOp_alloc zero51 rfl rfl ?_)⟩
       refine t1 4 (by kernel_rfl) rfl rfl (TOp_callO (call_static ent48 rfl) rfl (m_impl_ParseFact_own _ _ _ h_14) rfl rfl rfl ?_)
       refine tae [(1, (strA s1)), (2, (.b 0 0)), (4, (.b 1 0)), (6, (intA kind6)), (7, (.b 5 0)), (23, (.b 0 0)), (24, (sl tRelation db0.relations)), (25, (strA s1)), (26, (strA ss_11)), (27, (.t [(.g [(intA r_13.1.relation), (.m [6] 0 r_13.1.values.length tInt.k)]), (boolA r_13.2)]))] rfl ?_
       refine TA_st (σ' := [.dead, .dead, .dead, .dead, .dead, .box [(intA 0), .n], .row (flat tInt.own r_13.1.values)]) rfl ?_
       refine TA_ghost (E' := [(1, (strA s1)), (2, (.b 0 0)), (4, (.b 1 0)), (6, (intA kind6)), (7, (.b 5 0)), (23, (.b 0 0)), (24, (sl tRelation db0.relations)), (25, (strA s1)), (26, (strA ss_11)), (27, (.t [(.g [(intA r_13.1.relation), (.m [3] 0 r_13.1.values.length tInt.k)]), (boolA r_13.2)]))]) (σ' := [.dead, .dead, .dead, .row (flat tInt.own r_13.1.values), .dead, .box [(intA 0), .n]]) (Ghost.move 3 6 (by decide) (lb rfl) rfl rfl (lb rfl) (Ghost.weak (WeakL.to 6 (lb rfl) rfl rfl rfl rfl ⟨leR rfl, leR rfl, leR rfl, leR rfl, leR rfl, leR rfl, leR rfl, leR rfl, leR rfl, leR rfl, trivial⟩))) ?_
       refine pa tb [5, 6, 7] 2 rfl (by kernel_rfl) rfl ?_
       exact tj hj0_5 rfl (w0 6)
     ·rintro _ _
      refine T_seq ?_
      refine sr ?_
      refine pv tb 2 rfl ?_
      refine TO_nil ?_
      refine T_cond (t := (!r_13.2)) rfl (fun c_15 => ?_) (fun c_15 => ?_)
      ·replace H := cond_t c_15 H
       refine sr ?_
       refine Tp rfl rfl (pur_build bld53 rfl rfl) rfl ?_
       refine TO_cons rfl (TOp_storeB sz53 rfl rfl rfl rfl rfl rfl rfl (by decide) (lb rfl) rfl ?_)
       refine TO_st (σ' := [.box [(sl tRelation db0.relations), (sl tFact db0.facts)], .box [(intA 0), (intA 0), .n], .row (flat tInt.own r_13.1.values), .dead, .dead, .box [(intA r_13.1.relation), (.m [2] 0 r_13.1.values.length tInt.k)]]) rfl ?_
       refine pv tb 1 rfl ?_
       refine TO_nil ?_
       refine T_row0 ?_
       refine T_boxle (xs := [(intA 0), (intA 0), .n]) (ys := [(intA 0), (intA 0), (.m [6] 0 ([] : (List Int)).length tInt.k)]) 1 rfl (leCons (leR rfl) (leCons (leR rfl) (leCons leM leNil))) ?_
       refine T_st (σ' := [.box [(sl tRelation db0.relations), (sl tFact db0.facts)], .box [(intA 0), (intA 0), (.m [6] 0 ([] : (List Int)).length tInt.k)], .row (flat tInt.own r_13.1.values), .dead, .dead, .box [(intA r_13.1.relation), (.m [2] 0 r_13.1.values.length tInt.k)], .row (flat tInt.own ([] : (List Int)))]) rfl ?_
       refine T_ret ?_
       refine then_ret ?_
       refine block_ret ?_
       refine then_ret ?_
       refine then_ret ?_
       refine block_ret ?_
       refine then_ret ?_
       obtain rfl := some_inj H
       obtain rfl := some_inj K1_
       replace H := onS_r N1_
       obtain rfl := some_inj H
       exact end_pick (.cellK rfl agg53 rfl (lb rfl) (.tmp .nil)) rfl [6] (by decide) rfl rfl rfl rfl rfl rfl
      ·replace H := cond_f c_15 H
       refine T_skip ?_
       refine sr ?_
       refine pv tb 2 rfl ?_
       refine Tp rfl rfl (pur_build bld53 rfl rfl) rfl ?_
       refine TO_cons rfl (TOp_storeB sz53 rfl rfl rfl rfl rfl rfl rfl (by decide) (lb rfl) rfl ?_)
       refine TO_st (σ' := [.box [(sl tRelation db0.relations), (sl tFact db0.facts)], .box [(intA kind6), (intA r_13.1.relation), (.m [2] 0 r_13.1.values.length tInt.k)], .row (flat tInt.own r_13.1.values), .dead, .dead, .box [(intA r_13.1.relation), (.m [2] 0 r_13.1.values.length tInt.k)]]) rfl ?_
       refine pv tb 1 rfl ?_
       refine TO_nil ?_
       refine T_ret ?_
       refine block_ret ?_
       refine then_ret ?_
       refine then_ret ?_
       refine block_ret ?_
       refine then_ret ?_
       obtain rfl := some_inj H
       obtain rfl := some_inj K1_
       replace H := onS_r N1_
       obtain rfl := some_inj H
       exact end_pick (.cellK rfl agg53 rfl (lb rfl) (.tmp .nil)) rfl [2] (by decide) rfl rfl rfl rfl rfl rfl
   ·replace H := cond_f c_5 H
    refine T_exit ?_
    refine then_exit ?_
    refine then_exit ?_
    refine block_exit ?_
    obtain rfl := some_inj H
    obtain rfl := some_inj K1_
    replace H := onS_l N1_
    refine sr ?_
    refine Tp rfl rfl (pur_build bld53 rfl rfl) rfl ?_
    refine TO_cons rfl (TOp_storeB sz53 rfl rfl rfl rfl rfl rfl rfl (by decide) (lb rfl) rfl ?_)
    refine TO_st (σ' := [.box [(sl tRelation db0.relations), (sl tFact db0.facts)], .box [(intA 0), (intA 0), .n]]) rfl ?_
    refine pv tb 1 rfl ?_
    refine TO_nil ?_
    refine T_row0 ?_
    refine T_boxle (xs := [(intA 0), (intA 0), .n]) (ys := [(intA 0), (intA 0), (.m [2] 0 ([] : (List Int)).length tInt.k)]) 1 rfl (leCons (leR rfl) (leCons (leR rfl) (leCons leM leNil))) ?_
    refine T_st (σ' := [.box [(sl tRelation db0.relations), (sl tFact db0.facts)], .box [(intA 0), (intA 0), (.m [2] 0 ([] : (List Int)).length tInt.k)], .row (flat tInt.own ([] : (List Int)))]) rfl ?_
    refine T_ret ?_
    obtain rfl := some_inj H
    exact end_pick (.cellK rfl agg53 rfl (lb rfl) (.tmp .nil)) rfl [2] (by decide) rfl rfl rfl rfl rfl rfl
theorem m_impl_ParseEdit_ok (u : Nat) (db0 : Database) (s1 : ByteArray) (r : (Edit × Bool)) (H : m_impl_ParseEdit u db0 s1 = some r) : FnV prg 24 [(.g (tDatabase.enc db0)), (strA s1)] (.t [(.g (tEdit.enc r.1)), (boolA r.2)]) := (m_impl_ParseEdit_own u db0 s1 r H).frz (frzOK_t (frz_cons (frzOK_g (frz_cons (frz_loose rfl) (frz_cons (frz_loose rfl) (frz_cons (frzT (T := tInt) rfl) frz_nil))).1 (frz_cons (frz_loose rfl) (frz_cons (frz_loose rfl) (frz_cons (frzT (T := tInt) rfl) frz_nil))).2) (frz_cons (frz_loose rfl) frz_nil)).1 (frz_cons (frzOK_g (frz_cons (frz_loose rfl) (frz_cons (frz_loose rfl) (frz_cons (frzT (T := tInt) rfl) frz_nil))).1 (frz_cons (frz_loose rfl) (frz_cons (frz_loose rfl) (frz_cons (frzT (T := tInt) rfl) frz_nil))).2) (frz_cons (frz_loose rfl) frz_nil)).2)

set_option maxHeartbeats 1000000 in
theorem m_laws_markText_ok (u : Nat) (k0 : Int) (r : ByteArray) (H : m_laws_markText u k0 = some r) : FnV prg 65 [(intA k0)] (strA r) := by
  unfold m_laws_markText at H
  refine fnV_of_T Tryd.func65 rfl rfl (Nat.le_of_ble_eq_true rfl) ?_
  refine te [(0, (intA k0))] rfl ?_
  refine sr ?_
  refine pv tb 1 rfl ?_
  refine TO_nil ?_
  refine T_seq ?_
  refine sr ?_
  refine pv tb 2 rfl ?_
  refine TO_nil ?_
  refine T_cond (t := decide (k0 ≤ 0)) rfl (fun c_1 => ?_) (fun c_1 => ?_)
  ·replace H := cond_t c_1 H
   refine sr ?_
   refine pv tb 1 rfl ?_
   refine TO_nil ?_
   refine T_ret ?_
   refine then_ret ?_
   obtain rfl := some_inj H
   refine end_ret (.tmp .nil) rfl rfl ⟨?_, rfl⟩
   rfl
  ·replace H := cond_f c_1 H
   refine T_skip ?_
   refine sr ?_
   refine pv tb 1 rfl ?_
   refine TO_nil ?_
   obtain ⟨O2_, L2_, N2_⟩ := bind_inv H
   clear H
   obtain ⟨B2_, hb2, L2_⟩ := gen_whileF L2_
   refine T_cutX (fun (x : Int × ByteArray) => O2_ = .inl x) (fun (⟨k0, out3⟩ : Int × ByteArray) => [(3, (strA out3))]) (fun (⟨k0, out3⟩ : Int × ByteArray) => []) ?_ ?_
   ·skip
    refine T_block ?_
    refine T_loopX (fun k => fun (⟨k0, out3⟩ : Int × ByteArray) => whileF B2_ k (k0, out3) = some O2_) (fun (⟨k0, out3⟩ : Int × ByteArray) => [(0, (intA k0)), (3, (strA out3))]) (fun (⟨k0, out3⟩ : Int × ByteArray) => []) u (k0, (⟨#[]⟩ : ByteArray)) (w0 0) L2_ ?_
    rintro _ ⟨k0, out3⟩ L2_
    obtain ⟨k2, rfl, C2_, H, K2_⟩ := while_step L2_
    rw [hb2] at H
    refine T_seq ?_
    refine sr ?_
    refine pv tb 2 rfl ?_
    refine TO_nil ?_
    refine T_cond (t := decide (0 < k0)) rfl (fun c_3 => ?_) (fun c_3 => ?_)
    ·replace H := cond_t c_3 H
     refine T_skip ?_
     refine T_block ?_
     refine sr ?_
     refine pv tb 1 rfl ?_
     refine Tp rfl rfl (pur_rem rfl rfl rfl (by decide)) rfl ?_
     refine pv tb 1 rfl ?_
     refine Tp rfl rfl (pur_convI (k := .u8) (k' := .i64) ⟨_, Tryd.underlying3⟩ Tryd.underlying5 rfl rfl) rfl ?_
     refine TO_cons rfl (TOp_lit (nn := 1) (k := 1) sl85 zero5 rfl rfl rfl rfl (by decide) ?_)
     refine TO_st (σ' := [.row (flat (tI .u8).enc ([(IntKind.wrap .u8 (w64 (48 + (k0.tmod 10))))] : (List Int)))]) rfl ?_
     refine Tp rfl rfl (pur_strM (zs := ([(IntKind.wrap .u8 (w64 (48 + (k0.tmod 10))))] : (List Int))) Tryd.underlying85 Tryd.underlying5 Tryd.underlying9 rfl rfl rfl) rfl ?_
     obtain ⟨cat_4, h_5, H⟩ := bind_inv H
     refine pv tb 1 rfl ?_
     refine Tp rfl rfl (pur_cat rfl rfl rfl h_5) rfl ?_
     refine pv tb 1 rfl ?_
     refine TO_nil ?_
     refine T_region ?_
     refine pv tb 1 rfl ?_
     refine Tp rfl rfl (pur_wquo rfl rfl rfl (by decide)) rfl ?_
     refine pv tb 1 rfl ?_
     refine TO_nil ?_
     obtain rfl := some_inj H
     exact again k2 ((w64 (k0.tdiv 10)), cat_4) (Nat.lt_succ_self _) (w0 0) K2_
    ·replace H := cond_f c_3 H
     refine T_exit ?_
     refine then_exit ?_
     refine then_exit ?_
     refine block_exit ?_
     obtain rfl := some_inj H
     obtain rfl := some_inj K2_
     exact joined (k0, out3) (w0 0) rfl
   ·rintro ⟨k0, out3⟩ rfl
    replace H := onS_l N2_
    refine sr ?_
    obtain ⟨cat_6, h_7, H⟩ := bind_inv H
    refine pv tb 1 rfl ?_
    refine Tp rfl rfl (pur_cat rfl rfl rfl h_7) rfl ?_
    refine pv tb 1 rfl ?_
    refine TO_nil ?_
    refine T_ret ?_
    obtain rfl := some_inj H
    refine end_ret (.tmp .nil) rfl rfl ⟨?_, rfl⟩
    rfl

set_option maxHeartbeats 1000000 in
theorem m_laws_markRelationS_mut (u : Nat) (a0 : (List Relation)) (k1 : Int) (r : (Int × (List Relation))) (H : m_laws_markRelationS u a0 k1 = some r) : FnM prg 49 [(.m [0] 0 a0.length tRelation.k), (intA k1)] [flat tRelation.own a0] (.int .i64 r.1) [flat tRelation.own r.2] := by
  unfold m_laws_markRelationS at H
  refine fnM_of_T Tryd.func49 rfl rfl (Nat.le_of_ble_eq_true rfl) ?_
  refine te [(0, (.m [0] 0 a0.length tRelation.k)), (1, (intA k1))] rfl ?_
  refine T_st (σ' := [.row (flat tRelation.own a0)]) rfl ?_
  refine sr ?_
  refine pv tb 1 rfl ?_
  refine TO_nil ?_
  refine T_seq ?_
  refine sr ?_
  refine pv tb 1 rfl ?_
  refine TO_nil ?_
  obtain ⟨O2_, L2_, N2_⟩ := bind_inv H
  clear H
  obtain ⟨B2_, hb2, L2_⟩ := gen_forM L2_
  refine T_block ?_
  refine T_loopX (fun k => fun (⟨i_1, a0m, k1⟩ : Int × (List Relation) × Int) => k = ((a0.length : Int) - i_1).toNat ∧ 0 ≤ i_1 ∧ forM B2_ ((a0.length : Int) - i_1).toNat i_1 (a0m, k1) = some O2_ ∧ a0m.length = a0.length) (fun (⟨i_1, a0m, k1⟩ : Int × (List Relation) × Int) => [(0, (.m [0] 0 a0m.length tRelation.k)), (1, (intA k1)), (5, (intA (i_1 : Int)))]) (fun (⟨i_1, a0m, k1⟩ : Int × (List Relation) × Int) => [.row (flat tRelation.own a0m)]) _ (0, (a0, k1)) (w0 1) ⟨rfl, Int.le_refl _, L2_, rfl⟩ ?_
  rintro _ ⟨i_1, a0m, k1⟩ ⟨rfl, hi2, L2_, hq_a0m⟩
  replace hq_a0m : a0m.length = a0.length := hq_a0m
  refine T_fact (len_m (.tmp 0) rfl) (fun hl2 => ?_)
  refine T_seq ?_
  refine sr ?_
  refine pv tb 2 rfl ?_
  refine Tp rfl rfl (pur_len_m sl46 rfl rfl) rfl ?_
  refine pv tb 1 rfl ?_
  refine TO_nil ?_
  refine T_cond (t := decide ((i_1 : Int) < (a0m.length : Int))) rfl (fun d2 => ?_) (fun d2 => ?_)
  ·replace d2 := of_decide_eq_true d2
   replace d2 : (i_1 : Int) < (a0.length : Int) := by omega
   obtain ⟨C2_, H, K2_⟩ := forM_step L2_ d2
   rw [hb2] at H
   refine T_skip ?_
   refine T_seq ?_
   refine T_block ?_
   refine sr ?_
   obtain ⟨r_3, h_4, H⟩ := bind_inv H
   refine pv tb 3 rfl ?_
   refine TO_cons rfl (TOp_callV (call_static ent65 rfl) (m_laws_markText_ok u _ _ h_4) rfl rfl rfl ?_)
   obtain ⟨v_5, h_6, H⟩ := bind_inv H
   obtain ⟨n_7, hz_8, hv_9⟩ := getI_inv h_6
   refine Tp rfl rfl (pur_ixM (T := tRelation) sl46 rfl rfl hz_8 hv_9 rfl) rfl ?_
   refine pv tb 1 rfl ?_
   refine TO_cons rfl (TOp_setP (f := tRelation.own) (k := tRelation.k) (off := 0) (z := (i_1 : Int)) tRelation.lenO ({ name := r_3, arity := v_5.arity, keyLength := v_5.keyLength } : Relation) hz_8 sz9 (by decide) rfl rfl rfl rfl rfl hv_9 rfl rfl (by decide) rfl rfl ?_)
   refine TO_env (E' := [(0, (.m [0] 0 (a0m.set ((i_1 : Int)).toNat ({ name := r_3, arity := v_5.arity, keyLength := v_5.keyLength } : Relation)).length tRelation.k)), (1, (intA k1)), (5, (intA (i_1 : Int))), (12, (.m [0] 0 (a0m.set ((i_1 : Int)).toNat ({ name := r_3, arity := v_5.arity, keyLength := v_5.keyLength } : Relation)).length tRelation.k)), (13, (intA (i_1 : Int))), (14, (intA k1)), (15, (strA r_3))]) ⟨(congrArg (fun q => A.m [0] 0 q tRelation.k) (List.length_set ..).symm), rfl, rfl, (congrArg (fun q => A.m [0] 0 q tRelation.k) (List.length_set ..).symm), rfl, rfl, rfl, trivial⟩ ?_
   refine TO_st (σ' := [.row (flat tRelation.own (a0m.set ((i_1 : Int)).toNat ({ name := r_3, arity := v_5.arity, keyLength := v_5.keyLength } : Relation)))]) rfl ?_
   refine TO_nil ?_
   refine sr ?_
   refine pv tb 3 rfl ?_
   refine TO_nil ?_
   refine sr ?_
   obtain ⟨v_10, h_11, H⟩ := bind_inv H
   obtain ⟨n_12, hz_13, hv_14⟩ := getI_inv h_11
   refine pv tb 3 rfl ?_
   refine Tp rfl rfl (pur_ixM (T := tRelation) sl46 rfl rfl hz_13 hv_14 rfl) rfl ?_
   refine pv tb 1 rfl ?_
   refine TO_cons rfl (TOp_setP (f := tRelation.own) (k := tRelation.k) (off := 1) (z := (i_1 : Int)) tRelation.lenO ({ name := v_10.name, arity := (w64 (k1 + 1)), keyLength := v_10.keyLength } : Relation) hz_13 sz3 (by decide) rfl rfl rfl rfl rfl hv_14 rfl rfl (by decide) rfl rfl ?_)
   refine TO_env (E' := [(0, (.m [0] 0 ((a0m.set ((i_1 : Int)).toNat ({ name := r_3, arity := v_5.arity, keyLength := v_5.keyLength } : Relation)).set ((i_1 : Int)).toNat ({ name := v_10.name, arity := (w64 (k1 + 1)), keyLength := v_10.keyLength } : Relation)).length tRelation.k)), (1, (intA (w64 (k1 + 1)))), (5, (intA (i_1 : Int))), (20, (.m [0] 0 ((a0m.set ((i_1 : Int)).toNat ({ name := r_3, arity := v_5.arity, keyLength := v_5.keyLength } : Relation)).set ((i_1 : Int)).toNat ({ name := v_10.name, arity := (w64 (k1 + 1)), keyLength := v_10.keyLength } : Relation)).length tRelation.k)), (21, (intA (i_1 : Int))), (22, (intA (w64 (k1 + 1))))]) ⟨(congrArg (fun q => A.m [0] 0 q tRelation.k) (List.length_set ..).symm), rfl, rfl, (congrArg (fun q => A.m [0] 0 q tRelation.k) (List.length_set ..).symm), rfl, rfl, trivial⟩ ?_
   refine TO_st (σ' := [.row (flat tRelation.own ((a0m.set ((i_1 : Int)).toNat ({ name := r_3, arity := v_5.arity, keyLength := v_5.keyLength } : Relation)).set ((i_1 : Int)).toNat ({ name := v_10.name, arity := (w64 (k1 + 1)), keyLength := v_10.keyLength } : Relation)))]) rfl ?_
   refine TO_nil ?_
   refine sr ?_
   refine pv tb 3 rfl ?_
   refine TO_nil ?_
   refine te [(0, (.m [0] 0 ((a0m.set ((i_1 : Int)).toNat ({ name := r_3, arity := v_5.arity, keyLength := v_5.keyLength } : Relation)).set ((i_1 : Int)).toNat ({ name := v_10.name, arity := (w64 (k1 + 1)), keyLength := v_10.keyLength } : Relation)).length tRelation.k)), (1, (intA (w64 ((w64 (k1 + 1)) + 1)))), (5, (intA (i_1 : Int)))] rfl ?_
   refine sr ?_
   obtain ⟨v_15, h_16, H⟩ := bind_inv H
   obtain ⟨n_17, hz_18, hv_19⟩ := getI_inv h_16
   refine pv tb 3 rfl ?_
   refine Tp rfl rfl (pur_ixM (T := tRelation) sl46 rfl rfl hz_18 hv_19 rfl) rfl ?_
   refine pv tb 1 rfl ?_
   refine TO_cons rfl (TOp_setP (f := tRelation.own) (k := tRelation.k) (off := 2) (z := (i_1 : Int)) tRelation.lenO ({ name := v_15.name, arity := v_15.arity, keyLength := (w64 ((w64 (k1 + 1)) + 1)) } : Relation) hz_18 sz3 (by decide) rfl rfl rfl rfl rfl hv_19 rfl rfl (by decide) rfl rfl ?_)
   refine TO_env (E' := [(0, (.m [0] 0 (((a0m.set ((i_1 : Int)).toNat ({ name := r_3, arity := v_5.arity, keyLength := v_5.keyLength } : Relation)).set ((i_1 : Int)).toNat ({ name := v_10.name, arity := (w64 (k1 + 1)), keyLength := v_10.keyLength } : Relation)).set ((i_1 : Int)).toNat ({ name := v_15.name, arity := v_15.arity, keyLength := (w64 ((w64 (k1 + 1)) + 1)) } : Relation)).length tRelation.k)), (1, (intA (w64 ((w64 (k1 + 1)) + 1)))), (5, (intA (i_1 : Int))), (27, (.m [0] 0 (((a0m.set ((i_1 : Int)).toNat ({ name := r_3, arity := v_5.arity, keyLength := v_5.keyLength } : Relation)).set ((i_1 : Int)).toNat ({ name := v_10.name, arity := (w64 (k1 + 1)), keyLength := v_10.keyLength } : Relation)).set ((i_1 : Int)).toNat ({ name := v_15.name, arity := v_15.arity, keyLength := (w64 ((w64 (k1 + 1)) + 1)) } : Relation)).length tRelation.k)), (28, (intA (i_1 : Int))), (29, (intA (w64 ((w64 (k1 + 1)) + 1))))]) ⟨(congrArg (fun q => A.m [0] 0 q tRelation.k) (List.length_set ..).symm), rfl, rfl, (congrArg (fun q => A.m [0] 0 q tRelation.k) (List.length_set ..).symm), rfl, rfl, trivial⟩ ?_
   refine TO_st (σ' := [.row (flat tRelation.own (((a0m.set ((i_1 : Int)).toNat ({ name := r_3, arity := v_5.arity, keyLength := v_5.keyLength } : Relation)).set ((i_1 : Int)).toNat ({ name := v_10.name, arity := (w64 (k1 + 1)), keyLength := v_10.keyLength } : Relation)).set ((i_1 : Int)).toNat ({ name := v_15.name, arity := v_15.arity, keyLength := (w64 ((w64 (k1 + 1)) + 1)) } : Relation)))]) rfl ?_
   refine TO_nil ?_
   refine T_region ?_
   refine pv tb 3 rfl ?_
   refine TO_nil ?_
   refine T_region ?_
   refine pv tb 1 rfl ?_
   refine Tp rfl rfl (pur_add rfl rfl rfl (fits64 (by omega) (by omega))) rfl ?_
   refine pv tb 1 rfl ?_
   refine TO_nil ?_
   obtain rfl := some_inj H
   exact again ((a0.length : Int) - (i_1 + 1)).toNat (i_1 + 1, ((((a0m.set ((i_1 : Int)).toNat ({ name := r_3, arity := v_5.arity, keyLength := v_5.keyLength } : Relation)).set ((i_1 : Int)).toNat ({ name := v_10.name, arity := (w64 (k1 + 1)), keyLength := v_10.keyLength } : Relation)).set ((i_1 : Int)).toNat ({ name := v_15.name, arity := v_15.arity, keyLength := (w64 ((w64 (k1 + 1)) + 1)) } : Relation)), (w64 ((w64 ((w64 (k1 + 1)) + 1)) + 1)))) (by omega) (w0 1) ⟨rfl, by omega, K2_, ((List.length_set ..).trans ((List.length_set ..).trans ((List.length_set ..).trans hq_a0m)))⟩
  ·replace d2 := of_decide_eq_false d2
   obtain rfl := forM_end L2_ (by omega)
   refine T_exit ?_
   refine then_exit ?_
   refine then_exit ?_
   refine block_exit ?_
   replace H := N2_
   refine sr ?_
   refine pv tb 2 rfl ?_
   refine TO_nil ?_
   refine T_ret ?_
   obtain rfl := some_inj H
   exact end_M (.tmp .nil) rfl rfl (Nat.le_refl _) (sameLens_c (T := tRelation) hq_a0m trivial) rfl rfl

set_option maxHeartbeats 1000000 in
theorem m_laws_markIntS_mut (a0 : (List Int)) (k1 : Int) (r : (Int × (List Int))) (H : m_laws_markIntS a0 k1 = some r) : FnM prg 66 [(.m [0] 0 a0.length tInt.k), (intA k1)] [flat tInt.own a0] (.int .i64 r.1) [flat tInt.own r.2] := by
  unfold m_laws_markIntS at H
  refine fnM_of_T Tryd.func66 rfl rfl (Nat.le_of_ble_eq_true rfl) ?_
  refine te [(0, (.m [0] 0 a0.length tInt.k)), (1, (intA k1))] rfl ?_
  refine T_st (σ' := [.row (flat tInt.own a0)]) rfl ?_
  refine sr ?_
  refine pv tb 1 rfl ?_
  refine TO_nil ?_
  refine T_seq ?_
  refine sr ?_
  refine pv tb 1 rfl ?_
  refine TO_nil ?_
  obtain ⟨O2_, L2_, N2_⟩ := bind_inv H
  clear H
  obtain ⟨B2_, hb2, L2_⟩ := gen_forM L2_
  refine T_block ?_
  refine T_loopX (fun k => fun (⟨i_1, a0m, k1⟩ : Int × (List Int) × Int) => k = ((a0.length : Int) - i_1).toNat ∧ 0 ≤ i_1 ∧ forM B2_ ((a0.length : Int) - i_1).toNat i_1 (a0m, k1) = some O2_ ∧ a0m.length = a0.length) (fun (⟨i_1, a0m, k1⟩ : Int × (List Int) × Int) => [(0, (.m [0] 0 a0m.length tInt.k)), (1, (intA k1)), (5, (intA (i_1 : Int)))]) (fun (⟨i_1, a0m, k1⟩ : Int × (List Int) × Int) => [.row (flat tInt.own a0m)]) _ (0, (a0, k1)) (w0 1) ⟨rfl, Int.le_refl _, L2_, rfl⟩ ?_
  rintro _ ⟨i_1, a0m, k1⟩ ⟨rfl, hi2, L2_, hq_a0m⟩
  replace hq_a0m : a0m.length = a0.length := hq_a0m
  refine T_fact (len_m (.tmp 0) rfl) (fun hl2 => ?_)
  refine T_seq ?_
  refine sr ?_
  refine pv tb 2 rfl ?_
  refine Tp rfl rfl (pur_len_m sl38 rfl rfl) rfl ?_
  refine pv tb 1 rfl ?_
  refine TO_nil ?_
  refine T_cond (t := decide ((i_1 : Int) < (a0m.length : Int))) rfl (fun d2 => ?_) (fun d2 => ?_)
  ·replace d2 := of_decide_eq_true d2
   replace d2 : (i_1 : Int) < (a0.length : Int) := by omega
   obtain ⟨C2_, H, K2_⟩ := forM_step L2_ d2
   rw [hb2] at H
   refine T_skip ?_
   refine T_seq ?_
   refine T_block ?_
   refine sr ?_
   obtain ⟨v_3, h_4, H⟩ := bind_inv H
   obtain ⟨n_5, hz_6, hv_7⟩ := getI_inv h_4
   refine pv tb 3 rfl ?_
   refine Tp rfl rfl (pur_ixM (T := tInt) sl38 rfl rfl hz_6 hv_7 rfl) rfl ?_
   refine TO_cons rfl (TOp_setT (f := tInt.own) (z := (i_1 : Int)) (y := k1) tInt.lenO tInt.pos hz_6 sz3 rfl rfl rfl rfl rfl hv_7 rfl rfl ?_)
   refine TO_env (E' := [(0, (.m [0] 0 (a0m.set ((i_1 : Int)).toNat k1).length tInt.k)), (1, (intA k1)), (5, (intA (i_1 : Int))), (12, (.m [0] 0 (a0m.set ((i_1 : Int)).toNat k1).length tInt.k)), (13, (intA (i_1 : Int))), (14, (intA k1))]) ⟨(congrArg (fun q => A.m [0] 0 q tInt.k) (List.length_set ..).symm), rfl, rfl, (congrArg (fun q => A.m [0] 0 q tInt.k) (List.length_set ..).symm), rfl, rfl, trivial⟩ ?_
   refine TO_st (σ' := [.row (flat tInt.own (a0m.set ((i_1 : Int)).toNat k1))]) rfl ?_
   refine TO_nil ?_
   refine T_region ?_
   refine pv tb 3 rfl ?_
   refine TO_nil ?_
   refine T_region ?_
   refine pv tb 1 rfl ?_
   refine Tp rfl rfl (pur_add rfl rfl rfl (fits64 (by omega) (by omega))) rfl ?_
   refine pv tb 1 rfl ?_
   refine TO_nil ?_
   obtain rfl := some_inj H
   exact again ((a0.length : Int) - (i_1 + 1)).toNat (i_1 + 1, ((a0m.set ((i_1 : Int)).toNat k1), (w64 (k1 + 1)))) (by omega) (w0 1) ⟨rfl, by omega, K2_, ((List.length_set ..).trans hq_a0m)⟩
  ·replace d2 := of_decide_eq_false d2
   obtain rfl := forM_end L2_ (by omega)
   refine T_exit ?_
   refine then_exit ?_
   refine then_exit ?_
   refine block_exit ?_
   replace H := N2_
   refine sr ?_
   refine pv tb 2 rfl ?_
   refine TO_nil ?_
   refine T_ret ?_
   obtain rfl := some_inj H
   exact end_M (.tmp .nil) rfl rfl (Nat.le_refl _) (sameLens_c (T := tInt) hq_a0m trivial) rfl rfl

set_option maxHeartbeats 1000000 in
theorem m_laws_markFactS_mut (a0 : (List Fact)) (k1 : Int) (r : (Int × (List Fact))) (H : m_laws_markFactS a0 k1 = some r) : FnM prg 50 [(.m [0] 0 a0.length tFact.k), (intA k1)] [flat tFact.own a0] (.int .i64 r.1) [flat tFact.own r.2] := by
  unfold m_laws_markFactS at H
  refine fnM_of_T Tryd.func50 rfl rfl (Nat.le_of_ble_eq_true rfl) ?_
  refine te [(0, (.m [0] 0 a0.length tFact.k)), (1, (intA k1))] rfl ?_
  refine T_st (σ' := [.row (flat tFact.own a0)]) rfl ?_
  refine sr ?_
  refine pv tb 1 rfl ?_
  refine TO_nil ?_
  refine T_seq ?_
  refine sr ?_
  refine pv tb 1 rfl ?_
  refine TO_nil ?_
  obtain ⟨O2_, L2_, N2_⟩ := bind_inv H
  clear H
  obtain ⟨B2_, hb2, L2_⟩ := gen_forM L2_
  refine T_block ?_
  refine T_loopX (fun k => fun (⟨i_1, a0m, k1⟩ : Int × (List Fact) × Int) => k = ((a0.length : Int) - i_1).toNat ∧ 0 ≤ i_1 ∧ forM B2_ ((a0.length : Int) - i_1).toNat i_1 (a0m, k1) = some O2_ ∧ a0m.length = a0.length) (fun (⟨i_1, a0m, k1⟩ : Int × (List Fact) × Int) => [(0, (.m [0] 0 a0m.length tFact.k)), (1, (intA k1)), (5, (intA (i_1 : Int)))]) (fun (⟨i_1, a0m, k1⟩ : Int × (List Fact) × Int) => [.row (flat tFact.own a0m)]) _ (0, (a0, k1)) (w0 1) ⟨rfl, Int.le_refl _, L2_, rfl⟩ ?_
  rintro _ ⟨i_1, a0m, k1⟩ ⟨rfl, hi2, L2_, hq_a0m⟩
  replace hq_a0m : a0m.length = a0.length := hq_a0m
  refine T_fact (len_m (.tmp 0) rfl) (fun hl2 => ?_)
  refine T_seq ?_
  refine sr ?_
  refine pv tb 2 rfl ?_
  refine Tp rfl rfl (pur_len_m sl47 rfl rfl) rfl ?_
  refine pv tb 1 rfl ?_
  refine TO_nil ?_
  refine T_cond (t := decide ((i_1 : Int) < (a0m.length : Int))) rfl (fun d2 => ?_) (fun d2 => ?_)
  ·replace d2 := of_decide_eq_true d2
   replace d2 : (i_1 : Int) < (a0.length : Int) := by omega
   obtain ⟨C2_, H, K2_⟩ := forM_step L2_ d2
   rw [hb2] at H
   refine T_skip ?_
   refine T_seq ?_
   refine T_block ?_
   refine sr ?_
   obtain ⟨v_3, h_4, H⟩ := bind_inv H
   obtain ⟨n_5, hz_6, hv_7⟩ := getI_inv h_4
   refine pv tb 3 rfl ?_
   refine Tp rfl rfl (pur_ixM (T := tFact) sl47 rfl rfl hz_6 hv_7 rfl) rfl ?_
   refine pv tb 1 rfl ?_
   refine TO_cons rfl (TOp_setP (f := tFact.own) (k := tFact.k) (off := 0) (z := (i_1 : Int)) tFact.lenO ({ relation := k1, values := v_3.values } : Fact) hz_6 sz3 (by decide) rfl rfl rfl rfl rfl hv_7 rfl rfl (by decide) rfl rfl ?_)
   refine TO_env (E' := [(0, (.m [0] 0 (a0m.set ((i_1 : Int)).toNat ({ relation := k1, values := v_3.values } : Fact)).length tFact.k)), (1, (intA k1)), (5, (intA (i_1 : Int))), (12, (.m [0] 0 (a0m.set ((i_1 : Int)).toNat ({ relation := k1, values := v_3.values } : Fact)).length tFact.k)), (13, (intA (i_1 : Int))), (14, (intA k1))]) ⟨(congrArg (fun q => A.m [0] 0 q tFact.k) (List.length_set ..).symm), rfl, rfl, (congrArg (fun q => A.m [0] 0 q tFact.k) (List.length_set ..).symm), rfl, rfl, trivial⟩ ?_
   refine TO_st (σ' := [.row (flat tFact.own (a0m.set ((i_1 : Int)).toNat ({ relation := k1, values := v_3.values } : Fact)))]) rfl ?_
   refine TO_nil ?_
   refine sr ?_
   refine pv tb 3 rfl ?_
   refine TO_nil ?_
   refine T_region ?_
   obtain ⟨v_8, h_9, H⟩ := bind_inv H
   obtain ⟨n_10, hz_11, hv_12⟩ := getI_inv h_9
   refine pv tb 2 rfl ?_
   refine Tp rfl rfl (pur_ixM (T := tFact) sl47 rfl rfl hz_11 hv_12 rfl) rfl ?_
   refine pv tb 1 rfl ?_
   refine Tp rfl rfl (pur_ldE (f := tFact.own) (k := tFact.k) (i := n_10) (off := 1) tFact.lenO rfl one38 rfl rfl rfl hv_12 rfl cellVal_sl) rfl ?_
   obtain ⟨r_13, h_14, H⟩ := bind_inv H
   refine pv tb 1 rfl ?_
   refine TO_cons rfl (TOp_callG (aa := [(.m [0, n_10 * tFact.k + 1] 0 v_8.values.length tInt.k), (intA (w64 (k1 + 1)))]) [[0, n_10 * tFact.k + 1]] (call_static ent66 rfl) rfl (.cons (rowAt_el (f := tFact.own) (i := n_10) (off := 1) tFact.lenO rfl hv_12 rfl) rfl (by simp) .nil) (by simp [namesL, A.names, locP]) (by simp [renPL, A.renP, locF, locP]) (m_laws_markIntS_mut _ _ _ h_14) rfl (fun hl_15 => ?_))
   refine TO_env (E' := [(0, (.m [0] 0 ((a0m.set ((i_1 : Int)).toNat ({ relation := k1, values := v_3.values } : Fact)).set ((i_1 : Int)).toNat ({ relation := v_8.relation, values := r_13.2 } : Fact)).length tFact.k)), (1, (intA (w64 (k1 + 1)))), (5, (intA (i_1 : Int))), (19, (.m [0] 0 ((a0m.set ((i_1 : Int)).toNat ({ relation := k1, values := v_3.values } : Fact)).set ((i_1 : Int)).toNat ({ relation := v_8.relation, values := r_13.2 } : Fact)).length tFact.k)), (20, (intA (i_1 : Int))), (24, (intA (w64 (k1 + 1)))), (25, (intA r_13.1))]) ⟨(congrArg (fun q => A.m [0] 0 q tFact.k) (List.length_set ..).symm), rfl, rfl, (congrArg (fun q => A.m [0] 0 q tFact.k) (List.length_set ..).symm), rfl, rfl, rfl, trivial⟩ ?_
   refine TO_st (σ' := [.row (flat tFact.own ((a0m.set ((i_1 : Int)).toNat ({ relation := k1, values := v_3.values } : Fact)).set ((i_1 : Int)).toNat ({ relation := v_8.relation, values := r_13.2 } : Fact)))]) (setRows_T (f := tFact.own) (i := n_10) (v' := ({ relation := v_8.relation, values := r_13.2 } : Fact)) tFact.lenO hz_11 [1] rfl hv_12 (allO_cons ⟨_, _, rfl⟩ allO_nil) rfl) ?_
   refine pv tb 1 rfl ?_
   refine TO_nil ?_
   refine T_region ?_
   refine pv tb 1 rfl ?_
   refine Tp rfl rfl (pur_add rfl rfl rfl (fits64 (by omega) (by omega))) rfl ?_
   refine pv tb 1 rfl ?_
   refine TO_nil ?_
   obtain rfl := some_inj H
   exact again ((a0.length : Int) - (i_1 + 1)).toNat (i_1 + 1, (((a0m.set ((i_1 : Int)).toNat ({ relation := k1, values := v_3.values } : Fact)).set ((i_1 : Int)).toNat ({ relation := v_8.relation, values := r_13.2 } : Fact)), r_13.1)) (by omega) (w0 1) ⟨rfl, by omega, K2_, ((List.length_set ..).trans ((List.length_set ..).trans hq_a0m))⟩
  ·replace d2 := of_decide_eq_false d2
   obtain rfl := forM_end L2_ (by omega)
   refine T_exit ?_
   refine then_exit ?_
   refine then_exit ?_
   refine block_exit ?_
   replace H := N2_
   refine sr ?_
   refine pv tb 2 rfl ?_
   refine TO_nil ?_
   refine T_ret ?_
   obtain rfl := some_inj H
   exact end_M (.tmp .nil) rfl rfl (Nat.le_refl _) (sameLens_c (T := tFact) hq_a0m trivial) rfl rfl

set_option maxHeartbeats 1000000 in
theorem m_laws_markDatabase_mut (u : Nat) (a0 : Database) (k1 : Int) (r : (Int × Database)) (H : m_laws_markDatabase u a0 k1 = some r) : FnM prg 25 [(.g [(.m [0] 0 a0.relations.length tRelation.k), (.m [1] 0 a0.facts.length tFact.k)]), (intA k1)] [flat tRelation.own a0.relations, flat tFact.own a0.facts] (.int .i64 r.1) [flat tRelation.own r.2.relations, flat tFact.own r.2.facts] := by
  unfold m_laws_markDatabase at H
  refine fnM_of_T Tryd.func25 rfl rfl (Nat.le_of_ble_eq_true rfl) ?_
  refine te [(0, (.g [(.m [0] 0 a0.relations.length tRelation.k), (.m [1] 0 a0.facts.length tFact.k)])), (1, (intA k1))] rfl ?_
  refine T_st (σ' := [.row (flat tRelation.own a0.relations), .row (flat tFact.own a0.facts)]) rfl ?_
  refine sr ?_
  refine TO_cons rfl (TOp_box rfl (boxAll rfl) rfl rfl ?_)
  refine pv tb 1 rfl ?_
  refine TO_nil ?_
  refine sr ?_
  obtain ⟨r_1, h_2, H⟩ := bind_inv H
  refine pv tb 3 rfl ?_
  refine TO_cons rfl (TOp_callG (aa := [(.m [0] 0 a0.relations.length tRelation.k), (intA k1)]) [[0]] (call_static ent49 rfl) rfl (.cons rfl rfl (by decide) .nil) rfl rfl (m_laws_markRelationS_mut u _ _ _ h_2) rfl (fun hl_3 => ?_))
  obtain ⟨hq_4, hl_3⟩ := sameLens_T (T := tRelation) hl_3
  refine TO_env (E' := [(1, (intA k1)), (2, (.b 2 0)), (5, (.b 2 0)), (6, (.m [0] 0 r_1.2.length tRelation.k)), (7, (intA k1)), (8, (intA r_1.1))]) ⟨rfl, rfl, rfl, (congrArg (fun q => A.m [0] 0 q tRelation.k) hq_4.symm), rfl, rfl, trivial⟩ ?_
  refine TO_st (σ' := [.row (flat tRelation.own r_1.2), .row (flat tFact.own a0.facts), .box [(.m [0] 0 a0.relations.length tRelation.k), (.m [1] 0 a0.facts.length tFact.k)]]) rfl ?_
  refine TO_st (σ' := [.row (flat tRelation.own r_1.2), .row (flat tFact.own a0.facts), .box [(.m [0] 0 r_1.2.length tRelation.k), (.m [1] 0 a0.facts.length tFact.k)]]) (by simp only [hq_4]) ?_
  refine pv tb 1 rfl ?_
  refine TO_nil ?_
  refine sr ?_
  obtain ⟨r_5, h_6, H⟩ := bind_inv H
  refine pv tb 3 rfl ?_
  refine TO_cons rfl (TOp_callG (aa := [(.m [1] 0 a0.facts.length tFact.k), (intA r_1.1)]) [[1]] (call_static ent50 rfl) rfl (.cons rfl rfl (by decide) .nil) rfl rfl (m_laws_markFactS_mut _ _ _ h_6) rfl (fun hl_7 => ?_))
  obtain ⟨hq_8, hl_7⟩ := sameLens_T (T := tFact) hl_7
  refine TO_env (E' := [(1, (intA r_1.1)), (2, (.b 2 0)), (9, (.b 2 1)), (10, (.m [1] 0 r_5.2.length tFact.k)), (11, (intA r_1.1)), (12, (intA r_5.1))]) ⟨rfl, rfl, rfl, (congrArg (fun q => A.m [1] 0 q tFact.k) hq_8.symm), rfl, rfl, trivial⟩ ?_
  refine TO_st (σ' := [.row (flat tRelation.own r_1.2), .row (flat tFact.own r_5.2), .box [(.m [0] 0 r_1.2.length tRelation.k), (.m [1] 0 a0.facts.length tFact.k)]]) rfl ?_
  refine TO_st (σ' := [.row (flat tRelation.own r_1.2), .row (flat tFact.own r_5.2), .box [(.m [0] 0 r_1.2.length tRelation.k), (.m [1] 0 r_5.2.length tFact.k)]]) (by simp only [hq_8]) ?_
  refine pv tb 1 rfl ?_
  refine TO_nil ?_
  refine sr ?_
  refine pv tb 2 rfl ?_
  refine TO_nil ?_
  refine T_ret ?_
  obtain rfl := some_inj H
  exact end_M (.tmp .nil) rfl rfl (Nat.le_refl _) (sameLens_c (T := tRelation) hq_4 (sameLens_c (T := tFact) hq_8 trivial)) rfl rfl

set_option maxHeartbeats 1000000 in
theorem m_laws_markFact_mut (a0 : Fact) (k1 : Int) (r : (Int × Fact)) (H : m_laws_markFact a0 k1 = some r) : FnM prg 51 [(.g [(intA a0.relation), (.m [0] 0 a0.values.length tInt.k)]), (intA k1)] [flat tInt.own a0.values] (.int .i64 r.1) [flat tInt.own r.2.values] := by
  unfold m_laws_markFact at H
  refine fnM_of_T Tryd.func51 rfl rfl (Nat.le_of_ble_eq_true rfl) ?_
  refine te [(0, (.g [(intA a0.relation), (.m [0] 0 a0.values.length tInt.k)])), (1, (intA k1))] rfl ?_
  refine T_st (σ' := [.row (flat tInt.own a0.values)]) rfl ?_
  refine sr ?_
  refine TO_cons rfl (TOp_box rfl (boxAll rfl) rfl rfl ?_)
  refine pv tb 1 rfl ?_
  refine TO_nil ?_
  refine sr ?_
  obtain ⟨r_1, h_2, H⟩ := bind_inv H
  refine pv tb 3 rfl ?_
  refine TO_cons rfl (TOp_callG (aa := [(.m [0] 0 a0.values.length tInt.k), (intA k1)]) [[0]] (call_static ent66 rfl) rfl (.cons rfl rfl (by decide) .nil) rfl rfl (m_laws_markIntS_mut _ _ _ h_2) rfl (fun hl_3 => ?_))
  obtain ⟨hq_4, hl_3⟩ := sameLens_T (T := tInt) hl_3
  refine TO_env (E' := [(1, (intA k1)), (2, (.b 1 0)), (5, (.b 1 1)), (6, (.m [0] 0 r_1.2.length tInt.k)), (7, (intA k1)), (8, (intA r_1.1))]) ⟨rfl, rfl, rfl, (congrArg (fun q => A.m [0] 0 q tInt.k) hq_4.symm), rfl, rfl, trivial⟩ ?_
  refine TO_st (σ' := [.row (flat tInt.own r_1.2), .box [(intA a0.relation), (.m [0] 0 a0.values.length tInt.k)]]) rfl ?_
  refine TO_st (σ' := [.row (flat tInt.own r_1.2), .box [(intA a0.relation), (.m [0] 0 r_1.2.length tInt.k)]]) (by simp only [hq_4]) ?_
  refine pv tb 1 rfl ?_
  refine TO_nil ?_
  refine sr ?_
  refine pv tb 2 rfl ?_
  refine TO_nil ?_
  refine T_ret ?_
  obtain rfl := some_inj H
  exact end_M (.tmp .nil) rfl rfl (Nat.le_refl _) (sameLens_c (T := tInt) hq_4 trivial) rfl rfl

set_option maxHeartbeats 1000000 in
theorem m_laws_markEdit_mut (a0 : Edit) (k1 : Int) (r : (Int × Edit)) (H : m_laws_markEdit a0 k1 = some r) : FnM prg 26 [(.g [(intA a0.kind), (intA a0.fact.relation), (.m [0] 0 a0.fact.values.length tInt.k)]), (intA k1)] [flat tInt.own a0.fact.values] (.int .i64 r.1) [flat tInt.own r.2.fact.values] := by
  unfold m_laws_markEdit at H
  refine fnM_of_T Tryd.func26 rfl rfl (Nat.le_of_ble_eq_true rfl) ?_
  refine te [(0, (.g [(intA a0.kind), (intA a0.fact.relation), (.m [0] 0 a0.fact.values.length tInt.k)])), (1, (intA k1))] rfl ?_
  refine T_st (σ' := [.row (flat tInt.own a0.fact.values)]) rfl ?_
  refine sr ?_
  refine TO_cons rfl (TOp_box rfl (boxAll rfl) rfl rfl ?_)
  refine pv tb 1 rfl ?_
  refine TO_nil ?_
  refine sr ?_
  obtain ⟨r_1, h_2, H⟩ := bind_inv H
  refine pv tb 3 rfl ?_
  refine TO_cons rfl (TOp_callG (aa := [(.g [(intA a0.fact.relation), (.m [0] 0 a0.fact.values.length tInt.k)]), (intA k1)]) [[0]] (call_static ent51 rfl) rfl (.cons rfl rfl (by decide) .nil) rfl rfl (m_laws_markFact_mut _ _ _ h_2) rfl (fun hl_3 => ?_))
  obtain ⟨hq_4, hl_3⟩ := sameLens_T (T := tInt) hl_3
  refine TO_env (E' := [(1, (intA k1)), (2, (.b 1 0)), (5, (.b 1 1)), (6, (.g [(intA a0.fact.relation), (.m [0] 0 r_1.2.values.length tInt.k)])), (7, (intA k1)), (8, (intA r_1.1))]) ⟨rfl, rfl, rfl, (by simp only [hq_4]; rfl), rfl, rfl, trivial⟩ ?_
  refine TO_st (σ' := [.row (flat tInt.own r_1.2.values), .box [(intA a0.kind), (intA a0.fact.relation), (.m [0] 0 a0.fact.values.length tInt.k)]]) rfl ?_
  refine TO_st (σ' := [.row (flat tInt.own r_1.2.values), .box [(intA a0.kind), (intA a0.fact.relation), (.m [0] 0 r_1.2.values.length tInt.k)]]) (by simp only [hq_4]) ?_
  refine pv tb 1 rfl ?_
  refine TO_nil ?_
  refine sr ?_
  refine pv tb 2 rfl ?_
  refine TO_nil ?_
  refine T_ret ?_
  obtain rfl := some_inj H
  exact end_M (.tmp .nil) rfl rfl (Nat.le_refl _) (sameLens_c (T := tInt) hq_4 trivial) rfl rfl

set_option maxHeartbeats 1000000 in
theorem m_laws_heldIntS_ok (a0 : (List Int)) (k1 : Int) (r : Int) (H : m_laws_heldIntS a0 k1 = some r) : FnV prg 67 [(sl tInt a0), (intA k1)] (intA r) := by
  unfold m_laws_heldIntS at H
  refine fnV_of_T Tryd.func67 rfl rfl (Nat.le_of_ble_eq_true rfl) ?_
  refine te [(0, (sl tInt a0)), (1, (intA k1))] rfl ?_
  refine sr ?_
  refine pv tb 1 rfl ?_
  refine TO_nil ?_
  refine T_seq ?_
  refine sr ?_
  refine pv tb 1 rfl ?_
  refine TO_nil ?_
  obtain ⟨O2_, L2_, N2_⟩ := bind_inv H
  clear H
  obtain ⟨B2_, hb2, L2_⟩ := gen_forL L2_
  refine T_block ?_
  refine T_loopX (fun k => fun (⟨i_1, k1⟩ : Nat × Int) => k = a0.length - i_1 ∧ forL B2_ (a0.drop i_1) (i_1 : Int) k1 = some O2_) (fun (⟨i_1, k1⟩ : Nat × Int) => [(0, (sl tInt a0)), (1, (intA k1)), (5, (intA (i_1 : Int)))]) (fun (⟨i_1, k1⟩ : Nat × Int) => []) _ (0, k1) (w0 0) ⟨rfl, L2_⟩ ?_
  rintro _ ⟨i_1, k1⟩ ⟨rfl, L2_⟩
  refine T_fact (len_sl (T := tInt) (.tmp 0) rfl) (fun hl2 => ?_)
  refine T_seq ?_
  refine sr ?_
  refine pv tb 2 rfl ?_
  refine Tp rfl rfl (pur_lenT (T := tInt) sl38 rfl rfl) rfl ?_
  refine pv tb 1 rfl ?_
  refine TO_nil ?_
  refine T_cond (t := decide ((i_1 : Int) < (a0.length : Int))) rfl (fun d2 => ?_) (fun d2 => ?_)
  ·replace d2 := of_decide_eq_true d2
   obtain ⟨x_i_1, hx_i_1⟩ : ∃ v, (a0)[i_1]? = some v := ⟨_, List.getElem?_eq_getElem (by omega)⟩
   obtain ⟨C2_, H, K2_⟩ := forL_step L2_ hx_i_1
   rw [hb2] at H
   refine T_skip ?_
   refine T_seq ?_
   refine T_block ?_
   refine T_seq ?_
   refine sr ?_
   refine pv tb 2 rfl ?_
   refine Tp rfl rfl (pur_ixT (T := tInt) sl38 rfl rfl rfl hx_i_1 rfl) rfl ?_
   refine Tp rfl rfl (pur_ldT (T := tInt) (i := i_1) (off := 0) rfl one3 rfl rfl hx_i_1 rfl) rfl ?_
   refine pv tb 2 rfl ?_
   refine TO_nil ?_
   refine T_cond (t := decide (x_i_1 ≠ k1)) rfl (fun c_3 => ?_) (fun c_3 => ?_)
   ·replace H := cond_t c_3 H
    refine sr ?_
    refine pv tb 1 rfl ?_
    refine TO_nil ?_
    refine T_ret ?_
    refine then_ret ?_
    refine block_ret ?_
    refine then_ret ?_
    refine then_ret ?_
    refine block_ret ?_
    refine then_ret ?_
    obtain rfl := some_inj H
    obtain rfl := some_inj K2_
    replace H := onS_r N2_
    obtain rfl := some_inj H
    refine end_ret (.tmp .nil) rfl rfl ⟨?_, rfl⟩
    rfl
   ·replace H := cond_f c_3 H
    refine T_skip ?_
    refine T_region ?_
    refine pv tb 3 rfl ?_
    refine TO_nil ?_
    refine T_region ?_
    refine pv tb 1 rfl ?_
    refine Tp rfl rfl (pur_add rfl rfl rfl (fits64 (by omega) (by omega))) rfl ?_
    refine pv tb 1 rfl ?_
    refine TO_nil ?_
    obtain rfl := some_inj H
    exact again (a0.length - (i_1 + 1)) (i_1 + 1, (w64 (k1 + 1))) (by omega) (w0 0) ⟨rfl, K2_⟩
  ·replace d2 := of_decide_eq_false d2
   obtain rfl := forL_end L2_ (by omega)
   refine T_exit ?_
   refine then_exit ?_
   refine then_exit ?_
   refine block_exit ?_
   replace H := onS_l N2_
   refine sr ?_
   refine pv tb 2 rfl ?_
   refine TO_nil ?_
   refine T_ret ?_
   obtain rfl := some_inj H
   refine end_ret (.tmp .nil) rfl rfl ⟨?_, rfl⟩
   rfl

set_option maxHeartbeats 1000000 in
theorem m_laws_heldFact_ok (a0 : Fact) (k1 : Int) (r : Int) (H : m_laws_heldFact a0 k1 = some r) : FnV prg 52 [(.g (tFact.enc a0)), (intA k1)] (intA r) := by
  unfold m_laws_heldFact at H
  refine fnV_of_T Tryd.func52 rfl rfl (Nat.le_of_ble_eq_true rfl) ?_
  refine te [(0, (.g (tFact.enc a0))), (1, (intA k1))] rfl ?_
  refine sr ?_
  refine TO_cons rfl (TOp_box rfl (boxAll rfl) rfl rfl ?_)
  refine pv tb 1 rfl ?_
  refine TO_nil ?_
  refine sr ?_
  obtain ⟨r_1, h_2, H⟩ := bind_inv H
  refine pv tb 3 rfl ?_
  refine TO_cons rfl (TOp_callV (call_static ent67 rfl) (m_laws_heldIntS_ok _ _ _ h_2) rfl rfl rfl ?_)
  refine pv tb 1 rfl ?_
  refine TO_nil ?_
  refine T_seq ?_
  refine sr ?_
  refine pv tb 2 rfl ?_
  refine TO_nil ?_
  refine T_cond (t := decide (r_1 < 0)) rfl (fun c_3 => ?_) (fun c_3 => ?_)
  ·replace H := cond_t c_3 H
   refine sr ?_
   refine pv tb 1 rfl ?_
   refine TO_nil ?_
   refine T_ret ?_
   refine then_ret ?_
   obtain rfl := some_inj H
   refine end_ret (.tmp .nil) rfl rfl ⟨?_, rfl⟩
   rfl
  ·replace H := cond_f c_3 H
   refine T_skip ?_
   refine sr ?_
   refine pv tb 2 rfl ?_
   refine TO_nil ?_
   refine T_ret ?_
   obtain rfl := some_inj H
   refine end_ret (.tmp .nil) rfl rfl ⟨?_, rfl⟩
   rfl

set_option maxHeartbeats 1000000 in
theorem m_laws_heldEdit_ok (a0 : Edit) (k1 : Int) (r : Int) (H : m_laws_heldEdit a0 k1 = some r) : FnV prg 27 [(.g (tEdit.enc a0)), (intA k1)] (intA r) := by
  unfold m_laws_heldEdit at H
  refine fnV_of_T Tryd.func27 rfl rfl (Nat.le_of_ble_eq_true rfl) ?_
  refine te [(0, (.g (tEdit.enc a0))), (1, (intA k1))] rfl ?_
  refine sr ?_
  refine TO_cons rfl (TOp_box rfl (boxAll rfl) rfl rfl ?_)
  refine pv tb 1 rfl ?_
  refine TO_nil ?_
  refine sr ?_
  obtain ⟨r_1, h_2, H⟩ := bind_inv H
  refine pv tb 3 rfl ?_
  refine TO_cons rfl (TOp_callV (call_static ent52 rfl) (m_laws_heldFact_ok _ _ _ h_2) rfl rfl rfl ?_)
  refine pv tb 1 rfl ?_
  refine TO_nil ?_
  refine T_seq ?_
  refine sr ?_
  refine pv tb 2 rfl ?_
  refine TO_nil ?_
  refine T_cond (t := decide (r_1 < 0)) rfl (fun c_3 => ?_) (fun c_3 => ?_)
  ·replace H := cond_t c_3 H
   refine sr ?_
   refine pv tb 1 rfl ?_
   refine TO_nil ?_
   refine T_ret ?_
   refine then_ret ?_
   obtain rfl := some_inj H
   refine end_ret (.tmp .nil) rfl rfl ⟨?_, rfl⟩
   rfl
  ·replace H := cond_f c_3 H
   refine T_skip ?_
   refine sr ?_
   refine pv tb 2 rfl ?_
   refine TO_nil ?_
   refine T_ret ?_
   obtain rfl := some_inj H
   refine end_ret (.tmp .nil) rfl rfl ⟨?_, rfl⟩
   rfl

set_option maxHeartbeats 1000000 in
theorem m_laws_FnExactParseEdit_ok (u : Nat) (aDb0 : Database) (aS1 : ByteArray) (r : Bool) (H : m_laws_FnExactParseEdit u aDb0 aS1 = some r) : FnV prg 6 [(.g (tDatabase.enc aDb0)), (strA aS1)] (boolA r) := by
  unfold m_laws_FnExactParseEdit at H
  refine fnV_of_T Tryd.func6 rfl rfl (Nat.le_of_ble_eq_true rfl) ?_
  refine te [(0, (.g (tDatabase.enc aDb0))), (1, (strA aS1))] rfl ?_
  refine sr ?_
  refine TO_cons rfl (TOp_box rfl (boxAll rfl) rfl rfl ?_)
  refine pv tb 1 rfl ?_
  refine TO_nil ?_
  refine T_seq ?_
  refine sr ?_
  refine pv tb 1 rfl ?_
  refine Tp rfl rfl (pur_len_s (by kernel_rfl) rfl rfl) rfl ?_
  refine pv tb 1 rfl ?_
  refine TO_nil ?_
  refine T_cond (t := decide (1048576 < (aS1.size : Int))) rfl (fun c_1 => ?_) (fun c_1 => ?_)
  ·replace H := cond_t c_1 H
   refine sr ?_
   refine pv tb 1 rfl ?_
   refine TO_nil ?_
   refine T_ret ?_
   refine then_ret ?_
   obtain rfl := some_inj H
   refine end_ret (.tmp .nil) rfl rfl ⟨?_, rfl⟩
   rfl
  ·replace H := cond_f c_1 H
   refine T_skip ?_
   refine sr ?_
   refine pv tb 1 rfl ?_
   refine TO_nil ?_
   refine sr ?_
   obtain ⟨r_2, h_3, H⟩ := bind_inv H
   refine pv tb 2 rfl ?_
   refine TO_cons rfl (TOp_callV (call_static ent15 rfl) (m_laws_szDatabase_ok _ _ _ h_3) rfl rfl rfl ?_)
   refine pv tb 1 rfl ?_
   refine TO_nil ?_
   refine T_seq ?_
   refine sr ?_
   refine pv tb 2 rfl ?_
   refine TO_nil ?_
   refine T_cond (t := decide (r_2 < 0)) rfl (fun c_4 => ?_) (fun c_4 => ?_)
   ·replace H := cond_t c_4 H
    refine sr ?_
    refine pv tb 1 rfl ?_
    refine TO_nil ?_
    refine T_ret ?_
    refine then_ret ?_
    obtain rfl := some_inj H
    refine end_ret (.tmp .nil) rfl rfl ⟨?_, rfl⟩
    rfl
   ·replace H := cond_f c_4 H
    refine T_skip ?_
    refine sr ?_
    obtain ⟨r_5, h_6, H⟩ := bind_inv H
    refine pv tb 1 rfl ?_
    refine TO_cons rfl (TOp_callV (call_static ent18 rfl) (m_laws_toDatabase_ok _ _ h_6) rfl rfl rfl ?_)
    obtain ⟨r_7, h_8, H⟩ := bind_inv H
    refine pv tb 1 rfl ?_
    refine TO_cons rfl (TOp_callV (call_static ent23 rfl) (m_spec_ParseEdit_ok u _ _ _ h_8) rfl rfl rfl ?_)
    refine pv tb 3 rfl ?_
    refine TO_cons rfl (TOp_alloc zero53 rfl rfl ?_)
    refine TO_cons rfl (TOp_storeB sz53 rfl rfl rfl rfl rfl rfl rfl (by decide) (lb rfl) rfl ?_)
    refine TO_st (σ' := [.box [(sl tRelation aDb0.relations), (sl tFact aDb0.facts)], .box [(intA r_7.1.kind), (intA r_7.1.fact.relation), (sl tInt r_7.1.fact.values)]]) rfl ?_
    refine pv tb 1 rfl ?_
    refine TO_nil ?_
    refine te [(1, (strA aS1)), (2, (.b 0 0)), (6, (.b 1 0)), (7, (boolA r_7.2))] rfl ?_
    refine sr ?_
    obtain ⟨r_9, h_10, H⟩ := bind_inv H
    refine pv tb 1 rfl ?_
    refine TO_cons rfl (TOp_callO (call_static ent18 rfl) rfl (m_laws_toDatabase_own _ _ h_10) rfl rfl rfl ?_)
    refine toe [(1, (strA aS1)), (2, (.b 0 0)), (6, (.b 1 0)), (7, (boolA r_7.2)), (31, (.g (tDatabase.enc aDb0))), (32, (.g [(.m [2] 0 r_9.relations.length tRelation.k), (.m [3] 0 r_9.facts.length tFact.k)]))] rfl ?_
    refine TO_st (σ' := [.box [(sl tRelation aDb0.relations), (sl tFact aDb0.facts)], .box [(intA r_7.1.kind), (intA r_7.1.fact.relation), (sl tInt r_7.1.fact.values)], .row (flat tRelation.own r_9.relations), .row (flat tFact.own r_9.facts)]) rfl ?_
    refine TO_cons rfl (TOp_alloc zero49 rfl rfl ?_)
    refine TO_cons rfl (TOp_storeB sz49 rfl rfl rfl rfl rfl rfl rfl (by decide) (lb rfl) rfl ?_)
    refine TO_st (σ' := [.box [(sl tRelation aDb0.relations), (sl tFact aDb0.facts)], .box [(intA r_7.1.kind), (intA r_7.1.fact.relation), (sl tInt r_7.1.fact.values)], .row (flat tRelation.own r_9.relations), .row (flat tFact.own r_9.facts), .box [(.m [2] 0 r_9.relations.length tRelation.k), (.m [3] 0 r_9.facts.length tFact.k)]]) rfl ?_
    refine TO_nil ?_
    refine sr ?_
    obtain ⟨r_11, h_12, H⟩ := bind_inv H
    refine pv tb 2 rfl ?_
    refine TO_cons rfl (TOp_callOG (call_static ent24 rfl) (frz_cons (frzOK_g (frz_cons (frzT (T := tRelation) rfl) (frz_cons (frzT (T := tFact) rfl) frz_nil)).1 (frz_cons (frzT (T := tRelation) rfl) (frz_cons (frzT (T := tFact) rfl) frz_nil)).2) (frz_cons (frz_loose rfl) frz_nil)).1 (frz_cons (frzOK_g (frz_cons (frzT (T := tRelation) rfl) (frz_cons (frzT (T := tFact) rfl) frz_nil)).1 (frz_cons (frzT (T := tRelation) rfl) (frz_cons (frzT (T := tFact) rfl) frz_nil)).2) (frz_cons (frz_loose rfl) frz_nil)).2 (m_impl_ParseEdit_own u _ _ _ h_12) rfl (ownC_of (ownSB_cons (flat_ownR tInt _) ownSB_nil)) rfl rfl rfl ?_)
    refine toe [(1, (strA aS1)), (2, (.b 0 0)), (6, (.b 1 0)), (7, (boolA r_7.2)), (8, (.b 4 0)), (34, (.g [(.m [2] 0 r_9.relations.length tRelation.k), (.m [3] 0 r_9.facts.length tFact.k)])), (35, (strA aS1)), (36, (.t [(.g [(intA r_11.1.kind), (intA r_11.1.fact.relation), (.m [5] 0 r_11.1.fact.values.length tInt.k)]), (boolA r_11.2)]))] rfl ?_
    refine TO_st (σ' := [.box [(sl tRelation aDb0.relations), (sl tFact aDb0.facts)], .box [(intA r_7.1.kind), (intA r_7.1.fact.relation), (sl tInt r_7.1.fact.values)], .row (flat tRelation.own r_9.relations), .row (flat tFact.own r_9.facts), .box [(.m [2] 0 r_9.relations.length tRelation.k), (.m [3] 0 r_9.facts.length tFact.k)], .row (flat tInt.own r_11.1.fact.values)]) rfl ?_
    refine pv tb 3 rfl ?_
    refine TO_cons rfl (TOp_alloc zero53 rfl rfl ?_)
    refine TO_cons rfl (TOp_storeB sz53 rfl rfl rfl rfl rfl rfl rfl (by decide) (lb rfl) rfl ?_)
    refine TO_st (σ' := [.box [(sl tRelation aDb0.relations), (sl tFact aDb0.facts)], .box [(intA r_7.1.kind), (intA r_7.1.fact.relation), (sl tInt r_7.1.fact.values)], .row (flat tRelation.own r_9.relations), .row (flat tFact.own r_9.facts), .box [(.m [2] 0 r_9.relations.length tRelation.k), (.m [3] 0 r_9.facts.length tFact.k)], .row (flat tInt.own r_11.1.fact.values), .box [(intA r_11.1.kind), (intA r_11.1.fact.relation), (.m [5] 0 r_11.1.fact.values.length tInt.k)]]) rfl ?_
    refine pv tb 1 rfl ?_
    refine TO_nil ?_
    refine T_seq ?_
    obtain ⟨t47_13, J_13, H_14⟩ := bind_inv H
    refine T_cutX (fun x => t47_13 = x) (fun (t47_13 : Bool) => [(1, (strA aS1)), (2, (.b 0 0)), (6, (.b 1 0)), (7, (boolA r_7.2)), (8, (.b 4 0)), (9, (.b 6 0)), (10, (boolA r_11.2)), (47, (boolA t47_13))]) (fun (t47_13 : Bool) => [.box [(sl tRelation aDb0.relations), (sl tFact aDb0.facts)], .box [(intA r_7.1.kind), (intA r_7.1.fact.relation), (sl tInt r_7.1.fact.values)], .row (flat tRelation.own r_9.relations), .row (flat tFact.own r_9.facts), .box [(.m [2] 0 r_9.relations.length tRelation.k), (.m [3] 0 r_9.facts.length tFact.k)], .row (flat tInt.own r_11.1.fact.values), .box [(intA r_11.1.kind), (intA r_11.1.fact.relation), (.m [5] 0 r_11.1.fact.values.length tInt.k)]]) ?_ ?_
    ·replace H := J_13
     refine T_region ?_
     obtain ⟨r_15, h_16, H⟩ := bind_inv H
     refine pv tb 2 rfl ?_
     refine TO_cons rfl (TOp_callB (call_static ent22 rfl) (frz_cons (frzOK_g (frz_cons (frz_loose rfl) (frz_cons (frz_loose rfl) (frz_cons (frzT (T := tInt) rfl) frz_nil))).1 (frz_cons (frz_loose rfl) (frz_cons (frz_loose rfl) (frz_cons (frzT (T := tInt) rfl) frz_nil))).2) (frz_cons (frz_loose rfl) frz_nil)).1 (frz_cons (frzOK_g (frz_cons (frz_loose rfl) (frz_cons (frz_loose rfl) (frz_cons (frzT (T := tInt) rfl) frz_nil))).1 (frz_cons (frz_loose rfl) (frz_cons (frz_loose rfl) (frz_cons (frzT (T := tInt) rfl) frz_nil))).2) (frz_cons (frz_loose rfl) frz_nil)).2 (m_laws_eqEdit_ok _ _ _ h_16) rfl ?_)
     refine pv tb 2 rfl ?_
     refine TO_split (t := (!r_15)) 43 rfl (fun g_17 => ?_) (fun g_17 => ?_)
     ·replace H := cond_t g_17 H
      refine pv tb 4 rfl ?_
      refine TO_nil ?_
      exact joined true (w0 7) (some_inj H).symm
     ·replace H := cond_f g_17 H
      refine pv tb 2 rfl ?_
      refine TO_on rfl rfl (by decide) rfl rfl (TOp_pure (pur_neqB (by kernel_rfl) rfl rfl rfl) rfl ?_)
      refine pv tb 1 rfl ?_
      refine TO_nil ?_
      exact joined (r_11.2 != r_7.2) (w0 7) (some_inj H).symm
    ·rintro _ rfl
     replace H := H_14
     refine T_cond (t := t47_13) rfl (fun c_18 => ?_) (fun c_18 => ?_)
     ·replace H := cond_t c_18 H
      refine sr ?_
      refine pv tb 1 rfl ?_
      refine TO_nil ?_
      refine T_ret ?_
      refine then_ret ?_
      obtain rfl := some_inj H
      refine end_ret (.tmp .nil) rfl rfl ⟨?_, rfl⟩
      rfl
     ·replace H := cond_f c_18 H
      refine T_skip ?_
      refine T_seq ?_
      obtain ⟨r_19, h_20, H⟩ := bind_inv H
      obtain ⟨r_21, h_22, H⟩ := bind_inv H
      refine T_cutX (fun (_ : Unit) => True) (fun _ => [(1, (strA aS1)), (2, (.b 0 0)), (6, (.b 1 0)), (7, (boolA r_7.2)), (8, (.b 4 0)), (9, (.b 6 0)), (10, (boolA r_11.2)), (52, (boolA (!r_21)))]) (fun _ => [.box [(sl tRelation aDb0.relations), (sl tFact aDb0.facts)], .box [(intA r_7.1.kind), (intA r_7.1.fact.relation), (sl tInt r_7.1.fact.values)], .row (flat tRelation.own r_9.relations), .row (flat tFact.own r_9.facts), .box [(.m [2] 0 r_9.relations.length tRelation.k), (.m [3] 0 r_9.facts.length tFact.k)], .row (flat tInt.own r_11.1.fact.values), .box [(intA r_11.1.kind), (intA r_11.1.fact.relation), (.m [5] 0 r_11.1.fact.values.length tInt.k)]]) ?_ ?_
      ·skip
       refine T_regionP 7 mixed rfl ?_
       refine pa tb [0, 1] 3 rfl (by kernel_rfl) rfl ?_
       refine t1 2 (by kernel_rfl) rfl rfl (TOp_callV (call_static ent18 rfl) (m_laws_toDatabase_ok _ _ h_20) rfl rfl rfl ?_)
       refine t1 3 (by kernel_rfl) rfl rfl (TOp_callB (call_static ent21 rfl) (frz_cons (frzOK_g (frz_cons (frzT (T := tRelation) rfl) (frz_cons (frzT (T := tFact) rfl) frz_nil)).1 (frz_cons (frzT (T := tRelation) rfl) (frz_cons (frzT (T := tFact) rfl) frz_nil)).2) (frz_cons (frz_loose rfl) frz_nil)).1 (frz_cons (frzOK_g (frz_cons (frzT (T := tRelation) rfl) (frz_cons (frzT (T := tFact) rfl) frz_nil)).1 (frz_cons (frzT (T := tRelation) rfl) (frz_cons (frzT (T := tFact) rfl) frz_nil)).2) (frz_cons (frz_loose rfl) frz_nil)).2 (m_laws_eqDatabase_ok _ _ _ h_22) rfl ?_)
       refine pa tb [4] 0 rfl (by kernel_rfl) rfl ?_
       exact TA_nil (by kernel_rfl) (joined () (w0 7) trivial)
      ·rintro _ _
       refine T_cond (t := (!r_21)) rfl (fun c_23 => ?_) (fun c_23 => ?_)
       ·replace H := cond_t c_23 H
        refine sr ?_
        refine pv tb 1 rfl ?_
        refine TO_nil ?_
        refine T_ret ?_
        refine then_ret ?_
        obtain rfl := some_inj H
        refine end_ret (.tmp .nil) rfl rfl ⟨?_, rfl⟩
        rfl
       ·replace H := cond_f c_23 H
        refine T_skip ?_
        refine sr ?_
        refine pv tb 1 rfl ?_
        refine TO_nil ?_
        refine sr ?_
        obtain ⟨r_24, h_25, H⟩ := bind_inv H
        refine pv tb 2 rfl ?_
        refine TO_cons rfl (TOp_callG (aa := [(.g [(.m [2] 0 r_9.relations.length tRelation.k), (.m [3] 0 r_9.facts.length tFact.k)]), (intA 1)]) [[2], [3]] (call_static ent25 rfl) rfl (.cons rfl rfl (by decide) (.cons rfl rfl (by decide) .nil)) rfl rfl (m_laws_markDatabase_mut u _ _ _ h_25) rfl (fun hl_26 => ?_))
        obtain ⟨hq_27, hl_26⟩ := sameLens_T (T := tRelation) hl_26
        refine TO_env (E' := [(1, (strA aS1)), (2, (.b 0 0)), (6, (.b 1 0)), (7, (boolA r_7.2)), (8, (.b 4 0)), (9, (.b 6 0)), (10, (boolA r_11.2)), (11, (intA 1)), (53, (.g [(.m [2] 0 r_24.2.relations.length tRelation.k), (.m [3] 0 r_9.facts.length tFact.k)])), (54, (intA 1)), (55, (intA r_24.1))]) ⟨rfl, rfl, rfl, rfl, rfl, rfl, rfl, rfl, (by simp only [hq_27]; rfl), rfl, rfl, trivial⟩ ?_
        obtain ⟨hq_28, hl_26⟩ := sameLens_T (T := tFact) hl_26
        refine TO_env (E' := [(1, (strA aS1)), (2, (.b 0 0)), (6, (.b 1 0)), (7, (boolA r_7.2)), (8, (.b 4 0)), (9, (.b 6 0)), (10, (boolA r_11.2)), (11, (intA 1)), (53, (.g [(.m [2] 0 r_24.2.relations.length tRelation.k), (.m [3] 0 r_24.2.facts.length tFact.k)])), (54, (intA 1)), (55, (intA r_24.1))]) ⟨rfl, rfl, rfl, rfl, rfl, rfl, rfl, rfl, (by simp only [hq_28]; rfl), rfl, rfl, trivial⟩ ?_
        refine TO_st (σ' := [.box [(sl tRelation aDb0.relations), (sl tFact aDb0.facts)], .box [(intA r_7.1.kind), (intA r_7.1.fact.relation), (sl tInt r_7.1.fact.values)], .row (flat tRelation.own r_24.2.relations), .row (flat tFact.own r_24.2.facts), .box [(.m [2] 0 r_9.relations.length tRelation.k), (.m [3] 0 r_9.facts.length tFact.k)], .row (flat tInt.own r_11.1.fact.values), .box [(intA r_11.1.kind), (intA r_11.1.fact.relation), (.m [5] 0 r_11.1.fact.values.length tInt.k)]]) rfl ?_
        refine TO_st (σ' := [.box [(sl tRelation aDb0.relations), (sl tFact aDb0.facts)], .box [(intA r_7.1.kind), (intA r_7.1.fact.relation), (sl tInt r_7.1.fact.values)], .row (flat tRelation.own r_24.2.relations), .row (flat tFact.own r_24.2.facts), .box [(.m [2] 0 r_24.2.relations.length tRelation.k), (.m [3] 0 r_9.facts.length tFact.k)], .row (flat tInt.own r_11.1.fact.values), .box [(intA r_11.1.kind), (intA r_11.1.fact.relation), (.m [5] 0 r_11.1.fact.values.length tInt.k)]]) (by simp only [hq_27]) ?_
        refine TO_st (σ' := [.box [(sl tRelation aDb0.relations), (sl tFact aDb0.facts)], .box [(intA r_7.1.kind), (intA r_7.1.fact.relation), (sl tInt r_7.1.fact.values)], .row (flat tRelation.own r_24.2.relations), .row (flat tFact.own r_24.2.facts), .box [(.m [2] 0 r_24.2.relations.length tRelation.k), (.m [3] 0 r_24.2.facts.length tFact.k)], .row (flat tInt.own r_11.1.fact.values), .box [(intA r_11.1.kind), (intA r_11.1.fact.relation), (.m [5] 0 r_11.1.fact.values.length tInt.k)]]) (by simp only [hq_28]) ?_
        refine pv tb 1 rfl ?_
        refine TO_nil ?_
        refine T_seq ?_
        obtain ⟨t68_29, J_29, H_30⟩ := bind_inv H
        refine T_cutX (fun x => t68_29 = x) (fun (t68_29 : Bool) => [(1, (strA aS1)), (2, (.b 0 0)), (6, (.b 1 0)), (7, (boolA r_7.2)), (9, (.b 6 0)), (68, (boolA t68_29))]) (fun (t68_29 : Bool) => [.box [(sl tRelation aDb0.relations), (sl tFact aDb0.facts)], .box [(intA r_7.1.kind), (intA r_7.1.fact.relation), (sl tInt r_7.1.fact.values)], .row (flat tRelation.own r_24.2.relations), .row (flat tFact.own r_24.2.facts), .box [(.m [2] 0 r_24.2.relations.length tRelation.k), (.m [3] 0 r_24.2.facts.length tFact.k)], .row (flat tInt.own r_11.1.fact.values), .box [(intA r_11.1.kind), (intA r_11.1.fact.relation), (.m [5] 0 r_11.1.fact.values.length tInt.k)]]) ?_ ?_
        ·replace H := J_29
         refine T_region ?_
         refine pv tb 3 rfl ?_
         refine TO_split (t := decide (r_24.1 < 0)) 58 rfl (fun g_31 => ?_) (fun g_31 => ?_)
         ·replace H := cond_t g_31 H
          refine pv tb 10 rfl ?_
          refine TO_nil ?_
          exact joined true (w0 7) (some_inj H).symm
         ·replace H := cond_f g_31 H
          obtain ⟨r_32, h_33, H⟩ := bind_inv H
          refine pv tb 2 rfl ?_
          refine TO_on rfl rfl (by decide) rfl rfl (TOp_callB (call_static ent22 rfl) (frz_cons (frzOK_g (frz_cons (frz_loose rfl) (frz_cons (frz_loose rfl) (frz_cons (frzT (T := tInt) rfl) frz_nil))).1 (frz_cons (frz_loose rfl) (frz_cons (frz_loose rfl) (frz_cons (frzT (T := tInt) rfl) frz_nil))).2) (frz_cons (frz_loose rfl) frz_nil)).1 (frz_cons (frzOK_g (frz_cons (frz_loose rfl) (frz_cons (frz_loose rfl) (frz_cons (frzT (T := tInt) rfl) frz_nil))).1 (frz_cons (frz_loose rfl) (frz_cons (frz_loose rfl) (frz_cons (frzT (T := tInt) rfl) frz_nil))).2) (frz_cons (frz_loose rfl) frz_nil)).2 (m_laws_eqEdit_ok _ _ _ h_33) rfl ?_)
          refine pv tb 3 rfl ?_
          refine TO_split (t := (!r_32)) 64 rfl (fun g_34 => ?_) (fun g_34 => ?_)
          ·replace H := cond_t g_34 H
           refine pv tb 4 rfl ?_
           refine TO_nil ?_
           exact joined true (w0 7) (some_inj H).symm
          ·replace H := cond_f g_34 H
           refine pv tb 2 rfl ?_
           refine TO_on rfl rfl (by decide) rfl rfl (TOp_pure (pur_neqB (by kernel_rfl) rfl rfl rfl) rfl ?_)
           refine pv tb 1 rfl ?_
           refine TO_nil ?_
           exact joined (r_11.2 != r_7.2) (w0 7) (some_inj H).symm
        ·rintro _ rfl
         replace H := H_30
         refine T_cond (t := t68_29) rfl (fun c_35 => ?_) (fun c_35 => ?_)
         ·replace H := cond_t c_35 H
          refine sr ?_
          refine pv tb 1 rfl ?_
          refine TO_nil ?_
          refine T_ret ?_
          refine then_ret ?_
          obtain rfl := some_inj H
          refine end_ret (.tmp .nil) rfl rfl ⟨?_, rfl⟩
          rfl
         ·replace H := cond_f c_35 H
          refine T_skip ?_
          refine sr ?_
          refine pv tb 1 rfl ?_
          refine TO_nil ?_
          refine sr ?_
          obtain ⟨r_36, h_37, H⟩ := bind_inv H
          refine pv tb 2 rfl ?_
          refine TO_cons rfl (TOp_callG (aa := [(.g [(intA r_11.1.kind), (intA r_11.1.fact.relation), (.m [5] 0 r_11.1.fact.values.length tInt.k)]), (intA 1)]) [[5]] (call_static ent26 rfl) rfl (.cons rfl rfl (by decide) .nil) rfl rfl (m_laws_markEdit_mut _ _ _ h_37) rfl (fun hl_38 => ?_))
          obtain ⟨hq_39, hl_38⟩ := sameLens_T (T := tInt) hl_38
          refine TO_env (E' := [(1, (strA aS1)), (2, (.b 0 0)), (6, (.b 1 0)), (7, (boolA r_7.2)), (9, (.b 6 0)), (12, (intA 1)), (69, (.g [(intA r_11.1.kind), (intA r_11.1.fact.relation), (.m [5] 0 r_36.2.fact.values.length tInt.k)])), (70, (intA 1)), (71, (intA r_36.1))]) ⟨rfl, rfl, rfl, rfl, rfl, rfl, (by simp only [hq_39]; rfl), rfl, rfl, trivial⟩ ?_
          refine TO_st (σ' := [.box [(sl tRelation aDb0.relations), (sl tFact aDb0.facts)], .box [(intA r_7.1.kind), (intA r_7.1.fact.relation), (sl tInt r_7.1.fact.values)], .row (flat tRelation.own r_24.2.relations), .row (flat tFact.own r_24.2.facts), .box [(.m [2] 0 r_24.2.relations.length tRelation.k), (.m [3] 0 r_24.2.facts.length tFact.k)], .row (flat tInt.own r_36.2.fact.values), .box [(intA r_11.1.kind), (intA r_11.1.fact.relation), (.m [5] 0 r_11.1.fact.values.length tInt.k)]]) rfl ?_
          refine TO_st (σ' := [.box [(sl tRelation aDb0.relations), (sl tFact aDb0.facts)], .box [(intA r_7.1.kind), (intA r_7.1.fact.relation), (sl tInt r_7.1.fact.values)], .row (flat tRelation.own r_24.2.relations), .row (flat tFact.own r_24.2.facts), .box [(.m [2] 0 r_24.2.relations.length tRelation.k), (.m [3] 0 r_24.2.facts.length tFact.k)], .row (flat tInt.own r_36.2.fact.values), .box [(intA r_11.1.kind), (intA r_11.1.fact.relation), (.m [5] 0 r_36.2.fact.values.length tInt.k)]]) (by simp only [hq_39]) ?_
          refine pv tb 1 rfl ?_
          refine TO_nil ?_
          refine sr ?_
          refine pv tb 1 rfl ?_
          refine TO_nil ?_
          refine sr ?_
          obtain ⟨r_40, h_41, H⟩ := bind_inv H
          refine pv tb 2 rfl ?_
          refine TO_cons rfl (TOp_callB (call_static ent27 rfl) (frz_cons (frzOK_g (frz_cons (frz_loose rfl) (frz_cons (frz_loose rfl) (frz_cons (frzT (T := tInt) rfl) frz_nil))).1 (frz_cons (frz_loose rfl) (frz_cons (frz_loose rfl) (frz_cons (frzT (T := tInt) rfl) frz_nil))).2) (frz_cons (frz_loose rfl) frz_nil)).1 (frz_cons (frzOK_g (frz_cons (frz_loose rfl) (frz_cons (frz_loose rfl) (frz_cons (frzT (T := tInt) rfl) frz_nil))).1 (frz_cons (frz_loose rfl) (frz_cons (frz_loose rfl) (frz_cons (frzT (T := tInt) rfl) frz_nil))).2) (frz_cons (frz_loose rfl) frz_nil)).2 (m_laws_heldEdit_ok _ _ _ h_41) rfl ?_)
          refine pv tb 1 rfl ?_
          refine TO_nil ?_
          refine T_seq ?_
          refine sr ?_
          refine pv tb 2 rfl ?_
          refine TO_nil ?_
          refine T_cond (t := decide (r_40 < 0)) rfl (fun c_42 => ?_) (fun c_42 => ?_)
          ·replace H := cond_t c_42 H
           refine sr ?_
           refine pv tb 1 rfl ?_
           refine TO_nil ?_
           refine te [(4, (boolA false))] rfl ?_
           refine T_ret ?_
           refine then_ret ?_
           obtain rfl := some_inj H
           refine end_ret (.tmp .nil) rfl rfl ⟨?_, rfl⟩
           rfl
          ·replace H := cond_f c_42 H
           refine T_skip ?_
           refine T_seq ?_
           refine sr ?_
           refine pv tb 3 rfl ?_
           refine TO_nil ?_
           refine T_cond (t := decide (r_40 ≠ r_36.1)) rfl (fun c_43 => ?_) (fun c_43 => ?_)
           ·replace H := cond_t c_43 H
            refine sr ?_
            refine pv tb 1 rfl ?_
            refine TO_nil ?_
            refine te [(4, (boolA false))] rfl ?_
            refine T_ret ?_
            refine then_ret ?_
            obtain rfl := some_inj H
            refine end_ret (.tmp .nil) rfl rfl ⟨?_, rfl⟩
            rfl
           ·replace H := cond_f c_43 H
            refine T_skip ?_
            refine sr ?_
            obtain ⟨r_44, h_45, H⟩ := bind_inv H
            refine pv tb 1 rfl ?_
            refine TO_cons rfl (TOp_callV (call_static ent18 rfl) (m_laws_toDatabase_ok _ _ h_45) rfl rfl rfl ?_)
            obtain ⟨r_46, h_47, H⟩ := bind_inv H
            refine pv tb 1 rfl ?_
            refine TO_cons rfl (TOp_callV (call_static ent24 rfl) (m_impl_ParseEdit_ok u _ _ _ h_47) rfl rfl rfl ?_)
            refine pv tb 3 rfl ?_
            refine TO_cons rfl (TOp_alloc zero53 rfl rfl ?_)
            refine TO_cons rfl (TOp_storeB sz53 rfl rfl rfl rfl rfl rfl rfl (by decide) (lb rfl) rfl ?_)
            refine TO_st (σ' := [.box [(sl tRelation aDb0.relations), (sl tFact aDb0.facts)], .box [(intA r_7.1.kind), (intA r_7.1.fact.relation), (sl tInt r_7.1.fact.values)], .row (flat tRelation.own r_24.2.relations), .row (flat tFact.own r_24.2.facts), .box [(.m [2] 0 r_24.2.relations.length tRelation.k), (.m [3] 0 r_24.2.facts.length tFact.k)], .row (flat tInt.own r_36.2.fact.values), .box [(intA r_11.1.kind), (intA r_11.1.fact.relation), (.m [5] 0 r_36.2.fact.values.length tInt.k)], .box [(intA r_46.1.kind), (intA r_46.1.fact.relation), (sl tInt r_46.1.fact.values)]]) rfl ?_
            refine pv tb 1 rfl ?_
            refine TO_nil ?_
            refine te [(6, (.b 1 0)), (7, (boolA r_7.2)), (9, (.b 6 0)), (12, (intA r_36.1)), (14, (.b 7 0)), (15, (boolA r_46.2))] rfl ?_
            refine T_seq ?_
            obtain ⟨t95_48, J_48, H_49⟩ := bind_inv H
            refine T_cutX (fun x => t95_48 = x) (fun (t95_48 : Bool) => [(9, (.b 6 0)), (12, (intA r_36.1)), (95, (boolA t95_48))]) (fun (t95_48 : Bool) => [.box [(sl tRelation aDb0.relations), (sl tFact aDb0.facts)], .box [(intA r_7.1.kind), (intA r_7.1.fact.relation), (sl tInt r_7.1.fact.values)], .row (flat tRelation.own r_24.2.relations), .row (flat tFact.own r_24.2.facts), .box [(.m [2] 0 r_24.2.relations.length tRelation.k), (.m [3] 0 r_24.2.facts.length tFact.k)], .row (flat tInt.own r_36.2.fact.values), .box [(intA r_11.1.kind), (intA r_11.1.fact.relation), (.m [5] 0 r_36.2.fact.values.length tInt.k)]]) ?_ ?_
            ·replace H := J_48
             refine T_region ?_
             obtain ⟨r_50, h_51, H⟩ := bind_inv H
             refine pv tb 2 rfl ?_
             refine TO_cons rfl (TOp_callV (call_static ent22 rfl) (m_laws_eqEdit_ok _ _ _ h_51) rfl rfl rfl ?_)
             refine pv tb 2 rfl ?_
             refine TO_split (t := (!r_50)) 91 rfl (fun g_52 => ?_) (fun g_52 => ?_)
             ·replace H := cond_t g_52 H
              refine pv tb 4 rfl ?_
              refine TO_nil ?_
              exact joined true (w0 7) (some_inj H).symm
             ·replace H := cond_f g_52 H
              refine pv tb 2 rfl ?_
              refine TO_on rfl rfl (by decide) rfl rfl (TOp_pure (pur_neqB (by kernel_rfl) rfl rfl rfl) rfl ?_)
              refine pv tb 1 rfl ?_
              refine TO_nil ?_
              exact joined (r_46.2 != r_7.2) (w0 7) (some_inj H).symm
            ·rintro _ rfl
             replace H := H_49
             refine T_cond (t := t95_48) rfl (fun c_53 => ?_) (fun c_53 => ?_)
             ·replace H := cond_t c_53 H
              refine sr ?_
              refine pv tb 1 rfl ?_
              refine TO_nil ?_
              refine T_ret ?_
              refine then_ret ?_
              obtain rfl := some_inj H
              refine end_ret (.tmp .nil) rfl rfl ⟨?_, rfl⟩
              rfl
             ·replace H := cond_f c_53 H
              refine T_skip ?_
              refine sr ?_
              refine pv tb 1 rfl ?_
              refine TO_nil ?_
              refine sr ?_
              obtain ⟨r_54, h_55, H⟩ := bind_inv H
              refine pv tb 2 rfl ?_
              refine TO_cons rfl (TOp_callB (call_static ent27 rfl) (frz_cons (frzOK_g (frz_cons (frz_loose rfl) (frz_cons (frz_loose rfl) (frz_cons (frzT (T := tInt) rfl) frz_nil))).1 (frz_cons (frz_loose rfl) (frz_cons (frz_loose rfl) (frz_cons (frzT (T := tInt) rfl) frz_nil))).2) (frz_cons (frz_loose rfl) frz_nil)).1 (frz_cons (frzOK_g (frz_cons (frz_loose rfl) (frz_cons (frz_loose rfl) (frz_cons (frzT (T := tInt) rfl) frz_nil))).1 (frz_cons (frz_loose rfl) (frz_cons (frz_loose rfl) (frz_cons (frzT (T := tInt) rfl) frz_nil))).2) (frz_cons (frz_loose rfl) frz_nil)).2 (m_laws_heldEdit_ok _ _ _ h_55) rfl ?_)
              refine pv tb 1 rfl ?_
              refine TO_nil ?_
              refine T_seq ?_
              refine sr ?_
              refine pv tb 2 rfl ?_
              refine TO_nil ?_
              refine T_cond (t := decide (r_54 < 0)) rfl (fun c_56 => ?_) (fun c_56 => ?_)
              ·replace H := cond_t c_56 H
               refine sr ?_
               refine pv tb 1 rfl ?_
               refine TO_nil ?_
               refine T_ret ?_
               refine then_ret ?_
               obtain rfl := some_inj H
               refine end_ret (.tmp .nil) rfl rfl ⟨?_, rfl⟩
               rfl
              ·replace H := cond_f c_56 H
               refine T_skip ?_
               refine T_seq ?_
               refine sr ?_
               refine pv tb 3 rfl ?_
               refine TO_nil ?_
               refine T_cond (t := decide (r_54 ≠ r_36.1)) rfl (fun c_57 => ?_) (fun c_57 => ?_)
               ·replace H := cond_t c_57 H
                refine sr ?_
                refine pv tb 1 rfl ?_
                refine TO_nil ?_
                refine T_ret ?_
                refine then_ret ?_
                obtain rfl := some_inj H
                refine end_ret (.tmp .nil) rfl rfl ⟨?_, rfl⟩
                rfl
               ·replace H := cond_f c_57 H
                refine T_skip ?_
                refine sr ?_
                refine pv tb 1 rfl ?_
                refine TO_nil ?_
                refine T_ret ?_
                obtain rfl := some_inj H
                refine end_ret (.tmp .nil) rfl rfl ⟨?_, rfl⟩
                rfl
end Go.Proofs.YtaadmoaanhdboaaDoor

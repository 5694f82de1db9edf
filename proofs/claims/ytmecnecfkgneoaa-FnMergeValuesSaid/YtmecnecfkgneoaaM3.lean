import Derived.Test.YtmecnecfkgneoaaM1
import Derived.Test.YtmecnecfkgneoaaM2
set_option linter.unusedVariables false
set_option linter.unusedSimpArgs false
set_option maxRecDepth 4000
namespace Go.Proofs.Ytmecnecfkgneoaa
open Go Go.Proofs Go.Sep
set_option maxHeartbeats 1000000 in
theorem m_slices_IndexFunc_Sint_int_ok (s0 : (List Int)) (f1 : (Int → Option Bool)) (f1_g : Nat) (f1_c : List A) (f1_E : EnT prg f1_g) (f1_l : looseL f1_c = true) (f1_m : firmL f1_c = true ∧ fzL f1_c = f1_c) (f1_H : ∀ (x0 : Int) r, f1 x0 = some r → FnV prg f1_g ([(intA x0)] ++ f1_c) (boolA r)) (r : Int) (H : m_slices_IndexFunc_Sint_int s0 f1 = some r) : FnV prg 135 [(sl tInt s0), (.f f1_g f1_c)] (intA r) := by
  unfold m_slices_IndexFunc_Sint_int at H
  refine fnV_of_T Try.func135 rfl rfl (Nat.le_of_ble_eq_true rfl) ?_
  refine te [(0, (sl tInt s0)), (1, (.f f1_g f1_c))] rfl ?_
  refine sr ?_
  refine pv tb 1 rfl ?_
  refine TO_nil ?_
  refine T_seq ?_
  refine sr ?_
  refine pv tb 1 rfl ?_
  refine Tp rfl rfl (pur_lenT (T := tInt) sl53 rfl rfl) rfl ?_
  refine pv tb 1 rfl ?_
  refine TO_nil ?_
  obtain ⟨O2_, L2_, N2_⟩ := bind_inv H
  clear H
  obtain ⟨B2_, hb2, L2_⟩ := gen_forL L2_
  refine T_block ?_
  refine T_loopX (fun k => fun (t_1 : Nat) => k = s0.length - t_1 ∧ forL B2_ (s0.drop t_1) (t_1 : Int) () = some O2_) (fun (t_1 : Nat) => [(0, (sl tInt s0)), (1, (.f f1_g f1_c)), (7, (intA (s0.length : Int))), (8, (intA (t_1 : Int)))]) (fun (t_1 : Nat) => []) _ (0 : Nat) (wp 0 (lb rfl) rfl rfl (by simp only [namesE, A.names, namesL_enc, Bool.false_or, Bool.or_false, looseL_names f1_l]) rfl rfl) ⟨rfl, L2_⟩ ?_
  rintro _ t_1 ⟨rfl, L2_⟩
  refine T_fact (len_sl (T := tInt) (.tmp 0) rfl) (fun hl2 => ?_)
  refine sr ?_
  refine pv tb 1 rfl ?_
  refine TO_nil ?_
  refine T_seq ?_
  refine T_cond (t := decide ((t_1 : Int) < (s0.length : Int))) rfl (fun d2 => ?_) (fun d2 => ?_)
  ·replace d2 := of_decide_eq_true d2
   obtain ⟨x_t_1, hx_t_1⟩ : ∃ v, (s0)[t_1]? = some v := ⟨_, List.getElem?_eq_getElem (by omega)⟩
   obtain ⟨C2_, H, K2_⟩ := forL_step L2_ hx_t_1
   rw [hb2] at H
   refine T_skip ?_
   refine T_seq ?_
   refine T_block ?_
   refine sr ?_
   refine pv tb 2 rfl ?_
   refine TO_nil ?_
   refine sr ?_
   refine pv tb 3 rfl ?_
   refine Tp rfl rfl (pur_ixT (T := tInt) sl53 rfl rfl rfl hx_t_1 rfl) rfl ?_
   refine Tp rfl rfl (pur_ldT (T := tInt) (i := t_1) (off := 0) rfl one3 rfl rfl hx_t_1 rfl) rfl ?_
   obtain ⟨r_3, h_4, H⟩ := bind_inv H
   refine TO_cons rfl (TOp_callV (call_closure f1_E rfl rfl) (f1_H _  _ h_4) (looseL_app rfl f1_l) rfl rfl ?_)
   refine TO_nil ?_
   refine T_cond (t := r_3) rfl (fun c_5 => ?_) (fun c_5 => ?_)
   ·replace H := cond_t c_5 H
    refine sr ?_
    refine pv tb 2 rfl ?_
    refine TO_nil ?_
    refine T_ret ?_
    refine block_ret ?_
    refine then_ret ?_
    refine then_ret ?_
    refine block_ret ?_
    refine then_ret ?_
    obtain rfl := some_inj H
    obtain rfl := some_inj K2_
    replace H := onS_r N2_
    obtain rfl := some_inj H
    refine end_ret (.tmp .nil) rfl rfl ⟨?_, rfl⟩
    rfl
   ·replace H := cond_f c_5 H
    refine T_skip ?_
    refine T_region ?_
    refine Tp rfl rfl (pur_add rfl rfl rfl (fits64 (by omega) (by omega))) rfl ?_
    refine pv tb 1 rfl ?_
    refine TO_nil ?_
    obtain rfl := some_inj H
    exact again (s0.length - (t_1 + 1)) (t_1 + 1) (by omega) (wp 0 (lb rfl) rfl rfl (by simp only [namesE, A.names, namesL_enc, Bool.false_or, Bool.or_false, looseL_names f1_l]) rfl rfl) ⟨rfl, K2_⟩
  ·replace d2 := of_decide_eq_false d2
   obtain rfl := forL_end L2_ (by omega)
   refine T_exit ?_
   refine then_exit ?_
   refine then_exit ?_
   refine block_exit ?_
   replace H := onS_l N2_
   refine sr ?_
   refine pv tb 1 rfl ?_
   refine TO_nil ?_
   refine T_ret ?_
   obtain rfl := some_inj H
   refine end_ret (.tmp .nil) rfl rfl ⟨?_, rfl⟩
   rfl

set_option maxHeartbeats 1000000 in
theorem m_slices_ContainsFunc_Sint_int_ok (s0 : (List Int)) (f1 : (Int → Option Bool)) (f1_g : Nat) (f1_c : List A) (f1_E : EnT prg f1_g) (f1_l : looseL f1_c = true) (f1_m : firmL f1_c = true ∧ fzL f1_c = f1_c) (f1_H : ∀ (x0 : Int) r, f1 x0 = some r → FnV prg f1_g ([(intA x0)] ++ f1_c) (boolA r)) (r : Bool) (H : m_slices_ContainsFunc_Sint_int s0 f1 = some r) : FnV prg 107 [(sl tInt s0), (.f f1_g f1_c)] (boolA r) := by
  unfold m_slices_ContainsFunc_Sint_int at H
  refine fnV_of_T Try.func107 rfl rfl (Nat.le_of_ble_eq_true rfl) ?_
  refine te [(0, (sl tInt s0)), (1, (.f f1_g f1_c))] rfl ?_
  refine sr ?_
  refine pv tb 1 rfl ?_
  refine TO_nil ?_
  refine sr ?_
  obtain ⟨r_1, h_2, H⟩ := bind_inv H
  refine pv tb 2 rfl ?_
  refine TO_cons rfl (TOp_callV (call_static ent135 rfl) (m_slices_IndexFunc_Sint_int_ok _ f1 f1_g f1_c f1_E f1_l f1_m f1_H _ h_2) (looseC rfl (looseC f1_l rfl)) rfl rfl ?_)
  refine pv tb 2 rfl ?_
  refine TO_nil ?_
  refine T_ret ?_
  obtain rfl := some_inj H
  refine end_ret (.tmp .nil) rfl rfl ⟨?_, rfl⟩
  rfl

set_option maxHeartbeats 1000000 in
theorem m_impl_areValues_1_ok (v0 : Int) (r : Bool) (H : m_impl_areValues_1 v0 = some r) : FnV prg 131 [(intA v0)] (boolA r) := by
  unfold m_impl_areValues_1 at H
  refine fnV_of_T Try.func131 rfl rfl (Nat.le_of_ble_eq_true rfl) ?_
  refine te [(0, (intA v0))] rfl ?_
  refine sr ?_
  refine pv tb 1 rfl ?_
  refine TO_nil ?_
  refine sr ?_
  obtain ⟨r_1, h_2, H⟩ := bind_inv H
  refine pv tb 1 rfl ?_
  refine TO_cons rfl (TOp_callV (call_static ent47 rfl) (m_impl_within_ok _ _ _ _ h_2) rfl rfl rfl ?_)
  refine pv tb 2 rfl ?_
  refine TO_nil ?_
  refine T_ret ?_
  obtain rfl := some_inj H
  refine end_ret (.tmp .nil) rfl rfl ⟨?_, rfl⟩
  rfl

set_option maxHeartbeats 1000000 in
theorem m_impl_areValues_ok (list0 : (List Int)) (r : Bool) (H : m_impl_areValues list0 = some r) : FnV prg 99 [(sl tInt list0)] (boolA r) := by
  unfold m_impl_areValues at H
  refine fnV_of_T Try.func99 rfl rfl (Nat.le_of_ble_eq_true rfl) ?_
  refine te [(0, (sl tInt list0))] rfl ?_
  refine sr ?_
  refine pv tb 1 rfl ?_
  refine TO_nil ?_
  refine sr ?_
  obtain ⟨r_1, h_2, H⟩ := bind_inv H
  refine pv tb 1 rfl ?_
  refine TO_cons rfl (TOp_callV (call_static ent107 rfl) (m_slices_ContainsFunc_Sint_int_ok _ (fun x0 => m_impl_areValues_1 x0) 131 [] ent131 rfl ⟨rfl, rfl⟩ (fun x0 r h => m_impl_areValues_1_ok x0  r h) _ h_2) rfl rfl rfl ?_)
  refine pv tb 2 rfl ?_
  refine TO_nil ?_
  refine T_ret ?_
  obtain rfl := some_inj H
  refine end_ret (.tmp .nil) rfl rfl ⟨?_, rfl⟩
  rfl

set_option maxHeartbeats 1000000 in
theorem m_impl_isFact_ok (relations0 : (List Relation)) (fact1 : Fact) (r : Bool) (H : m_impl_isFact relations0 fact1 = some r) : FnV prg 63 [(sl tRelation relations0), (.g (tFact.enc fact1))] (boolA r) := by
  unfold m_impl_isFact at H
  refine fnV_of_T Try.func63 rfl rfl (Nat.le_of_ble_eq_true rfl) ?_
  refine te [(0, (sl tRelation relations0)), (1, (.g (tFact.enc fact1)))] rfl ?_
  refine sr ?_
  refine TO_cons rfl (TOp_box rfl (boxAll rfl) rfl rfl ?_)
  refine pv tb 1 rfl ?_
  refine TO_nil ?_
  obtain ⟨t4_1, J_1, H_2⟩ := bind_inv H
  refine T_cutX (fun x => t4_1 = x) (fun (t4_1 : Bool) => [(4, (boolA t4_1))]) (fun (t4_1 : Bool) => []) ?_ ?_
  ·replace H := J_1
   refine T_regionD mixed (by kernel_rfl) ?_
   refine pq tb 3 rfl ?_
   refine TQ_pure rfl (pur_lenT (T := tRelation) sl38 rfl rfl) rfl ?_
   refine TQ_fact (len_sl (T := tRelation) (.tmp 0) rfl) (fun hl_3 => ?_)
   refine TQ_pure rfl (pur_sub rfl rfl rfl (fits64 (by omega) (by omega))) rfl ?_
   obtain ⟨r_4, h_5, H⟩ := bind_inv H
   refine TQ_callV rfl (call_static ent47 rfl) (m_impl_within_ok _ _ _ _ h_5) rfl rfl ?_
   refine pq tb 1 rfl ?_
   refine TQ_split (t := r_4) 11 rfl (fun g_6 => ?_) (fun g_6 => ?_)
   ·replace H := cond_t g_6 H
    refine pq tb 2 rfl ?_
    refine TQ_on rfl rfl (by decide) rfl (pur_lenT (T := tInt) sl53 rfl rfl) rfl ?_
    obtain ⟨v_7, h_8, H⟩ := bind_inv H
    obtain ⟨n_9, hz_10, hv_11⟩ := getI_inv h_8
    refine pq tb 3 rfl ?_
    refine TQ_on rfl rfl (by decide) rfl (pur_ixT (T := tRelation) sl38 rfl rfl hz_10 hv_11 rfl) rfl ?_
    refine pq tb 1 rfl ?_
    refine tqe [(3, (.b 0 0)), (11, (boolA true)), (14, (intA (fact1.values.length : Int))), (19, (.q (flat tRelation.enc relations0) (n_9 * tRelation.k + 1)))] rfl ?_
    refine TQ_on rfl rfl (by decide) rfl (pur_ldT (T := tRelation) (i := n_9) (off := 1) rfl one3 rfl rfl hv_11 rfl) rfl ?_
    refine pq tb 3 rfl ?_
    refine TQ_split (t := decide ((fact1.values.length : Int) = v_7.arity)) 23 rfl (fun g_12 => ?_) (fun g_12 => ?_)
    ·replace H := cond_t g_12 H
     obtain ⟨r_13, h_14, H⟩ := bind_inv H
     refine pq tb 2 rfl ?_
     refine TQ_onV rfl rfl (by decide) rfl (call_static ent99 rfl) (m_impl_areValues_ok _ _ h_14) rfl rfl ?_
     refine pq tb 2 rfl ?_
     refine TQ_nil ?_
     exact joined r_13 (w0 0) (some_inj H).symm
    ·replace H := cond_f g_12 H
     refine pq tb 5 rfl ?_
     refine TQ_nil ?_
     exact joined false (w0 0) (some_inj H).symm
   ·replace H := cond_f g_6 H
    refine pq tb 8 rfl ?_
    refine tqe [(3, (.b 0 0)), (11, (boolA false)), (14, (.v undef)), (19, (.v undef))] rfl ?_
    refine pq tb 9 rfl ?_
    refine TQ_nil ?_
    exact joined false (w0 0) (some_inj H).symm
  ·rintro _ rfl
   replace H := H_2
   refine T_ret ?_
   obtain rfl := some_inj H
   refine end_ret (.tmp .nil) rfl rfl ⟨?_, rfl⟩
   rfl

set_option maxHeartbeats 1000000 in
theorem m_impl_IsValidDatabase_ok (db0 : Database) (r : Bool) (H : m_impl_IsValidDatabase db0 = some r) : FnV prg 26 [(.g (tDatabase.enc db0))] (boolA r) := by
  unfold m_impl_IsValidDatabase at H
  refine fnV_of_T Try.func26 rfl rfl (Nat.le_of_ble_eq_true rfl) ?_
  refine te [(0, (.g (tDatabase.enc db0)))] rfl ?_
  refine sr ?_
  refine TO_cons rfl (TOp_box rfl (boxAll rfl) rfl rfl ?_)
  refine pv tb 1 rfl ?_
  refine TO_nil ?_
  refine T_seq ?_
  obtain ⟨t14_1, J_1, H_2⟩ := bind_inv H
  refine T_cutX (fun x => t14_1 = x) (fun (t14_1 : Bool) => [(1, (.b 0 0)), (14, (boolA t14_1))]) (fun (t14_1 : Bool) => [.box [(sl tRelation db0.relations), (sl tFact db0.facts)]]) ?_ ?_
  ·replace H := J_1
   refine T_region ?_
   obtain ⟨r_3, h_4, H⟩ := bind_inv H
   refine pv tb 2 rfl ?_
   refine TO_cons rfl (TOp_callV (call_static ent62 rfl) (m_impl_AreValidRelations_ok _ _ h_4) rfl rfl rfl ?_)
   refine pv tb 2 rfl ?_
   refine TO_split (t := (!r_3)) 9 rfl (fun g_5 => ?_) (fun g_5 => ?_)
   ·replace H := cond_t g_5 H
    refine pv tb 5 rfl ?_
    refine TO_nil ?_
    exact joined true (w0 1) (some_inj H).symm
   ·replace H := cond_f g_5 H
    refine pv tb 2 rfl ?_
    refine TO_on rfl rfl (by decide) rfl rfl (TOp_pure (pur_lenT (T := tFact) sl39 rfl rfl) rfl ?_)
    refine pv tb 2 rfl ?_
    refine TO_nil ?_
    exact joined (decide (14 < (db0.facts.length : Int))) (w0 1) (some_inj H).symm
  ·rintro _ rfl
   replace H := H_2
   refine T_cond (t := t14_1) rfl (fun c_6 => ?_) (fun c_6 => ?_)
   ·replace H := cond_t c_6 H
    refine sr ?_
    refine pv tb 1 rfl ?_
    refine TO_nil ?_
    refine T_ret ?_
    refine then_ret ?_
    obtain rfl := some_inj H
    refine end_ret (.tmp .nil) rfl rfl ⟨?_, rfl⟩
    rfl
   ·replace H := cond_f c_6 H
    refine T_skip ?_
    refine T_seq ?_
    refine sr ?_
    refine pv tb 2 rfl ?_
    refine Tp rfl rfl (pur_lenT (T := tFact) sl39 rfl rfl) rfl ?_
    refine pv tb 1 rfl ?_
    refine TO_nil ?_
    obtain ⟨O8_, L8_, N8_⟩ := bind_inv H
    clear H
    obtain ⟨B8_, hb8, L8_⟩ := gen_forL L8_
    refine T_block ?_
    refine T_loopX (fun k => fun (t_7 : Nat) => k = db0.facts.length - t_7 ∧ forL B8_ (db0.facts.drop t_7) (t_7 : Int) () = some O8_) (fun (t_7 : Nat) => [(1, (.b 0 0)), (16, (sl tFact db0.facts)), (17, (intA (db0.facts.length : Int))), (18, (intA (t_7 : Int)))]) (fun (t_7 : Nat) => [.box [(sl tRelation db0.relations), (sl tFact db0.facts)]]) _ (0 : Nat) (w0 1) ⟨rfl, L8_⟩ ?_
    rintro _ t_7 ⟨rfl, L8_⟩
    refine T_fact (len_sl (T := tFact) (.tmp 16) rfl) (fun hl8 => ?_)
    refine sr ?_
    refine pv tb 1 rfl ?_
    refine TO_nil ?_
    refine T_seq ?_
    refine T_cond (t := decide ((t_7 : Int) < (db0.facts.length : Int))) rfl (fun d8 => ?_) (fun d8 => ?_)
    ·replace d8 := of_decide_eq_true d8
     obtain ⟨x_t_7, hx_t_7⟩ : ∃ v, (db0.facts)[t_7]? = some v := ⟨_, List.getElem?_eq_getElem (by omega)⟩
     obtain ⟨C8_, H, K8_⟩ := forL_step L8_ hx_t_7
     rw [hb8] at H
     refine T_skip ?_
     refine T_seq ?_
     refine T_block ?_
     refine sr ?_
     refine pv tb 1 rfl ?_
     refine Tp rfl rfl (pur_ixT (T := tFact) sl39 rfl rfl rfl hx_t_7 rfl) rfl ?_
     refine Tp rfl rfl (pur_ldTK (T := tFact) (i := t_7) (off := 0) rfl agg55 rfl rfl hx_t_7 (by decide) rfl) rfl ?_
     refine TO_cons rfl (TOp_alloc zero55 rfl rfl ?_)
     refine pv tb 1 rfl ?_
     refine TO_cons rfl (TOp_storeB sz55 rfl rfl rfl rfl rfl rfl rfl (by decide) (lb rfl) rfl ?_)
     refine TO_st (σ' := [.box [(sl tRelation db0.relations), (sl tFact db0.facts)], .box [(intA x_t_7.relation), (sl tInt x_t_7.values)]]) rfl ?_
     refine TO_nil ?_
     obtain ⟨t42_9, J_9, H_10⟩ := bind_inv H
     refine T_cutX (fun x => t42_9 = x) (fun (t42_9 : Bool) => [(1, (.b 0 0)), (16, (sl tFact db0.facts)), (17, (intA (db0.facts.length : Int))), (18, (intA (t_7 : Int))), (42, (boolA t42_9))]) (fun (t42_9 : Bool) => [.box [(sl tRelation db0.relations), (sl tFact db0.facts)]]) ?_ ?_
     ·replace H := J_9
      refine T_regionD mixed (by kernel_rfl) ?_
      obtain ⟨r_11, h_12, H⟩ := bind_inv H
      refine pq tb 3 rfl ?_
      refine TQ_callV rfl (call_static ent63 rfl) (m_impl_isFact_ok _ _ _ h_12) rfl rfl ?_
      refine pq tb 2 rfl ?_
      refine TQ_split (t := (!r_11)) 28 rfl (fun g_13 => ?_) (fun g_13 => ?_)
      ·replace H := cond_t g_13 H
       refine pq tb 8 rfl ?_
       refine tqe [(1, (.b 0 0)), (4, (.b 1 0)), (16, (sl tFact db0.facts)), (17, (intA (db0.facts.length : Int))), (18, (intA (t_7 : Int))), (28, (boolA true)), (31, (.v undef)), (36, (.v undef))] rfl ?_
       refine pq tb 6 rfl ?_
       refine TQ_nil ?_
       exact joined true (w0 1) (some_inj H).symm
      ·replace H := cond_f g_13 H
       refine pq tb 3 rfl ?_
       refine TQ_split (t := decide (0 < (t_7 : Int))) 31 rfl (fun g_14 => ?_) (fun g_14 => ?_)
       ·replace H := cond_t g_14 H
        refine pq tb 3 rfl ?_
        refine TQ_on rfl rfl (by decide) rfl (pur_sub rfl rfl rfl (fits64 (by omega) (by omega))) rfl ?_
        obtain ⟨v_15, h_16, H⟩ := bind_inv H
        obtain ⟨n_17, hz_18, hv_19⟩ := getI_inv h_16
        refine TQ_on rfl rfl (by decide) rfl (pur_ixT (T := tFact) sl39 rfl rfl hz_18 hv_19 rfl) rfl ?_
        refine TQ_on rfl rfl (by decide) rfl (pur_ldTK (T := tFact) (i := n_17) (off := 0) rfl agg55 rfl rfl hv_19 (by decide) rfl) rfl ?_
        obtain ⟨r_20, h_21, H⟩ := bind_inv H
        refine pq tb 1 rfl ?_
        refine TQ_onV rfl rfl (by decide) rfl (call_static ent49 rfl) (m_impl_CompareFacts_ok _ _ _ h_21) rfl rfl ?_
        refine tqe [(1, (.b 0 0)), (16, (sl tFact db0.facts)), (17, (intA (db0.facts.length : Int))), (18, (intA (t_7 : Int))), (28, (boolA false)), (31, (boolA true)), (39, (intA r_20))] rfl ?_
        refine pq tb 3 rfl ?_
        refine TQ_nil ?_
        exact joined (decide (0 ≤ r_20)) (w0 1) (some_inj H).symm
       ·replace H := cond_f g_14 H
        refine pq tb 8 rfl ?_
        refine tqe [(1, (.b 0 0)), (16, (sl tFact db0.facts)), (17, (intA (db0.facts.length : Int))), (18, (intA (t_7 : Int))), (28, (boolA false)), (31, (boolA false)), (39, (.v undef))] rfl ?_
        refine pq tb 3 rfl ?_
        refine TQ_nil ?_
        exact joined false (w0 1) (some_inj H).symm
     ·rintro _ rfl
      replace H := H_10
      refine T_cond (t := t42_9) rfl (fun c_22 => ?_) (fun c_22 => ?_)
      ·replace H := cond_t c_22 H
       refine sr ?_
       refine pv tb 1 rfl ?_
       refine TO_nil ?_
       refine T_ret ?_
       refine block_ret ?_
       refine then_ret ?_
       refine then_ret ?_
       refine block_ret ?_
       refine then_ret ?_
       obtain rfl := some_inj H
       obtain rfl := some_inj K8_
       replace H := onS_r N8_
       obtain rfl := some_inj H
       refine end_ret (.tmp .nil) rfl rfl ⟨?_, rfl⟩
       rfl
      ·replace H := cond_f c_22 H
       refine T_skip ?_
       refine T_region ?_
       refine Tp rfl rfl (pur_add rfl rfl rfl (fits64 (by omega) (by omega))) rfl ?_
       refine pv tb 1 rfl ?_
       refine TO_nil ?_
       obtain rfl := some_inj H
       exact again (db0.facts.length - (t_7 + 1)) (t_7 + 1) (by omega) (w0 1) ⟨rfl, K8_⟩
    ·replace d8 := of_decide_eq_false d8
     obtain rfl := forL_end L8_ (by omega)
     refine T_exit ?_
     refine then_exit ?_
     refine then_exit ?_
     refine block_exit ?_
     replace H := onS_l N8_
     refine sr ?_
     refine pv tb 1 rfl ?_
     refine TO_nil ?_
     refine T_ret ?_
     obtain rfl := some_inj H
     refine end_ret (.tmp .nil) rfl rfl ⟨?_, rfl⟩
     rfl

set_option maxHeartbeats 1000000 in
theorem m_impl_copyDatabase_own (db0 : Database) (r : Database) (H : m_impl_copyDatabase db0 = some r) : FnO prg 46 [(.g (tDatabase.enc db0))] (.g [(.m [0] 0 r.relations.length tRelation.k), (.m [1] 0 r.facts.length tFact.k)]) [.row (flat tRelation.own r.relations), .row (flat tFact.own r.facts)] := by
  unfold m_impl_copyDatabase at H
  refine fnO_of_T Try.func46 rfl rfl (Nat.le_of_ble_eq_true rfl) ?_
  refine te [(0, (.g (tDatabase.enc db0)))] rfl ?_
  refine sr ?_
  refine TO_cons rfl (TOp_box rfl (boxAll rfl) rfl rfl ?_)
  refine TO_cons rfl (TOp_alloc zero41 rfl rfl ?_)
  refine TO_nil ?_
  refine sr ?_
  refine TO_cons rfl (TOp_lit (nn := 0) (k := 3) sl38 zero89 rfl rfl rfl rfl (by decide) ?_)
  refine TO_st (σ' := [.box [(sl tRelation db0.relations), (sl tFact db0.facts)], .box [.n, .n], .row (flat tRelation.enc ([] : (List Relation)))]) rfl ?_
  obtain ⟨us_1, h_2, H⟩ := bind_inv H
  refine pv tb 2 rfl ?_
  refine TO_cons rfl (TOp_appZ (T := tRelation) (f := tRelation.enc) (xs := ([] : (List Relation))) (ys := db0.relations) tRelation.len sl38 zero89 rfl bytes89 (by decide) rfl rfl rfl rfl (src_T (T := tRelation) rfl) (flat_cell tRelation _) h_2 (lb rfl) ?_)
  refine toe [(1, (.b 0 0)), (2, (.b 1 0)), (7, (.b 0 0)), (8, (sl tRelation db0.relations)), (9, (.m [2] 0 us_1.length tRelation.k))] rfl ?_
  refine TO_st (σ' := [.box [(sl tRelation db0.relations), (sl tFact db0.facts)], .box [.n, .n], .row (flat tRelation.enc us_1), .dead]) rfl ?_
  refine TO_cons rfl (TOp_lit (nn := 0) (k := 2) sl39 zero55 rfl rfl rfl rfl (by decide) ?_)
  refine TO_st (σ' := [.box [(sl tRelation db0.relations), (sl tFact db0.facts)], .box [.n, .n], .row (flat tRelation.enc us_1), .dead, .row (flat tFact.own ([] : (List Fact)))]) rfl ?_
  refine Tp rfl rfl (pur_build bld41 rfl rfl) rfl ?_
  refine TO_cons rfl (TOp_alloc zero41 rfl rfl ?_)
  refine TO_cons rfl (TOp_storeB sz41 rfl rfl rfl rfl rfl rfl rfl (by decide) (lb rfl) rfl ?_)
  refine TO_st (σ' := [.box [(sl tRelation db0.relations), (sl tFact db0.facts)], .box [.n, .n], .row (flat tRelation.enc us_1), .dead, .row (flat tFact.own ([] : (List Fact))), .box [(.m [2] 0 us_1.length tRelation.k), (.m [4] 0 ([] : (List Fact)).length tFact.k)]]) rfl ?_
  refine TO_nil ?_
  refine T_seq ?_
  refine sr ?_
  refine pv tb 2 rfl ?_
  refine Tp rfl rfl (pur_lenT (T := tFact) sl39 rfl rfl) rfl ?_
  refine pv tb 1 rfl ?_
  refine TO_nil ?_
  obtain ⟨O4_, L4_, N4_⟩ := bind_inv H
  clear H
  obtain ⟨B4_, hb4, L4_⟩ := gen_forS L4_
  refine T_block ?_
  refine T_loopX (fun k => fun (⟨t_3, box5_facts⟩ : Nat × (List Fact)) => k = db0.facts.length - t_3 ∧ forS B4_ (db0.facts.drop t_3) (t_3 : Int) box5_facts = some O4_) (fun (⟨t_3, box5_facts⟩ : Nat × (List Fact)) => [(2, (.b 1 0)), (3, (.b 5 0)), (13, (sl tFact db0.facts)), (14, (intA (db0.facts.length : Int))), (15, (intA (t_3 : Int)))]) (fun (⟨t_3, box5_facts⟩ : Nat × (List Fact)) => [.box [(sl tRelation db0.relations), (sl tFact db0.facts)], .box [.n, .n], .row (flat tRelation.enc us_1), .dead, .row (flat tFact.own box5_facts), .box [(.m [2] 0 us_1.length tRelation.k), (.m [4] 0 box5_facts.length tFact.k)]]) _ (0, ([] : (List Fact))) (w0 6) ⟨rfl, L4_⟩ ?_
  rintro _ ⟨t_3, box5_facts⟩ ⟨rfl, L4_⟩
  refine T_fact (len_sl (T := tFact) (.tmp 13) rfl) (fun hl4 => ?_)
  refine sr ?_
  refine pv tb 1 rfl ?_
  refine TO_nil ?_
  refine T_seq ?_
  refine T_cond (t := decide ((t_3 : Int) < (db0.facts.length : Int))) rfl (fun d4 => ?_) (fun d4 => ?_)
  ·replace d4 := of_decide_eq_true d4
   obtain ⟨x_t_3, hx_t_3⟩ : ∃ v, (db0.facts)[t_3]? = some v := ⟨_, List.getElem?_eq_getElem (by omega)⟩
   obtain ⟨C4_, H, K4_⟩ := forS_step L4_ hx_t_3
   rw [hb4] at H
   refine T_skip ?_
   refine T_seq ?_
   refine T_block ?_
   refine sr ?_
   refine Tp rfl rfl (pur_ixT (T := tFact) sl39 rfl rfl rfl hx_t_3 rfl) rfl ?_
   refine Tp rfl rfl (pur_ldTK (T := tFact) (i := t_3) (off := 0) rfl agg55 rfl rfl hx_t_3 (by decide) rfl) rfl ?_
   refine TO_cons rfl (TOp_alloc zero55 rfl rfl ?_)
   refine TO_cons rfl (TOp_storeB sz55 rfl rfl rfl rfl rfl rfl rfl (by decide) (lb rfl) rfl ?_)
   refine TO_st (σ' := [.box [(sl tRelation db0.relations), (sl tFact db0.facts)], .box [.n, .n], .row (flat tRelation.enc us_1), .dead, .row (flat tFact.own box5_facts), .box [(.m [2] 0 us_1.length tRelation.k), (.m [4] 0 box5_facts.length tFact.k)], .box [(intA x_t_3.relation), (sl tInt x_t_3.values)]]) rfl ?_
   refine TO_nil ?_
   obtain ⟨us_5, h_6, H⟩ := bind_inv H
   obtain ⟨us_7, h_8, H⟩ := bind_inv H
   refine T_pad ?_
   refine T_pad ?_
   refine T_pad ?_
   refine T_pad ?_
   refine T_regionPh 7 12 mixed rfl (by kernel_rfl) ?_
   refine pa tb [0, 1, 2, 3, 5, 6] 6 rfl (by kernel_rfl) rfl ?_
   refine t1 4 (by kernel_rfl) rfl rfl (TOp_lit (nn := 0) (k := 1) sl53 zero3 rfl rfl rfl rfl (by decide) ?_)
   refine tmw 7 11 (by decide) (lb rfl) rfl rfl (lb rfl) rfl ?_
   refine t1 7 (by kernel_rfl) rfl rfl (TOp_appY (T := tInt) (f := tInt.enc) (xs := ([] : (List Int))) (ys := x_t_3.values) tInt.len sl53 zero3 rfl bytes3 (by decide) rfl rfl rfl rfl (src_T (T := tInt) rfl) (flat_cell tInt _) h_6 ?_)
   refine tmw 7 12 (by decide) (lb rfl) rfl rfl (lb rfl) rfl ?_
   refine tae [(2, (.b 1 0)), (3, (.b 5 0)), (13, (sl tFact db0.facts)), (14, (intA (db0.facts.length : Int))), (15, (intA (t_3 : Int))), (20, (.m [4] 0 box5_facts.length tFact.k)), (22, (intA x_t_3.relation)), (26, (.m [7] 0 us_5.length tInt.k))] rfl ?_
   refine TA_st (σ' := [.dead, .dead, .row (flat tRelation.enc us_1), .dead, .row (flat tFact.own box5_facts), .dead, .dead, .row (flat tInt.enc us_5), .dead, .dead, .dead, .dead, .dead]) rfl ?_
   refine tf 8 rfl (pur_build bld55 rfl rfl) rfl rfl (by kernel_rfl) ?_
   refine t1 9 (by kernel_rfl) rfl rfl (TOp_ghost (E' := [(2, (.b 1 0)), (3, (.b 5 0)), (13, (sl tFact db0.facts)), (14, (intA (db0.facts.length : Int))), (15, (intA (t_3 : Int))), (20, (.m [4] 0 box5_facts.length tFact.k)), (22, (intA x_t_3.relation)), (26, (.m [7] 0 us_5.length tInt.k)), (27, (.g [(intA x_t_3.relation), (.m [7] 0 us_5.length tInt.k)]))]) (σ' := [.dead, .dead, .row (flat tRelation.enc us_1), .dead, .row (flat tFact.own box5_facts), .dead, .dead, .row (flat tInt.enc us_5), .dead, .dead, .dead]) (by exact Ghost.weak (w0 11)) (TOp_litB (nn := 1) (k := 2) sl39 zero55 rfl rfl rfl rfl (by decide) ?_))
   refine TA_st (σ' := [.dead, .dead, .row (flat tRelation.enc us_1), .dead, .row (flat tFact.own box5_facts), .dead, .dead, .row (flat tInt.enc us_5), .dead, .dead, .dead, .box [(intA x_t_3.relation), (.m [7] 0 us_5.length tInt.k)]]) rfl ?_
   refine tmw 10 4 (by decide) (lb rfl) rfl rfl (lb rfl) rfl ?_
   refine t1 10 (by kernel_rfl) rfl rfl (TOp_boxify 10 rfl (lb rfl) (TOp_appB (T := tFact) (xs := box5_facts) (v := ({ relation := x_t_3.relation, values := us_5 } : Fact)) sl39 zero55 rfl bytes55 (by decide) rfl rfl rfl rfl rfl rfl rfl rfl h_8 (lb rfl) ?_))
   refine tae [(2, (.b 1 0)), (3, (.b 5 0)), (13, (sl tFact db0.facts)), (14, (intA (db0.facts.length : Int))), (15, (intA (t_3 : Int))), (22, (intA x_t_3.relation)), (29, .m [12] 0 (box5_facts.length + 1) tFact.k)] rfl ?_
   refine TA_st (σ' := [.dead, .dead, .row (flat tRelation.enc us_1), .dead, .dead, .dead, .dead, .row (flat tInt.enc us_5), .dead, .dead, .dead, .box [(intA x_t_3.relation), (.m [7] 0 us_5.length tInt.k)], .box (flat tFact.own box5_facts ++ [(intA x_t_3.relation), (.m [7] 0 us_5.length tInt.k)])]) rfl ?_
   refine TA_absorbA (pr := flat tFact.own box5_facts) 12 1 7 rfl rfl rfl (by decide) tInt.pos (flat_len tInt.len _) (lb rfl) (lb rfl) rfl (nms_dead (nms_dead (nms_row (nms_dead (nms_dead (nms_dead (nms_dead (nms_row (nms_dead (nms_dead (nms_dead (nms_box rfl (nms_box (namesA namesL_own rfl) nms_nil))))))))))))) ?_
   refine TA_st (σ' := [.dead, .dead, .row (flat tRelation.enc us_1), .dead, .dead, .dead, .dead, .dead, .dead, .dead, .dead, .box [(intA x_t_3.relation), (.m [7] 0 us_5.length tInt.k)], .box (flat tFact.own box5_facts ++ [(intA x_t_3.relation), .o tInt.k (flat tInt.enc us_5)])]) rfl ?_
   refine TA_rowifyT (T := tFact) (xs := box5_facts) (v := ({ relation := x_t_3.relation, values := us_5 } : Fact)) 12 rfl rfl h_8 (lb rfl) ?_
   refine TA_st (σ' := [.dead, .dead, .row (flat tRelation.enc us_1), .dead, .dead, .dead, .dead, .dead, .dead, .dead, .dead, .box [(intA x_t_3.relation), (.m [7] 0 us_5.length tInt.k)], .row (flat tFact.own us_7)]) rfl ?_
   refine TA_move 10 12 (by decide) (lb rfl) rfl rfl (lb rfl) ?_
   refine TA_env (E' := [(2, (.b 1 0)), (3, (.b 5 0)), (13, (sl tFact db0.facts)), (14, (intA (db0.facts.length : Int))), (15, (intA (t_3 : Int))), (22, (intA x_t_3.relation)), (29, (.m [10] 0 us_7.length tFact.k))]) ⟨rfl, rfl, rfl, rfl, rfl, rfl, (congrArg (fun q => A.m [10] 0 q tFact.k) (app_len h_8)), trivial⟩ ?_
   refine TA_kill 11 (lb rfl) ?_
   refine TA_st (σ' := [.dead, .dead, .row (flat tRelation.enc us_1), .dead, .dead, .dead, .dead, .dead, .dead, .dead, .row (flat tFact.own us_7), .dead, .dead]) rfl ?_
   refine pa tb [11] 0 rfl (by kernel_rfl) rfl ?_
   refine TA_nil (by kernel_rfl) ?_
   refine TA_st (σ' := [.box [(sl tRelation db0.relations), (sl tFact db0.facts)], .box [.n, .n], .row (flat tRelation.enc us_1), .dead, .dead, .box [(.m [2] 0 us_1.length tRelation.k), (.m [4] 0 box5_facts.length tFact.k)], .box [(intA x_t_3.relation), (sl tInt x_t_3.values)], .dead, .dead, .dead, .row (flat tFact.own us_7), .dead, .dead]) rfl ?_
   refine tmv 4 10 (by decide) (lb rfl) rfl rfl (lb rfl) ?_
   refine TA_st (σ' := [.box [(sl tRelation db0.relations), (sl tFact db0.facts)], .box [.n, .n], .row (flat tRelation.enc us_1), .dead, .row (flat tFact.own us_7), .box [(.m [2] 0 us_1.length tRelation.k), .j], .box [(intA x_t_3.relation), (sl tInt x_t_3.values)], .dead, .dead, .dead, .dead, .dead, .dead]) rfl ?_
   refine t1 12 (by kernel_rfl) rfl rfl (TOp_storeB sz39 rfl rfl rfl rfl rfl rfl rfl (by decide) (lb rfl) rfl ?_)
   refine TA_st (σ' := [.box [(sl tRelation db0.relations), (sl tFact db0.facts)], .box [.n, .n], .row (flat tRelation.enc us_1), .dead, .row (flat tFact.own us_7), .box [(.m [2] 0 us_1.length tRelation.k), (.m [4] 0 us_7.length tFact.k)], .box [(intA x_t_3.relation), (sl tInt x_t_3.values)], .dead, .dead, .dead, .dead, .dead, .dead]) rfl ?_
   refine TA_nil (by kernel_rfl) ?_
   refine T_region ?_
   refine Tp rfl rfl (pur_add rfl rfl rfl (fits64 (by omega) (by omega))) rfl ?_
   refine pv tb 1 rfl ?_
   refine TO_nil ?_
   obtain rfl := some_inj H
   exact again (db0.facts.length - (t_3 + 1)) (t_3 + 1, us_7) (by omega) (w0 6) ⟨rfl, K4_⟩
  ·replace d4 := of_decide_eq_false d4
   obtain rfl := forS_end L4_ (by omega)
   refine T_exit ?_
   refine then_exit ?_
   refine then_exit ?_
   refine block_exit ?_
   replace H := N4_
   refine sr ?_
   refine pv tb 1 rfl ?_
   refine TO_cons rfl (TOp_storeB sz41 rfl rfl rfl rfl rfl rfl rfl (by decide) (lb rfl) rfl ?_)
   refine TO_st (σ' := [.box [(sl tRelation db0.relations), (sl tFact db0.facts)], .box [(.m [2] 0 us_1.length tRelation.k), (.m [4] 0 box5_facts.length tFact.k)], .row (flat tRelation.enc us_1), .dead, .row (flat tFact.own box5_facts), .box [(.m [2] 0 us_1.length tRelation.k), (.m [4] 0 box5_facts.length tFact.k)]]) rfl ?_
   refine TO_nil ?_
   refine T_ret ?_
   obtain rfl := some_inj H
   exact end_pick (.cellK rfl agg41 rfl (lb rfl) .nil) rfl [2, 4] (by decide) rfl rfl rfl rfl rfl rfl
theorem m_impl_copyDatabase_ok (db0 : Database) (r : Database) (H : m_impl_copyDatabase db0 = some r) : FnV prg 46 [(.g (tDatabase.enc db0))] (.g (tDatabase.enc r)) := (m_impl_copyDatabase_own db0 r H).frz (frzOK_g (frz_cons (frzT (T := tRelation) rfl) (frz_cons (frzT (T := tFact) rfl) frz_nil)).1 (frz_cons (frzT (T := tRelation) rfl) (frz_cons (frzT (T := tFact) rfl) frz_nil)).2)

theorem m_slices_SortFunc_Simpl_Fact_impl_Fact_C : SortC prg 48 tFact.k true := SortC.many shlS48 _ Try.isAgg55 Try.sizeOf55

theorem m_slices_CompactFunc_Simpl_Fact_impl_Fact_0 (p : Option Addr) (cap : Nat) (fv : Value) (w : World) : Calls Try.prog 50 #[.slice p 0 cap, fv] w fun e w' => e = .returned (.slice p 0 cap) ∧ w' = w := by
  go_enter Try.func50, Try.ntmps50
  go_wp2
  go_ret
  exact ⟨rfl, rfl⟩
set_option maxHeartbeats 2000000 in
theorem m_slices_CompactFunc_Simpl_Fact_impl_Fact_raw (g : Nat) (gE : EnT prg g) (rs : List (Rw Fact)) (e : Rw Fact → Rw Fact → Bool) (h0 : 0 < rs.length) (hN : rs.length < 4611686018427387904) (hg : ∀ x ∈ rs, ∀ y ∈ rs, FnV prg g [argR true tFact x, argR true tFact y] (boolA (e x y))) : FnS prg 50 [.m [0] 0 rs.length tFact.k, .f g []] [.row (flat tFact.raw rs)] (.m [1] 0 (compF e rs).length tFact.k) [.dead, .row (flat tFact.raw (compF e rs))] := by
  refine fnS_of_T Try.func50 rfl rfl (lb rfl) ?_
  refine te [(0, (.m [0] 0 rs.length tFact.k)), (1, (.f g []))] rfl ?_
  refine T_pad ?_
  refine T_move' 1 0 (by decide) (lb rfl) rfl rfl (lb rfl) ?_
  refine te [(0, (.m [1] 0 rs.length tFact.k)), (1, (.f g []))] rfl ?_
  refine T_st (σ' := [.dead, .row (flat tFact.raw rs)]) rfl ?_
  refine sr ?_
  refine pv tb 1 rfl ?_
  refine TO_nil ?_
  refine T_seq ?_
  refine sr ?_
  refine pv tb 1 rfl ?_
  refine Tp rfl rfl (pur_len_m sl39 rfl rfl) rfl ?_
  refine pv tb 1 rfl ?_
  refine TO_nil ?_
  refine te [(0, (.m [1] 0 rs.length tFact.k)), (1, (.f g [])), (10, (boolA (decide ((rs.length : Int) < 2))))] rfl ?_
  refine T_cond (t := decide ((rs.length : Int) < 2)) rfl (fun c => ?_) (fun c => ?_)
  ·have e1 := compF_one (e := e) (xs := rs) (by have := of_decide_eq_true c; omega)
   rw [e1]
   refine sr ?_
   refine pv tb 2 rfl ?_
   refine TO_nil ?_
   refine te [(4, (.m [1] 0 rs.length tFact.k))] rfl ?_
   refine T_ret ?_
   refine then_ret ?_
   exact end_pickX (.tmp .nil) rfl [0, 1] (by decide) (lb rfl) rfl (lb rfl) rfl rfl rfl rfl rfl rfl
  have hn2 : 2 ≤ rs.length := by have := of_decide_eq_false c; omega
  refine T_skip ?_
  refine T_seq ?_
  refine sr ?_
  refine pv tb 1 rfl ?_
  refine TO_nil ?_
  refine te [(0, (.m [1] 0 rs.length tFact.k)), (1, (.f g [])), (5, (intA ((1 : Nat) : Int)))] rfl ?_
  refine T_block ?_
  refine T_loopX (fun q (k : Nat) => q = rs.length - k ∧ 0 < k ∧ k ≤ rs.length ∧ compF e (rs.take k) = rs.take k) (fun (k : Nat) => [(0, (.m [1] 0 rs.length tFact.k)), (1, (.f g [])), (5, (intA (k : Int)))]) (fun _ => [.dead, .row (flat tFact.raw rs)]) _ 1 (w0 2) ⟨rfl, Nat.zero_lt_one, h0, compF_one (by rw [List.length_take]; omega)⟩ ?_
  rintro _ k ⟨rfl, hk0, hkn, hI⟩
  refine T_seq ?_
  refine sr ?_
  refine pv tb 2 rfl ?_
  refine Tp rfl rfl (pur_len_m sl39 rfl rfl) rfl ?_
  refine pv tb 1 rfl ?_
  refine TO_nil ?_
  refine te [(0, (.m [1] 0 rs.length tFact.k)), (1, (.f g [])), (5, (intA (k : Int))), (15, (boolA (decide ((k : Int) < (rs.length : Int)))))] rfl ?_
  refine T_cond (t := decide ((k : Int) < (rs.length : Int))) rfl (fun c => ?_) (fun c => ?_)
  ·have hk : k < rs.length := by have := of_decide_eq_true c; omega
   have hy : rs[k]? = some rs[k] := List.getElem?_eq_getElem hk
   have hx : rs[k - 1]? = some (rs[k - 1]'(by omega)) := List.getElem?_eq_getElem _
   have hym : rs[k] ∈ rs := List.getElem_mem _
   have hxm : rs[k - 1]'(by omega) ∈ rs := List.getElem_mem _
   generalize rs[k] = y at hy hym
   generalize (rs[k - 1]'(by omega)) = x at hx hxm
   refine T_skip ?_
   refine T_seq ?_
   refine T_block ?_
   refine T_seq ?_
   refine T_regionD mixed (by kernel_rfl) ?_
   refine pq tb 3 rfl ?_
   refine TQ_pure rfl (pur_ixC (T := tFact) (k0 := 0) (i := k) sl39 rfl (Nat.zero_mul _).symm rfl (by omega) (by omega) (by omega) rfl) rfl ?_
   refine TQ_pure rfl (pur_ldEK (f := tFact.raw) (k := tFact.k) (i := k) (off := 0) (ys := tFact.raw y) tFact.lenR rfl agg55 rfl rfl rfl hy (by decide) rfl) rfl ?_
   refine pq tb 2 rfl ?_
   refine TQ_pure rfl (pur_sub rfl rfl rfl (fits64 (by omega) (by omega))) rfl ?_
   refine TQ_pure rfl (pur_ixC (T := tFact) (k0 := 0) (i := k - 1) sl39 rfl (Nat.zero_mul _).symm rfl (by omega) (by omega) (by omega) rfl) rfl ?_
   refine TQ_pure rfl (pur_ldEK (f := tFact.raw) (k := tFact.k) (i := k - 1) (off := 0) (ys := tFact.raw x) tFact.lenR rfl agg55 rfl rfl rfl hx (by decide) rfl) rfl ?_
   refine TQ_callV rfl (call_closure gE rfl rfl) (hg y hym x hxm) rfl rfl ?_
   refine TQ_nil ?_
   refine te [(0, (.m [1] 0 rs.length tFact.k)), (1, (.f g [])), (5, (intA (k : Int))), (28, (boolA (e y x)))] rfl ?_
   refine T_cond (t := e y x) rfl (fun c1 => ?_) (fun c1 => ?_)
   ·refine sr ?_
    refine pv tb 2 rfl ?_
    refine Tp rfl rfl (pur_cutM (lo := some (.tmp 30)) (hi := none) (i := k) (j := rs.length) sl39 rfl ⟨_, rfl⟩ rfl (by omega) (Nat.le_refl _) rfl) rfl ?_
    refine pv tb 1 rfl ?_
    refine TO_nil ?_
    refine T_seq ?_
    refine sr ?_
    refine pv tb 1 rfl ?_
    refine TO_nil ?_
    refine te [(0, (.m [1] 0 rs.length tFact.k)), (1, (.f g [])), (5, (intA (k : Int))), (6, (.m [1] (k * tFact.k) (rs.length - k) tFact.k)), (7, (intA ((1 : Nat) : Int)))] rfl ?_
    refine T_block ?_
    refine T_loopX (X := Nat × Nat × List (Rw Fact)) (fun q s => q = rs.length - (k + s.2.1) ∧ 0 < s.2.1 ∧ CompI e rs (k + s.2.1) s.1 s.2.2) (fun s => [(0, (.m [1] 0 rs.length tFact.k)), (1, (.f g [])), (5, (intA (s.1 : Int))), (6, (.m [1] (k * tFact.k) (rs.length - k) tFact.k)), (7, (intA (s.2.1 : Int)))]) (fun s => [.dead, .row (flat tFact.raw s.2.2)]) _ (k, 1, rs) (w0 2) ⟨rfl, Nat.zero_lt_one, .start hI hk0 hx hy c1⟩ ?_
    rintro _ ⟨kk, k2, ds⟩ ⟨rfl, hk2, hJ⟩
    simp only at hk2 hJ
    have hlt := hJ.lt
    have hle := hJ.le
    have hds := hJ.size
    refine T_seq ?_
    refine sr ?_
    refine pv tb 2 rfl ?_
    refine Tp rfl rfl (pur_len_m sl39 rfl rfl) rfl ?_
    refine pv tb 1 rfl ?_
    refine TO_nil ?_
    refine te [(0, (.m [1] 0 rs.length tFact.k)), (1, (.f g [])), (5, (intA (kk : Int))), (6, (.m [1] (k * tFact.k) (rs.length - k) tFact.k)), (7, (intA (k2 : Int))), (35, (boolA (decide ((k2 : Int) < ((rs.length - k : Nat) : Int)))))] rfl ?_
    refine T_cond (t := decide ((k2 : Int) < ((rs.length - k : Nat) : Int))) rfl (fun c2 => ?_) (fun c2 => ?_)
    ·have hm : k + k2 < rs.length := by have := of_decide_eq_true c2; omega
     have hy2 : rs[k + k2]? = some rs[k + k2] := List.getElem?_eq_getElem hm
     have hx2 : rs[k + k2 - 1]? = some (rs[k + k2 - 1]'(by omega)) := List.getElem?_eq_getElem _
     have hym2 : rs[k + k2] ∈ rs := List.getElem_mem _
     have hxm2 : rs[k + k2 - 1]'(by omega) ∈ rs := List.getElem_mem _
     generalize rs[k + k2] = y2 at hy2 hym2
     generalize (rs[k + k2 - 1]'(by omega)) = x2 at hx2 hxm2
     have hyd : ds[k + k2]? = some y2 := by rw [hJ.high _ (by omega)]; exact hy2
     have hxd : ds[k + k2 - 1]? = some x2 := by rw [hJ.high _ (by omega)]; exact hx2
     have hod : ds[kk]? = some (ds[kk]'(by omega)) := List.getElem?_eq_getElem _
     generalize (ds[kk]'(by omega)) = old at hod
     refine T_skip ?_
     refine T_seq ?_
     refine T_block ?_
     refine T_seq ?_
     refine T_regionD mixed (by kernel_rfl) ?_
     refine pq tb 3 rfl ?_
     refine TQ_pure rfl (pur_ixC (T := tFact) (i := k + k2) sl39 rfl rfl rfl (by omega) (by omega) (by omega) rfl) rfl ?_
     refine TQ_pure rfl (pur_ldEK (f := tFact.raw) (k := tFact.k) (i := k + k2) (off := 0) (ys := tFact.raw y2) tFact.lenR rfl agg55 rfl rfl rfl hyd (by decide) rfl) rfl ?_
     refine pq tb 2 rfl ?_
     refine TQ_pure rfl (pur_sub rfl rfl rfl (fits64 (by omega) (by omega))) rfl ?_
     refine TQ_pure rfl (pur_ixC (T := tFact) (i := k + k2 - 1) sl39 rfl rfl rfl (by omega) (by omega) (by omega) rfl) rfl ?_
     refine TQ_pure rfl (pur_ldEK (f := tFact.raw) (k := tFact.k) (i := k + k2 - 1) (off := 0) (ys := tFact.raw x2) tFact.lenR rfl agg55 rfl rfl rfl hxd (by decide) rfl) rfl ?_
     refine TQ_callV rfl (call_closure gE rfl rfl) (hg y2 hym2 x2 hxm2) rfl rfl ?_
     refine pq tb 1 rfl ?_
     refine TQ_nil ?_
     refine te [(0, (.m [1] 0 rs.length tFact.k)), (1, (.f g [])), (5, (intA (kk : Int))), (6, (.m [1] (k * tFact.k) (rs.length - k) tFact.k)), (7, (intA (k2 : Int))), (49, (boolA (!(e y2 x2))))] rfl ?_
     refine T_cond (t := !(e y2 x2)) rfl (fun c3 => ?_) (fun c3 => ?_)
     ·have c3 : e y2 x2 = false := by simpa using c3
      refine sr ?_
      refine pv tb 4 rfl ?_
      refine Tp rfl rfl (pur_ixC (T := tFact) (i := k + k2) sl39 rfl rfl rfl (by omega) (by omega) (by omega) rfl) rfl ?_
      refine Tp rfl rfl (pur_ldEK (f := tFact.raw) (k := tFact.k) (i := k + k2) (off := 0) (ys := tFact.raw y2) tFact.lenR rfl agg55 rfl rfl rfl hyd (by decide) rfl) rfl ?_
      refine Tp rfl rfl (pur_ixC (T := tFact) (k0 := 0) (i := kk) sl39 rfl (Nat.zero_mul _).symm rfl (by omega) (by omega) (by omega) rfl) rfl ?_
      refine TO_cons rfl (TOp_setT (f := tFact.raw) (z := (kk : Int)) (y := y2) tFact.lenR tFact.pos rfl sz55 rfl rfl rfl rfl rfl hod rfl (rawC_cell _ _) ?_)
      refine TO_nil ?_
      refine te [(0, (.m [1] 0 rs.length tFact.k)), (1, (.f g [])), (5, (intA (kk : Int))), (6, (.m [1] (k * tFact.k) (rs.length - k) tFact.k)), (7, (intA (k2 : Int)))] rfl ?_
      refine T_st (σ' := [.dead, .row (flat tFact.raw (ds.set kk y2))]) rfl ?_
      refine T_region ?_
      refine pv tb 1 rfl ?_
      refine Tp rfl rfl (pur_add (c := ((kk + 1 : Nat) : Int)) rfl rfl rfl (fits64 (by omega) (by omega))) rfl ?_
      refine pv tb 1 rfl ?_
      refine TO_nil ?_
      refine T_region ?_
      refine pv tb 1 rfl ?_
      refine Tp rfl rfl (pur_add (c := ((k2 + 1 : Nat) : Int)) rfl rfl rfl (fits64 (by omega) (by omega))) rfl ?_
      refine pv tb 1 rfl ?_
      refine TO_nil ?_
      exact again (rs.length - (k + (k2 + 1))) (kk + 1, k2 + 1, ds.set kk y2) (by simp only; omega) (w0 2) ⟨rfl, Nat.succ_pos _, hJ.keep hx2 hy2 c3⟩
     ·have c3 : e y2 x2 = true := by simpa using c3
      refine T_skip ?_
      refine T_region ?_
      refine pv tb 1 rfl ?_
      refine Tp rfl rfl (pur_add (c := ((k2 + 1 : Nat) : Int)) rfl rfl rfl (fits64 (by omega) (by omega))) rfl ?_
      refine pv tb 1 rfl ?_
      refine TO_nil ?_
      exact again (rs.length - (k + (k2 + 1))) (kk, k2 + 1, ds) (by simp only; omega) (w0 2) ⟨rfl, Nat.succ_pos _, hJ.skip hx2 hy2 c3⟩
    ·have hm : k + k2 = rs.length := by have := of_decide_eq_false c2; omega
     have hd := hJ.done hm
     have hkl : kk = (compF e rs).length := by rw [← hd, List.length_take]; omega
     refine T_exit ?_
     refine then_exit ?_
     refine then_exit ?_
     refine block_exit ?_
     refine sr ?_
     refine pv tb 2 rfl ?_
     refine Tp rfl rfl (pur_cutM (lo := some (.tmp 60)) (hi := none) (i := kk) (j := rs.length) sl39 rfl ⟨_, rfl⟩ rfl (by omega) (Nat.le_refl _) rfl) rfl ?_
     refine TO_cons rfl (TOp_clear sl39 zero55 rfl rfl rfl rfl (by omega) rfl raw_plain ?_)
     refine TO_st (σ' := [.dead, .row (flat tFact.raw (compF e rs))]) (by rw [← hd, flat_take tFact.lenR]; rfl) ?_
     refine TO_nil ?_
     refine sr ?_
     refine pv tb 2 rfl ?_
     refine Tp rfl rfl (pur_cutM (lo := none) (hi := some (.tmp 63)) (i := 0) (j := kk) sl39 rfl rfl ⟨_, rfl⟩ (Nat.zero_le _) (by omega) rfl) rfl ?_
     refine pv tb 1 rfl ?_
     refine TO_nil ?_
     refine T_env (E' := [(4, (.m [1] 0 (compF e rs).length tFact.k))]) ⟨?_, trivial⟩ ?_
     ·show A.m [1] (0 * tFact.k) (kk - 0) tFact.k = _
      rw [← hkl, Nat.zero_mul, Nat.sub_zero]
     refine T_ret ?_
     refine block_ret ?_
     refine then_ret ?_
     refine then_ret ?_
     refine block_ret ?_
     refine then_ret ?_
     exact end_pickX (.tmp .nil) rfl [0, 1] (by decide) (lb rfl) rfl (lb rfl) rfl rfl rfl rfl rfl rfl
   ·refine T_skip ?_
    refine T_region ?_
    refine pv tb 1 rfl ?_
    refine Tp rfl rfl (pur_add (c := ((k + 1 : Nat) : Int)) rfl rfl rfl (fits64 (by omega) (by omega))) rfl ?_
    refine pv tb 1 rfl ?_
    refine TO_nil ?_
    exact again (rs.length - (k + 1)) (k + 1) (by omega) (w0 2) ⟨rfl, Nat.succ_pos _, hk, by rw [compF_take hk0 hx hy, c1, hI, List.take_add_one, hy]; rfl⟩
  ·have hk : k = rs.length := by have := of_decide_eq_false c; omega
   have e1 : compF e rs = rs := by rw [hk, List.take_length] at hI; exact hI
   rw [e1]
   refine T_exit ?_
   refine then_exit ?_
   refine then_exit ?_
   refine block_exit ?_
   refine sr ?_
   refine pv tb 2 rfl ?_
   refine TO_nil ?_
   refine te [(4, (.m [1] 0 rs.length tFact.k))] rfl ?_
   refine T_ret ?_
   exact end_pickX (.tmp .nil) rfl [0, 1] (by decide) (lb rfl) rfl (lb rfl) rfl rfl rfl rfl rfl rfl
theorem m_slices_CompactFunc_Simpl_Fact_impl_Fact_xo (s0 : List Fact) (eq : Fact → Fact → Option Bool) (g : Nat) (gE : EnT prg g) (gH : ∀ x y r, eq x y = some r → FnV prg g [argA true (tFact.enc x), argA true (tFact.enc y)] (boolA r)) (r : List Fact) (H : compM eq s0 = some r) : FnS prg 50 [.m [0] 0 s0.length tFact.k, .f g []] [.row (flat tFact.own s0)] (.m [1] 0 r.length tFact.k) [.dead, .row (flat tFact.own r)] :=
  FnS.ofRaw (agg := true) (g := g) (fun h => nomatch h) (fun rs e h0 hN hg => m_slices_CompactFunc_Simpl_Fact_impl_Fact_raw g gE rs e h0 hN hg) m_slices_CompactFunc_Simpl_Fact_impl_Fact_0 gH H


set_option maxHeartbeats 1000000 in
theorem m_impl_MergeValues_1_ok (x0 : Fact) (y1 : Fact) (r : Bool) (H : m_impl_MergeValues_1 x0 y1 = some r) : FnV prg 51 [(.g (tFact.enc x0)), (.g (tFact.enc y1))] (boolA r) := by
  unfold m_impl_MergeValues_1 at H
  refine fnV_of_T Try.func51 rfl rfl (Nat.le_of_ble_eq_true rfl) ?_
  refine te [(0, (.g (tFact.enc x0))), (1, (.g (tFact.enc y1)))] rfl ?_
  refine sr ?_
  refine TO_cons rfl (TOp_box rfl (boxAll rfl) rfl rfl ?_)
  refine TO_cons rfl (TOp_box rfl (boxAll rfl) rfl rfl ?_)
  refine pv tb 1 rfl ?_
  refine TO_nil ?_
  refine sr ?_
  obtain ⟨r_1, h_2, H⟩ := bind_inv H
  refine pv tb 2 rfl ?_
  refine TO_cons rfl (TOp_callV (call_static ent49 rfl) (m_impl_CompareFacts_ok _ _ _ h_2) rfl rfl rfl ?_)
  refine pv tb 2 rfl ?_
  refine TO_nil ?_
  refine T_ret ?_
  obtain rfl := some_inj H
  refine end_ret (.tmp .nil) rfl rfl ⟨?_, rfl⟩
  rfl

set_option maxHeartbeats 1000000 in
theorem m_impl_MergeValues_own (db0 : Database) (a1 : Int) (b2 : Int) (r : (Database × Bool)) (H : m_impl_MergeValues db0 a1 b2 = some r) : FnO prg 18 [(.g (tDatabase.enc db0)), (intA a1), (intA b2)] (.t [(.g [(.m [0] 0 r.1.relations.length tRelation.k), (.m [1] 0 r.1.facts.length tFact.k)]), (boolA r.2)]) [.row (flat tRelation.own r.1.relations), .row (flat tFact.own r.1.facts)] := by
  unfold m_impl_MergeValues at H
  refine fnO_of_T Try.func18 rfl rfl (Nat.le_of_ble_eq_true rfl) ?_
  refine te [(0, (.g (tDatabase.enc db0))), (1, (intA a1)), (2, (intA b2))] rfl ?_
  refine sr ?_
  refine TO_cons rfl (TOp_box rfl (boxAll rfl) rfl rfl ?_)
  refine TO_cons rfl (TOp_alloc zero41 rfl rfl ?_)
  refine pv tb 1 rfl ?_
  refine TO_nil ?_
  refine sr ?_
  obtain ⟨r_1, h_2, H⟩ := bind_inv H
  refine pv tb 1 rfl ?_
  refine TO_cons rfl (TOp_callO (call_static ent46 rfl) rfl (m_impl_copyDatabase_own _ _ h_2) rfl rfl rfl ?_)
  refine toe [(1, (intA a1)), (2, (intA b2)), (3, (.b 0 0)), (6, (.b 1 0)), (13, (.g (tDatabase.enc db0))), (14, (.g [(.m [2] 0 r_1.relations.length tRelation.k), (.m [3] 0 r_1.facts.length tFact.k)]))] rfl ?_
  refine TO_st (σ' := [.box [(sl tRelation db0.relations), (sl tFact db0.facts)], .box [.n, .n], .row (flat tRelation.own r_1.relations), .row (flat tFact.own r_1.facts)]) rfl ?_
  refine TO_cons rfl (TOp_alloc zero41 rfl rfl ?_)
  refine TO_cons rfl (TOp_storeB sz41 rfl rfl rfl rfl rfl rfl rfl (by decide) (lb rfl) rfl ?_)
  refine TO_st (σ' := [.box [(sl tRelation db0.relations), (sl tFact db0.facts)], .box [.n, .n], .row (flat tRelation.own r_1.relations), .row (flat tFact.own r_1.facts), .box [(.m [2] 0 r_1.relations.length tRelation.k), (.m [3] 0 r_1.facts.length tFact.k)]]) rfl ?_
  refine TO_nil ?_
  refine T_seq ?_
  obtain ⟨t27_3, J_3, H_4⟩ := bind_inv H
  refine T_cutX (fun x => t27_3 = x) (fun (t27_3 : Bool) => [(1, (intA a1)), (2, (intA b2)), (6, (.b 1 0)), (8, (.b 4 0)), (27, (boolA t27_3))]) (fun (t27_3 : Bool) => [.box [(sl tRelation db0.relations), (sl tFact db0.facts)], .box [.n, .n], .row (flat tRelation.own r_1.relations), .row (flat tFact.own r_1.facts), .box [(.m [2] 0 r_1.relations.length tRelation.k), (.m [3] 0 r_1.facts.length tFact.k)]]) ?_ ?_
  ·replace H := J_3
   refine T_region ?_
   obtain ⟨r_5, h_6, H⟩ := bind_inv H
   refine pv tb 1 rfl ?_
   refine TO_cons rfl (TOp_callV (call_static ent26 rfl) (m_impl_IsValidDatabase_ok _ _ h_6) rfl rfl rfl ?_)
   refine pv tb 2 rfl ?_
   refine TO_split (t := (!r_5)) 18 rfl (fun g_7 => ?_) (fun g_7 => ?_)
   ·replace H := cond_t g_7 H
    refine pv tb 9 rfl ?_
    refine TO_nil ?_
    exact joined true (w0 5) (some_inj H).symm
   ·replace H := cond_f g_7 H
    obtain ⟨r_8, h_9, H⟩ := bind_inv H
    refine pv tb 1 rfl ?_
    refine TO_on rfl rfl (by decide) rfl rfl (TOp_callV (call_static ent47 rfl) (m_impl_within_ok _ _ _ _ h_9) rfl rfl rfl ?_)
    refine pv tb 3 rfl ?_
    refine TO_split (t := (!r_8)) 23 rfl (fun g_10 => ?_) (fun g_10 => ?_)
    ·replace H := cond_t g_10 H
     refine pv tb 4 rfl ?_
     refine TO_nil ?_
     exact joined true (w0 5) (some_inj H).symm
    ·replace H := cond_f g_10 H
     obtain ⟨r_11, h_12, H⟩ := bind_inv H
     refine pv tb 1 rfl ?_
     refine TO_on rfl rfl (by decide) rfl rfl (TOp_callV (call_static ent47 rfl) (m_impl_within_ok _ _ _ _ h_12) rfl rfl rfl ?_)
     refine pv tb 2 rfl ?_
     refine TO_nil ?_
     exact joined (!r_11) (w0 5) (some_inj H).symm
  ·rintro _ rfl
   replace H := H_4
   refine T_cond (t := t27_3) rfl (fun c_13 => ?_) (fun c_13 => ?_)
   ·replace H := cond_t c_13 H
    refine sr ?_
    refine pv tb 1 rfl ?_
    refine TO_cons rfl (TOp_storeB sz41 rfl rfl rfl rfl rfl rfl rfl (by decide) (lb rfl) rfl ?_)
    refine TO_st (σ' := [.box [(sl tRelation db0.relations), (sl tFact db0.facts)], .box [(.m [2] 0 r_1.relations.length tRelation.k), (.m [3] 0 r_1.facts.length tFact.k)], .row (flat tRelation.own r_1.relations), .row (flat tFact.own r_1.facts), .box [(.m [2] 0 r_1.relations.length tRelation.k), (.m [3] 0 r_1.facts.length tFact.k)]]) rfl ?_
    refine pv tb 1 rfl ?_
    refine TO_nil ?_
    refine T_ret ?_
    refine then_ret ?_
    obtain rfl := some_inj H
    exact end_pick (.cellK rfl agg41 rfl (lb rfl) (.tmp .nil)) rfl [2, 3] (by decide) rfl rfl rfl rfl rfl rfl
   ·replace H := cond_f c_13 H
    refine T_skip ?_
    refine T_seq ?_
    refine sr ?_
    refine pv tb 2 rfl ?_
    refine Tp rfl rfl (pur_len_m sl39 rfl rfl) rfl ?_
    refine pv tb 1 rfl ?_
    refine TO_nil ?_
    obtain ⟨O15_, L15_, N15_⟩ := bind_inv H
    clear H
    obtain ⟨B15_, hb15, L15_⟩ := gen_forM L15_
    refine T_block ?_
    refine T_loopX (fun k => fun (⟨t_14, t30m⟩ : Int × (List Fact)) => k = ((r_1.facts.length : Int) - t_14).toNat ∧ 0 ≤ t_14 ∧ forM B15_ ((r_1.facts.length : Int) - t_14).toNat t_14 t30m = some O15_ ∧ t30m.length = r_1.facts.length) (fun (⟨t_14, t30m⟩ : Int × (List Fact)) => [(1, (intA a1)), (2, (intA b2)), (6, (.b 1 0)), (8, (.b 4 0)), (30, (.m [3] 0 t30m.length tFact.k)), (31, (intA (r_1.facts.length : Int))), (32, (intA (t_14 : Int)))]) (fun (⟨t_14, t30m⟩ : Int × (List Fact)) => [.box [(sl tRelation db0.relations), (sl tFact db0.facts)], .box [.n, .n], .row (flat tRelation.own r_1.relations), .row (flat tFact.own t30m), .box [(.m [2] 0 r_1.relations.length tRelation.k), (.m [3] 0 t30m.length tFact.k)]]) _ (0, r_1.facts) (w0 5) ⟨rfl, Int.le_refl _, L15_, rfl⟩ ?_
    rintro _ ⟨t_14, t30m⟩ ⟨rfl, hi15, L15_, hq_t30m⟩
    replace hq_t30m : t30m.length = r_1.facts.length := hq_t30m
    refine T_fact (len_m (.tmp 30) rfl) (fun hl15 => ?_)
    refine sr ?_
    refine pv tb 1 rfl ?_
    refine TO_nil ?_
    refine T_seq ?_
    refine T_cond (t := decide ((t_14 : Int) < (r_1.facts.length : Int))) rfl (fun d15 => ?_) (fun d15 => ?_)
    ·replace d15 := of_decide_eq_true d15
     replace d15 : (t_14 : Int) < (r_1.facts.length : Int) := by omega
     obtain ⟨C15_, H, K15_⟩ := forM_step L15_ d15
     rw [hb15] at H
     refine T_skip ?_
     refine T_seq ?_
     refine T_block ?_
     refine sr ?_
     obtain ⟨v_16, h_17, H⟩ := bind_inv H
     obtain ⟨n_18, hz_19, hv_20⟩ := getI_inv h_17
     refine Tp rfl rfl (pur_ixM (T := tFact) sl39 rfl rfl hz_19 hv_20 rfl) rfl ?_
     refine Tp rfl rfl (pur_ldEK (f := tFact.own) (k := tFact.k) (i := n_18) (off := 0) tFact.lenO rfl agg55 rfl rfl rfl hv_20 (by decide) (cvCons rfl (cvCons cellVal_sl cvNil))) rfl ?_
     refine TO_cons rfl (TOp_alloc zero55 rfl rfl ?_)
     refine TO_cons rfl (TOp_storeB sz55 rfl rfl rfl rfl rfl rfl rfl (by decide) (lb rfl) rfl ?_)
     refine TO_st (σ' := [.box [(sl tRelation db0.relations), (sl tFact db0.facts)], .box [.n, .n], .row (flat tRelation.own r_1.relations), .row (flat tFact.own t30m), .box [(.m [2] 0 r_1.relations.length tRelation.k), (.m [3] 0 t30m.length tFact.k)], .box [(intA v_16.relation), (.m [3, n_18 * tFact.k + 1] 0 v_16.values.length tInt.k)]]) rfl ?_
     refine TO_nil ?_
     refine sr ?_
     refine pv tb 2 rfl ?_
     refine Tp rfl rfl (pur_len_m sl53 rfl rfl) rfl ?_
     refine pv tb 1 rfl ?_
     refine TO_nil ?_
     refine T_env (E' := [(1, (intA a1)), (2, (intA b2)), (6, (.b 1 0)), (8, (.b 4 0)), (10, (.b 5 0)), (30, (.m [3] 0 (t30m.set ((t_14 : Int)).toNat v_16).length tFact.k)), (31, (intA (r_1.facts.length : Int))), (32, (intA (t_14 : Int))), (37, (.m [3, n_18 * tFact.k + 1] 0 v_16.values.length tInt.k)), (38, (intA (v_16.values.length : Int))), (39, (intA 0))]) ⟨rfl, rfl, rfl, rfl, rfl, (congrArg (fun q => A.m [3] 0 q tFact.k) (List.length_set ..).symm), rfl, rfl, rfl, rfl, rfl, trivial⟩ ?_
     refine T_st (σ' := [.box [(sl tRelation db0.relations), (sl tFact db0.facts)], .box [.n, .n], .row (flat tRelation.own r_1.relations), .row (flat tFact.own (t30m.set ((t_14 : Int)).toNat v_16)), .box [(.m [2] 0 r_1.relations.length tRelation.k), (.m [3] 0 (t30m.set ((t_14 : Int)).toNat v_16).length tFact.k)], .box [(intA v_16.relation), (.m [3, n_18 * tFact.k + 1] 0 v_16.values.length tInt.k)]]) (by simp only [set_id hz_19 hv_20, List.length_set]) ?_
     obtain ⟨O22_, L22_, N22_⟩ := bind_inv H
     clear H
     obtain ⟨B22_, hb22, L22_⟩ := gen_forM L22_
     refine T_block ?_
     refine T_loopX (fun k => fun (⟨t_21, nest3_values⟩ : Int × (List Int)) => k = ((v_16.values.length : Int) - t_21).toNat ∧ 0 ≤ t_21 ∧ forM B22_ ((v_16.values.length : Int) - t_21).toNat t_21 nest3_values = some O22_ ∧ nest3_values.length = v_16.values.length) (fun (⟨t_21, nest3_values⟩ : Int × (List Int)) => [(1, (intA a1)), (2, (intA b2)), (6, (.b 1 0)), (8, (.b 4 0)), (10, (.b 5 0)), (30, (.m [3] 0 (t30m.set ((t_14 : Int)).toNat ({ relation := v_16.relation, values := nest3_values } : Fact)).length tFact.k)), (31, (intA (r_1.facts.length : Int))), (32, (intA (t_14 : Int))), (37, (.m [3, n_18 * tFact.k + 1] 0 nest3_values.length tInt.k)), (38, (intA (v_16.values.length : Int))), (39, (intA (t_21 : Int)))]) (fun (⟨t_21, nest3_values⟩ : Int × (List Int)) => [.box [(sl tRelation db0.relations), (sl tFact db0.facts)], .box [.n, .n], .row (flat tRelation.own r_1.relations), .row (flat tFact.own (t30m.set ((t_14 : Int)).toNat ({ relation := v_16.relation, values := nest3_values } : Fact))), .box [(.m [2] 0 r_1.relations.length tRelation.k), (.m [3] 0 (t30m.set ((t_14 : Int)).toNat ({ relation := v_16.relation, values := nest3_values } : Fact)).length tFact.k)], .box [(intA v_16.relation), (.m [3, n_18 * tFact.k + 1] 0 nest3_values.length tInt.k)]]) _ (0, v_16.values) (w0 6) ⟨rfl, Int.le_refl _, L22_, rfl⟩ ?_
     rintro _ ⟨t_21, nest3_values⟩ ⟨rfl, hi22, L22_, hq_nest3_values⟩
     replace hq_nest3_values : nest3_values.length = v_16.values.length := hq_nest3_values
     refine T_fact (len_m (.tmp 37) rfl) (fun hl22 => ?_)
     refine sr ?_
     refine pv tb 1 rfl ?_
     refine TO_nil ?_
     refine T_seq ?_
     refine T_cond (t := decide ((t_21 : Int) < (v_16.values.length : Int))) rfl (fun d22 => ?_) (fun d22 => ?_)
     ·replace d22 := of_decide_eq_true d22
      replace d22 : (t_21 : Int) < (v_16.values.length : Int) := by omega
      obtain ⟨C22_, H, K22_⟩ := forM_step L22_ d22
      rw [hb22] at H
      refine T_skip ?_
      refine T_seq ?_
      refine T_block ?_
      refine sr ?_
      obtain ⟨v_23, h_24, H⟩ := bind_inv H
      obtain ⟨n_25, hz_26, hv_27⟩ := getI_inv h_24
      refine pv tb 1 rfl ?_
      refine Tp rfl rfl (pur_ixM (T := tInt) sl53 rfl rfl hz_26 hv_27 rfl) rfl ?_
      refine Tp rfl rfl (pur_ldE (f := tInt.own) (k := tInt.k) (i := n_25) (off := 0) tInt.lenO rfl one3 rfl (rowAt_el (f := tFact.own) (i := n_18) (off := 1) tFact.lenO rfl (set_el hz_19 hv_20) rfl) rfl hv_27 rfl rfl) rfl ?_
      refine pv tb 2 rfl ?_
      refine TO_nil ?_
      refine sr ?_
      refine pv tb 3 rfl ?_
      refine TO_nil ?_
      refine T_cond (t := decide (v_23 = a1)) rfl (fun c_28 => ?_) (fun c_28 => ?_)
      ·replace H := cond_t c_28 H
       refine T_region ?_
       refine pv tb 4 rfl ?_
       refine Tp rfl rfl (pur_ixM (T := tInt) sl53 rfl rfl hz_26 hv_27 rfl) rfl ?_
       refine TO_cons rfl (TOp_setR (T := tFact) (T2 := tInt) (i := n_18) (off := 1) (v := ({ relation := v_16.relation, values := nest3_values } : Fact)) (v' := ({ relation := v_16.relation, values := (nest3_values.set ((t_21 : Int)).toNat b2) } : Fact)) hz_19 hz_26 sz3 rfl rfl rfl rfl rfl (set_el hz_19 hv_20) rfl hv_27 rfl rfl rfl ?_)
       refine TO_env (E' := [(1, (intA a1)), (2, (intA b2)), (6, (.b 1 0)), (8, (.b 4 0)), (10, (.b 5 0)), (11, (intA (t_21 : Int))), (30, (.m [3] 0 (t30m.set ((t_14 : Int)).toNat ({ relation := v_16.relation, values := (nest3_values.set ((t_21 : Int)).toNat b2) } : Fact)).length tFact.k)), (31, (intA (r_1.facts.length : Int))), (32, (intA (t_14 : Int))), (37, (.m [3, n_18 * tFact.k + 1] 0 (nest3_values.set ((t_21 : Int)).toNat b2).length tInt.k)), (38, (intA (v_16.values.length : Int))), (39, (intA (t_21 : Int))), (46, (boolA (decide (v_23 = a1)))), (47, (.b 5 1)), (48, (.m [3, n_18 * tFact.k + 1] 0 (nest3_values.set ((t_21 : Int)).toNat b2).length tInt.k)), (49, (intA (t_21 : Int))), (50, (intA b2))]) ⟨rfl, rfl, rfl, rfl, rfl, rfl, (congrArg (fun q => A.m [3] 0 q tFact.k) ((List.length_set ..).trans (List.length_set ..).symm)), rfl, rfl, (congrArg (fun q => A.m [3, n_18 * tFact.k + 1] 0 q tInt.k) (List.length_set ..).symm), rfl, rfl, rfl, rfl, (congrArg (fun q => A.m [3, n_18 * tFact.k + 1] 0 q tInt.k) (List.length_set ..).symm), rfl, rfl, trivial⟩ ?_
       refine TO_st (σ' := [.box [(sl tRelation db0.relations), (sl tFact db0.facts)], .box [.n, .n], .row (flat tRelation.own r_1.relations), .row (flat tFact.own ((t30m.set ((t_14 : Int)).toNat ({ relation := v_16.relation, values := nest3_values } : Fact)).set ((t_14 : Int)).toNat ({ relation := v_16.relation, values := (nest3_values.set ((t_21 : Int)).toNat b2) } : Fact))), .box [(.m [2] 0 r_1.relations.length tRelation.k), (.m [3] 0 (t30m.set ((t_14 : Int)).toNat ({ relation := v_16.relation, values := nest3_values } : Fact)).length tFact.k)], .box [(intA v_16.relation), (.m [3, n_18 * tFact.k + 1] 0 nest3_values.length tInt.k)]]) rfl ?_
       refine TO_st (σ' := [.box [(sl tRelation db0.relations), (sl tFact db0.facts)], .box [.n, .n], .row (flat tRelation.own r_1.relations), .row (flat tFact.own (t30m.set ((t_14 : Int)).toNat ({ relation := v_16.relation, values := (nest3_values.set ((t_21 : Int)).toNat b2) } : Fact))), .box [(.m [2] 0 r_1.relations.length tRelation.k), (.m [3] 0 (t30m.set ((t_14 : Int)).toNat ({ relation := v_16.relation, values := (nest3_values.set ((t_21 : Int)).toNat b2) } : Fact)).length tFact.k)], .box [(intA v_16.relation), (.m [3, n_18 * tFact.k + 1] 0 (nest3_values.set ((t_21 : Int)).toNat b2).length tInt.k)]]) (by simp only [List.set_set, List.length_set]) ?_
       refine TO_nil ?_
       refine T_region ?_
       refine Tp rfl rfl (pur_add rfl rfl rfl (fits64 (by omega) (by omega))) rfl ?_
       refine pv tb 1 rfl ?_
       refine TO_nil ?_
       obtain rfl := some_inj H
       exact again ((v_16.values.length : Int) - (t_21 + 1)).toNat (t_21 + 1, (nest3_values.set ((t_21 : Int)).toNat b2)) (by omega) (w0 6) ⟨rfl, by omega, K22_, ((List.length_set ..).trans hq_nest3_values)⟩
      ·replace H := cond_f c_28 H
       refine T_skip ?_
       refine T_region ?_
       refine Tp rfl rfl (pur_add rfl rfl rfl (fits64 (by omega) (by omega))) rfl ?_
       refine pv tb 1 rfl ?_
       refine TO_nil ?_
       obtain rfl := some_inj H
       exact again ((v_16.values.length : Int) - (t_21 + 1)).toNat (t_21 + 1, nest3_values) (by omega) (w0 6) ⟨rfl, by omega, K22_, hq_nest3_values⟩
     ·replace d22 := of_decide_eq_false d22
      obtain rfl := forM_end L22_ (by omega)
      refine T_exit ?_
      refine then_exit ?_
      refine then_exit ?_
      refine block_exit ?_
      replace H := N22_
      refine T_region ?_
      refine Tp rfl rfl (pur_add rfl rfl rfl (fits64 (by omega) (by omega))) rfl ?_
      refine pv tb 1 rfl ?_
      refine TO_nil ?_
      obtain rfl := some_inj H
      exact again ((r_1.facts.length : Int) - (t_14 + 1)).toNat (t_14 + 1, (t30m.set ((t_14 : Int)).toNat ({ relation := v_16.relation, values := nest3_values } : Fact))) (by omega) (w0 5) ⟨rfl, by omega, K15_, ((List.length_set ..).trans hq_t30m)⟩
    ·replace d15 := of_decide_eq_false d15
     obtain rfl := forM_end L15_ (by omega)
     refine T_exit ?_
     refine then_exit ?_
     refine then_exit ?_
     refine block_exit ?_
     replace H := N15_
     refine sr ?_
     obtain ⟨so_29, h_30, H⟩ := bind_inv H
     refine pv tb 2 rfl ?_
     refine TO_cons rfl (TOp_sort (Y := tFact) (agg := true) (l := 3) (g := 49) (call_static ent48 rfl) rfl ok_f0 m_slices_SortFunc_Simpl_Fact_impl_Fact_C (fun h => nomatch h) ent49 (fun x y r h => m_impl_CompareFacts_ok x y r h) trivial h_30 rfl rfl rfl (lb rfl) rfl (fun hl_31 => ?_))
     refine TO_env (E' := [(6, (.b 1 0)), (8, (.b 4 0)), (54, (.b 4 1)), (55, (.m [3] 0 so_29.length tFact.k))]) ⟨rfl, rfl, rfl, (congrArg (fun q => A.m [3] 0 q tFact.k) hl_31.symm), trivial⟩ ?_
     refine TO_st (σ' := [.box [(sl tRelation db0.relations), (sl tFact db0.facts)], .box [.n, .n], .row (flat tRelation.own r_1.relations), .row (flat tFact.own so_29), .box [(.m [2] 0 r_1.relations.length tRelation.k), (.m [3] 0 t30m.length tFact.k)]]) rfl ?_
     refine TO_st (σ' := [.box [(sl tRelation db0.relations), (sl tFact db0.facts)], .box [.n, .n], .row (flat tRelation.own r_1.relations), .row (flat tFact.own so_29), .box [(.m [2] 0 r_1.relations.length tRelation.k), (.m [3] 0 so_29.length tFact.k)]]) (by simp only [hl_31]) ?_
     refine TO_nil ?_
     refine sr ?_
     obtain ⟨r_32, h_33, H⟩ := bind_inv H
     refine pv tb 2 rfl ?_
     refine TO_cons rfl (TOp_callS [3] (call_static ent50 rfl) (by decide) rfl rfl rfl rfl rfl rfl (m_slices_CompactFunc_Simpl_Fact_impl_Fact_xo _ (fun x y => m_impl_MergeValues_1 x y) 51 ent51 (fun x y r h => m_impl_MergeValues_1_ok x y r h) _ h_33) rfl rfl ?_)
     refine toe [(6, (.b 1 0)), (8, (.b 4 0)), (57, (.b 4 1)), (59, (.m [5] 0 r_32.length tFact.k))] rfl ?_
     refine TO_st (σ' := [.box [(sl tRelation db0.relations), (sl tFact db0.facts)], .box [.n, .n], .row (flat tRelation.own r_1.relations), .dead, .box [(.m [2] 0 r_1.relations.length tRelation.k), (.m [3] 0 so_29.length tFact.k)], .row (flat tFact.own r_32)]) rfl ?_
     refine pv tb 1 rfl ?_
     refine TO_cons rfl (TOp_storeB sz39 rfl rfl rfl rfl rfl rfl rfl (by decide) (lb rfl) rfl ?_)
     refine TO_st (σ' := [.box [(sl tRelation db0.relations), (sl tFact db0.facts)], .box [.n, .n], .row (flat tRelation.own r_1.relations), .dead, .box [(.m [2] 0 r_1.relations.length tRelation.k), (.m [5] 0 r_32.length tFact.k)], .row (flat tFact.own r_32)]) rfl ?_
     refine TO_nil ?_
     refine sr ?_
     refine pv tb 1 rfl ?_
     refine TO_cons rfl (TOp_storeB sz41 rfl rfl rfl rfl rfl rfl rfl (by decide) (lb rfl) rfl ?_)
     refine TO_st (σ' := [.box [(sl tRelation db0.relations), (sl tFact db0.facts)], .box [(.m [2] 0 r_1.relations.length tRelation.k), (.m [5] 0 r_32.length tFact.k)], .row (flat tRelation.own r_1.relations), .dead, .box [(.m [2] 0 r_1.relations.length tRelation.k), (.m [5] 0 r_32.length tFact.k)], .row (flat tFact.own r_32)]) rfl ?_
     refine pv tb 1 rfl ?_
     refine TO_nil ?_
     refine T_ret ?_
     obtain rfl := some_inj H
     exact end_pick (.cellK rfl agg41 rfl (lb rfl) (.tmp .nil)) rfl [2, 5] (by decide) rfl rfl rfl rfl rfl rfl
theorem m_impl_MergeValues_ok (db0 : Database) (a1 : Int) (b2 : Int) (r : (Database × Bool)) (H : m_impl_MergeValues db0 a1 b2 = some r) : FnV prg 18 [(.g (tDatabase.enc db0)), (intA a1), (intA b2)] (.t [(.g (tDatabase.enc r.1)), (boolA r.2)]) := (m_impl_MergeValues_own db0 a1 b2 r H).frz (frzOK_t (frz_cons (frzOK_g (frz_cons (frzT (T := tRelation) rfl) (frz_cons (frzT (T := tFact) rfl) frz_nil)).1 (frz_cons (frzT (T := tRelation) rfl) (frz_cons (frzT (T := tFact) rfl) frz_nil)).2) (frz_cons (frz_loose rfl) frz_nil)).1 (frz_cons (frzOK_g (frz_cons (frzT (T := tRelation) rfl) (frz_cons (frzT (T := tFact) rfl) frz_nil)).1 (frz_cons (frzT (T := tRelation) rfl) (frz_cons (frzT (T := tFact) rfl) frz_nil)).2) (frz_cons (frz_loose rfl) frz_nil)).2)

set_option maxHeartbeats 1000000 in
theorem m_laws_big_ok (code0 : (List Int)) (r : Bool) (H : m_laws_big code0 = some r) : FnV prg 22 [(sl (tI .u8) code0)] (boolA r) := by
  unfold m_laws_big at H
  refine fnV_of_T Try.func22 rfl rfl (Nat.le_of_ble_eq_true rfl) ?_
  refine te [(0, (sl (tI .u8) code0))] rfl ?_
  refine sr ?_
  refine pv tb 1 rfl ?_
  refine TO_nil ?_
  refine sr ?_
  refine pv tb 1 rfl ?_
  refine Tp rfl rfl (pur_lenT (T := (tI .u8)) sl48 rfl rfl) rfl ?_
  refine pv tb 2 rfl ?_
  refine TO_nil ?_
  refine T_ret ?_
  obtain rfl := some_inj H
  refine end_ret (.tmp .nil) rfl rfl ⟨?_, rfl⟩
  rfl

set_option maxHeartbeats 1000000 in
theorem m_spec_l1New_x (u : Nat) (code0 : (List Int)) (r : l1Cur) (H : m_spec_l1New u code0 = some r) : FnS prg 58 [(sl (tI .u8) code0)] [] (.b 0 0) [.box [(sl (tI .u8) r.b), (intA r.i), (intA r.h)]] := by
  unfold m_spec_l1New at H
  refine fnS_of_T Try.func58 rfl rfl (Nat.le_of_ble_eq_true rfl) ?_
  refine te [(0, (sl (tI .u8) code0))] rfl ?_
  refine T_st (σ' := []) rfl ?_
  refine sr ?_
  refine pv tb 1 rfl ?_
  refine TO_nil ?_
  refine sr ?_
  refine pv tb 1 rfl ?_
  refine Tp rfl rfl (pur_lenT (T := (tI .u8)) sl48 rfl rfl) rfl ?_
  refine pv tb 2 rfl ?_
  refine TO_nil ?_
  refine T_seq ?_
  refine sr ?_
  refine pv tb 1 rfl ?_
  refine TO_nil ?_
  obtain ⟨O1_, L1_, N1_⟩ := bind_inv H
  clear H
  obtain ⟨B1_, hb1, L1_⟩ := gen_whileF L1_
  refine T_block ?_
  refine T_loopX (fun k => fun (⟨h3, i4⟩ : Int × Int) => whileF B1_ k (h3, i4) = some O1_) (fun (⟨h3, i4⟩ : Int × Int) => [(0, (sl (tI .u8) code0)), (3, (intA h3)), (4, (intA i4))]) (fun (⟨h3, i4⟩ : Int × Int) => []) u ((w64 (10101 + (code0.length : Int))), 0) (w0 0) L1_ ?_
  rintro _ ⟨h3, i4⟩ L1_
  obtain ⟨k1, rfl, C1_, H, K1_⟩ := while_step L1_
  rw [hb1] at H
  refine T_seq ?_
  refine T_cutX (fun x => ((decide (i4 < (code0.length : Int))) && (decide (i4 < 4000))) = x) (fun (t15_2 : Bool) => [(0, (sl (tI .u8) code0)), (3, (intA h3)), (4, (intA i4)), (15, (boolA t15_2))]) (fun (t15_2 : Bool) => []) ?_ ?_
  ·skip
   refine T_region ?_
   refine pv tb 2 rfl ?_
   refine Tp rfl rfl (pur_lenT (T := (tI .u8)) sl48 rfl rfl) rfl ?_
   refine pv tb 2 rfl ?_
   refine TO_split (t := decide (i4 < (code0.length : Int))) 12 rfl (fun g_4 => ?_) (fun g_4 => ?_)
   ·skip
    refine pv tb 3 rfl ?_
    refine TO_nil ?_
    exact joined (decide (i4 < 4000)) (w0 0) (by first | exact Eq.symm ((and_T g_4 rfl)))
   ·skip
    refine pv tb 3 rfl ?_
    refine TO_nil ?_
    exact joined false (w0 0) (by first | exact Eq.symm ((and_F g_4 rfl)))
  ·rintro _ rfl
   refine T_cond (t := ((decide (i4 < (code0.length : Int))) && (decide (i4 < 4000)))) rfl (fun c_5 => ?_) (fun c_5 => ?_)
   ·replace H := cond_t c_5 H
    refine T_skip ?_
    refine T_seq ?_
    refine T_block ?_
    refine T_region ?_
    obtain ⟨v_6, h_7, H⟩ := bind_inv H
    obtain ⟨n_8, hz_9, hv_10⟩ := getI_inv h_7
    refine pv tb 4 rfl ?_
    refine Tp rfl rfl (pur_ixT (T := (tI .u8)) sl48 rfl rfl hz_9 hv_10 rfl) rfl ?_
    refine Tp rfl rfl (pur_ldT (T := (tI .u8)) (i := n_8) (off := 0) rfl one5 rfl rfl hv_10 rfl) rfl ?_
    refine Tp rfl rfl (pur_convI (k := .i64) (k' := .u8) ⟨_, Try.underlying5⟩ Try.underlying3 rfl rfl) rfl ?_
    refine pv tb 2 rfl ?_
    refine Tp rfl rfl (pur_and rfl rfl rfl) rfl ?_
    refine pv tb 1 rfl ?_
    refine TO_nil ?_
    refine T_region ?_
    refine pv tb 3 rfl ?_
    refine TO_nil ?_
    obtain rfl := some_inj H
    exact again k1 ((bitI .and .i64 (w64 ((w64 ((w64 (h3 * 131)) + (w64 v_6))) + 7)) 1073741823), (w64 (i4 + 1))) (Nat.lt_succ_self _) (w0 0) K1_
   ·replace H := cond_f c_5 H
    refine T_exit ?_
    refine then_exit ?_
    refine then_exit ?_
    refine block_exit ?_
    obtain rfl := some_inj H
    obtain rfl := some_inj K1_
    replace H := onS_l N1_
    refine sr ?_
    refine pv tb 2 rfl ?_
    refine Tp rfl rfl (pur_build bld118 rfl rfl) rfl ?_
    refine TO_cons rfl (TOp_box rfl (boxAll rfl) rfl rfl ?_)
    refine pv tb 1 rfl ?_
    refine TO_nil ?_
    refine T_ret ?_
    obtain rfl := some_inj H
    exact end_pickX (.tmp .nil) rfl [0] (by decide) (lb rfl) rfl (lb rfl) rfl rfl rfl rfl rfl rfl

set_option maxHeartbeats 1000000 in
theorem m_spec_l1Byte_x (c0 : l1Cur) (r : (Int × l1Cur)) (H : m_spec_l1Byte c0 = some r) : FnS prg 129 [(.b 0 0)] [.box [(sl (tI .u8) c0.b), (intA c0.i), (intA c0.h)]] (intA r.1) [.box [(sl (tI .u8) r.2.b), (intA r.2.i), (intA r.2.h)]] := by
  unfold m_spec_l1Byte at H
  refine fnS_of_T Try.func129 rfl rfl (Nat.le_of_ble_eq_true rfl) ?_
  refine te [(0, (.b 0 0))] rfl ?_
  refine T_st (σ' := [.box [(sl (tI .u8) c0.b), (intA c0.i), (intA c0.h)]]) rfl ?_
  refine sr ?_
  refine pv tb 1 rfl ?_
  refine TO_nil ?_
  refine sr ?_
  refine pv tb 2 rfl ?_
  refine Tp rfl rfl (pur_nil_b rfl rfl) rfl ?_
  refine pv tb 4 rfl ?_
  refine Tp rfl rfl (pur_nil_b rfl rfl) rfl ?_
  refine pv tb 1 rfl ?_
  refine TO_cons rfl (TOp_storeB sz3 rfl rfl rfl rfl rfl rfl rfl (by decide) (lb rfl) rfl ?_)
  refine TO_st (σ' := [.box [(sl (tI .u8) c0.b), (intA c0.i), (intA (w64 ((w64 (c0.h * 6364136223846793005)) + 1442695040888963407)))]]) rfl ?_
  refine TO_nil ?_
  refine T_seq ?_
  refine T_regionD mixed (by kernel_rfl) ?_
  refine pq tb 1 rfl ?_
  refine TQ_pure rfl (pur_nil_b rfl rfl) rfl ?_
  refine pq tb 2 rfl ?_
  refine TQ_pure rfl (pur_shr rfl rfl rfl (by decide)) rfl ?_
  refine pq tb 1 rfl ?_
  refine TQ_pure rfl (pur_nil_b rfl rfl) rfl ?_
  refine pq tb 1 rfl ?_
  refine tqe [(0, (.b 0 0)), (17, (intA (shrI .i64 (w64 ((w64 (c0.h * 6364136223846793005)) + 1442695040888963407)) 33))), (20, (.b 0 2))] rfl ?_
  refine pq tb 1 rfl ?_
  refine TQ_pure rfl (pur_shr rfl rfl rfl (by decide)) rfl ?_
  refine TQ_pure rfl (pur_xor rfl rfl rfl) rfl ?_
  refine TQ_pure rfl (pur_and rfl rfl rfl) rfl ?_
  refine pq tb 1 rfl ?_
  refine TQ_nil ?_
  refine T_seq ?_
  refine T_seq ?_
  refine T_regionD mixed (by kernel_rfl) ?_
  refine pq tb 1 rfl ?_
  refine TQ_pure rfl (pur_nil_b rfl rfl) rfl ?_
  refine pq tb 3 rfl ?_
  refine TQ_pure rfl (pur_nil_b rfl rfl) rfl ?_
  refine pq tb 2 rfl ?_
  refine TQ_pure rfl (pur_lenT (T := (tI .u8)) sl48 rfl rfl) rfl ?_
  refine pq tb 1 rfl ?_
  refine TQ_nil ?_
  refine te [(0, (.b 0 0)), (3, (intA (bitI .and .i64 (bitI .xor .i64 (shrI .i64 (w64 ((w64 (c0.h * 6364136223846793005)) + 1442695040888963407)) 33) (shrI .i64 (w64 ((w64 (c0.h * 6364136223846793005)) + 1442695040888963407)) 45)) 255))), (34, (boolA (decide (c0.i < (c0.b.length : Int)))))] rfl ?_
  refine T_cond (t := decide (c0.i < (c0.b.length : Int))) rfl (fun c_1 => ?_) (fun c_1 => ?_)
  ·replace H := cond_t c_1 H
   refine T_seq ?_
   refine T_regionD mixed (by kernel_rfl) ?_
   refine pq tb 2 rfl ?_
   refine TQ_pure rfl (pur_nil_b rfl rfl) rfl ?_
   refine pq tb 3 rfl ?_
   refine TQ_pure rfl (pur_nil_b rfl rfl) rfl ?_
   obtain ⟨v_2, h_3, H⟩ := bind_inv H
   obtain ⟨n_4, hz_5, hv_6⟩ := getI_inv h_3
   refine pq tb 2 rfl ?_
   refine TQ_pure rfl (pur_ixT (T := (tI .u8)) sl48 rfl rfl hz_5 hv_6 rfl) rfl ?_
   refine TQ_pure rfl (pur_ldT (T := (tI .u8)) (i := n_4) (off := 0) rfl one5 rfl rfl hv_6 rfl) rfl ?_
   refine TQ_pure rfl (pur_convI (k := .i64) (k' := .u8) ⟨_, Try.underlying5⟩ Try.underlying3 rfl rfl) rfl ?_
   refine pq tb 1 rfl ?_
   refine TQ_pure rfl (pur_and rfl rfl rfl) rfl ?_
   refine pq tb 1 rfl ?_
   refine TQ_nil ?_
   refine te [(0, (.b 0 0)), (3, (intA (bitI .and .i64 (w64 ((bitI .and .i64 (bitI .xor .i64 (shrI .i64 (w64 ((w64 (c0.h * 6364136223846793005)) + 1442695040888963407)) 33) (shrI .i64 (w64 ((w64 (c0.h * 6364136223846793005)) + 1442695040888963407)) 45)) 255) + (w64 v_2))) 255)))] rfl ?_
   refine T_region ?_
   refine pv tb 2 rfl ?_
   refine Tp rfl rfl (pur_nil_b rfl rfl) rfl ?_
   refine pv tb 3 rfl ?_
   refine Tp rfl rfl (pur_nil_b rfl rfl) rfl ?_
   refine pv tb 1 rfl ?_
   refine TO_cons rfl (TOp_storeB sz3 rfl rfl rfl rfl rfl rfl rfl (by decide) (lb rfl) rfl ?_)
   refine TO_st (σ' := [.box [(sl (tI .u8) c0.b), (intA (w64 (c0.i + 1))), (intA (w64 ((w64 (c0.h * 6364136223846793005)) + 1442695040888963407)))]]) rfl ?_
   refine TO_nil ?_
   refine sr ?_
   refine pv tb 2 rfl ?_
   refine TO_nil ?_
   refine T_ret ?_
   obtain rfl := some_inj H
   exact end_pickX (.tmp .nil) rfl [0] (by decide) (lb rfl) rfl (lb rfl) rfl rfl rfl rfl rfl rfl
  ·replace H := cond_f c_1 H
   refine T_skip ?_
   refine sr ?_
   refine pv tb 2 rfl ?_
   refine TO_nil ?_
   refine T_ret ?_
   obtain rfl := some_inj H
   exact end_pickX (.tmp .nil) rfl [0] (by decide) (lb rfl) rfl (lb rfl) rfl rfl rfl rfl rfl rfl

set_option maxHeartbeats 1000000 in
theorem m_spec_l1Below_x (c0 : l1Cur) (n1 : Int) (r : (Int × l1Cur)) (H : m_spec_l1Below c0 n1 = some r) : FnS prg 95 [(.b 0 0), (intA n1)] [.box [(sl (tI .u8) c0.b), (intA c0.i), (intA c0.h)]] (intA r.1) [.box [(sl (tI .u8) r.2.b), (intA r.2.i), (intA r.2.h)]] := by
  unfold m_spec_l1Below at H
  refine fnS_of_T Try.func95 rfl rfl (Nat.le_of_ble_eq_true rfl) ?_
  refine te [(0, (.b 0 0)), (1, (intA n1))] rfl ?_
  refine T_st (σ' := [.box [(sl (tI .u8) c0.b), (intA c0.i), (intA c0.h)]]) rfl ?_
  refine sr ?_
  refine pv tb 1 rfl ?_
  refine TO_nil ?_
  refine T_seq ?_
  refine sr ?_
  refine pv tb 2 rfl ?_
  refine TO_nil ?_
  refine T_cond (t := decide (n1 ≤ 0)) rfl (fun c_1 => ?_) (fun c_1 => ?_)
  ·replace H := cond_t c_1 H
   refine sr ?_
   refine pv tb 1 rfl ?_
   refine TO_nil ?_
   refine T_ret ?_
   refine then_ret ?_
   obtain rfl := some_inj H
   exact end_pickX (.tmp .nil) rfl [0] (by decide) (lb rfl) rfl (lb rfl) rfl rfl rfl rfl rfl rfl
  ·replace H := cond_f c_1 H
   refine T_skip ?_
   refine T_seq ?_
   refine sr ?_
   refine pv tb 2 rfl ?_
   refine TO_nil ?_
   refine T_cond (t := decide (n1 ≤ 256)) rfl (fun c_2 => ?_) (fun c_2 => ?_)
   ·replace H := cond_t c_2 H
    refine sr ?_
    obtain ⟨r_3, h_4, H⟩ := bind_inv H
    refine pv tb 1 rfl ?_
    refine TO_cons rfl (TOp_callS [0] (call_static ent129 rfl) (by decide) rfl rfl rfl rfl rfl rfl (m_spec_l1Byte_x _ _ h_4) rfl rfl ?_)
    refine toe [(0, (.b 0 0)), (1, (intA n1)), (12, (boolA (decide (n1 ≤ 256)))), (13, (.b 0 0)), (14, (intA r_3.1))] rfl ?_
    refine TO_st (σ' := [.box [(sl (tI .u8) r_3.2.b), (intA r_3.2.i), (intA r_3.2.h)]]) rfl ?_
    obtain ⟨_u, h_5, H⟩ := bind_inv H
    refine pv tb 1 rfl ?_
    refine Tp rfl rfl (pur_rem rfl rfl rfl (gD_inv h_5)) rfl ?_
    refine pv tb 1 rfl ?_
    refine TO_nil ?_
    refine T_ret ?_
    refine then_ret ?_
    obtain rfl := some_inj H
    exact end_pickX (.tmp .nil) rfl [0] (by decide) (lb rfl) rfl (lb rfl) rfl rfl rfl rfl rfl rfl
   ·replace H := cond_f c_2 H
    refine T_skip ?_
    refine sr ?_
    obtain ⟨r_6, h_7, H⟩ := bind_inv H
    refine pv tb 1 rfl ?_
    refine TO_cons rfl (TOp_callS [0] (call_static ent129 rfl) (by decide) rfl rfl rfl rfl rfl rfl (m_spec_l1Byte_x _ _ h_7) rfl rfl ?_)
    refine toe [(0, (.b 0 0)), (1, (intA n1)), (17, (.b 0 0)), (18, (intA r_6.1))] rfl ?_
    refine TO_st (σ' := [.box [(sl (tI .u8) r_6.2.b), (intA r_6.2.i), (intA r_6.2.h)]]) rfl ?_
    refine pv tb 1 rfl ?_
    refine TO_nil ?_
    refine sr ?_
    obtain ⟨r_8, h_9, H⟩ := bind_inv H
    refine pv tb 1 rfl ?_
    refine TO_cons rfl (TOp_callS [0] (call_static ent129 rfl) (by decide) rfl rfl rfl rfl rfl rfl (m_spec_l1Byte_x _ _ h_9) rfl rfl ?_)
    refine toe [(0, (.b 0 0)), (1, (intA n1)), (5, (intA r_6.1)), (19, (.b 0 0)), (20, (intA r_8.1))] rfl ?_
    refine TO_st (σ' := [.box [(sl (tI .u8) r_8.2.b), (intA r_8.2.i), (intA r_8.2.h)]]) rfl ?_
    refine pv tb 1 rfl ?_
    refine TO_nil ?_
    refine sr ?_
    obtain ⟨r_10, h_11, H⟩ := bind_inv H
    refine pv tb 1 rfl ?_
    refine TO_cons rfl (TOp_callS [0] (call_static ent129 rfl) (by decide) rfl rfl rfl rfl rfl rfl (m_spec_l1Byte_x _ _ h_11) rfl rfl ?_)
    refine toe [(0, (.b 0 0)), (1, (intA n1)), (5, (intA r_6.1)), (6, (intA r_8.1)), (21, (.b 0 0)), (22, (intA r_10.1))] rfl ?_
    refine TO_st (σ' := [.box [(sl (tI .u8) r_10.2.b), (intA r_10.2.i), (intA r_10.2.h)]]) rfl ?_
    refine pv tb 1 rfl ?_
    refine TO_nil ?_
    refine sr ?_
    obtain ⟨r_12, h_13, H⟩ := bind_inv H
    refine pv tb 1 rfl ?_
    refine TO_cons rfl (TOp_callS [0] (call_static ent129 rfl) (by decide) rfl rfl rfl rfl rfl rfl (m_spec_l1Byte_x _ _ h_13) rfl rfl ?_)
    refine toe [(0, (.b 0 0)), (1, (intA n1)), (5, (intA r_6.1)), (6, (intA r_8.1)), (7, (intA r_10.1)), (23, (.b 0 0)), (24, (intA r_12.1))] rfl ?_
    refine TO_st (σ' := [.box [(sl (tI .u8) r_12.2.b), (intA r_12.2.i), (intA r_12.2.h)]]) rfl ?_
    refine pv tb 1 rfl ?_
    refine TO_nil ?_
    refine sr ?_
    obtain ⟨_u, h_14, H⟩ := bind_inv H
    refine pv tb 11 rfl ?_
    refine Tp rfl rfl (pur_rem rfl rfl rfl (gD_inv h_14)) rfl ?_
    refine pv tb 1 rfl ?_
    refine TO_nil ?_
    refine te [(4, (intA ((w64 ((w64 ((w64 ((w64 (r_6.1 * 16777216)) + (w64 (r_8.1 * 65536)))) + (w64 (r_10.1 * 256)))) + r_12.1)).tmod n1)))] rfl ?_
    refine T_ret ?_
    obtain rfl := some_inj H
    exact end_pickX (.tmp .nil) rfl [0] (by decide) (lb rfl) rfl (lb rfl) rfl rfl rfl rfl rfl rfl

set_option maxHeartbeats 1000000 in
theorem m_spec_l1PickInt_x (c0 : l1Cur) (list1 : (List Int)) (r : (Int × l1Cur)) (H : m_spec_l1PickInt c0 list1 = some r) : FnS prg 60 [(.b 0 0), (sl tInt list1)] [.box [(sl (tI .u8) c0.b), (intA c0.i), (intA c0.h)]] (intA r.1) [.box [(sl (tI .u8) r.2.b), (intA r.2.i), (intA r.2.h)]] := by
  unfold m_spec_l1PickInt at H
  refine fnS_of_T Try.func60 rfl rfl (Nat.le_of_ble_eq_true rfl) ?_
  refine te [(0, (.b 0 0)), (1, (sl tInt list1))] rfl ?_
  refine T_st (σ' := [.box [(sl (tI .u8) c0.b), (intA c0.i), (intA c0.h)]]) rfl ?_
  refine sr ?_
  refine pv tb 1 rfl ?_
  refine TO_nil ?_
  refine sr ?_
  refine pv tb 3 rfl ?_
  refine Tp rfl rfl (pur_lenT (T := tInt) sl53 rfl rfl) rfl ?_
  obtain ⟨r_1, h_2, H⟩ := bind_inv H
  refine TO_cons rfl (TOp_callS [0] (call_static ent95 rfl) (by decide) rfl rfl rfl rfl rfl rfl (m_spec_l1Below_x _ _ _ h_2) rfl rfl ?_)
  refine toe [(0, (.b 0 0)), (1, (sl tInt list1)), (5, (sl tInt list1)), (6, (.b 0 0)), (7, (sl tInt list1)), (8, (intA (list1.length : Int))), (9, (intA r_1.1))] rfl ?_
  refine TO_st (σ' := [.box [(sl (tI .u8) r_1.2.b), (intA r_1.2.i), (intA r_1.2.h)]]) rfl ?_
  obtain ⟨v_3, h_4, H⟩ := bind_inv H
  obtain ⟨n_5, hz_6, hv_7⟩ := getI_inv h_4
  refine Tp rfl rfl (pur_ixT (T := tInt) sl53 rfl rfl hz_6 hv_7 rfl) rfl ?_
  refine Tp rfl rfl (pur_ldT (T := tInt) (i := n_5) (off := 0) rfl one3 rfl rfl hv_7 rfl) rfl ?_
  refine pv tb 1 rfl ?_
  refine TO_nil ?_
  refine T_ret ?_
  obtain rfl := some_inj H
  exact end_pickX (.tmp .nil) rfl [0] (by decide) (lb rfl) rfl (lb rfl) rfl rfl rfl rfl rfl rfl

set_option maxHeartbeats 1000000 in
theorem m_spec_l2Sigs_x (c0 : l1Cur) (r : ((List Relation) × l1Cur)) (H : m_spec_l2Sigs c0 = some r) : FnS prg 127 [(.b 0 0)] [.box [(sl (tI .u8) c0.b), (intA c0.i), (intA c0.h)]] (.m [1] 0 r.1.length tRelation.k) [.box [(sl (tI .u8) r.2.b), (intA r.2.i), (intA r.2.h)], .row (flat tRelation.enc r.1)] := by
  unfold m_spec_l2Sigs at H
  refine fnS_of_T Try.func127 rfl rfl (Nat.le_of_ble_eq_true rfl) ?_
  refine te [(0, (.b 0 0))] rfl ?_
  refine T_st (σ' := [.box [(sl (tI .u8) c0.b), (intA c0.i), (intA c0.h)]]) rfl ?_
  refine sr ?_
  refine pv tb 1 rfl ?_
  refine TO_nil ?_
  refine sr ?_
  refine Tp rfl rfl (pur_build bld89 rfl rfl) rfl ?_
  refine Tp rfl rfl (pur_build bld89 rfl rfl) rfl ?_
  refine pv tb 1 rfl ?_
  refine TO_cons rfl (TOp_lit (nn := 4) (k := 1) sl53 zero3 rfl rfl rfl rfl (by decide) ?_)
  refine TO_st (σ' := [.box [(sl (tI .u8) c0.b), (intA c0.i), (intA c0.h)], .row (flat tInt.enc ([1, 1, 2, 0] : (List Int)))]) rfl ?_
  refine TO_frz1 1 (E' := [(0, (.b 0 0)), (3, (.g [(strA (⟨#[114]⟩ : ByteArray)), (intA 2), (intA 1)])), (4, (.g [(strA (⟨#[115]⟩ : ByteArray)), (intA 2), (intA 1)])), (5, (.b 0 0)), (6, (sl tInt ([1, 1, 2, 0] : (List Int))))]) rfl rfl (lb rfl) ⟨(.keep rfl), (.keep rfl), (.keep rfl), (.keep rfl), fz1E, trivial⟩ ?_
  refine TO_st (σ' := [.box [(sl (tI .u8) c0.b), (intA c0.i), (intA c0.h)], .dead]) rfl ?_
  obtain ⟨r_1, h_2, H⟩ := bind_inv H
  refine TO_cons rfl (TOp_callS [0] (call_static ent60 rfl) (by decide) rfl rfl rfl rfl rfl rfl (m_spec_l1PickInt_x _ _ _ h_2) rfl rfl ?_)
  refine toe [(0, (.b 0 0)), (3, (.g [(strA (⟨#[114]⟩ : ByteArray)), (intA 2), (intA 1)])), (4, (.g [(strA (⟨#[115]⟩ : ByteArray)), (intA 2), (intA 1)])), (5, (.b 0 0)), (6, (sl tInt ([1, 1, 2, 0] : (List Int)))), (7, (intA r_1.1))] rfl ?_
  refine TO_st (σ' := [.box [(sl (tI .u8) r_1.2.b), (intA r_1.2.i), (intA r_1.2.h)], .dead]) rfl ?_
  refine Tp rfl rfl (pur_build bld89 rfl rfl) rfl ?_
  obtain ⟨r_3, h_4, H⟩ := bind_inv H
  refine pv tb 1 rfl ?_
  refine TO_cons rfl (TOp_callS [0] (call_static ent95 rfl) (by decide) rfl rfl rfl rfl rfl rfl (m_spec_l1Below_x _ _ _ h_4) rfl rfl ?_)
  refine toe [(0, (.b 0 0)), (3, (.g [(strA (⟨#[114]⟩ : ByteArray)), (intA 2), (intA 1)])), (4, (.g [(strA (⟨#[115]⟩ : ByteArray)), (intA 2), (intA 1)])), (5, (.b 0 0)), (6, (sl tInt ([1, 1, 2, 0] : (List Int)))), (7, (intA r_1.1)), (8, (.g [(strA (⟨#[116]⟩ : ByteArray)), (intA 2), (intA r_1.1)])), (9, (.b 0 0)), (10, (intA r_3.1))] rfl ?_
  refine TO_st (σ' := [.box [(sl (tI .u8) r_3.2.b), (intA r_3.2.i), (intA r_3.2.h)], .dead]) rfl ?_
  refine pv tb 1 rfl ?_
  refine Tp rfl rfl (pur_build bld89 rfl rfl) rfl ?_
  refine TO_cons rfl (TOp_lit (nn := 4) (k := 3) sl38 zero89 rfl rfl rfl rfl (by decide) ?_)
  refine TO_st (σ' := [.box [(sl (tI .u8) r_3.2.b), (intA r_3.2.i), (intA r_3.2.h)], .dead, .row (flat tRelation.enc ([({ name := (⟨#[114]⟩ : ByteArray), arity := 2, keyLength := 1 } : Relation), ({ name := (⟨#[115]⟩ : ByteArray), arity := 2, keyLength := 1 } : Relation), ({ name := (⟨#[116]⟩ : ByteArray), arity := 2, keyLength := r_1.1 } : Relation), ({ name := (⟨#[117]⟩ : ByteArray), arity := 3, keyLength := (w64 (1 + r_3.1)) } : Relation)] : (List Relation)))]) rfl ?_
  refine pv tb 1 rfl ?_
  refine TO_nil ?_
  refine T_ret ?_
  obtain rfl := some_inj H
  exact end_pickX (.tmp .nil) rfl [0, 2] (by decide) (lb rfl) rfl (lb rfl) rfl rfl rfl rfl rfl rfl

set_option maxHeartbeats 1000000 in
theorem m_spec_l3Fact_x (u : Nat) (c0 : l1Cur) (l1 : (List Relation)) (val2 : Int) (r : (Fact × l1Cur)) (H : m_spec_l3Fact u c0 l1 val2 = some r) : FnS prg 128 [(.b 0 0), (sl tRelation l1), (intA val2)] [.box [(sl (tI .u8) c0.b), (intA c0.i), (intA c0.h)]] (.g [(intA r.1.relation), (.m [1] 0 r.1.values.length tInt.k)]) [.box [(sl (tI .u8) r.2.b), (intA r.2.i), (intA r.2.h)], .row (flat tInt.enc r.1.values)] := by
  unfold m_spec_l3Fact at H
  refine fnS_of_T Try.func128 rfl rfl (Nat.le_of_ble_eq_true rfl) ?_
  refine te [(0, (.b 0 0)), (1, (sl tRelation l1)), (2, (intA val2))] rfl ?_
  refine T_st (σ' := [.box [(sl (tI .u8) c0.b), (intA c0.i), (intA c0.h)]]) rfl ?_
  refine sr ?_
  refine TO_cons rfl (TOp_alloc zero55 rfl rfl ?_)
  refine TO_nil ?_
  refine sr ?_
  refine pv tb 2 rfl ?_
  refine Tp rfl rfl (pur_lenT (T := tRelation) sl38 rfl rfl) rfl ?_
  obtain ⟨r_1, h_2, H⟩ := bind_inv H
  refine TO_cons rfl (TOp_callS [0] (call_static ent95 rfl) (by decide) rfl rfl rfl rfl rfl rfl (m_spec_l1Below_x _ _ _ h_2) rfl rfl ?_)
  refine toe [(0, (.b 0 0)), (1, (sl tRelation l1)), (2, (intA val2)), (6, (.b 1 0)), (8, (.b 0 0)), (9, (sl tRelation l1)), (10, (intA (l1.length : Int))), (11, (intA r_1.1))] rfl ?_
  refine TO_st (σ' := [.box [(sl (tI .u8) r_1.2.b), (intA r_1.2.i), (intA r_1.2.h)], .box [(intA 0), .n]]) rfl ?_
  refine Tp rfl rfl (pur_build bld55 rfl rfl) rfl ?_
  refine TO_cons rfl (TOp_alloc zero55 rfl rfl ?_)
  refine TO_cons rfl (TOp_storeB sz55 rfl rfl rfl rfl rfl rfl rfl (by decide) (lb rfl) rfl ?_)
  refine TO_st (σ' := [.box [(sl (tI .u8) r_1.2.b), (intA r_1.2.i), (intA r_1.2.h)], .box [(intA 0), .n], .box [(intA r_1.1), .n]]) rfl ?_
  refine TO_nil ?_
  refine T_row0 ?_
  refine T_boxle (xs := [(intA r_1.1), .n]) (ys := [(intA r_1.1), (.m [3] 0 ([] : (List Int)).length tInt.k)]) 2 rfl (leCons (leR rfl) (leCons leM leNil)) ?_
  refine T_st (σ' := [.box [(sl (tI .u8) r_1.2.b), (intA r_1.2.i), (intA r_1.2.h)], .box [(intA 0), .n], .box [(intA r_1.1), (.m [3] 0 ([] : (List Int)).length tInt.k)], .row (flat tInt.enc ([] : (List Int)))]) rfl ?_
  obtain ⟨O3_, L3_, N3_⟩ := bind_inv H
  clear H
  obtain ⟨B3_, hb3, L3_⟩ := gen_whileF L3_
  refine T_cutX (fun (x : l1Cur × (List Int)) => O3_ = .inl x) (fun (⟨box0, box2_values⟩ : l1Cur × (List Int)) => [(6, (.b 1 0)), (7, (.b 2 0))]) (fun (⟨box0, box2_values⟩ : l1Cur × (List Int)) => [.box [(sl (tI .u8) box0.b), (intA box0.i), (intA box0.h)], .box [(intA 0), .n], .box [(intA r_1.1), (.m [3] 0 box2_values.length tInt.k)], .row (flat tInt.enc box2_values)]) ?_ ?_
  ·skip
   refine T_block ?_
   refine T_loopX (fun k => fun (⟨box0, box2_values⟩ : l1Cur × (List Int)) => whileF B3_ k (box0, box2_values) = some O3_) (fun (⟨box0, box2_values⟩ : l1Cur × (List Int)) => [(0, (.b 0 0)), (1, (sl tRelation l1)), (2, (intA val2)), (6, (.b 1 0)), (7, (.b 2 0))]) (fun (⟨box0, box2_values⟩ : l1Cur × (List Int)) => [.box [(sl (tI .u8) box0.b), (intA box0.i), (intA box0.h)], .box [(intA 0), .n], .box [(intA r_1.1), (.m [3] 0 box2_values.length tInt.k)], .row (flat tInt.enc box2_values)]) u (r_1.2, ([] : (List Int))) (w0 4) L3_ ?_
   rintro _ ⟨box0, box2_values⟩ L3_
   obtain ⟨k3, rfl, C3_, H, K3_⟩ := while_step L3_
   rw [hb3] at H
   refine T_seq ?_
   refine T_seq ?_
   refine T_regionD mixed (by kernel_rfl) ?_
   refine pq tb 2 rfl ?_
   refine TQ_pure rfl (pur_len_m sl53 rfl rfl) rfl ?_
   obtain ⟨v_4, h_5, H⟩ := bind_inv H
   obtain ⟨n_6, hz_7, hv_8⟩ := getI_inv h_5
   refine pq tb 3 rfl ?_
   refine TQ_pure rfl (pur_ixT (T := tRelation) sl38 rfl rfl hz_7 hv_8 rfl) rfl ?_
   refine pq tb 1 rfl ?_
   refine TQ_pure rfl (pur_ldT (T := tRelation) (i := n_6) (off := 1) rfl one3 rfl rfl hv_8 rfl) rfl ?_
   refine pq tb 1 rfl ?_
   refine TQ_nil ?_
   refine T_cond (t := decide ((box2_values.length : Int) < v_4.arity)) rfl (fun c_9 => ?_) (fun c_9 => ?_)
   ·replace H := cond_t c_9 H
    refine T_skip ?_
    refine T_block ?_
    obtain ⟨r_10, h_11, H⟩ := bind_inv H
    obtain ⟨us_12, h_13, H⟩ := bind_inv H
    refine T_pad ?_
    refine T_regionP 0 mixed rfl ?_
    refine TA_have 3 #[true, true, true, true, true, true, false, false, false] [(0, (.b 0 0)), (1, (sl tRelation l1)), (2, (intA val2)), (6, (.b 1 0)), (7, (.b 2 0)), (24, (.m [3] 0 box2_values.length tInt.k)), (28, (.m [4] 0 ([r_10.1] : (List Int)).length tInt.k))] [.box [(sl (tI .u8) r_10.2.b), (intA r_10.2.i), (intA r_10.2.h)], .box [(intA 0), .n], .box [(intA r_1.1), (.m [3] 0 box2_values.length tInt.k)], .row (flat tInt.enc box2_values), .row (flat tInt.enc ([r_10.1] : (List Int)))] ?_ (fun hj0_3 => ?_)
    ·skip
     refine t1 6 (by kernel_rfl) rfl rfl (TOp_appY (T := tInt) (f := tInt.enc) (xs := box2_values) (ys := ([r_10.1] : (List Int))) tInt.len sl53 zero3 rfl bytes3 (by decide) rfl rfl rfl rfl (src_mT (f := tInt.enc) tInt.len rfl rfl (flat_cell tInt _)) (flat_cell tInt _) h_13 ?_)
     refine tmv 3 5 (by decide) (lb rfl) rfl rfl (lb rfl) ?_
     refine TA_st (σ' := [.box [(sl (tI .u8) r_10.2.b), (intA r_10.2.i), (intA r_10.2.h)], .box [(intA 0), .n], .box [(intA r_1.1), .j], .row (flat tInt.enc us_12), .row (flat tInt.enc ([r_10.1] : (List Int))), .dead]) rfl ?_
     refine pa tb [7] 1 rfl (by kernel_rfl) rfl ?_
     refine t1 8 (by kernel_rfl) rfl rfl (TOp_storeB sz53 rfl rfl rfl rfl rfl rfl rfl (by decide) (lb rfl) rfl ?_)
     refine TA_st (σ' := [.box [(sl (tI .u8) r_10.2.b), (intA r_10.2.i), (intA r_10.2.h)], .box [(intA 0), .n], .box [(intA r_1.1), (.m [3] 0 us_12.length tInt.k)], .row (flat tInt.enc us_12), .row (flat tInt.enc ([r_10.1] : (List Int))), .dead]) rfl ?_
     refine TA_nil (by kernel_rfl) ?_
     obtain rfl := some_inj H
     exact again k3 (r_10.2, us_12) (Nat.lt_succ_self _) (w0 4) K3_
    refine TA_have 4 #[true, true, true, true, true, false, false, false, false] [(0, (.b 0 0)), (1, (sl tRelation l1)), (2, (intA val2)), (6, (.b 1 0)), (7, (.b 2 0)), (24, (.m [3] 0 box2_values.length tInt.k)), (27, (intA r_10.1))] [.box [(sl (tI .u8) r_10.2.b), (intA r_10.2.i), (intA r_10.2.h)], .box [(intA 0), .n], .box [(intA r_1.1), (.m [3] 0 box2_values.length tInt.k)], .row (flat tInt.enc box2_values), .dead] ?_ (fun hj1_3 => ?_)
    ·skip
     refine t1 5 (by kernel_rfl) rfl rfl (TOp_lit (nn := 1) (k := 1) sl53 zero3 rfl rfl rfl rfl (by decide) ?_)
     refine tmw 4 5 (by decide) (lb rfl) rfl rfl (lb rfl) rfl ?_
     exact tj hj0_3 rfl (w0 5)
    refine pa tb [0, 2, 3] 6 rfl (by kernel_rfl) rfl ?_
    refine TA_all [1, 4] (by kernel_rfl) (by decide) ⟨?_, ?_, trivial⟩
    ·skip
     refine ⟨_, rfl, rfl, (TOp_pure (pur_ld_b one53 rfl rfl rfl rfl) rfl ?_)⟩
     refine t1 4 (by kernel_rfl) rfl rfl (TOp_callS [0] (call_static ent95 rfl) (by decide) rfl rfl rfl rfl rfl rfl (m_spec_l1Below_x _ _ _ h_11) rfl rfl ?_)
     refine tae [(0, (.b 0 0)), (1, (sl tRelation l1)), (2, (intA val2)), (6, (.b 1 0)), (7, (.b 2 0)), (23, (.b 2 1)), (24, (.m [3] 0 box2_values.length tInt.k)), (25, (.b 0 0)), (26, (intA val2)), (27, (intA r_10.1))] rfl ?_
     refine TA_st (σ' := [.box [(sl (tI .u8) r_10.2.b), (intA r_10.2.i), (intA r_10.2.h)], .box [(intA 0), .n], .box [(intA r_1.1), (.m [3] 0 box2_values.length tInt.k)], .row (flat tInt.enc box2_values), .dead]) rfl ?_
     exact tj hj1_3 rfl (w0 5)
    ·skip
     refine ⟨_, rfl, rfl, (TOp_callS [0] (call_static ent95 rfl) (by decide) rfl rfl rfl rfl rfl rfl (m_spec_l1Below_x _ _ _ h_11) rfl rfl ?_)⟩
     refine tae [(0, (.b 0 0)), (1, (sl tRelation l1)), (2, (intA val2)), (6, (.b 1 0)), (7, (.b 2 0)), (23, (.b 2 1)), (25, (.b 0 0)), (26, (intA val2)), (27, (intA r_10.1))] rfl ?_
     refine TA_st (σ' := [.box [(sl (tI .u8) r_10.2.b), (intA r_10.2.i), (intA r_10.2.h)], .box [(intA 0), .n], .box [(intA r_1.1), (.m [3] 0 box2_values.length tInt.k)], .row (flat tInt.enc box2_values), .dead]) rfl ?_
     refine TA_all [1, 5] (by kernel_rfl) (by decide) ⟨?_, ?_, trivial⟩
     ·skip
      refine ⟨_, rfl, rfl, (TOp_pure (pur_ld_b one53 rfl rfl rfl rfl) rfl ?_)⟩
      exact tj hj1_3 rfl (w0 5)
     ·skip
      refine ⟨_, rfl, rfl, (TOp_lit (nn := 1) (k := 1) sl53 zero3 rfl rfl rfl rfl (by decide) ?_)⟩
      refine tmw 4 5 (by decide) (lb rfl) rfl rfl (lb rfl) rfl ?_
      refine tae [(0, (.b 0 0)), (1, (sl tRelation l1)), (2, (intA val2)), (6, (.b 1 0)), (7, (.b 2 0)), (23, (.b 2 1)), (28, (.m [4] 0 ([r_10.1] : (List Int)).length tInt.k))] rfl ?_
      refine TA_st (σ' := [.box [(sl (tI .u8) r_10.2.b), (intA r_10.2.i), (intA r_10.2.h)], .box [(intA 0), .n], .box [(intA r_1.1), (.m [3] 0 box2_values.length tInt.k)], .row (flat tInt.enc box2_values), .row (flat tInt.enc ([r_10.1] : (List Int))), .dead]) rfl ?_
      refine t1 1 (by kernel_rfl) rfl rfl (TOp_pure (pur_ld_b one53 rfl rfl rfl rfl) rfl ?_)
      exact tj hj0_3 rfl (w0 5)
   ·replace H := cond_f c_9 H
    refine T_exit ?_
    refine then_exit ?_
    refine then_exit ?_
    refine block_exit ?_
    obtain rfl := some_inj H
    obtain rfl := some_inj K3_
    exact joined (box0, box2_values) (w0 4) rfl
  ·rintro ⟨box0, box2_values⟩ rfl
   replace H := onS_l N3_
   refine sr ?_
   refine pv tb 1 rfl ?_
   refine TO_cons rfl (TOp_storeB sz55 rfl rfl rfl rfl rfl rfl rfl (by decide) (lb rfl) rfl ?_)
   refine TO_st (σ' := [.box [(sl (tI .u8) box0.b), (intA box0.i), (intA box0.h)], .box [(intA r_1.1), (.m [3] 0 box2_values.length tInt.k)], .box [(intA r_1.1), (.m [3] 0 box2_values.length tInt.k)], .row (flat tInt.enc box2_values)]) rfl ?_
   refine TO_nil ?_
   refine T_ret ?_
   obtain rfl := some_inj H
   exact end_pickX (.cellK rfl agg55 rfl (lb rfl) .nil) rfl [0, 3] (by decide) (lb rfl) rfl (lb rfl) rfl rfl rfl rfl rfl rfl

set_option maxHeartbeats 1000000 in
theorem m_spec_l4Db_x (u : Nat) (c0 : l1Cur) (r : (Database × l1Cur)) (H : m_spec_l4Db u c0 = some r) : FnS prg 94 [(.b 0 0)] [.box [(sl (tI .u8) c0.b), (intA c0.i), (intA c0.h)]] (.g [(.m [1] 0 r.1.relations.length tRelation.k), (.m [2] 0 r.1.facts.length tFact.k)]) [.box [(sl (tI .u8) r.2.b), (intA r.2.i), (intA r.2.h)], .row (flat tRelation.enc r.1.relations), .row (flat tFact.enc r.1.facts)] := by
  unfold m_spec_l4Db at H
  refine fnS_of_T Try.func94 rfl rfl (Nat.le_of_ble_eq_true rfl) ?_
  refine te [(0, (.b 0 0))] rfl ?_
  refine T_st (σ' := [.box [(sl (tI .u8) c0.b), (intA c0.i), (intA c0.h)]]) rfl ?_
  refine sr ?_
  refine TO_cons rfl (TOp_alloc zero41 rfl rfl ?_)
  refine TO_nil ?_
  refine sr ?_
  obtain ⟨r_1, h_2, H⟩ := bind_inv H
  refine pv tb 1 rfl ?_
  refine TO_cons rfl (TOp_callS [0] (call_static ent127 rfl) (by decide) rfl rfl rfl rfl rfl rfl (m_spec_l2Sigs_x _ _ h_2) rfl rfl ?_)
  refine toe [(0, (.b 0 0)), (2, (.b 1 0)), (6, (.b 0 0)), (7, (.m [2] 0 r_1.1.length tRelation.k))] rfl ?_
  refine TO_st (σ' := [.box [(sl (tI .u8) r_1.2.b), (intA r_1.2.i), (intA r_1.2.h)], .box [.n, .n], .row (flat tRelation.enc r_1.1)]) rfl ?_
  refine Tp rfl rfl (pur_build bld41 rfl rfl) rfl ?_
  refine TO_cons rfl (TOp_alloc zero41 rfl rfl ?_)
  refine TO_cons rfl (TOp_storeB sz41 rfl rfl rfl rfl rfl rfl rfl (by decide) (lb rfl) rfl ?_)
  refine TO_st (σ' := [.box [(sl (tI .u8) r_1.2.b), (intA r_1.2.i), (intA r_1.2.h)], .box [.n, .n], .row (flat tRelation.enc r_1.1), .box [(.m [2] 0 r_1.1.length tRelation.k), .n]]) rfl ?_
  refine TO_nil ?_
  refine sr ?_
  refine pv tb 1 rfl ?_
  refine TO_cons rfl (TOp_lit (nn := 4) (k := 1) sl53 zero3 rfl rfl rfl rfl (by decide) ?_)
  refine TO_st (σ' := [.box [(sl (tI .u8) r_1.2.b), (intA r_1.2.i), (intA r_1.2.h)], .box [.n, .n], .row (flat tRelation.enc r_1.1), .box [(.m [2] 0 r_1.1.length tRelation.k), .n], .row (flat tInt.enc ([2, 2, 3, 3] : (List Int)))]) rfl ?_
  refine TO_frz1 4 (E' := [(0, (.b 0 0)), (2, (.b 1 0)), (3, (.b 3 0)), (9, (.b 0 0)), (10, (sl tInt ([2, 2, 3, 3] : (List Int))))]) rfl rfl (lb rfl) ⟨(.keep rfl), (.keep rfl), (.keep rfl), (.keep rfl), fz1E, trivial⟩ ?_
  refine TO_st (σ' := [.box [(sl (tI .u8) r_1.2.b), (intA r_1.2.i), (intA r_1.2.h)], .box [.n, .n], .row (flat tRelation.enc r_1.1), .box [(.m [2] 0 r_1.1.length tRelation.k), .n], .dead]) rfl ?_
  obtain ⟨r_3, h_4, H⟩ := bind_inv H
  refine TO_cons rfl (TOp_callS [0] (call_static ent60 rfl) (by decide) rfl rfl rfl rfl rfl rfl (m_spec_l1PickInt_x _ _ _ h_4) rfl rfl ?_)
  refine toe [(0, (.b 0 0)), (2, (.b 1 0)), (3, (.b 3 0)), (9, (.b 0 0)), (10, (sl tInt ([2, 2, 3, 3] : (List Int)))), (11, (intA r_3.1))] rfl ?_
  refine TO_st (σ' := [.box [(sl (tI .u8) r_3.2.b), (intA r_3.2.i), (intA r_3.2.h)], .box [.n, .n], .row (flat tRelation.enc r_1.1), .box [(.m [2] 0 r_1.1.length tRelation.k), .n], .dead]) rfl ?_
  refine pv tb 1 rfl ?_
  refine TO_nil ?_
  refine T_seq ?_
  refine sr ?_
  obtain ⟨r_5, h_6, H⟩ := bind_inv H
  refine pv tb 1 rfl ?_
  refine TO_cons rfl (TOp_callS [0] (call_static ent95 rfl) (by decide) rfl rfl rfl rfl rfl rfl (m_spec_l1Below_x _ _ _ h_6) rfl rfl ?_)
  refine toe [(0, (.b 0 0)), (2, (.b 1 0)), (3, (.b 3 0)), (4, (intA r_3.1)), (12, (.b 0 0)), (13, (intA r_5.1))] rfl ?_
  refine TO_st (σ' := [.box [(sl (tI .u8) r_5.2.b), (intA r_5.2.i), (intA r_5.2.h)], .box [.n, .n], .row (flat tRelation.enc r_1.1), .box [(.m [2] 0 r_1.1.length tRelation.k), .n], .dead]) rfl ?_
  refine pv tb 2 rfl ?_
  refine TO_nil ?_
  refine T_row0 ?_
  refine T_boxle (xs := [(.m [2] 0 r_1.1.length tRelation.k), .n]) (ys := [(.m [2] 0 r_1.1.length tRelation.k), (.m [5] 0 ([] : (List Fact)).length tFact.k)]) 3 rfl (leCons (leR rfl) (leCons leM leNil)) ?_
  refine T_st (σ' := [.box [(sl (tI .u8) r_5.2.b), (intA r_5.2.i), (intA r_5.2.h)], .box [.n, .n], .row (flat tRelation.enc r_1.1), .box [(.m [2] 0 r_1.1.length tRelation.k), (.m [5] 0 ([] : (List Fact)).length tFact.k)], .dead, .row (flat tFact.enc ([] : (List Fact)))]) rfl ?_
  obtain ⟨O7_, L7_, N7_⟩ := bind_inv H
  clear H
  obtain ⟨B7_, hb7, L7_⟩ := gen_whileF L7_
  refine T_block ?_
  refine T_loopX (fun k => fun (⟨n5, box0, box3_relations, box3_facts⟩ : Int × l1Cur × (List Relation) × (List Fact)) => whileF B7_ k (n5, box0, box3_relations, box3_facts) = some O7_) (fun (⟨n5, box0, box3_relations, box3_facts⟩ : Int × l1Cur × (List Relation) × (List Fact)) => [(0, (.b 0 0)), (2, (.b 1 0)), (3, (.b 3 0)), (4, (intA r_3.1)), (5, (intA n5))]) (fun (⟨n5, box0, box3_relations, box3_facts⟩ : Int × l1Cur × (List Relation) × (List Fact)) => [.box [(sl (tI .u8) box0.b), (intA box0.i), (intA box0.h)], .box [.n, .n], .row (flat tRelation.enc box3_relations), .box [(.m [2] 0 box3_relations.length tRelation.k), (.m [5] 0 box3_facts.length tFact.k)], .dead, .row (flat tFact.enc box3_facts)]) u ((w64 (2 + r_5.1)), r_5.2, r_1.1, ([] : (List Fact))) (w0 6) L7_ ?_
  rintro _ ⟨n5, box0, box3_relations, box3_facts⟩ L7_
  obtain ⟨k7, rfl, C7_, H, K7_⟩ := while_step L7_
  rw [hb7] at H
  refine T_seq ?_
  refine sr ?_
  refine pv tb 2 rfl ?_
  refine TO_nil ?_
  refine T_cond (t := decide (0 < n5)) rfl (fun c_8 => ?_) (fun c_8 => ?_)
  ·replace H := cond_t c_8 H
   refine T_skip ?_
   refine T_seq ?_
   refine T_block ?_
   obtain ⟨r_9, h_10, H⟩ := bind_inv H
   obtain ⟨r_11, h_12, H⟩ := bind_inv H
   refine T_pad ?_
   refine T_pad ?_
   refine T_pad ?_
   refine T_pad ?_
   refine T_pad ?_
   refine T_regionP 0 mixed rfl ?_
   refine TA_have 5 #[true, true, true, true, true, true, false, false, false, false, false] [(0, (.b 0 0)), (2, (.b 1 0)), (3, (.b 3 0)), (4, (intA r_3.1)), (5, (intA n5)), (20, (.g [(sl tRelation box3_relations), (sl tFact box3_facts)])), (25, (.g [(intA r_9.1.relation), (sl tInt r_9.1.values)]))] [.box [(sl (tI .u8) r_9.2.b), (intA r_9.2.i), (intA r_9.2.h)], .box [.n, .n], .dead, .box [(sl tRelation box3_relations), (sl tFact box3_facts)], .dead, .dead, .dead, .dead, .dead, .dead, .dead] ?_ (fun hj0_6 => ?_)
   ·skip
    refine t1 6 (by kernel_rfl) rfl rfl (TOp_callO (call_static ent43 rfl) rfl (m_spec_InsertFact_own u _ _ _ h_12) rfl rfl rfl ?_)
    refine tae [(0, (.b 0 0)), (2, (.b 1 0)), (3, (.b 3 0)), (4, (intA r_3.1)), (5, (intA n5)), (20, (.g [(sl tRelation box3_relations), (sl tFact box3_facts)])), (25, (.g [(intA r_9.1.relation), (sl tInt r_9.1.values)])), (26, (.t [(.g [(.m [11] 0 r_11.1.relations.length tRelation.k), (.m [12] 0 r_11.1.facts.length tFact.k)]), (boolA r_11.2)]))] rfl ?_
    refine TA_st (σ' := [.box [(sl (tI .u8) r_9.2.b), (intA r_9.2.i), (intA r_9.2.h)], .box [.n, .n], .dead, .box [(sl tRelation box3_relations), (sl tFact box3_facts)], .dead, .dead, .dead, .dead, .dead, .dead, .dead, .row (flat tRelation.enc r_11.1.relations), .row (flat tFact.enc r_11.1.facts)]) rfl ?_
    refine tmw 9 11 (by decide) (lb rfl) rfl rfl (lb rfl) rfl ?_
    refine tmw 10 12 (by decide) (lb rfl) rfl rfl (lb rfl) rfl ?_
    refine pa tb [7, 8, 9] 1 rfl (by kernel_rfl) rfl ?_
    refine t1 10 (by kernel_rfl) rfl rfl (TOp_storeB sz41 rfl rfl rfl rfl rfl rfl rfl (by decide) (lb rfl) rfl ?_)
    refine TA_st (σ' := [.box [(sl (tI .u8) r_9.2.b), (intA r_9.2.i), (intA r_9.2.h)], .box [.n, .n], .dead, .box [(.m [9] 0 r_11.1.relations.length tRelation.k), (.m [10] 0 r_11.1.facts.length tFact.k)], .dead, .dead, .dead, .dead, .dead, .row (flat tRelation.enc r_11.1.relations), .row (flat tFact.enc r_11.1.facts), .dead, .dead]) rfl ?_
    refine TA_ghost (E' := [(0, (.b 0 0)), (2, (.b 1 0)), (3, (.b 3 0)), (4, (intA r_3.1)), (5, (intA n5))]) (σ' := [.box [(sl (tI .u8) r_9.2.b), (intA r_9.2.i), (intA r_9.2.h)], .box [.n, .n], .dead, .box [(.m [6] 0 r_11.1.relations.length tRelation.k), (.m [10] 0 r_11.1.facts.length tFact.k)], .dead, .dead, .row (flat tRelation.enc r_11.1.relations), .dead, .dead, .dead, .row (flat tFact.enc r_11.1.facts), .dead, .dead]) (Ghost.move 6 9 (by decide) (lb rfl) rfl rfl (lb rfl) (Ghost.weak (WeakL.to 13 (lb rfl) rfl rfl rfl rfl ⟨leR rfl, leR rfl, leR rfl, leR rfl, leR rfl, trivial⟩))) ?_
    refine TA_ghost (E' := [(0, (.b 0 0)), (2, (.b 1 0)), (3, (.b 3 0)), (4, (intA r_3.1)), (5, (intA n5))]) (σ' := [.box [(sl (tI .u8) r_9.2.b), (intA r_9.2.i), (intA r_9.2.h)], .box [.n, .n], .dead, .box [(.m [6] 0 r_11.1.relations.length tRelation.k), (.m [7] 0 r_11.1.facts.length tFact.k)], .dead, .dead, .row (flat tRelation.enc r_11.1.relations), .row (flat tFact.enc r_11.1.facts), .dead, .dead, .dead, .dead, .dead]) (Ghost.move 7 10 (by decide) (lb rfl) rfl rfl (lb rfl) (Ghost.weak (WeakL.to 13 (lb rfl) rfl rfl rfl rfl ⟨leR rfl, leR rfl, leR rfl, leR rfl, leR rfl, trivial⟩))) ?_
    refine TA_nil (by kernel_rfl) ?_
    refine T_move' 2 6 (by decide) (lb rfl) rfl rfl (lb rfl) ?_
    refine te [(0, (.b 0 0)), (2, (.b 1 0)), (3, (.b 3 0)), (4, (intA r_3.1)), (5, (intA n5))] rfl ?_
    refine T_st (σ' := [.box [(sl (tI .u8) r_9.2.b), (intA r_9.2.i), (intA r_9.2.h)], .box [.n, .n], .row (flat tRelation.enc r_11.1.relations), .box [(.m [2] 0 r_11.1.relations.length tRelation.k), (.m [7] 0 r_11.1.facts.length tFact.k)], .dead, .dead, .dead, .row (flat tFact.enc r_11.1.facts), .dead, .dead, .dead, .dead, .dead]) rfl ?_
    refine T_move' 5 7 (by decide) (lb rfl) rfl rfl (lb rfl) ?_
    refine te [(0, (.b 0 0)), (2, (.b 1 0)), (3, (.b 3 0)), (4, (intA r_3.1)), (5, (intA n5))] rfl ?_
    refine T_st (σ' := [.box [(sl (tI .u8) r_9.2.b), (intA r_9.2.i), (intA r_9.2.h)], .box [.n, .n], .row (flat tRelation.enc r_11.1.relations), .box [(.m [2] 0 r_11.1.relations.length tRelation.k), (.m [5] 0 r_11.1.facts.length tFact.k)], .dead, .row (flat tFact.enc r_11.1.facts), .dead, .dead, .dead, .dead, .dead, .dead, .dead]) rfl ?_
    refine T_region ?_
    refine pv tb 3 rfl ?_
    refine TO_nil ?_
    obtain rfl := some_inj H
    exact again k7 ((w64 (n5 - 1)), r_9.2, r_11.1.relations, r_11.1.facts) (Nat.lt_succ_self _) (w0 6) K7_
   refine TA_have 6 #[true, true, true, true, true, false, false, false, false, false, false] [(0, (.b 0 0)), (2, (.b 1 0)), (3, (.b 3 0)), (4, (intA r_3.1)), (5, (intA n5)), (20, (.g [(sl tRelation box3_relations), (.m [5] 0 box3_facts.length tFact.k)])), (21, (.b 0 0)), (23, (sl tRelation box3_relations)), (24, (intA r_3.1))] [.box [(sl (tI .u8) box0.b), (intA box0.i), (intA box0.h)], .box [.n, .n], .dead, .box [(sl tRelation box3_relations), (.m [5] 0 box3_facts.length tFact.k)], .dead, .row (flat tFact.enc box3_facts), .dead, .dead, .dead, .dead, .dead] ?_ (fun hj1_6 => ?_)
   ·skip
    refine t1 5 (by kernel_rfl) rfl rfl (TOp_callS [0] (call_static ent128 rfl) (by decide) rfl rfl rfl rfl rfl rfl (m_spec_l3Fact_x u _ _ _ _ h_10) rfl rfl ?_)
    refine tae [(0, (.b 0 0)), (2, (.b 1 0)), (3, (.b 3 0)), (4, (intA r_3.1)), (5, (intA n5)), (20, (.g [(sl tRelation box3_relations), (.m [5] 0 box3_facts.length tFact.k)])), (21, (.b 0 0)), (23, (sl tRelation box3_relations)), (24, (intA r_3.1)), (25, (.g [(intA r_9.1.relation), (.m [11] 0 r_9.1.values.length tInt.k)]))] rfl ?_
    refine TA_st (σ' := [.box [(sl (tI .u8) r_9.2.b), (intA r_9.2.i), (intA r_9.2.h)], .box [.n, .n], .dead, .box [(sl tRelation box3_relations), (.m [5] 0 box3_facts.length tFact.k)], .dead, .row (flat tFact.enc box3_facts), .dead, .dead, .dead, .dead, .dead, .row (flat tInt.enc r_9.1.values)]) rfl ?_
    refine tmw 8 11 (by decide) (lb rfl) rfl rfl (lb rfl) rfl ?_
    refine TA_ghost (E' := [(0, (.b 0 0)), (2, (.b 1 0)), (3, (.b 3 0)), (4, (intA r_3.1)), (5, (intA n5)), (20, (.g [(sl tRelation box3_relations), (.m [5] 0 box3_facts.length tFact.k)])), (21, (.b 0 0)), (23, (sl tRelation box3_relations)), (24, (intA r_3.1)), (25, (.g [(intA r_9.1.relation), (.m [8] 0 r_9.1.values.length tInt.k)]))]) (σ' := [.box [(sl (tI .u8) r_9.2.b), (intA r_9.2.i), (intA r_9.2.h)], .box [.n, .n], .dead, .box [(sl tRelation box3_relations), (.m [5] 0 box3_facts.length tFact.k)], .dead, .row (flat tFact.enc box3_facts), .dead, .dead, .row (flat tInt.enc r_9.1.values), .dead, .dead, .dead]) (Ghost.weak (WeakL.to 12 (lb rfl) rfl rfl rfl rfl ⟨leR rfl, leR rfl, leR rfl, leR rfl, leR rfl, leR rfl, leR rfl, leR rfl, leR rfl, leR rfl, trivial⟩)) ?_
    refine TA_frzB 5 (E' := [(0, (.b 0 0)), (2, (.b 1 0)), (3, (.b 3 0)), (4, (intA r_3.1)), (5, (intA n5)), (20, (.g [(sl tRelation box3_relations), (sl tFact box3_facts)])), (21, (.b 0 0)), (23, (sl tRelation box3_relations)), (24, (intA r_3.1)), (25, (.g [(intA r_9.1.relation), (.m [8] 0 r_9.1.values.length tInt.k)]))]) (σ' := [.box [(sl (tI .u8) r_9.2.b), (intA r_9.2.i), (intA r_9.2.h)], .box [.n, .n], .dead, .box [(sl tRelation box3_relations), (sl tFact box3_facts)], .dead, .dead, .dead, .dead, .row (flat tInt.enc r_9.1.values), .dead, .dead, .dead]) rfl (lb rfl) ?_ ?_ ?_
    ·exact ⟨(.keep rfl), (.keep rfl), (.keep rfl), (.keep rfl), (.keep rfl), (fz1G (fzC (.keep rfl) (fzC fz1E fzN))), (.keep rfl), (.keep rfl), (.keep rfl), (.keep rfl), trivial⟩
    ·exact ⟨(fzK rfl), (fzK rfl), trivial, (fzC (.keep rfl) (fzC fz1E fzN)), trivial, trivial, trivial, trivial, rfl, trivial, trivial, trivial, trivial⟩
    refine TA_ghost (E' := [(0, (.b 0 0)), (2, (.b 1 0)), (3, (.b 3 0)), (4, (intA r_3.1)), (5, (intA n5)), (20, (.g [(sl tRelation box3_relations), (sl tFact box3_facts)])), (21, (.b 0 0)), (23, (sl tRelation box3_relations)), (24, (intA r_3.1)), (25, (.g [(intA r_9.1.relation), (.m [8] 0 r_9.1.values.length tInt.k)]))]) (σ' := [.box [(sl (tI .u8) r_9.2.b), (intA r_9.2.i), (intA r_9.2.h)], .box [.n, .n], .dead, .box [(sl tRelation box3_relations), (sl tFact box3_facts)], .dead, .dead, .dead, .dead, .row (flat tInt.enc r_9.1.values), .dead, .dead, .dead]) (Ghost.weak (WeakL.to 12 (lb rfl) rfl rfl rfl rfl ⟨leR rfl, leR rfl, leR rfl, leR rfl, leR rfl, leR rfl, leR rfl, leR rfl, leR rfl, leR rfl, trivial⟩)) ?_
    refine TA_frz1 8 (E' := [(0, (.b 0 0)), (2, (.b 1 0)), (3, (.b 3 0)), (4, (intA r_3.1)), (5, (intA n5)), (20, (.g [(sl tRelation box3_relations), (sl tFact box3_facts)])), (21, (.b 0 0)), (23, (sl tRelation box3_relations)), (24, (intA r_3.1)), (25, (.g [(intA r_9.1.relation), (sl tInt r_9.1.values)]))]) rfl rfl (lb rfl) ?_ ?_
    ·exact ⟨(.keep rfl), (.keep rfl), (.keep rfl), (.keep rfl), (.keep rfl), (.keep rfl), (.keep rfl), (.keep rfl), (.keep rfl), (fz1G (fzC (.keep rfl) (fzC fz1E fzN))), trivial⟩
    refine TA_st (σ' := [.box [(sl (tI .u8) r_9.2.b), (intA r_9.2.i), (intA r_9.2.h)], .box [.n, .n], .dead, .box [(sl tRelation box3_relations), (sl tFact box3_facts)], .dead, .dead, .dead, .dead, .dead, .dead, .dead, .dead]) rfl ?_
    exact tj hj0_6 rfl (w0 11)
   refine pa tb [1, 2, 4] 8 rfl (by kernel_rfl) rfl ?_
   refine TA_all [0, 3] (by kernel_rfl) (by decide) ⟨?_, ?_, trivial⟩
   ·skip
    refine ⟨_, rfl, rfl, (TOp_pure (pur_ldK_b agg41 rfl rfl (lb rfl) rfl) rfl ?_)⟩
    refine t1 3 (by kernel_rfl) rfl rfl (TOp_pure (pur_ld_b one38 rfl rfl rfl rfl) rfl ?_)
    refine TA_ghost (E' := [(0, (.b 0 0)), (2, (.b 1 0)), (3, (.b 3 0)), (4, (intA r_3.1)), (5, (intA n5)), (20, (.g [(.m [2] 0 box3_relations.length tRelation.k), (.m [5] 0 box3_facts.length tFact.k)])), (21, (.b 0 0)), (22, (.b 3 0)), (23, (.m [2] 0 box3_relations.length tRelation.k)), (24, (intA r_3.1))]) (σ' := [.box [(sl (tI .u8) box0.b), (intA box0.i), (intA box0.h)], .box [.n, .n], .row (flat tRelation.enc box3_relations), .box [(.m [2] 0 box3_relations.length tRelation.k), (.m [5] 0 box3_facts.length tFact.k)], .dead, .row (flat tFact.enc box3_facts), .dead, .dead, .dead, .dead, .dead]) (Ghost.weak (WeakL.to 11 (lb rfl) rfl rfl rfl rfl ⟨leR rfl, leR rfl, leR rfl, leR rfl, leR rfl, leR rfl, leR rfl, leR rfl, leR rfl, leR rfl, trivial⟩)) ?_
    refine TA_frzB 2 (E' := [(0, (.b 0 0)), (2, (.b 1 0)), (3, (.b 3 0)), (4, (intA r_3.1)), (5, (intA n5)), (20, (.g [(sl tRelation box3_relations), (.m [5] 0 box3_facts.length tFact.k)])), (21, (.b 0 0)), (22, (.b 3 0)), (23, (sl tRelation box3_relations)), (24, (intA r_3.1))]) (σ' := [.box [(sl (tI .u8) box0.b), (intA box0.i), (intA box0.h)], .box [.n, .n], .dead, .box [(sl tRelation box3_relations), (.m [5] 0 box3_facts.length tFact.k)], .dead, .row (flat tFact.enc box3_facts), .dead, .dead, .dead, .dead, .dead]) rfl (lb rfl) ?_ ?_ ?_
    ·exact ⟨(.keep rfl), (.keep rfl), (.keep rfl), (.keep rfl), (.keep rfl), (fz1G (fzC fz1E (fzC (.keep rfl) fzN))), (.keep rfl), (.keep rfl), fz1E, (.keep rfl), trivial⟩
    ·exact ⟨(fzK rfl), (fzK rfl), trivial, (fzC fz1E (fzC (.keep rfl) fzN)), trivial, rfl, trivial, trivial, trivial, trivial, trivial, trivial⟩
    exact tj hj1_6 rfl (w0 11)
   ·skip
    refine ⟨_, rfl, rfl, (TOp_pure (pur_ld_b one38 rfl rfl rfl rfl) rfl ?_)⟩
    refine TA_ghost (E' := [(0, (.b 0 0)), (2, (.b 1 0)), (3, (.b 3 0)), (4, (intA r_3.1)), (5, (intA n5)), (21, (.b 0 0)), (22, (.b 3 0)), (23, (.m [2] 0 box3_relations.length tRelation.k)), (24, (intA r_3.1))]) (σ' := [.box [(sl (tI .u8) box0.b), (intA box0.i), (intA box0.h)], .box [.n, .n], .row (flat tRelation.enc box3_relations), .box [(.m [2] 0 box3_relations.length tRelation.k), (.m [5] 0 box3_facts.length tFact.k)], .dead, .row (flat tFact.enc box3_facts), .dead, .dead, .dead, .dead, .dead]) (Ghost.weak (WeakL.to 11 (lb rfl) rfl rfl rfl rfl ⟨leR rfl, leR rfl, leR rfl, leR rfl, leR rfl, leR rfl, leR rfl, leR rfl, leR rfl, trivial⟩)) ?_
    refine TA_frzB 2 (E' := [(0, (.b 0 0)), (2, (.b 1 0)), (3, (.b 3 0)), (4, (intA r_3.1)), (5, (intA n5)), (21, (.b 0 0)), (22, (.b 3 0)), (23, (sl tRelation box3_relations)), (24, (intA r_3.1))]) (σ' := [.box [(sl (tI .u8) box0.b), (intA box0.i), (intA box0.h)], .box [.n, .n], .dead, .box [(sl tRelation box3_relations), (.m [5] 0 box3_facts.length tFact.k)], .dead, .row (flat tFact.enc box3_facts), .dead, .dead, .dead, .dead, .dead]) rfl (lb rfl) ?_ ?_ ?_
    ·exact ⟨(.keep rfl), (.keep rfl), (.keep rfl), (.keep rfl), (.keep rfl), (.keep rfl), (.keep rfl), fz1E, (.keep rfl), trivial⟩
    ·exact ⟨(fzK rfl), (fzK rfl), trivial, (fzC fz1E (fzC (.keep rfl) fzN)), trivial, rfl, trivial, trivial, trivial, trivial, trivial, trivial⟩
    refine TA_all [0, 5] (by kernel_rfl) (by decide) ⟨?_, ?_, trivial⟩
    ·skip
     refine ⟨_, rfl, rfl, (TOp_pure (pur_ldK_b agg41 rfl rfl (lb rfl) rfl) rfl ?_)⟩
     exact tj hj1_6 rfl (w0 11)
    ·skip
     refine ⟨_, rfl, rfl, (TOp_callS [0] (call_static ent128 rfl) (by decide) rfl rfl rfl rfl rfl rfl (m_spec_l3Fact_x u _ _ _ _ h_10) rfl rfl ?_)⟩
     refine tae [(0, (.b 0 0)), (2, (.b 1 0)), (3, (.b 3 0)), (4, (intA r_3.1)), (5, (intA n5)), (21, (.b 0 0)), (22, (.b 3 0)), (23, (sl tRelation box3_relations)), (24, (intA r_3.1)), (25, (.g [(intA r_9.1.relation), (.m [11] 0 r_9.1.values.length tInt.k)]))] rfl ?_
     refine TA_st (σ' := [.box [(sl (tI .u8) r_9.2.b), (intA r_9.2.i), (intA r_9.2.h)], .box [.n, .n], .dead, .box [(sl tRelation box3_relations), (.m [5] 0 box3_facts.length tFact.k)], .dead, .row (flat tFact.enc box3_facts), .dead, .dead, .dead, .dead, .dead, .row (flat tInt.enc r_9.1.values)]) rfl ?_
     refine tmw 8 11 (by decide) (lb rfl) rfl rfl (lb rfl) rfl ?_
     refine t1 0 (by kernel_rfl) rfl rfl (TOp_pure (pur_ldK_b agg41 rfl rfl (lb rfl) rfl) rfl ?_)
     refine TA_ghost (E' := [(0, (.b 0 0)), (2, (.b 1 0)), (3, (.b 3 0)), (4, (intA r_3.1)), (5, (intA n5)), (20, (.g [(sl tRelation box3_relations), (.m [5] 0 box3_facts.length tFact.k)])), (21, (.b 0 0)), (22, (.b 3 0)), (23, (sl tRelation box3_relations)), (24, (intA r_3.1)), (25, (.g [(intA r_9.1.relation), (.m [8] 0 r_9.1.values.length tInt.k)]))]) (σ' := [.box [(sl (tI .u8) r_9.2.b), (intA r_9.2.i), (intA r_9.2.h)], .box [.n, .n], .dead, .box [(sl tRelation box3_relations), (.m [5] 0 box3_facts.length tFact.k)], .dead, .row (flat tFact.enc box3_facts), .dead, .dead, .row (flat tInt.enc r_9.1.values), .dead, .dead, .dead]) (Ghost.weak (WeakL.to 12 (lb rfl) rfl rfl rfl rfl ⟨leR rfl, leR rfl, leR rfl, leR rfl, leR rfl, leR rfl, leR rfl, leR rfl, leR rfl, leR rfl, leR rfl, trivial⟩)) ?_
     refine TA_frzB 5 (E' := [(0, (.b 0 0)), (2, (.b 1 0)), (3, (.b 3 0)), (4, (intA r_3.1)), (5, (intA n5)), (20, (.g [(sl tRelation box3_relations), (sl tFact box3_facts)])), (21, (.b 0 0)), (22, (.b 3 0)), (23, (sl tRelation box3_relations)), (24, (intA r_3.1)), (25, (.g [(intA r_9.1.relation), (.m [8] 0 r_9.1.values.length tInt.k)]))]) (σ' := [.box [(sl (tI .u8) r_9.2.b), (intA r_9.2.i), (intA r_9.2.h)], .box [.n, .n], .dead, .box [(sl tRelation box3_relations), (sl tFact box3_facts)], .dead, .dead, .dead, .dead, .row (flat tInt.enc r_9.1.values), .dead, .dead, .dead]) rfl (lb rfl) ?_ ?_ ?_
     ·exact ⟨(.keep rfl), (.keep rfl), (.keep rfl), (.keep rfl), (.keep rfl), (fz1G (fzC (.keep rfl) (fzC fz1E fzN))), (.keep rfl), (.keep rfl), (.keep rfl), (.keep rfl), (.keep rfl), trivial⟩
     ·exact ⟨(fzK rfl), (fzK rfl), trivial, (fzC (.keep rfl) (fzC fz1E fzN)), trivial, trivial, trivial, trivial, rfl, trivial, trivial, trivial, trivial⟩
     refine TA_ghost (E' := [(0, (.b 0 0)), (2, (.b 1 0)), (3, (.b 3 0)), (4, (intA r_3.1)), (5, (intA n5)), (20, (.g [(sl tRelation box3_relations), (sl tFact box3_facts)])), (21, (.b 0 0)), (22, (.b 3 0)), (23, (sl tRelation box3_relations)), (24, (intA r_3.1)), (25, (.g [(intA r_9.1.relation), (.m [8] 0 r_9.1.values.length tInt.k)]))]) (σ' := [.box [(sl (tI .u8) r_9.2.b), (intA r_9.2.i), (intA r_9.2.h)], .box [.n, .n], .dead, .box [(sl tRelation box3_relations), (sl tFact box3_facts)], .dead, .dead, .dead, .dead, .row (flat tInt.enc r_9.1.values), .dead, .dead, .dead]) (Ghost.weak (WeakL.to 12 (lb rfl) rfl rfl rfl rfl ⟨leR rfl, leR rfl, leR rfl, leR rfl, leR rfl, leR rfl, leR rfl, leR rfl, leR rfl, leR rfl, leR rfl, trivial⟩)) ?_
     refine TA_frz1 8 (E' := [(0, (.b 0 0)), (2, (.b 1 0)), (3, (.b 3 0)), (4, (intA r_3.1)), (5, (intA n5)), (20, (.g [(sl tRelation box3_relations), (sl tFact box3_facts)])), (21, (.b 0 0)), (22, (.b 3 0)), (23, (sl tRelation box3_relations)), (24, (intA r_3.1)), (25, (.g [(intA r_9.1.relation), (sl tInt r_9.1.values)]))]) rfl rfl (lb rfl) ?_ ?_
     ·exact ⟨(.keep rfl), (.keep rfl), (.keep rfl), (.keep rfl), (.keep rfl), (.keep rfl), (.keep rfl), (.keep rfl), (.keep rfl), (.keep rfl), (fz1G (fzC (.keep rfl) (fzC fz1E fzN))), trivial⟩
     refine TA_st (σ' := [.box [(sl (tI .u8) r_9.2.b), (intA r_9.2.i), (intA r_9.2.h)], .box [.n, .n], .dead, .box [(sl tRelation box3_relations), (sl tFact box3_facts)], .dead, .dead, .dead, .dead, .dead, .dead, .dead, .dead]) rfl ?_
     exact tj hj0_6 rfl (w0 11)
  ·replace H := cond_f c_8 H
   refine T_exit ?_
   refine then_exit ?_
   refine then_exit ?_
   refine block_exit ?_
   obtain rfl := some_inj H
   obtain rfl := some_inj K7_
   replace H := onS_l N7_
   refine sr ?_
   refine pv tb 1 rfl ?_
   refine TO_cons rfl (TOp_storeB sz41 rfl rfl rfl rfl rfl rfl rfl (by decide) (lb rfl) rfl ?_)
   refine TO_st (σ' := [.box [(sl (tI .u8) box0.b), (intA box0.i), (intA box0.h)], .box [(.m [2] 0 box3_relations.length tRelation.k), (.m [5] 0 box3_facts.length tFact.k)], .row (flat tRelation.enc box3_relations), .box [(.m [2] 0 box3_relations.length tRelation.k), (.m [5] 0 box3_facts.length tFact.k)], .dead, .row (flat tFact.enc box3_facts)]) rfl ?_
   refine TO_nil ?_
   refine T_ret ?_
   obtain rfl := some_inj H
   exact end_pickX (.cellK rfl agg41 rfl (lb rfl) .nil) rfl [0, 2, 5] (by decide) (lb rfl) rfl (lb rfl) rfl rfl rfl rfl rfl rfl
end Go.Proofs.Ytmecnecfkgneoaa

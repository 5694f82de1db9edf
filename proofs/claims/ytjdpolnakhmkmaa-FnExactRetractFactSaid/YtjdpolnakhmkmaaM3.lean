/- Walks. -/
import Derived.Test.YtjdpolnakhmkmaaM1
import Derived.Test.YtjdpolnakhmkmaaM2
set_option linter.unusedVariables false
set_option linter.unusedSimpArgs false
set_option maxRecDepth 4000
namespace Go.Proofs.Ytjdpolnakhmkmaa
open Go Go.Proofs Go.Sep
set_option maxHeartbeats 1000000 in
/-- impl.IsValidDatabase -/
theorem m_impl_IsValidDatabase_ok (db0 : Database) (r : Bool) (H : m_impl_IsValidDatabase db0 = some r) : FnV prg 117 [(.g (tDatabase.enc db0))] (boolA r) := by
  unfold m_impl_IsValidDatabase at H
  refine fnV_of_T Try.func117 rfl rfl (Nat.le_of_ble_eq_true rfl) ?_
  refine te [(0, (.g (tDatabase.enc db0)))] rfl ?_
  refine sr ?_
  refine TO_cons rfl (TOp_box rfl (boxAll rfl) rfl rfl ?_)
  refine pv tb 1 rfl ?_
  refine TO_nil ?_
  refine T_seq ?_
  obtain ⟨t14_1, J_1, H_2⟩ := bind_inv H
  refine T_cutX (fun x => t14_1 = x) (fun (t14_1 : Bool) => [(1, (.b 0 0)), (14, (boolA t14_1))]) (fun (t14_1 : Bool) => [.box [(sl tRelation db0.relations), (sl tFact db0.facts)]]) ?_ ?_
  ·replace H := J_1
   refine T_region ?_
   obtain ⟨r_3, h_4, H⟩ := bind_inv H
   refine pv tb 2 rfl ?_
   refine TO_cons rfl (TOp_callV (call_static ent165 rfl) (m_impl_AreValidRelations_ok _ _ h_4) rfl rfl rfl ?_)
   refine pv tb 2 rfl ?_
   refine TO_split (t := (!r_3)) 9 rfl (fun g_5 => ?_) (fun g_5 => ?_)
   ·replace H := cond_t g_5 H
    refine pv tb 5 rfl ?_
    refine TO_nil ?_
    exact joined true (w0 1) (some_inj H).symm
   ·replace H := cond_f g_5 H
    refine pv tb 2 rfl ?_
    refine TO_on rfl rfl (by decide) rfl rfl (TOp_pure (pur_lenT (T := tFact) sl46 rfl rfl) rfl ?_)
    refine pv tb 2 rfl ?_
    refine TO_nil ?_
    exact joined (decide (14 < (db0.facts.length : Int))) (w0 1) (some_inj H).symm
  ·rintro _ rfl
   replace H := H_2
   refine T_cond (t := t14_1) rfl (fun c_6 => ?_) (fun c_6 => ?_)
   ·replace H := cond_t c_6 H
    refine sr ?_
    refine pv tb 1 rfl ?_
    refine TO_nil ?_
    refine T_ret ?_
    refine then_ret ?_
    obtain rfl := some_inj H
    refine end_ret (.tmp .nil) rfl rfl ⟨?_, rfl⟩
    rfl
   ·replace H := cond_f c_6 H
    refine T_skip ?_
    refine T_seq ?_
    refine sr ?_
    refine pv tb 2 rfl ?_
    refine Tp rfl rfl (pur_lenT (T := tFact) sl46 rfl rfl) rfl ?_
    refine pv tb 1 rfl ?_
    refine TO_nil ?_
    obtain ⟨O8_, L8_, N8_⟩ := bind_inv H
    clear H
    obtain ⟨B8_, hb8, L8_⟩ := gen_forL L8_
    refine T_block ?_
    refine T_loopX (fun k => fun (t_7 : Nat) => k = db0.facts.length - t_7 ∧ forL B8_ (db0.facts.drop t_7) (t_7 : Int) () = some O8_) (fun (t_7 : Nat) => [(1, (.b 0 0)), (16, (sl tFact db0.facts)), (17, (intA (db0.facts.length : Int))), (18, (intA (t_7 : Int)))]) (fun (t_7 : Nat) => [.box [(sl tRelation db0.relations), (sl tFact db0.facts)]]) _ (0 : Nat) (w0 1) ⟨rfl, L8_⟩ ?_
    rintro _ t_7 ⟨rfl, L8_⟩
    refine T_fact (len_sl (T := tFact) (.tmp 16) rfl) (fun hl8 => ?_)
    refine sr ?_
    refine pv tb 1 rfl ?_
    refine TO_nil ?_
    refine T_seq ?_
    refine T_cond (t := decide ((t_7 : Int) < (db0.facts.length : Int))) rfl (fun d8 => ?_) (fun d8 => ?_)
    ·replace d8 := of_decide_eq_true d8
     obtain ⟨x_t_7, hx_t_7⟩ : ∃ v, (db0.facts)[t_7]? = some v := ⟨_, List.getElem?_eq_getElem (by omega)⟩
     obtain ⟨C8_, H, K8_⟩ := forL_step L8_ hx_t_7
     rw [hb8] at H
     refine T_skip ?_
     refine T_seq ?_
     refine T_block ?_
     refine sr ?_
     refine pv tb 1 rfl ?_
     refine Tp rfl rfl (pur_ixT (T := tFact) sl46 rfl rfl rfl hx_t_7 rfl) rfl ?_
     refine Tp rfl rfl (pur_ldTK (T := tFact) (i := t_7) (off := 0) rfl agg65 rfl rfl hx_t_7 (by decide) rfl) rfl ?_
     refine TO_cons rfl (TOp_alloc zero65 rfl rfl ?_)
     refine pv tb 1 rfl ?_
     refine TO_cons rfl (TOp_storeB sz65 rfl rfl rfl rfl rfl rfl rfl (by decide) (lb rfl) rfl ?_)
     refine TO_st (σ' := [.box [(sl tRelation db0.relations), (sl tFact db0.facts)], .box [(intA x_t_7.relation), (sl tInt x_t_7.values)]]) rfl ?_
     refine TO_nil ?_
     obtain ⟨t42_9, J_9, H_10⟩ := bind_inv H
     refine T_cutX (fun x => t42_9 = x) (fun (t42_9 : Bool) => [(1, (.b 0 0)), (16, (sl tFact db0.facts)), (17, (intA (db0.facts.length : Int))), (18, (intA (t_7 : Int))), (42, (boolA t42_9))]) (fun (t42_9 : Bool) => [.box [(sl tRelation db0.relations), (sl tFact db0.facts)]]) ?_ ?_
     ·replace H := J_9
      refine T_regionD mixed (by kernel_rfl) ?_
      obtain ⟨r_11, h_12, H⟩ := bind_inv H
      refine pq tb 3 rfl ?_
      refine TQ_callV rfl (call_static ent166 rfl) (m_impl_isFact_ok _ _ _ h_12) rfl rfl ?_
      refine pq tb 2 rfl ?_
      refine TQ_split (t := (!r_11)) 28 rfl (fun g_13 => ?_) (fun g_13 => ?_)
      ·replace H := cond_t g_13 H
       refine pq tb 8 rfl ?_
       refine tqe [(1, (.b 0 0)), (4, (.b 1 0)), (16, (sl tFact db0.facts)), (17, (intA (db0.facts.length : Int))), (18, (intA (t_7 : Int))), (28, (boolA true)), (31, (.v undef)), (36, (.v undef))] rfl ?_
       refine pq tb 6 rfl ?_
       refine TQ_nil ?_
       exact joined true (w0 1) (some_inj H).symm
      ·replace H := cond_f g_13 H
       refine pq tb 3 rfl ?_
       refine TQ_split (t := decide (0 < (t_7 : Int))) 31 rfl (fun g_14 => ?_) (fun g_14 => ?_)
       ·replace H := cond_t g_14 H
        refine pq tb 3 rfl ?_
        refine TQ_on rfl rfl (by decide) rfl (pur_sub rfl rfl rfl (fits64 (by omega) (by omega))) rfl ?_
        obtain ⟨v_15, h_16, H⟩ := bind_inv H
        obtain ⟨n_17, hz_18, hv_19⟩ := getI_inv h_16
        refine TQ_on rfl rfl (by decide) rfl (pur_ixT (T := tFact) sl46 rfl rfl hz_18 hv_19 rfl) rfl ?_
        refine TQ_on rfl rfl (by decide) rfl (pur_ldTK (T := tFact) (i := n_17) (off := 0) rfl agg65 rfl rfl hv_19 (by decide) rfl) rfl ?_
        obtain ⟨r_20, h_21, H⟩ := bind_inv H
        refine pq tb 1 rfl ?_
        refine TQ_onV rfl rfl (by decide) rfl (call_static ent152 rfl) (m_impl_CompareFacts_ok _ _ _ h_21) rfl rfl ?_
        refine tqe [(1, (.b 0 0)), (16, (sl tFact db0.facts)), (17, (intA (db0.facts.length : Int))), (18, (intA (t_7 : Int))), (28, (boolA false)), (31, (boolA true)), (39, (intA r_20))] rfl ?_
        refine pq tb 3 rfl ?_
        refine TQ_nil ?_
        exact joined (decide (0 ≤ r_20)) (w0 1) (some_inj H).symm
       ·replace H := cond_f g_14 H
        refine pq tb 8 rfl ?_
        refine tqe [(1, (.b 0 0)), (16, (sl tFact db0.facts)), (17, (intA (db0.facts.length : Int))), (18, (intA (t_7 : Int))), (28, (boolA false)), (31, (boolA false)), (39, (.v undef))] rfl ?_
        refine pq tb 3 rfl ?_
        refine TQ_nil ?_
        exact joined false (w0 1) (some_inj H).symm
     ·rintro _ rfl
      replace H := H_10
      refine T_cond (t := t42_9) rfl (fun c_22 => ?_) (fun c_22 => ?_)
      ·replace H := cond_t c_22 H
       refine sr ?_
       refine pv tb 1 rfl ?_
       refine TO_nil ?_
       refine T_ret ?_
       refine block_ret ?_
       refine then_ret ?_
       refine then_ret ?_
       refine block_ret ?_
       refine then_ret ?_
       obtain rfl := some_inj H
       obtain rfl := some_inj K8_
       replace H := onS_r N8_
       obtain rfl := some_inj H
       refine end_ret (.tmp .nil) rfl rfl ⟨?_, rfl⟩
       rfl
      ·replace H := cond_f c_22 H
       refine T_skip ?_
       refine T_region ?_
       refine Tp rfl rfl (pur_add rfl rfl rfl (fits64 (by omega) (by omega))) rfl ?_
       refine pv tb 1 rfl ?_
       refine TO_nil ?_
       obtain rfl := some_inj H
       exact again (db0.facts.length - (t_7 + 1)) (t_7 + 1) (by omega) (w0 1) ⟨rfl, K8_⟩
    ·replace d8 := of_decide_eq_false d8
     obtain rfl := forL_end L8_ (by omega)
     refine T_exit ?_
     refine then_exit ?_
     refine then_exit ?_
     refine block_exit ?_
     replace H := onS_l N8_
     refine sr ?_
     refine pv tb 1 rfl ?_
     refine TO_nil ?_
     refine T_ret ?_
     obtain rfl := some_inj H
     refine end_ret (.tmp .nil) rfl rfl ⟨?_, rfl⟩
     rfl

set_option maxHeartbeats 1000000 in
/-- impl.ContainsFact -/
theorem m_impl_ContainsFact_ok (db0 : Database) (fact1 : Fact) (r : Bool) (H : m_impl_ContainsFact db0 fact1 = some r) : FnV prg 49 [(.g (tDatabase.enc db0)), (.g (tFact.enc fact1))] (boolA r) := by
  unfold m_impl_ContainsFact at H
  refine fnV_of_T Try.func49 rfl rfl (Nat.le_of_ble_eq_true rfl) ?_
  refine te [(0, (.g (tDatabase.enc db0))), (1, (.g (tFact.enc fact1)))] rfl ?_
  refine sr ?_
  refine TO_cons rfl (TOp_box rfl (boxAll rfl) rfl rfl ?_)
  refine TO_cons rfl (TOp_box rfl (boxAll rfl) rfl rfl ?_)
  refine pv tb 1 rfl ?_
  refine TO_nil ?_
  obtain ⟨t4_1, J_1, H_2⟩ := bind_inv H
  refine T_cutX (fun x => t4_1 = x) (fun (t4_1 : Bool) => [(4, (boolA t4_1))]) (fun (t4_1 : Bool) => []) ?_ ?_
  ·replace H := J_1
   refine T_region ?_
   obtain ⟨r_3, h_4, H⟩ := bind_inv H
   refine pv tb 1 rfl ?_
   refine TO_cons rfl (TOp_callV (call_static ent117 rfl) (m_impl_IsValidDatabase_ok _ _ h_4) rfl rfl rfl ?_)
   refine pv tb 1 rfl ?_
   refine TO_split (t := r_3) 7 rfl (fun g_5 => ?_) (fun g_5 => ?_)
   ·replace H := cond_t g_5 H
    obtain ⟨r_6, h_7, H⟩ := bind_inv H
    refine pv tb 2 rfl ?_
    refine TO_on rfl rfl (by decide) rfl rfl (TOp_callV (call_static ent106 rfl) (m_impl_FactIndex_ok _ _ _ h_7) rfl rfl rfl ?_)
    refine pv tb 3 rfl ?_
    refine TO_nil ?_
    exact joined (decide (0 ≤ r_6)) (w0 0) (some_inj H).symm
   ·replace H := cond_f g_5 H
    refine pv tb 6 rfl ?_
    refine TO_nil ?_
    exact joined false (w0 0) (some_inj H).symm
  ·rintro _ rfl
   replace H := H_2
   refine T_ret ?_
   obtain rfl := some_inj H
   refine end_ret (.tmp .nil) rfl rfl ⟨?_, rfl⟩
   rfl

set_option maxHeartbeats 1000000 in
/-- slices.Equal[[]int,int] -/
theorem m_slices_Equal_Sint_int_ok (s10 : (List Int)) (s21 : (List Int)) (r : Bool) (H : m_slices_Equal_Sint_int s10 s21 = some r) : FnV prg 155 [(sl tInt s10), (sl tInt s21)] (boolA r) := by
  unfold m_slices_Equal_Sint_int at H
  refine fnV_of_T Try.func155 rfl rfl (Nat.le_of_ble_eq_true rfl) ?_
  refine te [(0, (sl tInt s10)), (1, (sl tInt s21))] rfl ?_
  refine sr ?_
  refine pv tb 1 rfl ?_
  refine TO_nil ?_
  refine T_seq ?_
  refine sr ?_
  refine pv tb 1 rfl ?_
  refine Tp rfl rfl (pur_lenT (T := tInt) sl23 rfl rfl) rfl ?_
  refine pv tb 1 rfl ?_
  refine Tp rfl rfl (pur_lenT (T := tInt) sl23 rfl rfl) rfl ?_
  refine pv tb 1 rfl ?_
  refine TO_nil ?_
  refine T_cond (t := decide ((s10.length : Int) ≠ (s21.length : Int))) rfl (fun c_1 => ?_) (fun c_1 => ?_)
  ·replace H := cond_t c_1 H
   refine sr ?_
   refine pv tb 1 rfl ?_
   refine TO_nil ?_
   refine T_ret ?_
   refine then_ret ?_
   obtain rfl := some_inj H
   refine end_ret (.tmp .nil) rfl rfl ⟨?_, rfl⟩
   rfl
  ·replace H := cond_f c_1 H
   refine T_skip ?_
   refine T_seq ?_
   refine sr ?_
   refine pv tb 1 rfl ?_
   refine Tp rfl rfl (pur_lenT (T := tInt) sl23 rfl rfl) rfl ?_
   refine pv tb 1 rfl ?_
   refine TO_nil ?_
   obtain ⟨O3_, L3_, N3_⟩ := bind_inv H
   clear H
   obtain ⟨B3_, hb3, L3_⟩ := gen_forL L3_
   refine T_block ?_
   refine T_loopX (fun k => fun (t_2 : Nat) => k = s10.length - t_2 ∧ forL B3_ (s10.drop t_2) (t_2 : Int) () = some O3_) (fun (t_2 : Nat) => [(0, (sl tInt s10)), (1, (sl tInt s21)), (12, (intA (s10.length : Int))), (13, (intA (t_2 : Int)))]) (fun (t_2 : Nat) => []) _ (0 : Nat) (w0 0) ⟨rfl, L3_⟩ ?_
   rintro _ t_2 ⟨rfl, L3_⟩
   refine T_fact (len_sl (T := tInt) (.tmp 0) rfl) (fun hl3 => ?_)
   refine sr ?_
   refine pv tb 1 rfl ?_
   refine TO_nil ?_
   refine T_seq ?_
   refine T_cond (t := decide ((t_2 : Int) < (s10.length : Int))) rfl (fun d3 => ?_) (fun d3 => ?_)
   ·replace d3 := of_decide_eq_true d3
    obtain ⟨x_t_2, hx_t_2⟩ : ∃ v, (s10)[t_2]? = some v := ⟨_, List.getElem?_eq_getElem (by omega)⟩
    obtain ⟨C3_, H, K3_⟩ := forL_step L3_ hx_t_2
    rw [hb3] at H
    refine T_skip ?_
    refine T_seq ?_
    refine T_block ?_
    refine sr ?_
    refine pv tb 2 rfl ?_
    refine TO_nil ?_
    refine T_seq ?_
    refine T_regionD mixed (by kernel_rfl) ?_
    refine pq tb 2 rfl ?_
    refine TQ_pure rfl (pur_ixT (T := tInt) sl23 rfl rfl rfl hx_t_2 rfl) rfl ?_
    refine TQ_pure rfl (pur_ldT (T := tInt) (i := t_2) (off := 0) rfl one3 rfl rfl hx_t_2 rfl) rfl ?_
    obtain ⟨v_4, h_5, H⟩ := bind_inv H
    obtain ⟨n_6, hz_7, hv_8⟩ := getI_inv h_5
    refine pq tb 2 rfl ?_
    refine TQ_pure rfl (pur_ixT (T := tInt) sl23 rfl rfl hz_7 hv_8 rfl) rfl ?_
    refine TQ_pure rfl (pur_ldT (T := tInt) (i := n_6) (off := 0) rfl one3 rfl rfl hv_8 rfl) rfl ?_
    refine pq tb 1 rfl ?_
    refine TQ_nil ?_
    refine T_cond (t := decide (x_t_2 ≠ v_4)) rfl (fun c_9 => ?_) (fun c_9 => ?_)
    ·replace H := cond_t c_9 H
     refine sr ?_
     refine pv tb 1 rfl ?_
     refine TO_nil ?_
     refine te [(4, (boolA false))] rfl ?_
     refine T_ret ?_
     refine block_ret ?_
     refine then_ret ?_
     refine then_ret ?_
     refine block_ret ?_
     refine then_ret ?_
     obtain rfl := some_inj H
     obtain rfl := some_inj K3_
     replace H := onS_r N3_
     obtain rfl := some_inj H
     refine end_ret (.tmp .nil) rfl rfl ⟨?_, rfl⟩
     rfl
    ·replace H := cond_f c_9 H
     refine T_skip ?_
     refine T_region ?_
     refine Tp rfl rfl (pur_add rfl rfl rfl (fits64 (by omega) (by omega))) rfl ?_
     refine pv tb 1 rfl ?_
     refine TO_nil ?_
     obtain rfl := some_inj H
     exact again (s10.length - (t_2 + 1)) (t_2 + 1) (by omega) (w0 0) ⟨rfl, K3_⟩
   ·replace d3 := of_decide_eq_false d3
    obtain rfl := forL_end L3_ (by omega)
    refine T_exit ?_
    refine then_exit ?_
    refine then_exit ?_
    refine block_exit ?_
    replace H := onS_l N3_
    refine sr ?_
    refine pv tb 1 rfl ?_
    refine TO_nil ?_
    refine T_ret ?_
    obtain rfl := some_inj H
    refine end_ret (.tmp .nil) rfl rfl ⟨?_, rfl⟩
    rfl

set_option maxHeartbeats 1000000 in
/-- impl.sameKey -/
theorem m_impl_sameKey_ok (relations0 : (List Relation)) (a1 : Fact) (b2 : Fact) (r : Bool) (H : m_impl_sameKey relations0 a1 b2 = some r) : FnV prg 167 [(sl tRelation relations0), (.g (tFact.enc a1)), (.g (tFact.enc b2))] (boolA r) := by
  unfold m_impl_sameKey at H
  refine fnV_of_T Try.func167 rfl rfl (Nat.le_of_ble_eq_true rfl) ?_
  refine te [(0, (sl tRelation relations0)), (1, (.g (tFact.enc a1))), (2, (.g (tFact.enc b2)))] rfl ?_
  refine sr ?_
  refine TO_cons rfl (TOp_box rfl (boxAll rfl) rfl rfl ?_)
  refine TO_cons rfl (TOp_box rfl (boxAll rfl) rfl rfl ?_)
  refine pv tb 1 rfl ?_
  refine TO_nil ?_
  refine T_seq ?_
  refine sr ?_
  refine pv tb 5 rfl ?_
  refine TO_nil ?_
  refine T_cond (t := decide (a1.relation ≠ b2.relation)) rfl (fun c_1 => ?_) (fun c_1 => ?_)
  ·replace H := cond_t c_1 H
   refine sr ?_
   refine pv tb 1 rfl ?_
   refine TO_nil ?_
   refine T_ret ?_
   refine then_ret ?_
   obtain rfl := some_inj H
   refine end_ret (.tmp .nil) rfl rfl ⟨?_, rfl⟩
   rfl
  ·replace H := cond_f c_1 H
   refine T_skip ?_
   refine sr ?_
   obtain ⟨v_2, h_3, H⟩ := bind_inv H
   obtain ⟨n_4, hz_5, hv_6⟩ := getI_inv h_3
   refine pv tb 3 rfl ?_
   refine Tp rfl rfl (pur_ixT (T := tRelation) sl45 rfl rfl hz_5 hv_6 rfl) rfl ?_
   refine pv tb 1 rfl ?_
   refine Tp rfl rfl (pur_ldT (T := tRelation) (i := n_4) (off := 2) rfl one3 rfl rfl hv_6 rfl) rfl ?_
   refine pv tb 1 rfl ?_
   refine TO_nil ?_
   refine te [(4, (.b 0 0)), (5, (.b 1 0)), (7, (intA v_2.keyLength))] rfl ?_
   refine T_seq ?_
   refine T_regionD mixed (by kernel_rfl) ?_
   obtain ⟨ys_7, h_8, H⟩ := bind_inv H
   refine pq tb 3 rfl ?_
   refine TQ_pure rfl (pur_cutT (T := tInt) (lo := none) (hi := (some (.tmp 21))) sl23 rfl rfl ⟨_, rfl⟩ h_8 rfl) rfl ?_
   obtain ⟨ys_9, h_10, H⟩ := bind_inv H
   refine pq tb 3 rfl ?_
   refine TQ_pure rfl (pur_cutT (T := tInt) (lo := none) (hi := (some (.tmp 25))) sl23 rfl rfl ⟨_, rfl⟩ h_10 rfl) rfl ?_
   obtain ⟨r_11, h_12, H⟩ := bind_inv H
   refine TQ_callV rfl (call_static ent155 rfl) (m_slices_Equal_Sint_int_ok _ _ _ h_12) rfl rfl ?_
   refine pq tb 1 rfl ?_
   refine TQ_nil ?_
   refine T_ret ?_
   obtain rfl := some_inj H
   refine end_ret (.tmp .nil) rfl rfl ⟨?_, rfl⟩
   rfl

set_option maxHeartbeats 1000000 in
/-- impl.blocks -/
theorem m_impl_blocks_own (db0 : Database) (r : (List (List Int))) (H : m_impl_blocks db0 = some r) : FnO prg 118 [(.g (tDatabase.enc db0))] (.m [0] 0 r.length (tSl tInt).k) [.row (flat (tSl tInt).own r)] := by
  unfold m_impl_blocks at H
  refine fnO_of_T Try.func118 rfl rfl (Nat.le_of_ble_eq_true rfl) ?_
  refine te [(0, (.g (tDatabase.enc db0)))] rfl ?_
  refine sr ?_
  refine TO_cons rfl (TOp_box rfl (boxAll rfl) rfl rfl ?_)
  refine pv tb 1 rfl ?_
  refine TO_nil ?_
  refine sr ?_
  refine TO_cons rfl (TOp_lit (nn := 0) (k := 1) sl53 zero23 rfl rfl rfl rfl (by decide) ?_)
  refine TO_st (σ' := [.box [(sl tRelation db0.relations), (sl tFact db0.facts)], .row (flat (tSl tInt).own ([] : (List (List Int))))]) rfl ?_
  refine pv tb 1 rfl ?_
  refine TO_nil ?_
  refine T_seq ?_
  refine sr ?_
  refine pv tb 2 rfl ?_
  refine Tp rfl rfl (pur_lenT (T := tFact) sl46 rfl rfl) rfl ?_
  refine pv tb 1 rfl ?_
  refine TO_nil ?_
  obtain ⟨O2_, L2_, N2_⟩ := bind_inv H
  clear H
  obtain ⟨B2_, hb2, L2_⟩ := gen_forS L2_
  refine T_block ?_
  refine T_loopX (fun k => fun (⟨t_1, out3⟩ : Nat × (List (List Int))) => k = db0.facts.length - t_1 ∧ forS B2_ (db0.facts.drop t_1) (t_1 : Int) out3 = some O2_) (fun (⟨t_1, out3⟩ : Nat × (List (List Int))) => [(1, (.b 0 0)), (3, (.m [1] 0 out3.length (tSl tInt).k)), (9, (sl tFact db0.facts)), (10, (intA (db0.facts.length : Int))), (11, (intA (t_1 : Int)))]) (fun (⟨t_1, out3⟩ : Nat × (List (List Int))) => [.box [(sl tRelation db0.relations), (sl tFact db0.facts)], .row (flat (tSl tInt).own out3)]) _ (0, ([] : (List (List Int)))) (w0 2) ⟨rfl, L2_⟩ ?_
  rintro _ ⟨t_1, out3⟩ ⟨rfl, L2_⟩
  refine T_fact (len_sl (T := tFact) (.tmp 9) rfl) (fun hl2 => ?_)
  refine sr ?_
  refine pv tb 1 rfl ?_
  refine TO_nil ?_
  refine T_seq ?_
  refine T_cond (t := decide ((t_1 : Int) < (db0.facts.length : Int))) rfl (fun d2 => ?_) (fun d2 => ?_)
  ·replace d2 := of_decide_eq_true d2
   obtain ⟨x_t_1, hx_t_1⟩ : ∃ v, (db0.facts)[t_1]? = some v := ⟨_, List.getElem?_eq_getElem (by omega)⟩
   obtain ⟨C2_, H, K2_⟩ := forS_step L2_ hx_t_1
   rw [hb2] at H
   refine T_skip ?_
   refine T_seq ?_
   refine T_block ?_
   refine sr ?_
   refine pv tb 1 rfl ?_
   refine Tp rfl rfl (pur_ixT (T := tFact) sl46 rfl rfl rfl hx_t_1 rfl) rfl ?_
   refine Tp rfl rfl (pur_ldTK (T := tFact) (i := t_1) (off := 0) rfl agg65 rfl rfl hx_t_1 (by decide) rfl) rfl ?_
   refine TO_cons rfl (TOp_alloc zero65 rfl rfl ?_)
   refine pv tb 1 rfl ?_
   refine TO_cons rfl (TOp_storeB sz65 rfl rfl rfl rfl rfl rfl rfl (by decide) (lb rfl) rfl ?_)
   refine TO_st (σ' := [.box [(sl tRelation db0.relations), (sl tFact db0.facts)], .row (flat (tSl tInt).own out3), .box [(intA x_t_1.relation), (sl tInt x_t_1.values)]]) rfl ?_
   refine TO_nil ?_
   refine sr ?_
   refine pv tb 1 rfl ?_
   refine Tp rfl rfl (pur_len_m sl53 rfl rfl) rfl ?_
   refine TO_fact (len_m (.tmp 3) rfl) (fun hl_3 => ?_)
   refine Tp rfl rfl (pur_sub rfl rfl rfl (fits64 (by omega) (by omega))) rfl ?_
   refine pv tb 1 rfl ?_
   refine TO_nil ?_
   obtain ⟨t36_4, J_4, H_5⟩ := bind_inv H
   refine T_cutX (fun x => t36_4 = x) (fun (t36_4 : Bool) => [(1, (.b 0 0)), (3, (.m [1] 0 out3.length (tSl tInt).k)), (4, (intA (t_1 : Int))), (6, (intA ((out3.length : Int) - 1))), (9, (sl tFact db0.facts)), (10, (intA (db0.facts.length : Int))), (11, (intA (t_1 : Int))), (36, (boolA t36_4))]) (fun (t36_4 : Bool) => [.box [(sl tRelation db0.relations), (sl tFact db0.facts)], .row (flat (tSl tInt).own out3)]) ?_ ?_
   ·replace H := J_4
    refine T_regionD mixed (by kernel_rfl) ?_
    refine pq tb 3 rfl ?_
    refine TQ_split (t := decide (0 ≤ ((out3.length : Int) - 1))) 21 rfl (fun g_6 => ?_) (fun g_6 => ?_)
    ·replace H := cond_t g_6 H
     obtain ⟨v_7, h_8, H⟩ := bind_inv H
     obtain ⟨n_9, hz_10, hv_11⟩ := getI_inv h_8
     refine pq tb 6 rfl ?_
     refine TQ_on rfl rfl (by decide) rfl (pur_ixM (T := (tSl tInt)) sl53 rfl rfl hz_10 hv_11 rfl) rfl ?_
     refine TQ_on rfl rfl (by decide) rfl (pur_ldE (f := (tSl tInt).own) (k := (tSl tInt).k) (i := n_9) (off := 0) (tSl tInt).lenO rfl one23 rfl rfl rfl hv_11 rfl cellVal_sl) rfl ?_
     obtain ⟨v_12, h_13, H⟩ := bind_inv H
     obtain ⟨n_14, hz_15, hv_16⟩ := getI_inv h_13
     refine TQ_on rfl rfl (by decide) rfl (pur_ixM (T := tInt) sl23 rfl rfl hz_15 hv_16 rfl) rfl ?_
     refine TQ_on rfl rfl (by decide) rfl (pur_ldE (f := tInt.own) (k := tInt.k) (i := n_14) (off := 0) tInt.lenO rfl one3 rfl (rowAt_el (f := (tSl tInt).own) (i := n_9) (off := 0) (tSl tInt).lenO rfl hv_11 rfl) rfl hv_16 rfl rfl) rfl ?_
     obtain ⟨v_17, h_18, H⟩ := bind_inv H
     obtain ⟨n_19, hz_20, hv_21⟩ := getI_inv h_18
     refine TQ_on rfl rfl (by decide) rfl (pur_ixT (T := tFact) sl46 rfl rfl hz_20 hv_21 rfl) rfl ?_
     refine TQ_on rfl rfl (by decide) rfl (pur_ldTK (T := tFact) (i := n_19) (off := 0) rfl agg65 rfl rfl hv_21 (by decide) rfl) rfl ?_
     obtain ⟨r_22, h_23, H⟩ := bind_inv H
     refine pq tb 1 rfl ?_
     refine TQ_onV rfl rfl (by decide) rfl (call_static ent167 rfl) (m_impl_sameKey_ok _ _ _ _ h_23) rfl rfl ?_
     refine pq tb 1 rfl ?_
     refine TQ_nil ?_
     exact joined r_22 (w0 2) (some_inj H).symm
    ·replace H := cond_f g_6 H
     refine pq tb 15 rfl ?_
     refine TQ_nil ?_
     exact joined false (w0 2) (some_inj H).symm
   ·rintro _ rfl
    replace H := H_5
    refine T_cond (t := t36_4) rfl (fun c_24 => ?_) (fun c_24 => ?_)
    ·replace H := cond_t c_24 H
     refine T_region ?_
     obtain ⟨v_25, h_26, H⟩ := bind_inv H
     obtain ⟨n_27, hz_28, hv_29⟩ := getI_inv h_26
     refine pv tb 4 rfl ?_
     refine Tp rfl rfl (pur_ixM (T := (tSl tInt)) sl53 rfl rfl hz_28 hv_29 rfl) rfl ?_
     refine Tp rfl rfl (pur_ldE (f := (tSl tInt).own) (k := (tSl tInt).k) (i := n_27) (off := 0) (tSl tInt).lenO rfl one23 rfl rfl rfl hv_29 rfl cellVal_sl) rfl ?_
     refine pv tb 1 rfl ?_
     refine TO_cons rfl (TOp_lit (nn := 1) (k := 1) sl23 zero3 rfl rfl rfl rfl (by decide) ?_)
     refine TO_st (σ' := [.box [(sl tRelation db0.relations), (sl tFact db0.facts)], .row (flat (tSl tInt).own out3), .row (flat tInt.enc ([(t_1 : Int)] : (List Int)))]) rfl ?_
     refine TO_boxify 1 rfl (lb rfl) ?_
     refine TO_detach (k := tInt.k) (xs := flat (tSl tInt).own out3) (ys := flat tInt.own v_25) (E' := [(1, (.b 0 0)), (3, (.m [1] 0 out3.length (tSl tInt).k)), (9, (sl tFact db0.facts)), (10, (intA (db0.facts.length : Int))), (11, (intA (t_1 : Int))), (37, (.m [1] 0 out3.length (tSl tInt).k)), (38, (intA ((out3.length : Int) - 1))), (42, (.m [3] 0 v_25.length tInt.k)), (44, (.m [2] 0 ([(t_1 : Int)] : (List Int)).length tInt.k))]) 1 (n_27 * (tSl tInt).k + 0) 42 rfl (flat_at' (tSl tInt).lenO hv_29 rfl) rfl (lb rfl) (nms_box rfl (nms_box namesL_own (nms_row nms_nil))) ⟨.inr ⟨rfl, rfl⟩, .inr ⟨rfl, rfl⟩, .inr ⟨rfl, rfl⟩, .inr ⟨rfl, rfl⟩, .inr ⟨rfl, rfl⟩, .inr ⟨rfl, rfl⟩, .inr ⟨rfl, rfl⟩, .inl ⟨rfl, rfl⟩, .inr ⟨rfl, rfl⟩, trivial⟩ ?_
     refine TO_st (σ' := [.box [(sl tRelation db0.relations), (sl tFact db0.facts)], .box (spl (flat (tSl tInt).own out3) (n_27 * (tSl tInt).k) [.j]), .row (flat tInt.enc ([(t_1 : Int)] : (List Int))), .row (flat tInt.own v_25)]) (by rw [open_T (T := (tSl tInt)) hv_29 (by decide)]; rfl) ?_
     obtain ⟨us_30, h_31, H⟩ := bind_inv H
     refine TO_cons rfl (TOp_appY (T := tInt) (f := tInt.own) (xs := v_25) (ys := ([(t_1 : Int)] : (List Int))) tInt.lenO sl23 zero3 rfl bytes3 (by decide) rfl rfl rfl rfl (src_mT (f := tInt.own) tInt.lenO rfl rfl (flat_cell tInt _)) (flat_cell tInt _) h_31 ?_)
     refine toe [(1, (.b 0 0)), (3, (.m [1] 0 out3.length (tSl tInt).k)), (9, (sl tFact db0.facts)), (10, (intA (db0.facts.length : Int))), (11, (intA (t_1 : Int))), (37, (.m [1] 0 out3.length (tSl tInt).k)), (38, (intA ((out3.length : Int) - 1))), (44, (.m [2] 0 ([(t_1 : Int)] : (List Int)).length tInt.k)), (45, (.m [4] 0 us_30.length tInt.k))] rfl ?_
     refine TO_st (σ' := [.box [(sl tRelation db0.relations), (sl tFact db0.facts)], .box (spl (flat (tSl tInt).own out3) (n_27 * (tSl tInt).k) [.j]), .row (flat tInt.enc ([(t_1 : Int)] : (List Int))), .dead, .row (flat tInt.own us_30)]) rfl ?_
     refine Tp rfl rfl (pur_ixM (T := (tSl tInt)) sl53 rfl rfl hz_28 hv_29 rfl) rfl ?_
     refine TO_cons rfl (TOp_setH (T := (tSl tInt)) (i := n_27) (off := 0) (xs := out3) (v := v_25) (zs := [.j]) sz23 (by decide) rfl rfl rfl rfl rfl rfl hv_29 rfl rfl (lb rfl) rfl ?_)
     refine toe [(1, (.b 0 0)), (3, (.m [1] 0 out3.length (tSl tInt).k)), (9, (sl tFact db0.facts)), (10, (intA (db0.facts.length : Int))), (11, (intA (t_1 : Int))), (37, (.m [1] 0 out3.length (tSl tInt).k)), (38, (intA ((out3.length : Int) - 1))), (44, (.m [2] 0 ([(t_1 : Int)] : (List Int)).length tInt.k))] rfl ?_
     refine TO_st (σ' := [.box [(sl tRelation db0.relations), (sl tFact db0.facts)], .box (spl (flat (tSl tInt).own out3) (n_27 * (tSl tInt).k) [(.m [4] 0 us_30.length tInt.k)]), .row (flat tInt.enc ([(t_1 : Int)] : (List Int))), .dead, .row (flat tInt.own us_30)]) rfl ?_
     refine TO_absorbS (T := (tSl tInt)) (i := n_27) (xs := out3) (v := v_25) 1 0 4 rfl hv_29 rfl rfl rfl (by decide) tInt.pos (flat_len tInt.lenO _) (lb rfl) (lb rfl) rfl (nms_box rfl (nms_box (namesL_spl namesL_own rfl) (nms_row (nms_dead (nms_row nms_nil))))) ?_
     refine TO_st (σ' := [.box [(sl tRelation db0.relations), (sl tFact db0.facts)], .box (spl (flat (tSl tInt).own out3) (n_27 * (tSl tInt).k) [.o tInt.k (flat tInt.own us_30)]), .row (flat tInt.enc ([(t_1 : Int)] : (List Int))), .dead, .dead]) rfl ?_
     refine TO_rowifyS (T := (tSl tInt)) (i := n_27) (xs := out3) 1 us_30 hz_28 rfl hv_29 rfl (lb rfl) ?_
     refine TO_env (E' := [(1, (.b 0 0)), (3, (.m [1] 0 (out3.set (((out3.length : Int) - 1)).toNat us_30).length (tSl tInt).k)), (9, (sl tFact db0.facts)), (10, (intA (db0.facts.length : Int))), (11, (intA (t_1 : Int))), (37, (.m [1] 0 (out3.set (((out3.length : Int) - 1)).toNat us_30).length (tSl tInt).k)), (38, (intA ((out3.length : Int) - 1))), (44, (.m [2] 0 ([(t_1 : Int)] : (List Int)).length tInt.k))]) ⟨rfl, (congrArg (fun q => A.m [1] 0 q (tSl tInt).k) (List.length_set ..).symm), rfl, rfl, rfl, (congrArg (fun q => A.m [1] 0 q (tSl tInt).k) (List.length_set ..).symm), rfl, rfl, trivial⟩ ?_
     refine TO_st (σ' := [.box [(sl tRelation db0.relations), (sl tFact db0.facts)], .row (flat (tSl tInt).own (out3.set (((out3.length : Int) - 1)).toNat us_30)), .row (flat tInt.enc ([(t_1 : Int)] : (List Int))), .dead, .dead]) rfl ?_
     refine TO_nil ?_
     refine T_region ?_
     refine Tp rfl rfl (pur_add rfl rfl rfl (fits64 (by omega) (by omega))) rfl ?_
     refine pv tb 1 rfl ?_
     refine TO_nil ?_
     obtain rfl := some_inj H
     exact again (db0.facts.length - (t_1 + 1)) (t_1 + 1, (out3.set (((out3.length : Int) - 1)).toNat us_30)) (by omega) (w0 2) ⟨rfl, K2_⟩
    ·replace H := cond_f c_24 H
     refine T_region ?_
     refine pv tb 2 rfl ?_
     refine TO_cons rfl (TOp_lit (nn := 1) (k := 1) sl23 zero3 rfl rfl rfl rfl (by decide) ?_)
     refine TO_st (σ' := [.box [(sl tRelation db0.relations), (sl tFact db0.facts)], .row (flat (tSl tInt).own out3), .row (flat tInt.enc ([(t_1 : Int)] : (List Int)))]) rfl ?_
     refine TO_cons rfl (TOp_litB (nn := 1) (k := 1) sl53 zero23 rfl rfl rfl rfl (by decide) ?_)
     refine TO_st (σ' := [.box [(sl tRelation db0.relations), (sl tFact db0.facts)], .row (flat (tSl tInt).own out3), .row (flat tInt.enc ([(t_1 : Int)] : (List Int))), .box [(.m [2] 0 ([(t_1 : Int)] : (List Int)).length tInt.k)]]) rfl ?_
     refine TO_boxify 1 rfl (lb rfl) ?_
     obtain ⟨us_32, h_33, H⟩ := bind_inv H
     refine TO_cons rfl (TOp_appB (T := (tSl tInt)) (xs := out3) (v := ([(t_1 : Int)] : (List Int))) sl53 zero23 rfl bytes23 (by decide) rfl rfl rfl rfl rfl rfl rfl rfl h_33 (lb rfl) ?_)
     refine toe [(1, (.b 0 0)), (4, (intA (t_1 : Int))), (6, (intA ((out3.length : Int) - 1))), (9, (sl tFact db0.facts)), (10, (intA (db0.facts.length : Int))), (11, (intA (t_1 : Int))), (36, (boolA t36_4)), (48, (intA (t_1 : Int))), (51, .m [4] 0 (out3.length + 1) (tSl tInt).k)] rfl ?_
     refine TO_st (σ' := [.box [(sl tRelation db0.relations), (sl tFact db0.facts)], .dead, .row (flat tInt.enc ([(t_1 : Int)] : (List Int))), .box [(.m [2] 0 ([(t_1 : Int)] : (List Int)).length tInt.k)], .box (flat (tSl tInt).own out3 ++ [(.m [2] 0 ([(t_1 : Int)] : (List Int)).length tInt.k)])]) rfl ?_
     refine TO_absorbA (pr := flat (tSl tInt).own out3) 4 0 2 rfl rfl rfl (by decide) tInt.pos (flat_len tInt.len _) (lb rfl) (lb rfl) rfl (nms_box rfl (nms_dead (nms_row (nms_box rfl (nms_box (namesA namesL_own rfl) nms_nil))))) ?_
     refine TO_st (σ' := [.box [(sl tRelation db0.relations), (sl tFact db0.facts)], .dead, .dead, .box [(.m [2] 0 ([(t_1 : Int)] : (List Int)).length tInt.k)], .box (flat (tSl tInt).own out3 ++ [.o tInt.k (flat tInt.enc ([(t_1 : Int)] : (List Int)))])]) rfl ?_
     refine TO_rowifyT (T := (tSl tInt)) (xs := out3) (v := ([(t_1 : Int)] : (List Int))) 4 rfl rfl h_33 (lb rfl) ?_
     refine TO_st (σ' := [.box [(sl tRelation db0.relations), (sl tFact db0.facts)], .dead, .dead, .box [(.m [2] 0 ([(t_1 : Int)] : (List Int)).length tInt.k)], .row (flat (tSl tInt).own us_32)]) rfl ?_
     refine TO_move 1 4 (by decide) (lb rfl) rfl rfl (lb rfl) ?_
     refine TO_env (E' := [(1, (.b 0 0)), (4, (intA (t_1 : Int))), (6, (intA ((out3.length : Int) - 1))), (9, (sl tFact db0.facts)), (10, (intA (db0.facts.length : Int))), (11, (intA (t_1 : Int))), (36, (boolA t36_4)), (48, (intA (t_1 : Int))), (51, (.m [1] 0 us_32.length (tSl tInt).k))]) ⟨rfl, rfl, rfl, rfl, rfl, rfl, rfl, rfl, (congrArg (fun q => A.m [1] 0 q (tSl tInt).k) (app_len h_33)), trivial⟩ ?_
     refine TO_kill 3 (lb rfl) ?_
     refine TO_st (σ' := [.box [(sl tRelation db0.relations), (sl tFact db0.facts)], .row (flat (tSl tInt).own us_32), .dead, .dead, .dead]) rfl ?_
     refine pv tb 1 rfl ?_
     refine TO_nil ?_
     refine T_region ?_
     refine Tp rfl rfl (pur_add rfl rfl rfl (fits64 (by omega) (by omega))) rfl ?_
     refine pv tb 1 rfl ?_
     refine TO_nil ?_
     obtain rfl := some_inj H
     exact again (db0.facts.length - (t_1 + 1)) (t_1 + 1, us_32) (by omega) (w0 2) ⟨rfl, K2_⟩
  ·replace d2 := of_decide_eq_false d2
   obtain rfl := forS_end L2_ (by omega)
   refine T_exit ?_
   refine then_exit ?_
   refine then_exit ?_
   refine block_exit ?_
   replace H := N2_
   refine sr ?_
   refine pv tb 2 rfl ?_
   refine TO_nil ?_
   refine T_ret ?_
   obtain rfl := some_inj H
   exact end_pick (.tmp .nil) rfl [1] (by decide) rfl rfl rfl rfl rfl rfl
theorem m_impl_blocks_ok (db0 : Database) (r : (List (List Int))) (H : m_impl_blocks db0 = some r) : FnV prg 118 [(.g (tDatabase.enc db0))] (sl (tSl tInt) r) := (m_impl_blocks_own db0 r H).frz (frzT (T := (tSl tInt)) rfl)

set_option maxHeartbeats 1000000 in
/-- impl.Blocks -/
theorem m_impl_Blocks_own (db0 : Database) (r : (List (List Int))) (H : m_impl_Blocks db0 = some r) : FnO prg 45 [(.g (tDatabase.enc db0))] (.m [0] 0 r.length (tSl tInt).k) [.row (flat (tSl tInt).own r)] := by
  unfold m_impl_Blocks at H
  refine fnO_of_T Try.func45 rfl rfl (Nat.le_of_ble_eq_true rfl) ?_
  refine te [(0, (.g (tDatabase.enc db0)))] rfl ?_
  refine sr ?_
  refine TO_cons rfl (TOp_box rfl (boxAll rfl) rfl rfl ?_)
  refine pv tb 1 rfl ?_
  refine TO_nil ?_
  refine T_seq ?_
  refine sr ?_
  obtain ⟨r_1, h_2, H⟩ := bind_inv H
  refine pv tb 1 rfl ?_
  refine TO_cons rfl (TOp_callV (call_static ent117 rfl) (m_impl_IsValidDatabase_ok _ _ h_2) rfl rfl rfl ?_)
  refine pv tb 1 rfl ?_
  refine TO_nil ?_
  refine T_cond (t := (!r_1)) rfl (fun c_3 => ?_) (fun c_3 => ?_)
  ·replace H := cond_t c_3 H
   refine sr ?_
   refine pv tb 1 rfl ?_
   refine TO_nil ?_
   refine T_row0 ?_
   refine T_envL (E' := [(2, (.m [1] 0 ([] : (List (List Int))).length (tSl tInt).k))]) ⟨leM, trivial⟩ ?_
   refine T_st (σ' := [.box [(sl tRelation db0.relations), (sl tFact db0.facts)], .row (flat (tSl tInt).own ([] : (List (List Int))))]) rfl ?_
   refine T_ret ?_
   refine then_ret ?_
   obtain rfl := some_inj H
   exact end_pick (.tmp .nil) rfl [1] (by decide) rfl rfl rfl rfl rfl rfl
  ·replace H := cond_f c_3 H
   refine T_skip ?_
   refine sr ?_
   obtain ⟨r_4, h_5, H⟩ := bind_inv H
   refine pv tb 1 rfl ?_
   refine TO_cons rfl (TOp_callO (call_static ent118 rfl) rfl (m_impl_blocks_own _ _ h_5) rfl rfl rfl ?_)
   refine toe [(1, (.b 0 0)), (6, (.g (tDatabase.enc db0))), (7, (.m [1] 0 r_4.length (tSl tInt).k))] rfl ?_
   refine TO_st (σ' := [.box [(sl tRelation db0.relations), (sl tFact db0.facts)], .row (flat (tSl tInt).own r_4)]) rfl ?_
   refine pv tb 1 rfl ?_
   refine TO_nil ?_
   refine T_ret ?_
   obtain rfl := some_inj H
   exact end_pick (.tmp .nil) rfl [1] (by decide) rfl rfl rfl rfl rfl rfl
theorem m_impl_Blocks_ok (db0 : Database) (r : (List (List Int))) (H : m_impl_Blocks db0 = some r) : FnV prg 45 [(.g (tDatabase.enc db0))] (sl (tSl tInt) r) := (m_impl_Blocks_own db0 r H).frz (frzT (T := (tSl tInt)) rfl)

set_option maxHeartbeats 1000000 in
/-- slices.Index[[]int,int] -/
theorem m_slices_Index_Sint_int_ok (s0 : (List Int)) (v1 : Int) (r : Int) (H : m_slices_Index_Sint_int s0 v1 = some r) : FnV prg 177 [(sl tInt s0), (intA v1)] (intA r) := by
  unfold m_slices_Index_Sint_int at H
  refine fnV_of_T Try.func177 rfl rfl (Nat.le_of_ble_eq_true rfl) ?_
  refine te [(0, (sl tInt s0)), (1, (intA v1))] rfl ?_
  refine sr ?_
  refine pv tb 1 rfl ?_
  refine TO_nil ?_
  refine T_seq ?_
  refine sr ?_
  refine pv tb 1 rfl ?_
  refine Tp rfl rfl (pur_lenT (T := tInt) sl23 rfl rfl) rfl ?_
  refine pv tb 1 rfl ?_
  refine TO_nil ?_
  obtain ⟨O2_, L2_, N2_⟩ := bind_inv H
  clear H
  obtain ⟨B2_, hb2, L2_⟩ := gen_forL L2_
  refine T_block ?_
  refine T_loopX (fun k => fun (t_1 : Nat) => k = s0.length - t_1 ∧ forL B2_ (s0.drop t_1) (t_1 : Int) () = some O2_) (fun (t_1 : Nat) => [(0, (sl tInt s0)), (1, (intA v1)), (7, (intA (s0.length : Int))), (8, (intA (t_1 : Int)))]) (fun (t_1 : Nat) => []) _ (0 : Nat) (w0 0) ⟨rfl, L2_⟩ ?_
  rintro _ t_1 ⟨rfl, L2_⟩
  refine T_fact (len_sl (T := tInt) (.tmp 0) rfl) (fun hl2 => ?_)
  refine sr ?_
  refine pv tb 1 rfl ?_
  refine TO_nil ?_
  refine T_seq ?_
  refine T_cond (t := decide ((t_1 : Int) < (s0.length : Int))) rfl (fun d2 => ?_) (fun d2 => ?_)
  ·replace d2 := of_decide_eq_true d2
   obtain ⟨x_t_1, hx_t_1⟩ : ∃ v, (s0)[t_1]? = some v := ⟨_, List.getElem?_eq_getElem (by omega)⟩
   obtain ⟨C2_, H, K2_⟩ := forL_step L2_ hx_t_1
   rw [hb2] at H
   refine T_skip ?_
   refine T_seq ?_
   refine T_block ?_
   refine sr ?_
   refine pv tb 2 rfl ?_
   refine TO_nil ?_
   refine sr ?_
   refine pv tb 3 rfl ?_
   refine Tp rfl rfl (pur_ixT (T := tInt) sl23 rfl rfl rfl hx_t_1 rfl) rfl ?_
   refine Tp rfl rfl (pur_ldT (T := tInt) (i := t_1) (off := 0) rfl one3 rfl rfl hx_t_1 rfl) rfl ?_
   refine pv tb 1 rfl ?_
   refine TO_nil ?_
   refine T_cond (t := decide (v1 = x_t_1)) rfl (fun c_3 => ?_) (fun c_3 => ?_)
   ·replace H := cond_t c_3 H
    refine sr ?_
    refine pv tb 2 rfl ?_
    refine TO_nil ?_
    refine T_ret ?_
    refine block_ret ?_
    refine then_ret ?_
    refine then_ret ?_
    refine block_ret ?_
    refine then_ret ?_
    obtain rfl := some_inj H
    obtain rfl := some_inj K2_
    replace H := onS_r N2_
    obtain rfl := some_inj H
    refine end_ret (.tmp .nil) rfl rfl ⟨?_, rfl⟩
    rfl
   ·replace H := cond_f c_3 H
    refine T_skip ?_
    refine T_region ?_
    refine Tp rfl rfl (pur_add rfl rfl rfl (fits64 (by omega) (by omega))) rfl ?_
    refine pv tb 1 rfl ?_
    refine TO_nil ?_
    obtain rfl := some_inj H
    exact again (s0.length - (t_1 + 1)) (t_1 + 1) (by omega) (w0 0) ⟨rfl, K2_⟩
  ·replace d2 := of_decide_eq_false d2
   obtain rfl := forL_end L2_ (by omega)
   refine T_exit ?_
   refine then_exit ?_
   refine then_exit ?_
   refine block_exit ?_
   replace H := onS_l N2_
   refine sr ?_
   refine pv tb 1 rfl ?_
   refine TO_nil ?_
   refine T_ret ?_
   obtain rfl := some_inj H
   refine end_ret (.tmp .nil) rfl rfl ⟨?_, rfl⟩
   rfl

set_option maxHeartbeats 1000000 in
/-- slices.Contains[[]int,int] -/
theorem m_slices_Contains_Sint_int_ok (s0 : (List Int)) (v1 : Int) (r : Bool) (H : m_slices_Contains_Sint_int s0 v1 = some r) : FnV prg 157 [(sl tInt s0), (intA v1)] (boolA r) := by
  unfold m_slices_Contains_Sint_int at H
  refine fnV_of_T Try.func157 rfl rfl (Nat.le_of_ble_eq_true rfl) ?_
  refine te [(0, (sl tInt s0)), (1, (intA v1))] rfl ?_
  refine sr ?_
  refine pv tb 1 rfl ?_
  refine TO_nil ?_
  refine sr ?_
  obtain ⟨r_1, h_2, H⟩ := bind_inv H
  refine pv tb 2 rfl ?_
  refine TO_cons rfl (TOp_callV (call_static ent177 rfl) (m_slices_Index_Sint_int_ok _ _ _ h_2) rfl rfl rfl ?_)
  refine pv tb 2 rfl ?_
  refine TO_nil ?_
  refine T_ret ?_
  obtain rfl := some_inj H
  refine end_ret (.tmp .nil) rfl rfl ⟨?_, rfl⟩
  rfl

set_option maxHeartbeats 1000000 in
/-- impl.BlockOf -/
theorem m_impl_BlockOf_ok (db0 : Database) (index1 : Int) (r : (List Int)) (H : m_impl_BlockOf db0 index1 = some r) : FnV prg 105 [(.g (tDatabase.enc db0)), (intA index1)] (sl tInt r) := by
  unfold m_impl_BlockOf at H
  refine fnV_of_T Try.func105 rfl rfl (Nat.le_of_ble_eq_true rfl) ?_
  refine te [(0, (.g (tDatabase.enc db0))), (1, (intA index1))] rfl ?_
  refine sr ?_
  refine TO_cons rfl (TOp_box rfl (boxAll rfl) rfl rfl ?_)
  refine pv tb 1 rfl ?_
  refine TO_nil ?_
  refine T_seq ?_
  refine sr ?_
  obtain ⟨r_1, h_2, H⟩ := bind_inv H
  refine pv tb 1 rfl ?_
  refine TO_cons rfl (TOp_callV (call_static ent45 rfl) (m_impl_Blocks_ok _ _ h_2) rfl rfl rfl ?_)
  refine Tp rfl rfl (pur_lenT (T := (tSl tInt)) sl53 rfl rfl) rfl ?_
  refine pv tb 1 rfl ?_
  refine TO_nil ?_
  obtain ⟨O4_, L4_, N4_⟩ := bind_inv H
  clear H
  obtain ⟨B4_, hb4, L4_⟩ := gen_forL L4_
  refine T_block ?_
  refine T_loopX (fun k => fun (t_3 : Nat) => k = r_1.length - t_3 ∧ forL B4_ (r_1.drop t_3) (t_3 : Int) () = some O4_) (fun (t_3 : Nat) => [(1, (intA index1)), (8, (sl (tSl tInt) r_1)), (9, (intA (r_1.length : Int))), (10, (intA (t_3 : Int)))]) (fun (t_3 : Nat) => [.box [(sl tRelation db0.relations), (sl tFact db0.facts)]]) _ (0 : Nat) (w0 1) ⟨rfl, L4_⟩ ?_
  rintro _ t_3 ⟨rfl, L4_⟩
  refine T_fact (len_sl (T := (tSl tInt)) (.tmp 8) rfl) (fun hl4 => ?_)
  refine sr ?_
  refine pv tb 1 rfl ?_
  refine TO_nil ?_
  refine T_seq ?_
  refine T_cond (t := decide ((t_3 : Int) < (r_1.length : Int))) rfl (fun d4 => ?_) (fun d4 => ?_)
  ·replace d4 := of_decide_eq_true d4
   obtain ⟨x_t_3, hx_t_3⟩ : ∃ v, (r_1)[t_3]? = some v := ⟨_, List.getElem?_eq_getElem (by omega)⟩
   obtain ⟨C4_, H, K4_⟩ := forL_step L4_ hx_t_3
   rw [hb4] at H
   refine T_skip ?_
   refine T_seq ?_
   refine T_block ?_
   refine sr ?_
   refine Tp rfl rfl (pur_ixT (T := (tSl tInt)) sl53 rfl rfl rfl hx_t_3 rfl) rfl ?_
   refine Tp rfl rfl (pur_ldT (T := (tSl tInt)) (i := t_3) (off := 0) rfl one23 rfl rfl hx_t_3 rfl) rfl ?_
   refine pv tb 1 rfl ?_
   refine TO_nil ?_
   refine sr ?_
   obtain ⟨r_5, h_6, H⟩ := bind_inv H
   refine pv tb 2 rfl ?_
   refine TO_cons rfl (TOp_callV (call_static ent157 rfl) (m_slices_Contains_Sint_int_ok _ _ _ h_6) rfl rfl rfl ?_)
   refine TO_nil ?_
   refine T_cond (t := r_5) rfl (fun c_7 => ?_) (fun c_7 => ?_)
   ·replace H := cond_t c_7 H
    refine sr ?_
    refine pv tb 2 rfl ?_
    refine TO_nil ?_
    refine T_ret ?_
    refine block_ret ?_
    refine then_ret ?_
    refine then_ret ?_
    refine block_ret ?_
    refine then_ret ?_
    obtain rfl := some_inj H
    obtain rfl := some_inj K4_
    replace H := onS_r N4_
    obtain rfl := some_inj H
    refine end_ret (.tmp .nil) rfl rfl ⟨?_, rfl⟩
    rfl
   ·replace H := cond_f c_7 H
    refine T_skip ?_
    refine T_region ?_
    refine Tp rfl rfl (pur_add rfl rfl rfl (fits64 (by omega) (by omega))) rfl ?_
    refine pv tb 1 rfl ?_
    refine TO_nil ?_
    obtain rfl := some_inj H
    exact again (r_1.length - (t_3 + 1)) (t_3 + 1) (by omega) (w0 1) ⟨rfl, K4_⟩
  ·replace d4 := of_decide_eq_false d4
   obtain rfl := forL_end L4_ (by omega)
   refine T_exit ?_
   refine then_exit ?_
   refine then_exit ?_
   refine block_exit ?_
   replace H := onS_l N4_
   refine sr ?_
   refine pv tb 1 rfl ?_
   refine TO_nil ?_
   refine T_envL (E' := [(4, (sl tInt []))]) ⟨leN, trivial⟩ ?_
   refine T_ret ?_
   obtain rfl := some_inj H
   refine end_ret (.tmp .nil) rfl rfl ⟨?_, rfl⟩
   rfl

set_option maxHeartbeats 1000000 in
/-- impl.copyDatabase -/
theorem m_impl_copyDatabase_own (db0 : Database) (r : Database) (H : m_impl_copyDatabase db0 = some r) : FnO prg 107 [(.g (tDatabase.enc db0))] (.g [(.m [0] 0 r.relations.length tRelation.k), (.m [1] 0 r.facts.length tFact.k)]) [.row (flat tRelation.own r.relations), .row (flat tFact.own r.facts)] := by
  unfold m_impl_copyDatabase at H
  refine fnO_of_T Try.func107 rfl rfl (Nat.le_of_ble_eq_true rfl) ?_
  refine te [(0, (.g (tDatabase.enc db0)))] rfl ?_
  refine sr ?_
  refine TO_cons rfl (TOp_box rfl (boxAll rfl) rfl rfl ?_)
  refine TO_cons rfl (TOp_alloc zero48 rfl rfl ?_)
  refine TO_nil ?_
  refine sr ?_
  refine TO_cons rfl (TOp_lit (nn := 0) (k := 3) sl45 zero130 rfl rfl rfl rfl (by decide) ?_)
  refine TO_st (σ' := [.box [(sl tRelation db0.relations), (sl tFact db0.facts)], .box [.n, .n], .row (flat tRelation.enc ([] : (List Relation)))]) rfl ?_
  obtain ⟨us_1, h_2, H⟩ := bind_inv H
  refine pv tb 2 rfl ?_
  refine TO_cons rfl (TOp_appZ (T := tRelation) (f := tRelation.enc) (xs := ([] : (List Relation))) (ys := db0.relations) tRelation.len sl45 zero130 rfl bytes130 (by decide) rfl rfl rfl rfl (src_T (T := tRelation) rfl) (flat_cell tRelation _) h_2 (lb rfl) ?_)
  refine toe [(1, (.b 0 0)), (2, (.b 1 0)), (7, (.b 0 0)), (8, (sl tRelation db0.relations)), (9, (.m [2] 0 us_1.length tRelation.k))] rfl ?_
  refine TO_st (σ' := [.box [(sl tRelation db0.relations), (sl tFact db0.facts)], .box [.n, .n], .row (flat tRelation.enc us_1), .dead]) rfl ?_
  refine TO_cons rfl (TOp_lit (nn := 0) (k := 2) sl46 zero65 rfl rfl rfl rfl (by decide) ?_)
  refine TO_st (σ' := [.box [(sl tRelation db0.relations), (sl tFact db0.facts)], .box [.n, .n], .row (flat tRelation.enc us_1), .dead, .row (flat tFact.own ([] : (List Fact)))]) rfl ?_
  refine Tp rfl rfl (pur_build bld48 rfl rfl) rfl ?_
  refine TO_cons rfl (TOp_alloc zero48 rfl rfl ?_)
  refine TO_cons rfl (TOp_storeB sz48 rfl rfl rfl rfl rfl rfl rfl (by decide) (lb rfl) rfl ?_)
  refine TO_st (σ' := [.box [(sl tRelation db0.relations), (sl tFact db0.facts)], .box [.n, .n], .row (flat tRelation.enc us_1), .dead, .row (flat tFact.own ([] : (List Fact))), .box [(.m [2] 0 us_1.length tRelation.k), (.m [4] 0 ([] : (List Fact)).length tFact.k)]]) rfl ?_
  refine TO_nil ?_
  refine T_seq ?_
  refine sr ?_
  refine pv tb 2 rfl ?_
  refine Tp rfl rfl (pur_lenT (T := tFact) sl46 rfl rfl) rfl ?_
  refine pv tb 1 rfl ?_
  refine TO_nil ?_
  obtain ⟨O4_, L4_, N4_⟩ := bind_inv H
  clear H
  obtain ⟨B4_, hb4, L4_⟩ := gen_forS L4_
  refine T_block ?_
  refine T_loopX (fun k => fun (⟨t_3, box5_facts⟩ : Nat × (List Fact)) => k = db0.facts.length - t_3 ∧ forS B4_ (db0.facts.drop t_3) (t_3 : Int) box5_facts = some O4_) (fun (⟨t_3, box5_facts⟩ : Nat × (List Fact)) => [(2, (.b 1 0)), (3, (.b 5 0)), (13, (sl tFact db0.facts)), (14, (intA (db0.facts.length : Int))), (15, (intA (t_3 : Int)))]) (fun (⟨t_3, box5_facts⟩ : Nat × (List Fact)) => [.box [(sl tRelation db0.relations), (sl tFact db0.facts)], .box [.n, .n], .row (flat tRelation.enc us_1), .dead, .row (flat tFact.own box5_facts), .box [(.m [2] 0 us_1.length tRelation.k), (.m [4] 0 box5_facts.length tFact.k)]]) _ (0, ([] : (List Fact))) (w0 6) ⟨rfl, L4_⟩ ?_
  rintro _ ⟨t_3, box5_facts⟩ ⟨rfl, L4_⟩
  refine T_fact (len_sl (T := tFact) (.tmp 13) rfl) (fun hl4 => ?_)
  refine sr ?_
  refine pv tb 1 rfl ?_
  refine TO_nil ?_
  refine T_seq ?_
  refine T_cond (t := decide ((t_3 : Int) < (db0.facts.length : Int))) rfl (fun d4 => ?_) (fun d4 => ?_)
  ·replace d4 := of_decide_eq_true d4
   obtain ⟨x_t_3, hx_t_3⟩ : ∃ v, (db0.facts)[t_3]? = some v := ⟨_, List.getElem?_eq_getElem (by omega)⟩
   obtain ⟨C4_, H, K4_⟩ := forS_step L4_ hx_t_3
   rw [hb4] at H
   refine T_skip ?_
   refine T_seq ?_
   refine T_block ?_
   refine sr ?_
   refine Tp rfl rfl (pur_ixT (T := tFact) sl46 rfl rfl rfl hx_t_3 rfl) rfl ?_
   refine Tp rfl rfl (pur_ldTK (T := tFact) (i := t_3) (off := 0) rfl agg65 rfl rfl hx_t_3 (by decide) rfl) rfl ?_
   refine TO_cons rfl (TOp_alloc zero65 rfl rfl ?_)
   refine TO_cons rfl (TOp_storeB sz65 rfl rfl rfl rfl rfl rfl rfl (by decide) (lb rfl) rfl ?_)
   refine TO_st (σ' := [.box [(sl tRelation db0.relations), (sl tFact db0.facts)], .box [.n, .n], .row (flat tRelation.enc us_1), .dead, .row (flat tFact.own box5_facts), .box [(.m [2] 0 us_1.length tRelation.k), (.m [4] 0 box5_facts.length tFact.k)], .box [(intA x_t_3.relation), (sl tInt x_t_3.values)]]) rfl ?_
   refine TO_nil ?_
   obtain ⟨us_5, h_6, H⟩ := bind_inv H
   obtain ⟨us_7, h_8, H⟩ := bind_inv H
   refine T_pad ?_
   refine T_pad ?_
   refine T_pad ?_
   refine T_pad ?_
   refine T_regionPh 7 12 mixed rfl (by kernel_rfl) ?_
   refine pa tb [0, 1, 2, 3, 5, 6] 6 rfl (by kernel_rfl) rfl ?_
   refine t1 4 (by kernel_rfl) rfl rfl (TOp_lit (nn := 0) (k := 1) sl23 zero3 rfl rfl rfl rfl (by decide) ?_)
   refine tmw 7 11 (by decide) (lb rfl) rfl rfl (lb rfl) rfl ?_
   refine t1 7 (by kernel_rfl) rfl rfl (TOp_appY (T := tInt) (f := tInt.enc) (xs := ([] : (List Int))) (ys := x_t_3.values) tInt.len sl23 zero3 rfl bytes3 (by decide) rfl rfl rfl rfl (src_T (T := tInt) rfl) (flat_cell tInt _) h_6 ?_)
   refine tmw 7 12 (by decide) (lb rfl) rfl rfl (lb rfl) rfl ?_
   refine tae [(2, (.b 1 0)), (3, (.b 5 0)), (13, (sl tFact db0.facts)), (14, (intA (db0.facts.length : Int))), (15, (intA (t_3 : Int))), (20, (.m [4] 0 box5_facts.length tFact.k)), (22, (intA x_t_3.relation)), (26, (.m [7] 0 us_5.length tInt.k))] rfl ?_
   refine TA_st (σ' := [.dead, .dead, .row (flat tRelation.enc us_1), .dead, .row (flat tFact.own box5_facts), .dead, .dead, .row (flat tInt.enc us_5), .dead, .dead, .dead, .dead, .dead]) rfl ?_
   refine tf 8 rfl (pur_build bld65 rfl rfl) rfl rfl (by kernel_rfl) ?_
   refine t1 9 (by kernel_rfl) rfl rfl (TOp_litB (nn := 1) (k := 2) sl46 zero65 rfl rfl rfl rfl (by decide) ?_)
   refine TA_st (σ' := [.dead, .dead, .row (flat tRelation.enc us_1), .dead, .row (flat tFact.own box5_facts), .dead, .dead, .row (flat tInt.enc us_5), .dead, .dead, .dead, .dead, .dead, .box [(intA x_t_3.relation), (.m [7] 0 us_5.length tInt.k)]]) rfl ?_
   refine tmw 10 4 (by decide) (lb rfl) rfl rfl (lb rfl) rfl ?_
   refine t1 10 (by kernel_rfl) rfl rfl (TOp_boxify 10 rfl (lb rfl) (TOp_appB (T := tFact) (xs := box5_facts) (v := ({ relation := x_t_3.relation, values := us_5 } : Fact)) sl46 zero65 rfl bytes65 (by decide) rfl rfl rfl rfl rfl rfl rfl rfl h_8 (lb rfl) ?_))
   refine tae [(2, (.b 1 0)), (3, (.b 5 0)), (13, (sl tFact db0.facts)), (14, (intA (db0.facts.length : Int))), (15, (intA (t_3 : Int))), (22, (intA x_t_3.relation)), (29, .m [14] 0 (box5_facts.length + 1) tFact.k)] rfl ?_
   refine TA_st (σ' := [.dead, .dead, .row (flat tRelation.enc us_1), .dead, .dead, .dead, .dead, .row (flat tInt.enc us_5), .dead, .dead, .dead, .dead, .dead, .box [(intA x_t_3.relation), (.m [7] 0 us_5.length tInt.k)], .box (flat tFact.own box5_facts ++ [(intA x_t_3.relation), (.m [7] 0 us_5.length tInt.k)])]) rfl ?_
   refine TA_absorbA (pr := flat tFact.own box5_facts) 14 1 7 rfl rfl rfl (by decide) tInt.pos (flat_len tInt.len _) (lb rfl) (lb rfl) rfl (nms_dead (nms_dead (nms_row (nms_dead (nms_dead (nms_dead (nms_dead (nms_row (nms_dead (nms_dead (nms_dead (nms_dead (nms_dead (nms_box rfl (nms_box (namesA namesL_own rfl) nms_nil))))))))))))))) ?_
   refine TA_st (σ' := [.dead, .dead, .row (flat tRelation.enc us_1), .dead, .dead, .dead, .dead, .dead, .dead, .dead, .dead, .dead, .dead, .box [(intA x_t_3.relation), (.m [7] 0 us_5.length tInt.k)], .box (flat tFact.own box5_facts ++ [(intA x_t_3.relation), .o tInt.k (flat tInt.enc us_5)])]) rfl ?_
   refine TA_rowifyT (T := tFact) (xs := box5_facts) (v := ({ relation := x_t_3.relation, values := us_5 } : Fact)) 14 rfl rfl h_8 (lb rfl) ?_
   refine TA_st (σ' := [.dead, .dead, .row (flat tRelation.enc us_1), .dead, .dead, .dead, .dead, .dead, .dead, .dead, .dead, .dead, .dead, .box [(intA x_t_3.relation), (.m [7] 0 us_5.length tInt.k)], .row (flat tFact.own us_7)]) rfl ?_
   refine TA_move 10 14 (by decide) (lb rfl) rfl rfl (lb rfl) ?_
   refine TA_env (E' := [(2, (.b 1 0)), (3, (.b 5 0)), (13, (sl tFact db0.facts)), (14, (intA (db0.facts.length : Int))), (15, (intA (t_3 : Int))), (22, (intA x_t_3.relation)), (29, (.m [10] 0 us_7.length tFact.k))]) ⟨rfl, rfl, rfl, rfl, rfl, rfl, (congrArg (fun q => A.m [10] 0 q tFact.k) (app_len h_8)), trivial⟩ ?_
   refine TA_kill 13 (lb rfl) ?_
   refine TA_st (σ' := [.dead, .dead, .row (flat tRelation.enc us_1), .dead, .dead, .dead, .dead, .dead, .dead, .dead, .row (flat tFact.own us_7), .dead, .dead, .dead, .dead]) rfl ?_
   refine pa tb [11] 0 rfl (by kernel_rfl) rfl ?_
   refine TA_nil (by kernel_rfl) ?_
   refine TA_st (σ' := [.box [(sl tRelation db0.relations), (sl tFact db0.facts)], .box [.n, .n], .row (flat tRelation.enc us_1), .dead, .dead, .box [(.m [2] 0 us_1.length tRelation.k), (.m [4] 0 box5_facts.length tFact.k)], .box [(intA x_t_3.relation), (sl tInt x_t_3.values)], .dead, .dead, .dead, .row (flat tFact.own us_7), .dead, .dead, .dead, .dead]) rfl ?_
   refine tmv 4 10 (by decide) (lb rfl) rfl rfl (lb rfl) ?_
   refine TA_st (σ' := [.box [(sl tRelation db0.relations), (sl tFact db0.facts)], .box [.n, .n], .row (flat tRelation.enc us_1), .dead, .row (flat tFact.own us_7), .box [(.m [2] 0 us_1.length tRelation.k), .j], .box [(intA x_t_3.relation), (sl tInt x_t_3.values)], .dead, .dead, .dead, .dead, .dead, .dead, .dead, .dead]) rfl ?_
   refine t1 12 (by kernel_rfl) rfl rfl (TOp_storeB sz46 rfl rfl rfl rfl rfl rfl rfl (by decide) (lb rfl) rfl ?_)
   refine TA_st (σ' := [.box [(sl tRelation db0.relations), (sl tFact db0.facts)], .box [.n, .n], .row (flat tRelation.enc us_1), .dead, .row (flat tFact.own us_7), .box [(.m [2] 0 us_1.length tRelation.k), (.m [4] 0 us_7.length tFact.k)], .box [(intA x_t_3.relation), (sl tInt x_t_3.values)], .dead, .dead, .dead, .dead, .dead, .dead, .dead, .dead]) rfl ?_
   refine TA_nil (by kernel_rfl) ?_
   refine T_region ?_
   refine Tp rfl rfl (pur_add rfl rfl rfl (fits64 (by omega) (by omega))) rfl ?_
   refine pv tb 1 rfl ?_
   refine TO_nil ?_
   obtain rfl := some_inj H
   exact again (db0.facts.length - (t_3 + 1)) (t_3 + 1, us_7) (by omega) (w0 6) ⟨rfl, K4_⟩
  ·replace d4 := of_decide_eq_false d4
   obtain rfl := forS_end L4_ (by omega)
   refine T_exit ?_
   refine then_exit ?_
   refine then_exit ?_
   refine block_exit ?_
   replace H := N4_
   refine sr ?_
   refine pv tb 1 rfl ?_
   refine TO_cons rfl (TOp_storeB sz48 rfl rfl rfl rfl rfl rfl rfl (by decide) (lb rfl) rfl ?_)
   refine TO_st (σ' := [.box [(sl tRelation db0.relations), (sl tFact db0.facts)], .box [(.m [2] 0 us_1.length tRelation.k), (.m [4] 0 box5_facts.length tFact.k)], .row (flat tRelation.enc us_1), .dead, .row (flat tFact.own box5_facts), .box [(.m [2] 0 us_1.length tRelation.k), (.m [4] 0 box5_facts.length tFact.k)]]) rfl ?_
   refine TO_nil ?_
   refine T_ret ?_
   obtain rfl := some_inj H
   exact end_pick (.cellK rfl agg48 rfl (lb rfl) .nil) rfl [2, 4] (by decide) rfl rfl rfl rfl rfl rfl
theorem m_impl_copyDatabase_ok (db0 : Database) (r : Database) (H : m_impl_copyDatabase db0 = some r) : FnV prg 107 [(.g (tDatabase.enc db0))] (.g (tDatabase.enc r)) := (m_impl_copyDatabase_own db0 r H).frz (frzOK_g (frz_cons (frzT (T := tRelation) rfl) (frz_cons (frzT (T := tFact) rfl) frz_nil)).1 (frz_cons (frzT (T := tRelation) rfl) (frz_cons (frzT (T := tFact) rfl) frz_nil)).2)

set_option maxHeartbeats 1000000 in
/-- slices.Delete -/
theorem m_slices_Delete_Simpl_Fact_impl_Fact_x (s0 : List Fact) (i1 j2 : Int) (r : List Fact) (H : m_slices_Delete_Simpl_Fact_impl_Fact s0 i1 j2 = some r) : FnS prg 160 [(.m [0] 0 s0.length tFact.k), (intA i1), (intA j2)] [.row (flat tFact.enc s0)] (.m [0] 0 r.length tFact.k) [.row (flat tFact.enc r)] := by
  unfold m_slices_Delete_Simpl_Fact_impl_Fact at H
  obtain ⟨i, j, rfl, rfl, h1, h2, rfl⟩ := cutOut_inv H
  refine fnS_of_T Try.func160 rfl rfl (lb rfl) ?_
  refine te [(0, (.m [0] 0 s0.length tFact.k)), (1, (intA (i : Int))), (2, (intA (j : Int)))] rfl ?_
  refine sr ?_
  refine Tp rfl rfl (pur_assign rfl) rfl ?_
  refine TO_nil ?_
  refine te [(0, (.m [0] 0 s0.length tFact.k)), (1, (intA (i : Int))), (2, (intA (j : Int)))] rfl ?_
  refine sr ?_
  refine Tp rfl rfl (pur_move rfl) rfl ?_
  refine Tp rfl rfl (pur_move rfl) rfl ?_
  refine Tp rfl rfl (pur_move rfl) rfl ?_
  refine Tp rfl rfl (pur_move rfl) rfl ?_
  refine Tp rfl rfl (pur_len_m sl46 rfl rfl) rfl ?_
  refine Tp rfl rfl (pur_cut3J (i := i) (j := j) (q := s0.length) sl46 rfl rfl rfl rfl h1 h2 (Nat.le_refl _) rfl) rfl ?_
  refine TO_nil ?_
  refine te [(0, (.m [0] 0 s0.length tFact.k)), (1, (intA (i : Int))), (2, (intA (j : Int)))] rfl ?_
  refine T_seq ?_
  refine sr ?_
  refine Tp rfl rfl (pur_move rfl) rfl ?_
  refine Tp rfl rfl (pur_move rfl) rfl ?_
  refine Tp rfl rfl (pur_eql rfl rfl rfl) rfl ?_
  refine TO_nil ?_
  refine te [(0, (.m [0] 0 s0.length tFact.k)), (1, (intA (i : Int))), (2, (intA (j : Int))), (16, (boolA (decide ((i : Int) = (j : Int)))))] rfl ?_
  refine T_cond (t := decide ((i : Int) = (j : Int))) rfl (fun c => ?_) (fun c => ?_)
  ·have e : i = j := by have := of_decide_eq_true c; omega
   subst e
   refine sr ?_
   refine Tp rfl rfl (pur_move rfl) rfl ?_
   refine Tp rfl rfl (pur_assign rfl) rfl ?_
   refine TO_nil ?_
   refine te [(6, (.m [0] 0 s0.length tFact.k))] rfl ?_
   refine T_ret ?_
   refine then_ret ?_
   rw [List.take_append_drop]
   exact end_pickX (.tmp .nil) rfl [0] (by decide) (lb rfl) rfl (lb rfl) rfl rfl rfl rfl rfl rfl
  ·have hij : i < j := by have := of_decide_eq_false c; omega
   refine T_skip ?_
   refine te [(0, (.m [0] 0 s0.length tFact.k)), (1, (intA (i : Int))), (2, (intA (j : Int)))] rfl ?_
   refine sr ?_
   refine Tp rfl rfl (pur_move rfl) rfl ?_
   refine Tp rfl rfl (pur_len_m sl46 rfl rfl) rfl ?_
   refine Tp rfl rfl (pur_assign rfl) rfl ?_
   refine TO_nil ?_
   refine te [(0, (.m [0] 0 s0.length tFact.k)), (1, (intA (i : Int))), (2, (intA (j : Int))), (7, (intA (s0.length : Int)))] rfl ?_
   refine T_del (Y := tFact) (i := i) (j := j) (l := 0) sl46 zero65 rfl mixed ⟨rfl, rfl, rfl⟩ ⟨rfl, rfl, rfl⟩ ⟨rfl, rfl, rfl⟩ ⟨rfl, rfl, rfl⟩ ⟨rfl, rfl, rfl⟩ ⟨rfl, rfl, rfl⟩ ⟨rfl, rfl, rfl⟩ ⟨rfl, rfl, rfl⟩
    (c := fun q => #[decide (0 < q), decide (1 < q), decide (2 < q), decide (3 < q), decide (4 < q), decide (5 < q), decide (6 < q), decide (7 < q)]) (by decide) (by decide)
    (fun q h1 h2 => match q, h1, h2 with | 0, _, _ => (by kernel_rfl) | 1, _, _ => (by kernel_rfl) | 2, _, _ => (by kernel_rfl) | 3, _, _ => (by kernel_rfl) | 4, _, _ => (by kernel_rfl) | 5, _, _ => (by kernel_rfl) | 6, _, h => absurd rfl h | 7, _, _ => (by kernel_rfl) | _ + 8, h, _ => absurd h (by omega))
    (by kernel_rfl) (by kernel_rfl) ⟨rfl, rfl, rfl⟩ ⟨rfl, rfl, rfl⟩ ⟨rfl, rfl, rfl⟩ ⟨rfl, rfl, rfl⟩ ⟨rfl, rfl, rfl⟩ ⟨rfl, rfl, rfl⟩ (by decide) hij h2 rfl rfl rfl rfl rfl ?_
   refine sr ?_
   refine Tp rfl rfl (pur_move rfl) rfl ?_
   refine Tp rfl rfl (pur_assign rfl) rfl ?_
   refine TO_nil ?_
   refine te [(6, (.m [0] 0 (s0.take i ++ s0.drop j).length tFact.k))] rfl ?_
   refine T_ret ?_
   exact end_pickX (.tmp .nil) rfl [0] (by decide) (lb rfl) rfl (lb rfl) rfl rfl rfl rfl rfl rfl


set_option maxHeartbeats 1000000 in
/-- slices.Delete, the elements with their rows. -/
theorem m_slices_Delete_Simpl_Fact_impl_Fact_xo (s0 : List Fact) (i1 j2 : Int) (r : List Fact) (H : m_slices_Delete_Simpl_Fact_impl_Fact s0 i1 j2 = some r) : FnS prg 160 [(.m [0] 0 s0.length tFact.k), (intA i1), (intA j2)] [.row (flat tFact.own s0)] (.m [1] 0 r.length tFact.k) [.dead, .row (flat tFact.own r)] := by
  unfold m_slices_Delete_Simpl_Fact_impl_Fact at H
  obtain ⟨i, j, rfl, rfl, h1, h2, rfl⟩ := cutOut_inv H
  refine fnS_of_T Try.func160 rfl rfl (lb rfl) ?_
  refine te [(0, (.m [0] 0 s0.length tFact.k)), (1, (intA (i : Int))), (2, (intA (j : Int)))] rfl ?_
  refine sr ?_
  refine Tp rfl rfl (pur_assign rfl) rfl ?_
  refine TO_nil ?_
  refine te [(0, (.m [0] 0 s0.length tFact.k)), (1, (intA (i : Int))), (2, (intA (j : Int)))] rfl ?_
  refine sr ?_
  refine Tp rfl rfl (pur_move rfl) rfl ?_
  refine Tp rfl rfl (pur_move rfl) rfl ?_
  refine Tp rfl rfl (pur_move rfl) rfl ?_
  refine Tp rfl rfl (pur_move rfl) rfl ?_
  refine Tp rfl rfl (pur_len_m sl46 rfl rfl) rfl ?_
  refine Tp rfl rfl (pur_cut3J (i := i) (j := j) (q := s0.length) sl46 rfl rfl rfl rfl h1 h2 (Nat.le_refl _) rfl) rfl ?_
  refine TO_nil ?_
  refine te [(0, (.m [0] 0 s0.length tFact.k)), (1, (intA (i : Int))), (2, (intA (j : Int)))] rfl ?_
  refine T_seq ?_
  refine sr ?_
  refine Tp rfl rfl (pur_move rfl) rfl ?_
  refine Tp rfl rfl (pur_move rfl) rfl ?_
  refine Tp rfl rfl (pur_eql rfl rfl rfl) rfl ?_
  refine TO_nil ?_
  refine te [(0, (.m [0] 0 s0.length tFact.k)), (1, (intA (i : Int))), (2, (intA (j : Int))), (16, (boolA (decide ((i : Int) = (j : Int)))))] rfl ?_
  refine T_cond (t := decide ((i : Int) = (j : Int))) rfl (fun c => ?_) (fun c => ?_)
  ·have e : i = j := by have := of_decide_eq_true c; omega
   subst e
   refine T_pad ?_
   refine T_move' 1 0 (by decide) (lb rfl) rfl rfl (lb rfl) ?_
   refine te [(0, (.m [1] 0 s0.length tFact.k))] rfl ?_
   refine T_st (σ' := [.dead, .row (flat tFact.own s0)]) rfl ?_
   refine sr ?_
   refine Tp rfl rfl (pur_move rfl) rfl ?_
   refine Tp rfl rfl (pur_assign rfl) rfl ?_
   refine TO_nil ?_
   refine te [(6, (.m [1] 0 s0.length tFact.k))] rfl ?_
   refine T_ret ?_
   refine then_ret ?_
   rw [List.take_append_drop]
   exact end_pickX (.tmp .nil) rfl [0, 1] (by decide) (lb rfl) rfl (lb rfl) rfl rfl rfl rfl rfl rfl
  ·have hij : i < j := by have := of_decide_eq_false c; omega
   refine T_skip ?_
   refine te [(0, (.m [0] 0 s0.length tFact.k)), (1, (intA (i : Int))), (2, (intA (j : Int)))] rfl ?_
   refine sr ?_
   refine Tp rfl rfl (pur_move rfl) rfl ?_
   refine Tp rfl rfl (pur_len_m sl46 rfl rfl) rfl ?_
   refine Tp rfl rfl (pur_assign rfl) rfl ?_
   refine TO_nil ?_
   refine te [(0, (.m [0] 0 s0.length tFact.k)), (1, (intA (i : Int))), (2, (intA (j : Int))), (7, (intA (s0.length : Int)))] rfl ?_
   refine T_delO (Y := tFact) (i := i) (j := j) (l := 0) sl46 zero65 rfl mixed ⟨rfl, rfl, rfl⟩ ⟨rfl, rfl, rfl⟩ ⟨rfl, rfl, rfl⟩ ⟨rfl, rfl, rfl⟩ ⟨rfl, rfl, rfl⟩ ⟨rfl, rfl, rfl⟩ ⟨rfl, rfl, rfl⟩ ⟨rfl, rfl, rfl⟩
    (c := fun q => #[decide (0 < q), decide (1 < q), decide (2 < q), decide (3 < q), decide (4 < q), decide (5 < q), decide (6 < q), decide (7 < q)]) (by decide) (by decide)
    (fun q h1 h2 => match q, h1, h2 with | 0, _, _ => (by kernel_rfl) | 1, _, _ => (by kernel_rfl) | 2, _, _ => (by kernel_rfl) | 3, _, _ => (by kernel_rfl) | 4, _, _ => (by kernel_rfl) | 5, _, _ => (by kernel_rfl) | 6, _, h => absurd rfl h | 7, _, _ => (by kernel_rfl) | _ + 8, h, _ => absurd h (by omega))
    (by kernel_rfl) (by kernel_rfl) ⟨rfl, rfl, rfl⟩ ⟨rfl, rfl, rfl⟩ ⟨rfl, rfl, rfl⟩ ⟨rfl, rfl, rfl⟩ ⟨rfl, rfl, rfl⟩ ⟨rfl, rfl, rfl⟩ (by decide) hij h2 rfl rfl rfl rfl rfl ?_
   refine sr ?_
   refine Tp rfl rfl (pur_move rfl) rfl ?_
   refine Tp rfl rfl (pur_assign rfl) rfl ?_
   refine TO_nil ?_
   refine te [(6, (.m [1] 0 (s0.take i ++ s0.drop j).length tFact.k))] rfl ?_
   refine T_ret ?_
   exact end_pickX (.tmp .nil) rfl [0, 1] (by decide) (lb rfl) rfl (lb rfl) rfl rfl rfl rfl rfl rfl


set_option maxHeartbeats 1000000 in
/-- impl.DeleteFact -/
theorem m_impl_DeleteFact_own (db0 : Database) (fact1 : Fact) (r : (Database × Bool)) (H : m_impl_DeleteFact db0 fact1 = some r) : FnO prg 108 [(.g (tDatabase.enc db0)), (.g (tFact.enc fact1))] (.t [(.g [(.m [0] 0 r.1.relations.length tRelation.k), (.m [1] 0 r.1.facts.length tFact.k)]), (boolA r.2)]) [.row (flat tRelation.own r.1.relations), .row (flat tFact.own r.1.facts)] := by
  unfold m_impl_DeleteFact at H
  refine fnO_of_T Try.func108 rfl rfl (Nat.le_of_ble_eq_true rfl) ?_
  refine te [(0, (.g (tDatabase.enc db0))), (1, (.g (tFact.enc fact1)))] rfl ?_
  refine sr ?_
  refine TO_cons rfl (TOp_box rfl (boxAll rfl) rfl rfl ?_)
  refine TO_cons rfl (TOp_box rfl (boxAll rfl) rfl rfl ?_)
  refine TO_cons rfl (TOp_alloc zero48 rfl rfl ?_)
  refine pv tb 1 rfl ?_
  refine TO_nil ?_
  refine sr ?_
  obtain ⟨r_1, h_2, H⟩ := bind_inv H
  refine pv tb 1 rfl ?_
  refine TO_cons rfl (TOp_callO (call_static ent107 rfl) rfl (m_impl_copyDatabase_own _ _ h_2) rfl rfl rfl ?_)
  refine toe [(2, (.b 0 0)), (3, (.b 1 0)), (4, (.b 2 0)), (8, (.g (tDatabase.enc db0))), (9, (.g [(.m [3] 0 r_1.relations.length tRelation.k), (.m [4] 0 r_1.facts.length tFact.k)]))] rfl ?_
  refine TO_st (σ' := [.box [(sl tRelation db0.relations), (sl tFact db0.facts)], .box [(intA fact1.relation), (sl tInt fact1.values)], .box [.n, .n], .row (flat tRelation.own r_1.relations), .row (flat tFact.own r_1.facts)]) rfl ?_
  refine TO_cons rfl (TOp_alloc zero48 rfl rfl ?_)
  refine TO_cons rfl (TOp_storeB sz48 rfl rfl rfl rfl rfl rfl rfl (by decide) (lb rfl) rfl ?_)
  refine TO_st (σ' := [.box [(sl tRelation db0.relations), (sl tFact db0.facts)], .box [(intA fact1.relation), (sl tInt fact1.values)], .box [.n, .n], .row (flat tRelation.own r_1.relations), .row (flat tFact.own r_1.facts), .box [(.m [3] 0 r_1.relations.length tRelation.k), (.m [4] 0 r_1.facts.length tFact.k)]]) rfl ?_
  refine TO_nil ?_
  refine T_seq ?_
  refine sr ?_
  obtain ⟨r_3, h_4, H⟩ := bind_inv H
  refine pv tb 2 rfl ?_
  refine TO_cons rfl (TOp_callV (call_static ent49 rfl) (m_impl_ContainsFact_ok _ _ _ h_4) rfl rfl rfl ?_)
  refine pv tb 1 rfl ?_
  refine TO_nil ?_
  refine T_cond (t := (!r_3)) rfl (fun c_5 => ?_) (fun c_5 => ?_)
  ·replace H := cond_t c_5 H
   refine sr ?_
   refine pv tb 1 rfl ?_
   refine TO_cons rfl (TOp_storeB sz48 rfl rfl rfl rfl rfl rfl rfl (by decide) (lb rfl) rfl ?_)
   refine TO_st (σ' := [.box [(sl tRelation db0.relations), (sl tFact db0.facts)], .box [(intA fact1.relation), (sl tInt fact1.values)], .box [(.m [3] 0 r_1.relations.length tRelation.k), (.m [4] 0 r_1.facts.length tFact.k)], .row (flat tRelation.own r_1.relations), .row (flat tFact.own r_1.facts), .box [(.m [3] 0 r_1.relations.length tRelation.k), (.m [4] 0 r_1.facts.length tFact.k)]]) rfl ?_
   refine pv tb 1 rfl ?_
   refine TO_nil ?_
   refine T_ret ?_
   refine then_ret ?_
   obtain rfl := some_inj H
   exact end_pick (.cellK rfl agg48 rfl (lb rfl) (.tmp .nil)) rfl [3, 4] (by decide) rfl rfl rfl rfl rfl rfl
  ·replace H := cond_f c_5 H
   refine T_skip ?_
   refine sr ?_
   obtain ⟨r_6, h_7, H⟩ := bind_inv H
   refine pv tb 2 rfl ?_
   refine TO_cons rfl (TOp_callV (call_static ent106 rfl) (m_impl_FactIndex_ok _ _ _ h_7) rfl rfl rfl ?_)
   refine pv tb 1 rfl ?_
   refine TO_nil ?_
   refine sr ?_
   obtain ⟨r_8, h_9, H⟩ := bind_inv H
   refine pv tb 5 rfl ?_
   refine TO_cons rfl (TOp_callS [4] (call_static ent160 rfl) (by decide) rfl rfl rfl rfl rfl rfl (m_slices_Delete_Simpl_Fact_impl_Fact_xo _ _ _ _ h_9) rfl rfl ?_)
   refine toe [(4, (.b 2 0)), (6, (.b 5 0)), (7, (intA r_6)), (18, (.b 5 1)), (20, (intA r_6)), (21, (intA r_6)), (22, (intA (w64 (r_6 + 1)))), (23, (.m [6] 0 r_8.length tFact.k))] rfl ?_
   refine TO_st (σ' := [.box [(sl tRelation db0.relations), (sl tFact db0.facts)], .box [(intA fact1.relation), (sl tInt fact1.values)], .box [.n, .n], .row (flat tRelation.own r_1.relations), .dead, .box [(.m [3] 0 r_1.relations.length tRelation.k), (.m [4] 0 r_1.facts.length tFact.k)], .row (flat tFact.own r_8)]) rfl ?_
   refine pv tb 1 rfl ?_
   refine TO_cons rfl (TOp_storeB sz46 rfl rfl rfl rfl rfl rfl rfl (by decide) (lb rfl) rfl ?_)
   refine TO_st (σ' := [.box [(sl tRelation db0.relations), (sl tFact db0.facts)], .box [(intA fact1.relation), (sl tInt fact1.values)], .box [.n, .n], .row (flat tRelation.own r_1.relations), .dead, .box [(.m [3] 0 r_1.relations.length tRelation.k), (.m [6] 0 r_8.length tFact.k)], .row (flat tFact.own r_8)]) rfl ?_
   refine TO_nil ?_
   refine sr ?_
   refine pv tb 1 rfl ?_
   refine TO_cons rfl (TOp_storeB sz48 rfl rfl rfl rfl rfl rfl rfl (by decide) (lb rfl) rfl ?_)
   refine TO_st (σ' := [.box [(sl tRelation db0.relations), (sl tFact db0.facts)], .box [(intA fact1.relation), (sl tInt fact1.values)], .box [(.m [3] 0 r_1.relations.length tRelation.k), (.m [6] 0 r_8.length tFact.k)], .row (flat tRelation.own r_1.relations), .dead, .box [(.m [3] 0 r_1.relations.length tRelation.k), (.m [6] 0 r_8.length tFact.k)], .row (flat tFact.own r_8)]) rfl ?_
   refine pv tb 1 rfl ?_
   refine TO_nil ?_
   refine T_ret ?_
   obtain rfl := some_inj H
   exact end_pick (.cellK rfl agg48 rfl (lb rfl) (.tmp .nil)) rfl [3, 6] (by decide) rfl rfl rfl rfl rfl rfl
theorem m_impl_DeleteFact_ok (db0 : Database) (fact1 : Fact) (r : (Database × Bool)) (H : m_impl_DeleteFact db0 fact1 = some r) : FnV prg 108 [(.g (tDatabase.enc db0)), (.g (tFact.enc fact1))] (.t [(.g (tDatabase.enc r.1)), (boolA r.2)]) := (m_impl_DeleteFact_own db0 fact1 r H).frz (frzOK_t (frz_cons (frzOK_g (frz_cons (frzT (T := tRelation) rfl) (frz_cons (frzT (T := tFact) rfl) frz_nil)).1 (frz_cons (frzT (T := tRelation) rfl) (frz_cons (frzT (T := tFact) rfl) frz_nil)).2) (frz_cons (frz_loose rfl) frz_nil)).1 (frz_cons (frzOK_g (frz_cons (frzT (T := tRelation) rfl) (frz_cons (frzT (T := tFact) rfl) frz_nil)).1 (frz_cons (frzT (T := tRelation) rfl) (frz_cons (frzT (T := tFact) rfl) frz_nil)).2) (frz_cons (frz_loose rfl) frz_nil)).2)

set_option maxHeartbeats 1000000 in
/-- impl.RetractFact -/
theorem m_impl_RetractFact_own (db0 : Database) (fact1 : Fact) (r : (Database × Bool)) (H : m_impl_RetractFact db0 fact1 = some r) : FnO prg 39 [(.g (tDatabase.enc db0)), (.g (tFact.enc fact1))] (.t [(.g [(.m [0] 0 r.1.relations.length tRelation.k), (.m [1] 0 r.1.facts.length tFact.k)]), (boolA r.2)]) [.row (flat tRelation.own r.1.relations), .row (flat tFact.own r.1.facts)] := by
  unfold m_impl_RetractFact at H
  refine fnO_of_T Try.func39 rfl rfl (Nat.le_of_ble_eq_true rfl) ?_
  refine te [(0, (.g (tDatabase.enc db0))), (1, (.g (tFact.enc fact1)))] rfl ?_
  refine sr ?_
  refine TO_cons rfl (TOp_box rfl (boxAll rfl) rfl rfl ?_)
  refine TO_cons rfl (TOp_box rfl (boxAll rfl) rfl rfl ?_)
  refine TO_cons rfl (TOp_alloc zero48 rfl rfl ?_)
  refine pv tb 1 rfl ?_
  refine TO_nil ?_
  refine T_seq ?_
  obtain ⟨t18_1, J_1, H_2⟩ := bind_inv H
  refine T_cutX (fun x => t18_1 = x) (fun (t18_1 : Bool) => [(2, (.b 0 0)), (3, (.b 1 0)), (4, (.b 2 0)), (18, (boolA t18_1))]) (fun (t18_1 : Bool) => [.box [(sl tRelation db0.relations), (sl tFact db0.facts)], .box [(intA fact1.relation), (sl tInt fact1.values)], .box [.n, .n]]) ?_ ?_
  ·replace H := J_1
   obtain ⟨r_3, h_4, H⟩ := bind_inv H
   refine T_caseB (!r_3) (fun g_5 => ?_) (fun g_5 => ?_)
   ·replace H := cond_t g_5 H
    refine T_regionP 3 mixed rfl ?_
    refine pa tb [0, 1] 11 rfl (by kernel_rfl) rfl ?_
    refine TA_allG [2] (by kernel_rfl) (by decide) ⟨⟨_, rfl, goN rfl, (TOp_callV (call_static ent49 rfl) (m_impl_ContainsFact_ok _ _ _ h_4) rfl rfl rfl ?_)⟩, trivial⟩
    refine pa tb [3, 4] 8 rfl (by kernel_rfl) rfl ?_
    refine TA_bool 10 g_5 rfl ?_
    refine pa tb [5, 6, 7, 8, 9, 10, 11, 12] 0 rfl (by kernel_rfl) rfl ?_
    refine tae [(2, (.b 0 0)), (3, (.b 1 0)), (4, (.b 2 0)), (18, (boolA true))] rfl ?_
    refine TA_nil (by kernel_rfl) ?_
    exact joined true (w0 3) (some_inj H).symm
   ·replace H := cond_f g_5 H
    obtain ⟨r_6, h_7, H⟩ := bind_inv H
    obtain ⟨r_8, h_9, H⟩ := bind_inv H
    refine T_regionP 3 mixed rfl ?_
    refine pa tb [0, 1] 11 rfl (by kernel_rfl) rfl ?_
    refine TA_allG [2] (by kernel_rfl) (by decide) ⟨⟨_, rfl, goN rfl, (TOp_callV (call_static ent49 rfl) (m_impl_ContainsFact_ok _ _ _ h_4) rfl rfl rfl ?_)⟩, trivial⟩
    refine pa tb [3, 4] 8 rfl (by kernel_rfl) rfl ?_
    refine TA_bool 10 g_5 rfl ?_
    refine pa tb [5, 6, 7] 5 rfl (by kernel_rfl) rfl ?_
    refine TA_allG [8] (by kernel_rfl) (by decide) ⟨⟨_, rfl, goG rfl rfl (by decide) rfl, (TOp_callV (call_static ent106 rfl) (m_impl_FactIndex_ok _ _ _ h_7) rfl rfl rfl ?_)⟩, trivial⟩
    refine TA_allG [9] (by kernel_rfl) (by decide) ⟨⟨_, rfl, goG rfl rfl (by decide) rfl, (TOp_callV (call_static ent105 rfl) (m_impl_BlockOf_ok _ _ _ h_9) rfl rfl rfl ?_)⟩, trivial⟩
    refine TA_firstG 10 _ rfl (pur_lenT (T := tInt) sl23 rfl rfl) rfl rfl (by decide) rfl rfl rfl (by kernel_rfl) (by kernel_rfl) (by kernel_rfl) ?_
    refine pa tb [11, 12] 0 rfl (by kernel_rfl) rfl ?_
    refine TA_nil (by kernel_rfl) ?_
    exact joined (decide ((r_8.length : Int) = 1)) (w0 3) (some_inj H).symm
  ·rintro _ rfl
   replace H := H_2
   refine T_cond (t := t18_1) rfl (fun c_10 => ?_) (fun c_10 => ?_)
   ·replace H := cond_t c_10 H
    refine sr ?_
    obtain ⟨r_11, h_12, H⟩ := bind_inv H
    refine pv tb 1 rfl ?_
    refine TO_cons rfl (TOp_callO (call_static ent107 rfl) rfl (m_impl_copyDatabase_own _ _ h_12) rfl rfl rfl ?_)
    refine toe [(2, (.b 0 0)), (3, (.b 1 0)), (4, (.b 2 0)), (18, (boolA t18_1)), (19, (.g (tDatabase.enc db0))), (20, (.g [(.m [3] 0 r_11.relations.length tRelation.k), (.m [4] 0 r_11.facts.length tFact.k)]))] rfl ?_
    refine TO_st (σ' := [.box [(sl tRelation db0.relations), (sl tFact db0.facts)], .box [(intA fact1.relation), (sl tInt fact1.values)], .box [.n, .n], .row (flat tRelation.own r_11.relations), .row (flat tFact.own r_11.facts)]) rfl ?_
    refine TO_cons rfl (TOp_storeB sz48 rfl rfl rfl rfl rfl rfl rfl (by decide) (lb rfl) rfl ?_)
    refine TO_st (σ' := [.box [(sl tRelation db0.relations), (sl tFact db0.facts)], .box [(intA fact1.relation), (sl tInt fact1.values)], .box [(.m [3] 0 r_11.relations.length tRelation.k), (.m [4] 0 r_11.facts.length tFact.k)], .row (flat tRelation.own r_11.relations), .row (flat tFact.own r_11.facts)]) rfl ?_
    refine pv tb 1 rfl ?_
    refine TO_nil ?_
    refine T_ret ?_
    refine then_ret ?_
    obtain rfl := some_inj H
    exact end_pick (.cellK rfl agg48 rfl (lb rfl) (.tmp .nil)) rfl [3, 4] (by decide) rfl rfl rfl rfl rfl rfl
   ·replace H := cond_f c_10 H
    refine T_skip ?_
    refine sr ?_
    obtain ⟨r_13, h_14, H⟩ := bind_inv H
    refine pv tb 2 rfl ?_
    refine TO_cons rfl (TOp_callO (call_static ent108 rfl) rfl (m_impl_DeleteFact_own _ _ _ h_14) rfl rfl rfl ?_)
    refine toe [(2, (.b 0 0)), (3, (.b 1 0)), (4, (.b 2 0)), (21, (.g (tDatabase.enc db0))), (22, (.g (tFact.enc fact1))), (23, (.t [(.g [(.m [3] 0 r_13.1.relations.length tRelation.k), (.m [4] 0 r_13.1.facts.length tFact.k)]), (boolA r_13.2)]))] rfl ?_
    refine TO_st (σ' := [.box [(sl tRelation db0.relations), (sl tFact db0.facts)], .box [(intA fact1.relation), (sl tInt fact1.values)], .box [.n, .n], .row (flat tRelation.own r_13.1.relations), .row (flat tFact.own r_13.1.facts)]) rfl ?_
    refine pv tb 2 rfl ?_
    refine TO_cons rfl (TOp_storeB sz48 rfl rfl rfl rfl rfl rfl rfl (by decide) (lb rfl) rfl ?_)
    refine TO_st (σ' := [.box [(sl tRelation db0.relations), (sl tFact db0.facts)], .box [(intA fact1.relation), (sl tInt fact1.values)], .box [(.m [3] 0 r_13.1.relations.length tRelation.k), (.m [4] 0 r_13.1.facts.length tFact.k)], .row (flat tRelation.own r_13.1.relations), .row (flat tFact.own r_13.1.facts)]) rfl ?_
    refine pv tb 1 rfl ?_
    refine TO_nil ?_
    refine T_ret ?_
    obtain rfl := some_inj H
    exact end_pick (.cellK rfl agg48 rfl (lb rfl) (.tmp .nil)) rfl [3, 4] (by decide) rfl rfl rfl rfl rfl rfl
theorem m_impl_RetractFact_ok (db0 : Database) (fact1 : Fact) (r : (Database × Bool)) (H : m_impl_RetractFact db0 fact1 = some r) : FnV prg 39 [(.g (tDatabase.enc db0)), (.g (tFact.enc fact1))] (.t [(.g (tDatabase.enc r.1)), (boolA r.2)]) := (m_impl_RetractFact_own db0 fact1 r H).frz (frzOK_t (frz_cons (frzOK_g (frz_cons (frzT (T := tRelation) rfl) (frz_cons (frzT (T := tFact) rfl) frz_nil)).1 (frz_cons (frzT (T := tRelation) rfl) (frz_cons (frzT (T := tFact) rfl) frz_nil)).2) (frz_cons (frz_loose rfl) frz_nil)).1 (frz_cons (frzOK_g (frz_cons (frzT (T := tRelation) rfl) (frz_cons (frzT (T := tFact) rfl) frz_nil)).1 (frz_cons (frzT (T := tRelation) rfl) (frz_cons (frzT (T := tFact) rfl) frz_nil)).2) (frz_cons (frz_loose rfl) frz_nil)).2)

set_option maxHeartbeats 1000000 in
/-- spec.l3Ints -/
theorem m_spec_l3Ints_ok (u : Nat) (a0 : (List Int)) (b1 : (List Int)) (r : Int) (H : m_spec_l3Ints u a0 b1 = some r) : FnV prg 148 [(sl tInt a0), (sl tInt b1)] (intA r) := by
  unfold m_spec_l3Ints at H
  refine fnV_of_T Try.func148 rfl rfl (Nat.le_of_ble_eq_true rfl) ?_
  refine te [(0, (sl tInt a0)), (1, (sl tInt b1))] rfl ?_
  refine sr ?_
  refine pv tb 1 rfl ?_
  refine TO_nil ?_
  refine T_seq ?_
  refine sr ?_
  refine pv tb 1 rfl ?_
  refine TO_nil ?_
  obtain ⟨O1_, L1_, N1_⟩ := bind_inv H
  clear H
  obtain ⟨B1_, hb1, L1_⟩ := gen_whileF L1_
  refine T_block ?_
  refine T_loopX (fun k => fun (i5 : Int) => whileF B1_ k i5 = some O1_) (fun (i5 : Int) => [(0, (sl tInt a0)), (1, (sl tInt b1)), (5, (intA i5))]) (fun (i5 : Int) => []) u 0 (w0 0) L1_ ?_
  rintro _ i5 L1_
  obtain ⟨k1, rfl, C1_, H, K1_⟩ := while_step L1_
  rw [hb1] at H
  refine T_seq ?_
  refine T_cutX (fun x => ((decide (i5 < (a0.length : Int))) && (decide (i5 < (b1.length : Int)))) = x) (fun (t15_2 : Bool) => [(0, (sl tInt a0)), (1, (sl tInt b1)), (5, (intA i5)), (15, (boolA t15_2))]) (fun (t15_2 : Bool) => []) ?_ ?_
  ·skip
   refine T_region ?_
   refine pv tb 2 rfl ?_
   refine Tp rfl rfl (pur_lenT (T := tInt) sl23 rfl rfl) rfl ?_
   refine pv tb 2 rfl ?_
   refine TO_split (t := decide (i5 < (a0.length : Int))) 10 rfl (fun g_4 => ?_) (fun g_4 => ?_)
   ·skip
    refine pv tb 2 rfl ?_
    refine TO_on rfl rfl (by decide) rfl rfl (TOp_pure (pur_lenT (T := tInt) sl23 rfl rfl) rfl ?_)
    refine pv tb 2 rfl ?_
    refine TO_nil ?_
    exact joined (decide (i5 < (b1.length : Int))) (w0 0) (by first | exact Eq.symm ((and_T g_4 rfl)))
   ·skip
    refine pv tb 5 rfl ?_
    refine TO_nil ?_
    exact joined false (w0 0) (by first | exact Eq.symm ((and_F g_4 rfl)))
  ·rintro _ rfl
   refine T_cond (t := ((decide (i5 < (a0.length : Int))) && (decide (i5 < (b1.length : Int))))) rfl (fun c_5 => ?_) (fun c_5 => ?_)
   ·replace H := cond_t c_5 H
    refine T_skip ?_
    refine T_seq ?_
    refine T_block ?_
    refine T_seq ?_
    refine T_seq ?_
    refine T_regionD mixed (by kernel_rfl) ?_
    obtain ⟨v_6, h_7, H⟩ := bind_inv H
    obtain ⟨n_8, hz_9, hv_10⟩ := getI_inv h_7
    refine pq tb 2 rfl ?_
    refine TQ_pure rfl (pur_ixT (T := tInt) sl23 rfl rfl hz_9 hv_10 rfl) rfl ?_
    refine TQ_pure rfl (pur_ldT (T := tInt) (i := n_8) (off := 0) rfl one3 rfl rfl hv_10 rfl) rfl ?_
    obtain ⟨v_11, h_12, H⟩ := bind_inv H
    obtain ⟨n_13, hz_14, hv_15⟩ := getI_inv h_12
    refine pq tb 2 rfl ?_
    refine TQ_pure rfl (pur_ixT (T := tInt) sl23 rfl rfl hz_14 hv_15 rfl) rfl ?_
    refine TQ_pure rfl (pur_ldT (T := tInt) (i := n_13) (off := 0) rfl one3 rfl rfl hv_15 rfl) rfl ?_
    refine pq tb 1 rfl ?_
    refine TQ_nil ?_
    refine T_cond (t := decide (v_6 < v_11)) rfl (fun c_16 => ?_) (fun c_16 => ?_)
    ·replace H := cond_t c_16 H
     refine sr ?_
     refine pv tb 1 rfl ?_
     refine TO_nil ?_
     refine T_ret ?_
     refine then_ret ?_
     refine block_ret ?_
     refine then_ret ?_
     refine then_ret ?_
     refine block_ret ?_
     refine then_ret ?_
     obtain rfl := some_inj H
     obtain rfl := some_inj K1_
     replace H := onS_r N1_
     obtain rfl := some_inj H
     refine end_ret (.tmp .nil) rfl rfl ⟨?_, rfl⟩
     rfl
    ·replace H := cond_f c_16 H
     refine T_skip ?_
     refine T_seq ?_
     refine T_regionD mixed (by kernel_rfl) ?_
     refine pq tb 2 rfl ?_
     refine TQ_pure rfl (pur_ixT (T := tInt) sl23 rfl rfl hz_9 hv_10 rfl) rfl ?_
     refine TQ_pure rfl (pur_ldT (T := tInt) (i := n_8) (off := 0) rfl one3 rfl rfl hv_10 rfl) rfl ?_
     refine pq tb 2 rfl ?_
     refine TQ_pure rfl (pur_ixT (T := tInt) sl23 rfl rfl hz_14 hv_15 rfl) rfl ?_
     refine TQ_pure rfl (pur_ldT (T := tInt) (i := n_13) (off := 0) rfl one3 rfl rfl hv_15 rfl) rfl ?_
     refine pq tb 1 rfl ?_
     refine TQ_nil ?_
     refine te [(0, (sl tInt a0)), (1, (sl tInt b1)), (5, (intA i5)), (35, (boolA (decide (v_11 < v_6))))] rfl ?_
     refine T_cond (t := decide (v_11 < v_6)) rfl (fun c_17 => ?_) (fun c_17 => ?_)
     ·replace H := cond_t c_17 H
      refine sr ?_
      refine pv tb 1 rfl ?_
      refine TO_nil ?_
      refine T_ret ?_
      refine block_ret ?_
      refine then_ret ?_
      refine then_ret ?_
      refine block_ret ?_
      refine then_ret ?_
      obtain rfl := some_inj H
      obtain rfl := some_inj K1_
      replace H := onS_r N1_
      obtain rfl := some_inj H
      refine end_ret (.tmp .nil) rfl rfl ⟨?_, rfl⟩
      rfl
     ·replace H := cond_f c_17 H
      refine T_skip ?_
      refine T_region ?_
      refine pv tb 3 rfl ?_
      refine TO_nil ?_
      obtain rfl := some_inj H
      exact again k1 (w64 (i5 + 1)) (Nat.lt_succ_self _) (w0 0) K1_
   ·replace H := cond_f c_5 H
    refine T_exit ?_
    refine then_exit ?_
    refine then_exit ?_
    refine block_exit ?_
    obtain rfl := some_inj H
    obtain rfl := some_inj K1_
    replace H := onS_l N1_
    refine T_seq ?_
    refine sr ?_
    refine pv tb 1 rfl ?_
    refine Tp rfl rfl (pur_lenT (T := tInt) sl23 rfl rfl) rfl ?_
    refine pv tb 1 rfl ?_
    refine Tp rfl rfl (pur_lenT (T := tInt) sl23 rfl rfl) rfl ?_
    refine pv tb 1 rfl ?_
    refine TO_nil ?_
    refine T_cond (t := decide ((a0.length : Int) < (b1.length : Int))) rfl (fun c_18 => ?_) (fun c_18 => ?_)
    ·replace H := cond_t c_18 H
     refine sr ?_
     refine pv tb 1 rfl ?_
     refine TO_nil ?_
     refine T_ret ?_
     refine then_ret ?_
     obtain rfl := some_inj H
     refine end_ret (.tmp .nil) rfl rfl ⟨?_, rfl⟩
     rfl
    ·replace H := cond_f c_18 H
     refine T_skip ?_
     refine T_seq ?_
     refine sr ?_
     refine pv tb 1 rfl ?_
     refine Tp rfl rfl (pur_lenT (T := tInt) sl23 rfl rfl) rfl ?_
     refine pv tb 1 rfl ?_
     refine Tp rfl rfl (pur_lenT (T := tInt) sl23 rfl rfl) rfl ?_
     refine pv tb 1 rfl ?_
     refine TO_nil ?_
     refine T_cond (t := decide ((b1.length : Int) < (a0.length : Int))) rfl (fun c_19 => ?_) (fun c_19 => ?_)
     ·replace H := cond_t c_19 H
      refine sr ?_
      refine pv tb 1 rfl ?_
      refine TO_nil ?_
      refine T_ret ?_
      refine then_ret ?_
      obtain rfl := some_inj H
      refine end_ret (.tmp .nil) rfl rfl ⟨?_, rfl⟩
      rfl
     ·replace H := cond_f c_19 H
      refine T_skip ?_
      refine sr ?_
      refine pv tb 1 rfl ?_
      refine TO_nil ?_
      refine T_ret ?_
      obtain rfl := some_inj H
      refine end_ret (.tmp .nil) rfl rfl ⟨?_, rfl⟩
      rfl

set_option maxHeartbeats 1000000 in
/-- spec.CompareFacts -/
theorem m_spec_CompareFacts_ok (u : Nat) (a0 : Fact) (b1 : Fact) (r : Int) (H : m_spec_CompareFacts u a0 b1 = some r) : FnV prg 114 [(.g (tFact.enc a0)), (.g (tFact.enc b1))] (intA r) := by
  unfold m_spec_CompareFacts at H
  refine fnV_of_T Try.func114 rfl rfl (Nat.le_of_ble_eq_true rfl) ?_
  refine te [(0, (.g (tFact.enc a0))), (1, (.g (tFact.enc b1)))] rfl ?_
  refine sr ?_
  refine TO_cons rfl (TOp_box rfl (boxAll rfl) rfl rfl ?_)
  refine TO_cons rfl (TOp_box rfl (boxAll rfl) rfl rfl ?_)
  refine pv tb 1 rfl ?_
  refine TO_nil ?_
  refine T_seq ?_
  refine sr ?_
  refine pv tb 5 rfl ?_
  refine TO_nil ?_
  refine T_cond (t := decide (a0.relation < b1.relation)) rfl (fun c_1 => ?_) (fun c_1 => ?_)
  ·replace H := cond_t c_1 H
   refine sr ?_
   refine pv tb 1 rfl ?_
   refine TO_nil ?_
   refine T_ret ?_
   refine then_ret ?_
   obtain rfl := some_inj H
   refine end_ret (.tmp .nil) rfl rfl ⟨?_, rfl⟩
   rfl
  ·replace H := cond_f c_1 H
   refine T_skip ?_
   refine T_seq ?_
   refine sr ?_
   refine pv tb 5 rfl ?_
   refine TO_nil ?_
   refine T_cond (t := decide (b1.relation < a0.relation)) rfl (fun c_2 => ?_) (fun c_2 => ?_)
   ·replace H := cond_t c_2 H
    refine sr ?_
    refine pv tb 1 rfl ?_
    refine TO_nil ?_
    refine te [(4, (intA 1))] rfl ?_
    refine T_ret ?_
    refine then_ret ?_
    obtain rfl := some_inj H
    refine end_ret (.tmp .nil) rfl rfl ⟨?_, rfl⟩
    rfl
   ·replace H := cond_f c_2 H
    refine T_skip ?_
    refine sr ?_
    obtain ⟨r_3, h_4, H⟩ := bind_inv H
    refine pv tb 4 rfl ?_
    refine TO_cons rfl (TOp_callV (call_static ent148 rfl) (m_spec_l3Ints_ok u _ _ _ h_4) rfl rfl rfl ?_)
    refine pv tb 1 rfl ?_
    refine TO_nil ?_
    refine te [(4, (intA r_3))] rfl ?_
    refine T_ret ?_
    obtain rfl := some_inj H
    refine end_ret (.tmp .nil) rfl rfl ⟨?_, rfl⟩
    rfl

set_option maxHeartbeats 1000000 in
/-- spec.l1In -/
theorem m_spec_l1In_ok (x0 : Int) (low1 : Int) (high2 : Int) (r : Bool) (H : m_spec_l1In x0 low1 high2 = some r) : FnV prg 137 [(intA x0), (intA low1), (intA high2)] (boolA r) := by
  unfold m_spec_l1In at H
  refine fnV_of_T Try.func137 rfl rfl (Nat.le_of_ble_eq_true rfl) ?_
  refine te [(0, (intA x0)), (1, (intA low1)), (2, (intA high2))] rfl ?_
  refine sr ?_
  refine pv tb 1 rfl ?_
  refine TO_nil ?_
  refine T_cutX (fun x => ((decide (low1 ≤ x0)) && (decide (x0 ≤ high2))) = x) (fun (t6_1 : Bool) => [(6, (boolA t6_1))]) (fun (t6_1 : Bool) => []) ?_ ?_
  ·skip
   refine T_region ?_
   refine pv tb 4 rfl ?_
   refine TO_split (t := decide (low1 ≤ x0)) 10 rfl (fun g_3 => ?_) (fun g_3 => ?_)
   ·skip
    refine pv tb 5 rfl ?_
    refine TO_nil ?_
    exact joined (decide (x0 ≤ high2)) (w0 0) (by first | exact Eq.symm ((and_T g_3 rfl)))
   ·skip
    refine pv tb 5 rfl ?_
    refine TO_nil ?_
    exact joined false (w0 0) (by first | exact Eq.symm ((and_F g_3 rfl)))
  ·rintro _ rfl
   refine T_ret ?_
   obtain rfl := some_inj H
   refine end_ret (.tmp .nil) rfl rfl ⟨?_, rfl⟩
   rfl

set_option maxHeartbeats 1000000 in
/-- spec.IsValidRelation -/
theorem m_spec_IsValidRelation_ok (s0 : Relation) (r : Bool) (H : m_spec_IsValidRelation s0 = some r) : FnV prg 170 [(.g (tRelation.enc s0))] (boolA r) := by
  unfold m_spec_IsValidRelation at H
  refine fnV_of_T Try.func170 rfl rfl (Nat.le_of_ble_eq_true rfl) ?_
  refine te [(0, (.g (tRelation.enc s0)))] rfl ?_
  refine sr ?_
  refine TO_cons rfl (TOp_box rfl (boxAll rfl) rfl rfl ?_)
  refine pv tb 1 rfl ?_
  refine TO_nil ?_
  obtain ⟨t2_1, J_1, H_2⟩ := bind_inv H
  refine T_cutX (fun x => t2_1 = x) (fun (t2_1 : Bool) => [(2, (boolA t2_1))]) (fun (t2_1 : Bool) => []) ?_ ?_
  ·replace H := J_1
   refine T_region ?_
   refine pv tb 2 rfl ?_
   refine Tp rfl rfl (pur_len_s (by kernel_rfl) rfl rfl) rfl ?_
   refine pv tb 2 rfl ?_
   refine TO_split (t := decide ((s0.name.size : Int) = 1)) 7 rfl (fun g_3 => ?_) (fun g_3 => ?_)
   ·replace H := cond_t g_3 H
    obtain ⟨b_4, h_5, H⟩ := bind_inv H
    refine pv tb 2 rfl ?_
    refine TO_on rfl rfl (by decide) rfl rfl (TOp_pure (pur_ixS (by kernel_rfl) rfl rfl h_5 rfl) rfl ?_)
    refine pv tb 3 rfl ?_
    refine TO_split (t := decide (97 ≤ b_4)) 13 rfl (fun g_6 => ?_) (fun g_6 => ?_)
    ·replace H := cond_t g_6 H
     obtain ⟨b_7, h_8, H⟩ := bind_inv H
     refine pv tb 2 rfl ?_
     refine TO_on rfl rfl (by decide) rfl rfl (TOp_pure (pur_ixS (by kernel_rfl) rfl rfl h_8 rfl) rfl ?_)
     refine pv tb 3 rfl ?_
     refine TO_split (t := decide (b_7 ≤ 122)) 19 rfl (fun g_9 => ?_) (fun g_9 => ?_)
     ·replace H := cond_t g_9 H
      obtain ⟨r_10, h_11, H⟩ := bind_inv H
      refine pv tb 2 rfl ?_
      refine TO_on rfl rfl (by decide) rfl rfl (TOp_callV (call_static ent137 rfl) (m_spec_l1In_ok _ _ _ _ h_11) rfl rfl rfl ?_)
      refine pv tb 2 rfl ?_
      refine TO_split (t := r_10) 24 rfl (fun g_12 => ?_) (fun g_12 => ?_)
      ·replace H := cond_t g_12 H
       obtain ⟨r_13, h_14, H⟩ := bind_inv H
       refine pv tb 4 rfl ?_
       refine TO_on rfl rfl (by decide) rfl rfl (TOp_callV (call_static ent137 rfl) (m_spec_l1In_ok _ _ _ _ h_14) rfl rfl rfl ?_)
       refine pv tb 2 rfl ?_
       refine TO_nil ?_
       exact joined r_13 (w0 0) (some_inj H).symm
      ·replace H := cond_f g_12 H
       refine pv tb 7 rfl ?_
       refine TO_nil ?_
       exact joined false (w0 0) (some_inj H).symm
     ·replace H := cond_f g_9 H
      refine pv tb 8 rfl ?_
      refine toe [(24, (boolA false)), (26, (.v undef)), (27, (.v undef))] rfl ?_
      refine pv tb 4 rfl ?_
      refine TO_nil ?_
      exact joined false (w0 0) (some_inj H).symm
    ·replace H := cond_f g_6 H
     refine pv tb 8 rfl ?_
     refine toe [(1, (.b 0 0)), (19, (boolA false)), (21, (.v undef))] rfl ?_
     refine pv tb 10 rfl ?_
     refine TO_nil ?_
     exact joined false (w0 0) (some_inj H).symm
   ·replace H := cond_f g_3 H
    refine pv tb 16 rfl ?_
    refine toe [(1, (.b 0 0)), (23, (boolA false))] rfl ?_
    refine pv tb 8 rfl ?_
    refine TO_nil ?_
    exact joined false (w0 0) (some_inj H).symm
  ·rintro _ rfl
   replace H := H_2
   refine T_ret ?_
   obtain rfl := some_inj H
   refine end_ret (.tmp .nil) rfl rfl ⟨?_, rfl⟩
   rfl

set_option maxHeartbeats 1000000 in
/-- spec.AreValidRelations -/
theorem m_spec_AreValidRelations_ok (l0 : (List Relation)) (r : Bool) (H : m_spec_AreValidRelations l0 = some r) : FnV prg 124 [(sl tRelation l0)] (boolA r) := by
  unfold m_spec_AreValidRelations at H
  refine fnV_of_T Try.func124 rfl rfl (Nat.le_of_ble_eq_true rfl) ?_
  refine te [(0, (sl tRelation l0))] rfl ?_
  refine sr ?_
  refine pv tb 1 rfl ?_
  refine TO_nil ?_
  refine T_seq ?_
  refine sr ?_
  refine pv tb 1 rfl ?_
  refine TO_nil ?_
  obtain ⟨O2_, L2_, N2_⟩ := bind_inv H
  clear H
  obtain ⟨B2_, hb2, L2_⟩ := gen_forL L2_
  refine T_block ?_
  refine T_loopX (fun k => fun (i_1 : Nat) => k = l0.length - i_1 ∧ forL B2_ (l0.drop i_1) (i_1 : Int) () = some O2_) (fun (i_1 : Nat) => [(0, (sl tRelation l0)), (3, (intA (i_1 : Int)))]) (fun (i_1 : Nat) => []) _ (0 : Nat) (w0 0) ⟨rfl, L2_⟩ ?_
  rintro _ i_1 ⟨rfl, L2_⟩
  refine T_fact (len_sl (T := tRelation) (.tmp 0) rfl) (fun hl2 => ?_)
  refine T_seq ?_
  refine sr ?_
  refine pv tb 2 rfl ?_
  refine Tp rfl rfl (pur_lenT (T := tRelation) sl45 rfl rfl) rfl ?_
  refine pv tb 1 rfl ?_
  refine TO_nil ?_
  refine T_cond (t := decide ((i_1 : Int) < (l0.length : Int))) rfl (fun d2 => ?_) (fun d2 => ?_)
  ·replace d2 := of_decide_eq_true d2
   obtain ⟨x_i_1, hx_i_1⟩ : ∃ v, (l0)[i_1]? = some v := ⟨_, List.getElem?_eq_getElem (by omega)⟩
   obtain ⟨C2_, H, K2_⟩ := forL_step L2_ hx_i_1
   rw [hb2] at H
   refine T_skip ?_
   refine T_seq ?_
   refine T_block ?_
   obtain ⟨t33_3, J_3, H_4⟩ := bind_inv H
   refine T_cutX (fun x => t33_3 = x) (fun (t33_3 : Bool) => [(0, (sl tRelation l0)), (3, (intA (i_1 : Int))), (33, (boolA t33_3))]) (fun (t33_3 : Bool) => []) ?_ ?_
   ·replace H := J_3
    refine T_regionD mixed (by kernel_rfl) ?_
    refine pq tb 2 rfl ?_
    refine TQ_pure rfl (pur_ixT (T := tRelation) sl45 rfl rfl rfl hx_i_1 rfl) rfl ?_
    refine TQ_pure rfl (pur_ldTK (T := tRelation) (i := i_1) (off := 0) rfl agg130 rfl rfl hx_i_1 (by decide) rfl) rfl ?_
    obtain ⟨r_5, h_6, H⟩ := bind_inv H
    refine TQ_callV rfl (call_static ent170 rfl) (m_spec_IsValidRelation_ok _ _ h_6) rfl rfl ?_
    refine pq tb 2 rfl ?_
    refine TQ_split (t := (!r_5)) 16 rfl (fun g_7 => ?_) (fun g_7 => ?_)
    ·replace H := cond_t g_7 H
     refine pq tb 8 rfl ?_
     refine tqe [(0, (sl tRelation l0)), (3, (intA (i_1 : Int))), (16, (boolA true)), (19, (.v undef)), (24, (.v undef))] rfl ?_
     refine pq tb 9 rfl ?_
     refine TQ_nil ?_
     exact joined true (w0 0) (some_inj H).symm
    ·replace H := cond_f g_7 H
     refine pq tb 3 rfl ?_
     refine TQ_split (t := decide (0 < (i_1 : Int))) 19 rfl (fun g_8 => ?_) (fun g_8 => ?_)
     ·replace H := cond_t g_8 H
      refine pq tb 2 rfl ?_
      refine TQ_on rfl rfl (by decide) rfl (pur_sub rfl rfl rfl (fits64 (by omega) (by omega))) rfl ?_
      obtain ⟨v_9, h_10, H⟩ := bind_inv H
      obtain ⟨n_11, hz_12, hv_13⟩ := getI_inv h_10
      refine TQ_on rfl rfl (by decide) rfl (pur_ixT (T := tRelation) sl45 rfl rfl hz_12 hv_13 rfl) rfl ?_
      refine pq tb 1 rfl ?_
      refine TQ_on rfl rfl (by decide) rfl (pur_ldT (T := tRelation) (i := n_11) (off := 0) rfl one9 rfl rfl hv_13 rfl) rfl ?_
      refine pq tb 2 rfl ?_
      refine tqe [(0, (sl tRelation l0)), (3, (intA (i_1 : Int))), (16, (boolA false)), (19, (boolA true)), (25, (strA v_9.name)), (26, (sl tRelation l0)), (27, (intA (i_1 : Int)))] rfl ?_
      refine TQ_on rfl rfl (by decide) rfl (pur_ixT (T := tRelation) sl45 rfl rfl rfl hx_i_1 rfl) rfl ?_
      refine pq tb 1 rfl ?_
      refine TQ_on rfl rfl (by decide) rfl (pur_ldT (T := tRelation) (i := i_1) (off := 0) rfl one9 rfl rfl hx_i_1 rfl) rfl ?_
      refine TQ_on rfl rfl (by decide) rfl (pur_geqS rfl rfl rfl) rfl ?_
      refine pq tb 2 rfl ?_
      refine TQ_nil ?_
      exact joined (!ltS v_9.name x_i_1.name) (w0 0) (some_inj H).symm
     ·replace H := cond_f g_8 H
      refine pq tb 8 rfl ?_
      refine tqe [(0, (sl tRelation l0)), (3, (intA (i_1 : Int))), (16, (boolA false)), (19, (boolA false)), (25, (.v undef)), (26, (.v undef)), (27, (.v undef))] rfl ?_
      refine pq tb 6 rfl ?_
      refine TQ_nil ?_
      exact joined false (w0 0) (some_inj H).symm
   ·rintro _ rfl
    replace H := H_4
    refine T_cond (t := t33_3) rfl (fun c_14 => ?_) (fun c_14 => ?_)
    ·replace H := cond_t c_14 H
     refine sr ?_
     refine pv tb 1 rfl ?_
     refine TO_nil ?_
     refine T_ret ?_
     refine block_ret ?_
     refine then_ret ?_
     refine then_ret ?_
     refine block_ret ?_
     refine then_ret ?_
     obtain rfl := some_inj H
     obtain rfl := some_inj K2_
     replace H := onS_r N2_
     obtain rfl := some_inj H
     refine end_ret (.tmp .nil) rfl rfl ⟨?_, rfl⟩
     rfl
    ·replace H := cond_f c_14 H
     refine T_skip ?_
     refine T_region ?_
     refine pv tb 1 rfl ?_
     refine Tp rfl rfl (pur_add rfl rfl rfl (fits64 (by omega) (by omega))) rfl ?_
     refine pv tb 1 rfl ?_
     refine TO_nil ?_
     obtain rfl := some_inj H
     exact again (l0.length - (i_1 + 1)) (i_1 + 1) (by omega) (w0 0) ⟨rfl, K2_⟩
  ·replace d2 := of_decide_eq_false d2
   obtain rfl := forL_end L2_ (by omega)
   refine T_exit ?_
   refine then_exit ?_
   refine then_exit ?_
   refine block_exit ?_
   replace H := onS_l N2_
   refine sr ?_
   refine pv tb 1 rfl ?_
   refine Tp rfl rfl (pur_lenT (T := tRelation) sl45 rfl rfl) rfl ?_
   refine pv tb 2 rfl ?_
   refine TO_nil ?_
   refine T_ret ?_
   obtain rfl := some_inj H
   refine end_ret (.tmp .nil) rfl rfl ⟨?_, rfl⟩
   rfl

set_option maxHeartbeats 1000000 in
/-- spec.IsValidFact -/
theorem m_spec_IsValidFact_ok (u : Nat) (l0 : (List Relation)) (f1 : Fact) (r : Bool) (H : m_spec_IsValidFact u l0 f1 = some r) : FnV prg 123 [(sl tRelation l0), (.g (tFact.enc f1))] (boolA r) := by
  unfold m_spec_IsValidFact at H
  refine fnV_of_T Try.func123 rfl rfl (Nat.le_of_ble_eq_true rfl) ?_
  refine te [(0, (sl tRelation l0)), (1, (.g (tFact.enc f1)))] rfl ?_
  refine sr ?_
  refine TO_cons rfl (TOp_box rfl (boxAll rfl) rfl rfl ?_)
  refine pv tb 1 rfl ?_
  refine TO_nil ?_
  refine T_seq ?_
  obtain ⟨t29_1, J_1, H_2⟩ := bind_inv H
  refine T_cutX (fun x => t29_1 = x) (fun (t29_1 : Bool) => [(3, (.b 0 0)), (29, (boolA t29_1))]) (fun (t29_1 : Bool) => [.box [(intA f1.relation), (sl tInt f1.values)]]) ?_ ?_
  ·replace H := J_1
   refine T_regionD mixed (by kernel_rfl) ?_
   obtain ⟨r_3, h_4, H⟩ := bind_inv H
   refine pq tb 1 rfl ?_
   refine TQ_callV rfl (call_static ent124 rfl) (m_spec_AreValidRelations_ok _ _ h_4) rfl rfl ?_
   refine pq tb 2 rfl ?_
   refine TQ_split (t := (!r_3)) 9 rfl (fun g_5 => ?_) (fun g_5 => ?_)
   ·replace H := cond_t g_5 H
    refine pq tb 16 rfl ?_
    refine tqe [(3, (.b 0 0)), (18, (boolA true)), (21, (.v undef)), (25, (.v undef))] rfl ?_
    refine pq tb 4 rfl ?_
    refine TQ_nil ?_
    exact joined true (w0 1) (some_inj H).symm
   ·replace H := cond_f g_5 H
    refine pq tb 3 rfl ?_
    refine TQ_on rfl rfl (by decide) rfl (pur_lenT (T := tRelation) sl45 rfl rfl) rfl ?_
    refine TQ_fact (len_sl (T := tRelation) (.tmp 0) rfl) (fun hl_6 => ?_)
    refine TQ_on rfl rfl (by decide) rfl (pur_sub rfl rfl rfl (fits64 (by omega) (by omega))) rfl ?_
    obtain ⟨r_7, h_8, H⟩ := bind_inv H
    refine TQ_onV rfl rfl (by decide) rfl (call_static ent137 rfl) (m_spec_l1In_ok _ _ _ _ h_8) rfl rfl ?_
    refine pq tb 3 rfl ?_
    refine TQ_split (t := (!r_7)) 18 rfl (fun g_9 => ?_) (fun g_9 => ?_)
    ·replace H := cond_t g_9 H
     refine pq tb 8 rfl ?_
     refine tqe [(3, (.b 0 0)), (18, (boolA true)), (21, (.v undef)), (26, (.v undef))] rfl ?_
     refine pq tb 3 rfl ?_
     refine TQ_nil ?_
     exact joined true (w0 1) (some_inj H).symm
    ·replace H := cond_f g_9 H
     refine pq tb 2 rfl ?_
     refine TQ_on rfl rfl (by decide) rfl (pur_lenT (T := tInt) sl23 rfl rfl) rfl ?_
     obtain ⟨v_10, h_11, H⟩ := bind_inv H
     obtain ⟨n_12, hz_13, hv_14⟩ := getI_inv h_11
     refine pq tb 3 rfl ?_
     refine TQ_on rfl rfl (by decide) rfl (pur_ixT (T := tRelation) sl45 rfl rfl hz_13 hv_14 rfl) rfl ?_
     refine pq tb 1 rfl ?_
     refine tqe [(3, (.b 0 0)), (18, (boolA false)), (21, (intA (f1.values.length : Int))), (26, (.q (flat tRelation.enc l0) (n_12 * tRelation.k + 1)))] rfl ?_
     refine TQ_on rfl rfl (by decide) rfl (pur_ldT (T := tRelation) (i := n_12) (off := 1) rfl one3 rfl rfl hv_14 rfl) rfl ?_
     refine pq tb 2 rfl ?_
     refine TQ_nil ?_
     exact joined (decide ((f1.values.length : Int) ≠ v_10.arity)) (w0 1) (some_inj H).symm
  ·rintro _ rfl
   replace H := H_2
   refine T_cond (t := t29_1) rfl (fun c_15 => ?_) (fun c_15 => ?_)
   ·replace H := cond_t c_15 H
    refine sr ?_
    refine pv tb 1 rfl ?_
    refine TO_nil ?_
    refine T_ret ?_
    refine then_ret ?_
    obtain rfl := some_inj H
    refine end_ret (.tmp .nil) rfl rfl ⟨?_, rfl⟩
    rfl
   ·replace H := cond_f c_15 H
    refine T_skip ?_
    refine T_seq ?_
    refine sr ?_
    refine pv tb 1 rfl ?_
    refine TO_nil ?_
    obtain ⟨O16_, L16_, N16_⟩ := bind_inv H
    clear H
    obtain ⟨B16_, hb16, L16_⟩ := gen_whileF L16_
    refine T_block ?_
    refine T_loopX (fun k => fun (i5 : Int) => whileF B16_ k i5 = some O16_) (fun (i5 : Int) => [(3, (.b 0 0)), (5, (intA i5))]) (fun (i5 : Int) => [.box [(intA f1.relation), (sl tInt f1.values)]]) u 0 (w0 1) L16_ ?_
    rintro _ i5 L16_
    obtain ⟨k16, rfl, C16_, H, K16_⟩ := while_step L16_
    rw [hb16] at H
    refine T_seq ?_
    refine sr ?_
    refine pv tb 3 rfl ?_
    refine Tp rfl rfl (pur_lenT (T := tInt) sl23 rfl rfl) rfl ?_
    refine pv tb 1 rfl ?_
    refine TO_nil ?_
    refine T_cond (t := decide (i5 < (f1.values.length : Int))) rfl (fun c_17 => ?_) (fun c_17 => ?_)
    ·replace H := cond_t c_17 H
     refine T_skip ?_
     refine T_seq ?_
     refine T_block ?_
     refine sr ?_
     obtain ⟨v_18, h_19, H⟩ := bind_inv H
     obtain ⟨n_20, hz_21, hv_22⟩ := getI_inv h_19
     refine pv tb 3 rfl ?_
     refine Tp rfl rfl (pur_ixT (T := tInt) sl23 rfl rfl hz_21 hv_22 rfl) rfl ?_
     refine Tp rfl rfl (pur_ldT (T := tInt) (i := n_20) (off := 0) rfl one3 rfl rfl hv_22 rfl) rfl ?_
     obtain ⟨r_23, h_24, H⟩ := bind_inv H
     refine TO_cons rfl (TOp_callV (call_static ent137 rfl) (m_spec_l1In_ok _ _ _ _ h_24) rfl rfl rfl ?_)
     refine pv tb 1 rfl ?_
     refine TO_nil ?_
     refine T_cond (t := (!r_23)) rfl (fun c_25 => ?_) (fun c_25 => ?_)
     ·replace H := cond_t c_25 H
      refine sr ?_
      refine pv tb 1 rfl ?_
      refine TO_nil ?_
      refine T_ret ?_
      refine block_ret ?_
      refine then_ret ?_
      refine then_ret ?_
      refine block_ret ?_
      refine then_ret ?_
      obtain rfl := some_inj H
      obtain rfl := some_inj K16_
      replace H := onS_r N16_
      obtain rfl := some_inj H
      refine end_ret (.tmp .nil) rfl rfl ⟨?_, rfl⟩
      rfl
     ·replace H := cond_f c_25 H
      refine T_skip ?_
      refine T_region ?_
      refine pv tb 3 rfl ?_
      refine TO_nil ?_
      obtain rfl := some_inj H
      exact again k16 (w64 (i5 + 1)) (Nat.lt_succ_self _) (w0 1) K16_
    ·replace H := cond_f c_17 H
     refine T_exit ?_
     refine then_exit ?_
     refine then_exit ?_
     refine block_exit ?_
     obtain rfl := some_inj H
     obtain rfl := some_inj K16_
     replace H := onS_l N16_
     refine sr ?_
     refine pv tb 1 rfl ?_
     refine TO_nil ?_
     refine T_ret ?_
     obtain rfl := some_inj H
     refine end_ret (.tmp .nil) rfl rfl ⟨?_, rfl⟩
     rfl

set_option maxHeartbeats 1000000 in
/-- spec.IsValidDatabase -/
theorem m_spec_IsValidDatabase_ok (u : Nat) (d0 : Database) (r : Bool) (H : m_spec_IsValidDatabase u d0 = some r) : FnV prg 53 [(.g (tDatabase.enc d0))] (boolA r) := by
  unfold m_spec_IsValidDatabase at H
  refine fnV_of_T Try.func53 rfl rfl (Nat.le_of_ble_eq_true rfl) ?_
  refine te [(0, (.g (tDatabase.enc d0)))] rfl ?_
  refine sr ?_
  refine TO_cons rfl (TOp_box rfl (boxAll rfl) rfl rfl ?_)
  refine pv tb 1 rfl ?_
  refine TO_nil ?_
  refine T_seq ?_
  refine sr ?_
  refine pv tb 1 rfl ?_
  refine TO_nil ?_
  obtain ⟨O1_, L1_, N1_⟩ := bind_inv H
  clear H
  obtain ⟨B1_, hb1, L1_⟩ := gen_whileF L1_
  refine T_block ?_
  refine T_loopX (fun k => fun (i3 : Int) => whileF B1_ k i3 = some O1_) (fun (i3 : Int) => [(1, (.b 0 0)), (3, (intA i3))]) (fun (i3 : Int) => [.box [(sl tRelation d0.relations), (sl tFact d0.facts)]]) u 0 (w0 1) L1_ ?_
  rintro _ i3 L1_
  obtain ⟨k1, rfl, C1_, H, K1_⟩ := while_step L1_
  rw [hb1] at H
  refine T_seq ?_
  refine sr ?_
  refine pv tb 3 rfl ?_
  refine Tp rfl rfl (pur_lenT (T := tFact) sl46 rfl rfl) rfl ?_
  refine pv tb 1 rfl ?_
  refine TO_nil ?_
  refine T_cond (t := decide (i3 < (d0.facts.length : Int))) rfl (fun c_2 => ?_) (fun c_2 => ?_)
  ·replace H := cond_t c_2 H
   refine T_skip ?_
   refine T_seq ?_
   refine T_block ?_
   obtain ⟨t38_3, J_3, H_4⟩ := bind_inv H
   refine T_cutX (fun x => t38_3 = x) (fun (t38_3 : Bool) => [(1, (.b 0 0)), (3, (intA i3)), (38, (boolA t38_3))]) (fun (t38_3 : Bool) => [.box [(sl tRelation d0.relations), (sl tFact d0.facts)]]) ?_ ?_
   ·replace H := J_3
    refine T_regionD mixed (by kernel_rfl) ?_
    obtain ⟨v_5, h_6, H⟩ := bind_inv H
    obtain ⟨n_7, hz_8, hv_9⟩ := getI_inv h_6
    refine pq tb 5 rfl ?_
    refine TQ_pure rfl (pur_ixT (T := tFact) sl46 rfl rfl hz_8 hv_9 rfl) rfl ?_
    refine TQ_pure rfl (pur_ldTK (T := tFact) (i := n_7) (off := 0) rfl agg65 rfl rfl hv_9 (by decide) rfl) rfl ?_
    obtain ⟨r_10, h_11, H⟩ := bind_inv H
    refine TQ_callV rfl (call_static ent123 rfl) (m_spec_IsValidFact_ok u _ _ _ h_11) rfl rfl ?_
    refine pq tb 2 rfl ?_
    refine TQ_split (t := (!r_10)) 20 rfl (fun g_12 => ?_) (fun g_12 => ?_)
    ·replace H := cond_t g_12 H
     refine pq tb 8 rfl ?_
     refine tqe [(1, (.b 0 0)), (3, (intA i3)), (20, (boolA true)), (23, (.v undef)), (28, (.v undef))] rfl ?_
     refine pq tb 10 rfl ?_
     refine TQ_nil ?_
     exact joined true (w0 1) (some_inj H).symm
    ·replace H := cond_f g_12 H
     refine pq tb 3 rfl ?_
     refine TQ_split (t := decide (0 < i3)) 23 rfl (fun g_13 => ?_) (fun g_13 => ?_)
     ·replace H := cond_t g_13 H
      obtain ⟨v_14, h_15, H⟩ := bind_inv H
      obtain ⟨n_16, hz_17, hv_18⟩ := getI_inv h_15
      refine pq tb 4 rfl ?_
      refine TQ_on rfl rfl (by decide) rfl (pur_ixT (T := tFact) sl46 rfl rfl hz_17 hv_18 rfl) rfl ?_
      refine TQ_on rfl rfl (by decide) rfl (pur_ldTK (T := tFact) (i := n_16) (off := 0) rfl agg65 rfl rfl hv_18 (by decide) rfl) rfl ?_
      refine pq tb 2 rfl ?_
      refine tqe [(1, (.b 0 0)), (3, (intA i3)), (20, (boolA false)), (23, (boolA true)), (29, (.g (tFact.enc v_14))), (31, (sl tFact d0.facts))] rfl ?_
      refine pq tb 1 rfl ?_
      refine TQ_on rfl rfl (by decide) rfl (pur_ixT (T := tFact) sl46 rfl rfl hz_8 hv_9 rfl) rfl ?_
      refine TQ_on rfl rfl (by decide) rfl (pur_ldTK (T := tFact) (i := n_7) (off := 0) rfl agg65 rfl rfl hv_9 (by decide) rfl) rfl ?_
      obtain ⟨r_19, h_20, H⟩ := bind_inv H
      refine TQ_onV rfl rfl (by decide) rfl (call_static ent114 rfl) (m_spec_CompareFacts_ok u _ _ _ h_20) rfl rfl ?_
      refine pq tb 3 rfl ?_
      refine TQ_nil ?_
      exact joined (decide (0 ≤ r_19)) (w0 1) (some_inj H).symm
     ·replace H := cond_f g_13 H
      refine pq tb 8 rfl ?_
      refine tqe [(1, (.b 0 0)), (3, (intA i3)), (20, (boolA false)), (23, (boolA false)), (29, (.v undef)), (31, (.v undef))] rfl ?_
      refine pq tb 7 rfl ?_
      refine TQ_nil ?_
      exact joined false (w0 1) (some_inj H).symm
   ·rintro _ rfl
    replace H := H_4
    refine T_cond (t := t38_3) rfl (fun c_21 => ?_) (fun c_21 => ?_)
    ·replace H := cond_t c_21 H
     refine sr ?_
     refine pv tb 1 rfl ?_
     refine TO_nil ?_
     refine T_ret ?_
     refine block_ret ?_
     refine then_ret ?_
     refine then_ret ?_
     refine block_ret ?_
     refine then_ret ?_
     obtain rfl := some_inj H
     obtain rfl := some_inj K1_
     replace H := onS_r N1_
     obtain rfl := some_inj H
     refine end_ret (.tmp .nil) rfl rfl ⟨?_, rfl⟩
     rfl
    ·replace H := cond_f c_21 H
     refine T_skip ?_
     refine T_region ?_
     refine pv tb 3 rfl ?_
     refine TO_nil ?_
     obtain rfl := some_inj H
     exact again k1 (w64 (i3 + 1)) (Nat.lt_succ_self _) (w0 1) K1_
  ·replace H := cond_f c_2 H
   refine T_exit ?_
   refine then_exit ?_
   refine then_exit ?_
   refine block_exit ?_
   obtain rfl := some_inj H
   obtain rfl := some_inj K1_
   replace H := onS_l N1_
   obtain ⟨t2_22, J_22, H_23⟩ := bind_inv H
   refine T_cutX (fun x => t2_22 = x) (fun (t2_22 : Bool) => [(2, (boolA t2_22))]) (fun (t2_22 : Bool) => []) ?_ ?_
   ·replace H := J_22
    refine T_region ?_
    obtain ⟨r_24, h_25, H⟩ := bind_inv H
    refine pv tb 2 rfl ?_
    refine TO_cons rfl (TOp_callV (call_static ent124 rfl) (m_spec_AreValidRelations_ok _ _ h_25) rfl rfl rfl ?_)
    refine pv tb 1 rfl ?_
    refine TO_split (t := r_24) 42 rfl (fun g_26 => ?_) (fun g_26 => ?_)
    ·replace H := cond_t g_26 H
     refine pv tb 2 rfl ?_
     refine TO_on rfl rfl (by decide) rfl rfl (TOp_pure (pur_lenT (T := tFact) sl46 rfl rfl) rfl ?_)
     refine pv tb 3 rfl ?_
     refine TO_nil ?_
     exact joined (decide ((d0.facts.length : Int) ≤ 14)) (w0 0) (some_inj H).symm
    ·replace H := cond_f g_26 H
     refine pv tb 6 rfl ?_
     refine TO_nil ?_
     exact joined false (w0 0) (some_inj H).symm
   ·rintro _ rfl
    replace H := H_23
    refine T_ret ?_
    obtain rfl := some_inj H
    refine end_ret (.tmp .nil) rfl rfl ⟨?_, rfl⟩
    rfl

set_option maxHeartbeats 1000000 in
/-- spec.FactIndex -/
theorem m_spec_FactIndex_ok (u : Nat) (d0 : Database) (f1 : Fact) (r : Int) (H : m_spec_FactIndex u d0 f1 = some r) : FnV prg 111 [(.g (tDatabase.enc d0)), (.g (tFact.enc f1))] (intA r) := by
  unfold m_spec_FactIndex at H
  refine fnV_of_T Try.func111 rfl rfl (Nat.le_of_ble_eq_true rfl) ?_
  refine te [(0, (.g (tDatabase.enc d0))), (1, (.g (tFact.enc f1)))] rfl ?_
  refine sr ?_
  refine TO_cons rfl (TOp_box rfl (boxAll rfl) rfl rfl ?_)
  refine TO_cons rfl (TOp_box rfl (boxAll rfl) rfl rfl ?_)
  refine pv tb 1 rfl ?_
  refine TO_nil ?_
  refine T_seq ?_
  refine sr ?_
  refine pv tb 1 rfl ?_
  refine TO_nil ?_
  obtain ⟨O1_, L1_, N1_⟩ := bind_inv H
  clear H
  obtain ⟨B1_, hb1, L1_⟩ := gen_whileF L1_
  refine T_block ?_
  refine T_loopX (fun k => fun (i5 : Int) => whileF B1_ k i5 = some O1_) (fun (i5 : Int) => [(2, (.b 0 0)), (3, (.b 1 0)), (5, (intA i5))]) (fun (i5 : Int) => [.box [(sl tRelation d0.relations), (sl tFact d0.facts)], .box [(intA f1.relation), (sl tInt f1.values)]]) u 0 (w0 2) L1_ ?_
  rintro _ i5 L1_
  obtain ⟨k1, rfl, C1_, H, K1_⟩ := while_step L1_
  rw [hb1] at H
  refine T_seq ?_
  refine sr ?_
  refine pv tb 3 rfl ?_
  refine Tp rfl rfl (pur_lenT (T := tFact) sl46 rfl rfl) rfl ?_
  refine pv tb 1 rfl ?_
  refine TO_nil ?_
  refine T_cond (t := decide (i5 < (d0.facts.length : Int))) rfl (fun c_2 => ?_) (fun c_2 => ?_)
  ·replace H := cond_t c_2 H
   refine T_skip ?_
   refine T_seq ?_
   refine T_block ?_
   refine T_seq ?_
   refine T_regionD mixed (by kernel_rfl) ?_
   obtain ⟨v_3, h_4, H⟩ := bind_inv H
   obtain ⟨n_5, hz_6, hv_7⟩ := getI_inv h_4
   refine pq tb 3 rfl ?_
   refine TQ_pure rfl (pur_ixT (T := tFact) sl46 rfl rfl hz_6 hv_7 rfl) rfl ?_
   refine TQ_pure rfl (pur_ldTK (T := tFact) (i := n_5) (off := 0) rfl agg65 rfl rfl hv_7 (by decide) rfl) rfl ?_
   obtain ⟨r_8, h_9, H⟩ := bind_inv H
   refine pq tb 1 rfl ?_
   refine TQ_callV rfl (call_static ent114 rfl) (m_spec_CompareFacts_ok u _ _ _ h_9) rfl rfl ?_
   refine pq tb 1 rfl ?_
   refine TQ_nil ?_
   refine T_cond (t := decide (r_8 = 0)) rfl (fun c_10 => ?_) (fun c_10 => ?_)
   ·replace H := cond_t c_10 H
    refine sr ?_
    refine pv tb 2 rfl ?_
    refine TO_nil ?_
    refine te [(4, (intA i5))] rfl ?_
    refine T_ret ?_
    refine block_ret ?_
    refine then_ret ?_
    refine then_ret ?_
    refine block_ret ?_
    refine then_ret ?_
    obtain rfl := some_inj H
    obtain rfl := some_inj K1_
    replace H := onS_r N1_
    obtain rfl := some_inj H
    refine end_ret (.tmp .nil) rfl rfl ⟨?_, rfl⟩
    rfl
   ·replace H := cond_f c_10 H
    refine T_skip ?_
    refine T_region ?_
    refine pv tb 3 rfl ?_
    refine TO_nil ?_
    obtain rfl := some_inj H
    exact again k1 (w64 (i5 + 1)) (Nat.lt_succ_self _) (w0 2) K1_
  ·replace H := cond_f c_2 H
   refine T_exit ?_
   refine then_exit ?_
   refine then_exit ?_
   refine block_exit ?_
   obtain rfl := some_inj H
   obtain rfl := some_inj K1_
   replace H := onS_l N1_
   refine sr ?_
   refine pv tb 1 rfl ?_
   refine TO_nil ?_
   refine T_ret ?_
   obtain rfl := some_inj H
   refine end_ret (.tmp .nil) rfl rfl ⟨?_, rfl⟩
   rfl

set_option maxHeartbeats 1000000 in
/-- spec.ContainsFact -/
theorem m_spec_ContainsFact_ok (u : Nat) (d0 : Database) (f1 : Fact) (r : Bool) (H : m_spec_ContainsFact u d0 f1 = some r) : FnV prg 109 [(.g (tDatabase.enc d0)), (.g (tFact.enc f1))] (boolA r) := by
  unfold m_spec_ContainsFact at H
  refine fnV_of_T Try.func109 rfl rfl (Nat.le_of_ble_eq_true rfl) ?_
  refine te [(0, (.g (tDatabase.enc d0))), (1, (.g (tFact.enc f1)))] rfl ?_
  refine sr ?_
  refine TO_cons rfl (TOp_box rfl (boxAll rfl) rfl rfl ?_)
  refine TO_cons rfl (TOp_box rfl (boxAll rfl) rfl rfl ?_)
  refine pv tb 1 rfl ?_
  refine TO_nil ?_
  obtain ⟨t4_1, J_1, H_2⟩ := bind_inv H
  refine T_cutX (fun x => t4_1 = x) (fun (t4_1 : Bool) => [(4, (boolA t4_1))]) (fun (t4_1 : Bool) => []) ?_ ?_
  ·replace H := J_1
   refine T_region ?_
   obtain ⟨r_3, h_4, H⟩ := bind_inv H
   refine pv tb 1 rfl ?_
   refine TO_cons rfl (TOp_callV (call_static ent53 rfl) (m_spec_IsValidDatabase_ok u _ _ h_4) rfl rfl rfl ?_)
   refine pv tb 1 rfl ?_
   refine TO_split (t := r_3) 7 rfl (fun g_5 => ?_) (fun g_5 => ?_)
   ·replace H := cond_t g_5 H
    obtain ⟨r_6, h_7, H⟩ := bind_inv H
    refine pv tb 2 rfl ?_
    refine TO_on rfl rfl (by decide) rfl rfl (TOp_callV (call_static ent111 rfl) (m_spec_FactIndex_ok u _ _ _ h_7) rfl rfl rfl ?_)
    refine pv tb 3 rfl ?_
    refine TO_nil ?_
    exact joined (decide (0 ≤ r_6)) (w0 0) (some_inj H).symm
   ·replace H := cond_f g_5 H
    refine pv tb 6 rfl ?_
    refine TO_nil ?_
    exact joined false (w0 0) (some_inj H).symm
  ·rintro _ rfl
   replace H := H_2
   refine T_ret ?_
   obtain rfl := some_inj H
   refine end_ret (.tmp .nil) rfl rfl ⟨?_, rfl⟩
   rfl

set_option maxHeartbeats 1000000 in
/-- spec.KeyOf -/
theorem m_spec_KeyOf_own (u : Nat) (l0 : (List Relation)) (f1 : Fact) (r : (List Int)) (H : m_spec_KeyOf u l0 f1 = some r) : FnO prg 178 [(sl tRelation l0), (.g (tFact.enc f1))] (.m [0] 0 r.length tInt.k) [.row (flat tInt.own r)] := by
  unfold m_spec_KeyOf at H
  refine fnO_of_T Try.func178 rfl rfl (Nat.le_of_ble_eq_true rfl) ?_
  refine te [(0, (sl tRelation l0)), (1, (.g (tFact.enc f1)))] rfl ?_
  refine sr ?_
  refine TO_cons rfl (TOp_box rfl (boxAll rfl) rfl rfl ?_)
  refine pv tb 1 rfl ?_
  refine TO_nil ?_
  refine T_seq ?_
  refine sr ?_
  obtain ⟨r_1, h_2, H⟩ := bind_inv H
  refine pv tb 2 rfl ?_
  refine TO_cons rfl (TOp_callV (call_static ent123 rfl) (m_spec_IsValidFact_ok u _ _ _ h_2) rfl rfl rfl ?_)
  refine pv tb 1 rfl ?_
  refine TO_nil ?_
  refine T_cond (t := (!r_1)) rfl (fun c_3 => ?_) (fun c_3 => ?_)
  ·replace H := cond_t c_3 H
   refine sr ?_
   refine TO_cons rfl (TOp_lit (nn := 0) (k := 1) sl23 zero3 rfl rfl rfl rfl (by decide) ?_)
   refine TO_st (σ' := [.box [(intA f1.relation), (sl tInt f1.values)], .row (flat tInt.enc ([] : (List Int)))]) rfl ?_
   refine pv tb 1 rfl ?_
   refine TO_nil ?_
   refine T_ret ?_
   refine then_ret ?_
   obtain rfl := some_inj H
   exact end_pick (.tmp .nil) rfl [1] (by decide) rfl rfl rfl rfl rfl rfl
  ·replace H := cond_f c_3 H
   refine T_skip ?_
   obtain ⟨v_4, h_5, H⟩ := bind_inv H
   obtain ⟨n_6, hz_7, hv_8⟩ := getI_inv h_5
   obtain ⟨ys_9, h_10, H⟩ := bind_inv H
   obtain ⟨us_11, h_12, H⟩ := bind_inv H
   refine T_pad ?_
   refine T_cutX (fun (_ : Unit) => True) (fun _ => [(4, (.m [1] 0 us_11.length tInt.k))]) (fun _ => [.box [(intA f1.relation), (sl tInt f1.values)], .row (flat tInt.enc us_11)]) ?_ ?_
   ·skip
    refine T_regionP 1 mixed rfl ?_
    refine pa tb [1, 2, 3, 4, 5] 7 rfl (by kernel_rfl) rfl ?_
    refine tf 6 rfl (pur_ixT (T := tRelation) sl45 rfl rfl hz_7 hv_8 rfl) rfl rfl (by kernel_rfl) ?_
    refine pa tb [7] 5 rfl (by kernel_rfl) rfl ?_
    refine tf 8 rfl (pur_ldT (T := tRelation) (i := n_6) (off := 2) rfl one3 rfl rfl hv_8 rfl) rfl rfl (by kernel_rfl) ?_
    refine tf 9 rfl (pur_cutT (T := tInt) (lo := none) (hi := (some (.tmp 18))) sl23 rfl rfl ⟨_, rfl⟩ h_10 rfl) rfl rfl (by kernel_rfl) ?_
    refine t1 0 (by kernel_rfl) rfl rfl (TOp_lit (nn := 0) (k := 1) sl23 zero3 rfl rfl rfl rfl (by decide) ?_)
    refine t1 10 (by kernel_rfl) rfl rfl (TOp_appY (T := tInt) (f := tInt.enc) (xs := ([] : (List Int))) (ys := ys_9) tInt.len sl23 zero3 rfl bytes3 (by decide) rfl rfl rfl rfl (src_T (T := tInt) rfl) (flat_cell tInt _) h_12 ?_)
    refine tmw 2 3 (by decide) (lb rfl) rfl rfl (lb rfl) rfl ?_
    refine pa tb [11] 0 rfl (by kernel_rfl) rfl ?_
    refine tae [(4, (.m [2] 0 us_11.length tInt.k))] rfl ?_
    refine TA_ghost (E' := [(4, (.m [1] 0 us_11.length tInt.k))]) (σ' := [.dead, .row (flat tInt.enc us_11), .dead, .dead]) (Ghost.move 1 2 (by decide) (lb rfl) rfl rfl (lb rfl) (Ghost.weak (WeakL.to 4 (lb rfl) rfl rfl rfl rfl ⟨leR rfl, trivial⟩))) ?_
    exact TA_nil (by kernel_rfl) (joined () (w0 2) trivial)
   ·rintro _ _
    refine T_ret ?_
    obtain rfl := some_inj H
    exact end_pick (.tmp .nil) rfl [1] (by decide) rfl rfl rfl rfl rfl rfl
theorem m_spec_KeyOf_ok (u : Nat) (l0 : (List Relation)) (f1 : Fact) (r : (List Int)) (H : m_spec_KeyOf u l0 f1 = some r) : FnV prg 178 [(sl tRelation l0), (.g (tFact.enc f1))] (sl tInt r) := (m_spec_KeyOf_own u l0 f1 r H).frz (frzT (T := tInt) rfl)

set_option maxHeartbeats 1000000 in
/-- spec.HaveSameKey -/
theorem m_spec_HaveSameKey_ok (u : Nat) (l0 : (List Relation)) (a1 : Fact) (b2 : Fact) (r : Bool) (H : m_spec_HaveSameKey u l0 a1 b2 = some r) : FnV prg 161 [(sl tRelation l0), (.g (tFact.enc a1)), (.g (tFact.enc b2))] (boolA r) := by
  unfold m_spec_HaveSameKey at H
  refine fnV_of_T Try.func161 rfl rfl (Nat.le_of_ble_eq_true rfl) ?_
  refine te [(0, (sl tRelation l0)), (1, (.g (tFact.enc a1))), (2, (.g (tFact.enc b2)))] rfl ?_
  refine sr ?_
  refine TO_cons rfl (TOp_box rfl (boxAll rfl) rfl rfl ?_)
  refine TO_cons rfl (TOp_box rfl (boxAll rfl) rfl rfl ?_)
  refine pv tb 1 rfl ?_
  refine TO_nil ?_
  obtain ⟨t6_1, J_1, H_2⟩ := bind_inv H
  refine T_cutX (fun x => t6_1 = x) (fun (t6_1 : Bool) => [(6, (boolA t6_1))]) (fun (t6_1 : Bool) => []) ?_ ?_
  ·replace H := J_1
   obtain ⟨r_3, h_4, H⟩ := bind_inv H
   refine T_caseB r_3 (fun g_5 => ?_) (fun g_5 => ?_)
   ·replace H := cond_t g_5 H
    obtain ⟨r_6, h_7, H⟩ := bind_inv H
    refine T_caseB r_6 (fun g_8 => ?_) (fun g_8 => ?_)
    ·replace H := cond_t g_8 H
     refine T_caseB (decide (a1.relation = b2.relation)) (fun g_9 => ?_) (fun g_9 => ?_)
     ·replace H := cond_t g_9 H
      obtain ⟨r_10, h_11, H⟩ := bind_inv H
      obtain ⟨r_12, h_13, H⟩ := bind_inv H
      obtain ⟨r_14, h_15, H⟩ := bind_inv H
      refine T_regionP 2 mixed rfl ?_
      refine pa tb [0, 1] 24 rfl (by kernel_rfl) rfl ?_
      refine TA_allG [2] (by kernel_rfl) (by decide) ⟨⟨_, rfl, goN rfl, (TOp_callV (call_static ent123 rfl) (m_spec_IsValidFact_ok u _ _ _ h_4) rfl rfl rfl ?_)⟩, trivial⟩
      refine pa tb [3] 22 rfl (by kernel_rfl) rfl ?_
      refine TA_bool 10 g_5 rfl ?_
      refine pa tb [4, 5] 20 rfl (by kernel_rfl) rfl ?_
      refine TA_allG [6] (by kernel_rfl) (by decide) ⟨⟨_, rfl, goG rfl rfl (by decide) rfl, (TOp_callV (call_static ent123 rfl) (m_spec_IsValidFact_ok u _ _ _ h_7) rfl rfl rfl ?_)⟩, trivial⟩
      refine pa tb [7, 8] 17 rfl (by kernel_rfl) rfl ?_
      refine TA_bool 15 g_8 rfl ?_
      refine pa tb [9, 10, 11, 12, 13, 14, 15] 10 rfl (by kernel_rfl) rfl ?_
      refine TA_bool 22 g_9 rfl ?_
      refine tae [(0, (sl tRelation l0)), (4, (.b 0 0)), (5, (.b 1 0)), (22, (boolA true))] rfl ?_
      refine pa tb [16, 17, 19, 20] 6 rfl (by kernel_rfl) rfl ?_
      refine TA_allG [18] (by kernel_rfl) (by decide) ⟨⟨_, rfl, goG rfl rfl (by decide) rfl, (TOp_callV (call_static ent178 rfl) (m_spec_KeyOf_ok u _ _ _ h_11) rfl rfl rfl ?_)⟩, trivial⟩
      refine TA_allG [21] (by kernel_rfl) (by decide) ⟨⟨_, rfl, goG rfl rfl (by decide) rfl, (TOp_callV (call_static ent178 rfl) (m_spec_KeyOf_ok u _ _ _ h_13) rfl rfl rfl ?_)⟩, trivial⟩
      refine TA_allG [22] (by kernel_rfl) (by decide) ⟨⟨_, rfl, goG rfl rfl (by decide) rfl, (TOp_callV (call_static ent148 rfl) (m_spec_l3Ints_ok u _ _ _ h_15) rfl rfl rfl ?_)⟩, trivial⟩
      refine pa tb [23, 24, 25] 0 rfl (by kernel_rfl) rfl ?_
      refine TA_nil (by kernel_rfl) ?_
      exact joined (decide (r_14 = 0)) (w0 0) (some_inj H).symm
     ·replace H := cond_f g_9 H
      refine T_regionP 2 mixed rfl ?_
      refine pa tb [0, 1] 24 rfl (by kernel_rfl) rfl ?_
      refine TA_allG [2] (by kernel_rfl) (by decide) ⟨⟨_, rfl, goN rfl, (TOp_callV (call_static ent123 rfl) (m_spec_IsValidFact_ok u _ _ _ h_4) rfl rfl rfl ?_)⟩, trivial⟩
      refine pa tb [3] 22 rfl (by kernel_rfl) rfl ?_
      refine TA_bool 10 g_5 rfl ?_
      refine pa tb [4, 5] 20 rfl (by kernel_rfl) rfl ?_
      refine TA_allG [6] (by kernel_rfl) (by decide) ⟨⟨_, rfl, goG rfl rfl (by decide) rfl, (TOp_callV (call_static ent123 rfl) (m_spec_IsValidFact_ok u _ _ _ h_7) rfl rfl rfl ?_)⟩, trivial⟩
      refine pa tb [7, 8] 17 rfl (by kernel_rfl) rfl ?_
      refine TA_bool 15 g_8 rfl ?_
      refine pa tb [9, 10, 11, 12, 13, 14, 15] 10 rfl (by kernel_rfl) rfl ?_
      refine TA_bool 22 g_9 rfl ?_
      refine tae [(0, (sl tRelation l0)), (4, (.b 0 0)), (5, (.b 1 0)), (22, (boolA false))] rfl ?_
      refine pa tb [16, 17, 18, 19, 20, 21, 22, 23, 24, 25] 0 rfl (by kernel_rfl) rfl ?_
      refine TA_nil (by kernel_rfl) ?_
      exact joined false (w0 0) (some_inj H).symm
    ·replace H := cond_f g_8 H
     refine T_regionP 2 mixed rfl ?_
     refine pa tb [0, 1] 24 rfl (by kernel_rfl) rfl ?_
     refine TA_allG [2] (by kernel_rfl) (by decide) ⟨⟨_, rfl, goN rfl, (TOp_callV (call_static ent123 rfl) (m_spec_IsValidFact_ok u _ _ _ h_4) rfl rfl rfl ?_)⟩, trivial⟩
     refine pa tb [3] 22 rfl (by kernel_rfl) rfl ?_
     refine TA_bool 10 g_5 rfl ?_
     refine pa tb [4, 5] 20 rfl (by kernel_rfl) rfl ?_
     refine TA_allG [6] (by kernel_rfl) (by decide) ⟨⟨_, rfl, goG rfl rfl (by decide) rfl, (TOp_callV (call_static ent123 rfl) (m_spec_IsValidFact_ok u _ _ _ h_7) rfl rfl rfl ?_)⟩, trivial⟩
     refine pa tb [7, 8] 17 rfl (by kernel_rfl) rfl ?_
     refine TA_bool 15 g_8 rfl ?_
     refine pa tb [9, 10, 11, 12, 13, 14] 11 rfl (by kernel_rfl) rfl ?_
     refine tae [(0, (sl tRelation l0)), (4, (.b 0 0)), (5, (.b 1 0)), (21, (boolA false))] rfl ?_
     refine pa tb [15, 16, 17, 18, 19, 20, 21, 22, 23, 24, 25] 0 rfl (by kernel_rfl) rfl ?_
     refine TA_nil (by kernel_rfl) ?_
     exact joined false (w0 0) (some_inj H).symm
   ·replace H := cond_f g_5 H
    refine T_regionP 2 mixed rfl ?_
    refine pa tb [0, 1] 24 rfl (by kernel_rfl) rfl ?_
    refine TA_allG [2] (by kernel_rfl) (by decide) ⟨⟨_, rfl, goN rfl, (TOp_callV (call_static ent123 rfl) (m_spec_IsValidFact_ok u _ _ _ h_4) rfl rfl rfl ?_)⟩, trivial⟩
    refine pa tb [3] 22 rfl (by kernel_rfl) rfl ?_
    refine TA_bool 10 g_5 rfl ?_
    refine pa tb [4, 5, 6, 7, 8, 9, 10, 11, 12, 13, 14] 11 rfl (by kernel_rfl) rfl ?_
    refine tae [(0, (sl tRelation l0)), (4, (.b 0 0)), (5, (.b 1 0)), (21, (boolA false))] rfl ?_
    refine pa tb [15, 16, 17, 18, 19, 20, 21, 22, 23, 24, 25] 0 rfl (by kernel_rfl) rfl ?_
    refine TA_nil (by kernel_rfl) ?_
    exact joined false (w0 0) (some_inj H).symm
  ·rintro _ rfl
   replace H := H_2
   refine T_ret ?_
   obtain rfl := some_inj H
   refine end_ret (.tmp .nil) rfl rfl ⟨?_, rfl⟩
   rfl
end Go.Proofs.Ytjdpolnakhmkmaa

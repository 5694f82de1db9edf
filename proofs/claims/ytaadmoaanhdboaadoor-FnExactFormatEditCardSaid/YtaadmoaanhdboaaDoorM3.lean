import Derived.Test.YtaadmoaanhdboaaDoorM1
import Derived.Test.YtaadmoaanhdboaaDoorM2
set_option linter.unusedVariables false
set_option linter.unusedSimpArgs false
set_option maxRecDepth 4000
namespace Go.Proofs.YtaadmoaanhdboaaDoor
open Go Go.Proofs Go.Sep
set_option maxHeartbeats 1000000 in
theorem m_laws_eqFactS_ok (a0 : (List Fact)) (b1 : (List Fact)) (r : Bool) (H : m_laws_eqFactS a0 b1 = some r) : FnV prg 45 [(sl tFact a0), (sl tFact b1)] (boolA r) := by
  unfold m_laws_eqFactS at H
  refine fnV_of_T Tryd.func45 rfl rfl (Nat.le_of_ble_eq_true rfl) ?_
  refine te [(0, (sl tFact a0)), (1, (sl tFact b1))] rfl ?_
  refine sr ?_
  refine pv tb 1 rfl ?_
  refine TO_nil ?_
  refine T_seq ?_
  refine sr ?_
  refine pv tb 1 rfl ?_
  refine Tp rfl rfl (pur_lenT (T := tFact) sl47 rfl rfl) rfl ?_
  refine pv tb 1 rfl ?_
  refine Tp rfl rfl (pur_lenT (T := tFact) sl47 rfl rfl) rfl ?_
  refine pv tb 1 rfl ?_
  refine TO_nil ?_
  refine T_cond (t := decide ((a0.length : Int) ≠ (b1.length : Int))) rfl (fun c_1 => ?_) (fun c_1 => ?_)
  ·replace H := cond_t c_1 H
   refine sr ?_
   refine pv tb 1 rfl ?_
   refine TO_nil ?_
   refine T_ret ?_
   refine then_ret ?_
   obtain rfl := some_inj H
   refine end_ret (.tmp .nil) rfl rfl ⟨?_, rfl⟩
   rfl
  ·replace H := cond_f c_1 H
   refine T_skip ?_
   refine T_seq ?_
   refine sr ?_
   refine pv tb 1 rfl ?_
   refine TO_nil ?_
   obtain ⟨O3_, L3_, N3_⟩ := bind_inv H
   clear H
   obtain ⟨B3_, hb3, L3_⟩ := gen_forL L3_
   refine T_block ?_
   refine T_loopX (fun k => fun (i_2 : Nat) => k = a0.length - i_2 ∧ forL B3_ (a0.drop i_2) (i_2 : Int) () = some O3_) (fun (i_2 : Nat) => [(0, (sl tFact a0)), (1, (sl tFact b1)), (5, (intA (i_2 : Int)))]) (fun (i_2 : Nat) => []) _ (0 : Nat) (w0 0) ⟨rfl, L3_⟩ ?_
   rintro _ i_2 ⟨rfl, L3_⟩
   refine T_fact (len_sl (T := tFact) (.tmp 0) rfl) (fun hl3 => ?_)
   refine T_seq ?_
   refine sr ?_
   refine pv tb 2 rfl ?_
   refine Tp rfl rfl (pur_lenT (T := tFact) sl47 rfl rfl) rfl ?_
   refine pv tb 1 rfl ?_
   refine TO_nil ?_
   refine T_cond (t := decide ((i_2 : Int) < (a0.length : Int))) rfl (fun d3 => ?_) (fun d3 => ?_)
   ·replace d3 := of_decide_eq_true d3
    obtain ⟨x_i_2, hx_i_2⟩ : ∃ v, (a0)[i_2]? = some v := ⟨_, List.getElem?_eq_getElem (by omega)⟩
    obtain ⟨C3_, H, K3_⟩ := forL_step L3_ hx_i_2
    rw [hb3] at H
    refine T_skip ?_
    refine T_seq ?_
    refine T_block ?_
    refine T_seq ?_
    refine T_regionD mixed (by kernel_rfl) ?_
    refine pq tb 2 rfl ?_
    refine TQ_pure rfl (pur_ixT (T := tFact) sl47 rfl rfl rfl hx_i_2 rfl) rfl ?_
    refine TQ_pure rfl (pur_ldTK (T := tFact) (i := i_2) (off := 0) rfl agg51 rfl rfl hx_i_2 (by decide) rfl) rfl ?_
    obtain ⟨v_4, h_5, H⟩ := bind_inv H
    obtain ⟨n_6, hz_7, hv_8⟩ := getI_inv h_5
    refine pq tb 2 rfl ?_
    refine TQ_pure rfl (pur_ixT (T := tFact) sl47 rfl rfl hz_7 hv_8 rfl) rfl ?_
    refine TQ_pure rfl (pur_ldTK (T := tFact) (i := n_6) (off := 0) rfl agg51 rfl rfl hv_8 (by decide) rfl) rfl ?_
    obtain ⟨r_9, h_10, H⟩ := bind_inv H
    refine TQ_callV rfl (call_static ent46 rfl) (m_laws_eqFact_ok _ _ _ h_10) rfl rfl ?_
    refine pq tb 1 rfl ?_
    refine TQ_nil ?_
    refine T_cond (t := (!r_9)) rfl (fun c_11 => ?_) (fun c_11 => ?_)
    ·replace H := cond_t c_11 H
     refine sr ?_
     refine pv tb 1 rfl ?_
     refine TO_nil ?_
     refine te [(4, (boolA false))] rfl ?_
     refine T_ret ?_
     refine block_ret ?_
     refine then_ret ?_
     refine then_ret ?_
     refine block_ret ?_
     refine then_ret ?_
     obtain rfl := some_inj H
     obtain rfl := some_inj K3_
     replace H := onS_r N3_
     obtain rfl := some_inj H
     refine end_ret (.tmp .nil) rfl rfl ⟨?_, rfl⟩
     rfl
    ·replace H := cond_f c_11 H
     refine T_skip ?_
     refine T_region ?_
     refine pv tb 1 rfl ?_
     refine Tp rfl rfl (pur_add rfl rfl rfl (fits64 (by omega) (by omega))) rfl ?_
     refine pv tb 1 rfl ?_
     refine TO_nil ?_
     obtain rfl := some_inj H
     exact again (a0.length - (i_2 + 1)) (i_2 + 1) (by omega) (w0 0) ⟨rfl, K3_⟩
   ·replace d3 := of_decide_eq_false d3
    obtain rfl := forL_end L3_ (by omega)
    refine T_exit ?_
    refine then_exit ?_
    refine then_exit ?_
    refine block_exit ?_
    replace H := onS_l N3_
    refine sr ?_
    refine pv tb 1 rfl ?_
    refine TO_nil ?_
    refine T_ret ?_
    obtain rfl := some_inj H
    refine end_ret (.tmp .nil) rfl rfl ⟨?_, rfl⟩
    rfl

set_option maxHeartbeats 1000000 in
theorem m_laws_eqDatabase_ok (a0 : Database) (b1 : Database) (r : Bool) (H : m_laws_eqDatabase a0 b1 = some r) : FnV prg 21 [(.g (tDatabase.enc a0)), (.g (tDatabase.enc b1))] (boolA r) := by
  unfold m_laws_eqDatabase at H
  refine fnV_of_T Tryd.func21 rfl rfl (Nat.le_of_ble_eq_true rfl) ?_
  refine te [(0, (.g (tDatabase.enc a0))), (1, (.g (tDatabase.enc b1)))] rfl ?_
  refine sr ?_
  refine TO_cons rfl (TOp_box rfl (boxAll rfl) rfl rfl ?_)
  refine TO_cons rfl (TOp_box rfl (boxAll rfl) rfl rfl ?_)
  refine pv tb 1 rfl ?_
  refine TO_nil ?_
  refine T_seq ?_
  refine sr ?_
  obtain ⟨r_1, h_2, H⟩ := bind_inv H
  refine pv tb 4 rfl ?_
  refine TO_cons rfl (TOp_callV (call_static ent44 rfl) (m_laws_eqRelationS_ok _ _ _ h_2) rfl rfl rfl ?_)
  refine pv tb 1 rfl ?_
  refine TO_nil ?_
  refine T_cond (t := (!r_1)) rfl (fun c_3 => ?_) (fun c_3 => ?_)
  ·replace H := cond_t c_3 H
   refine sr ?_
   refine pv tb 1 rfl ?_
   refine TO_nil ?_
   refine T_ret ?_
   refine then_ret ?_
   obtain rfl := some_inj H
   refine end_ret (.tmp .nil) rfl rfl ⟨?_, rfl⟩
   rfl
  ·replace H := cond_f c_3 H
   refine T_skip ?_
   refine T_seq ?_
   refine sr ?_
   obtain ⟨r_4, h_5, H⟩ := bind_inv H
   refine pv tb 4 rfl ?_
   refine TO_cons rfl (TOp_callV (call_static ent45 rfl) (m_laws_eqFactS_ok _ _ _ h_5) rfl rfl rfl ?_)
   refine pv tb 1 rfl ?_
   refine TO_nil ?_
   refine te [(16, (boolA (!r_4)))] rfl ?_
   refine T_cond (t := (!r_4)) rfl (fun c_6 => ?_) (fun c_6 => ?_)
   ·replace H := cond_t c_6 H
    refine sr ?_
    refine pv tb 1 rfl ?_
    refine TO_nil ?_
    refine T_ret ?_
    refine then_ret ?_
    obtain rfl := some_inj H
    refine end_ret (.tmp .nil) rfl rfl ⟨?_, rfl⟩
    rfl
   ·replace H := cond_f c_6 H
    refine T_skip ?_
    refine sr ?_
    refine pv tb 1 rfl ?_
    refine TO_nil ?_
    refine T_ret ?_
    obtain rfl := some_inj H
    refine end_ret (.tmp .nil) rfl rfl ⟨?_, rfl⟩
    rfl

set_option maxHeartbeats 1000000 in
theorem m_laws_eqEdit_ok (a0 : Edit) (b1 : Edit) (r : Bool) (H : m_laws_eqEdit a0 b1 = some r) : FnV prg 22 [(.g (tEdit.enc a0)), (.g (tEdit.enc b1))] (boolA r) := by
  unfold m_laws_eqEdit at H
  refine fnV_of_T Tryd.func22 rfl rfl (Nat.le_of_ble_eq_true rfl) ?_
  refine te [(0, (.g (tEdit.enc a0))), (1, (.g (tEdit.enc b1)))] rfl ?_
  refine sr ?_
  refine TO_cons rfl (TOp_box rfl (boxAll rfl) rfl rfl ?_)
  refine TO_cons rfl (TOp_box rfl (boxAll rfl) rfl rfl ?_)
  refine pv tb 1 rfl ?_
  refine TO_nil ?_
  refine T_seq ?_
  refine sr ?_
  refine pv tb 5 rfl ?_
  refine TO_nil ?_
  refine T_cond (t := decide (a0.kind ≠ b1.kind)) rfl (fun c_1 => ?_) (fun c_1 => ?_)
  ·replace H := cond_t c_1 H
   refine sr ?_
   refine pv tb 1 rfl ?_
   refine TO_nil ?_
   refine T_ret ?_
   refine then_ret ?_
   obtain rfl := some_inj H
   refine end_ret (.tmp .nil) rfl rfl ⟨?_, rfl⟩
   rfl
  ·replace H := cond_f c_1 H
   refine T_skip ?_
   refine T_seq ?_
   refine sr ?_
   obtain ⟨r_2, h_3, H⟩ := bind_inv H
   refine pv tb 4 rfl ?_
   refine TO_cons rfl (TOp_callV (call_static ent46 rfl) (m_laws_eqFact_ok _ _ _ h_3) rfl rfl rfl ?_)
   refine pv tb 1 rfl ?_
   refine TO_nil ?_
   refine te [(15, (boolA (!r_2)))] rfl ?_
   refine T_cond (t := (!r_2)) rfl (fun c_4 => ?_) (fun c_4 => ?_)
   ·replace H := cond_t c_4 H
    refine sr ?_
    refine pv tb 1 rfl ?_
    refine TO_nil ?_
    refine T_ret ?_
    refine then_ret ?_
    obtain rfl := some_inj H
    refine end_ret (.tmp .nil) rfl rfl ⟨?_, rfl⟩
    rfl
   ·replace H := cond_f c_4 H
    refine T_skip ?_
    refine sr ?_
    refine pv tb 1 rfl ?_
    refine TO_nil ?_
    refine T_ret ?_
    obtain rfl := some_inj H
    refine end_ret (.tmp .nil) rfl rfl ⟨?_, rfl⟩
    rfl

set_option maxHeartbeats 1000000 in
theorem m_laws_FnExactFormatEdit_ok (u : Nat) (aDb0 : Database) (aEdit1 : Edit) (r : Bool) (H : m_laws_FnExactFormatEdit u aDb0 aEdit1 = some r) : FnV prg 5 [(.g (tDatabase.enc aDb0)), (.g (tEdit.enc aEdit1))] (boolA r) := by
  unfold m_laws_FnExactFormatEdit at H
  refine fnV_of_T Tryd.func5 rfl rfl (Nat.le_of_ble_eq_true rfl) ?_
  refine te [(0, (.g (tDatabase.enc aDb0))), (1, (.g (tEdit.enc aEdit1)))] rfl ?_
  refine sr ?_
  refine TO_cons rfl (TOp_box rfl (boxAll rfl) rfl rfl ?_)
  refine TO_cons rfl (TOp_box rfl (boxAll rfl) rfl rfl ?_)
  refine pv tb 1 rfl ?_
  refine TO_nil ?_
  refine sr ?_
  refine pv tb 1 rfl ?_
  refine TO_nil ?_
  refine sr ?_
  obtain ⟨r_1, h_2, H⟩ := bind_inv H
  refine pv tb 2 rfl ?_
  refine TO_cons rfl (TOp_callV (call_static ent15 rfl) (m_laws_szDatabase_ok _ _ _ h_2) rfl rfl rfl ?_)
  refine pv tb 1 rfl ?_
  refine TO_nil ?_
  refine T_seq ?_
  refine sr ?_
  refine pv tb 2 rfl ?_
  refine TO_nil ?_
  refine T_cond (t := decide (r_1 < 0)) rfl (fun c_3 => ?_) (fun c_3 => ?_)
  ·replace H := cond_t c_3 H
   refine sr ?_
   refine pv tb 1 rfl ?_
   refine TO_nil ?_
   refine T_ret ?_
   refine then_ret ?_
   obtain rfl := some_inj H
   refine end_ret (.tmp .nil) rfl rfl ⟨?_, rfl⟩
   rfl
  ·replace H := cond_f c_3 H
   refine T_skip ?_
   refine sr ?_
   obtain ⟨r_4, h_5, H⟩ := bind_inv H
   refine pv tb 2 rfl ?_
   refine TO_cons rfl (TOp_callV (call_static ent16 rfl) (m_laws_szEdit_ok _ _ _ h_5) rfl rfl rfl ?_)
   refine pv tb 1 rfl ?_
   refine TO_nil ?_
   refine T_seq ?_
   refine sr ?_
   refine pv tb 2 rfl ?_
   refine TO_nil ?_
   refine T_cond (t := decide (r_4 < 0)) rfl (fun c_6 => ?_) (fun c_6 => ?_)
   ·replace H := cond_t c_6 H
    refine sr ?_
    refine pv tb 1 rfl ?_
    refine TO_nil ?_
    refine te [(4, (boolA true))] rfl ?_
    refine T_ret ?_
    refine then_ret ?_
    obtain rfl := some_inj H
    refine end_ret (.tmp .nil) rfl rfl ⟨?_, rfl⟩
    rfl
   ·replace H := cond_f c_6 H
    refine T_skip ?_
    obtain ⟨r_7, h_8, H⟩ := bind_inv H
    obtain ⟨r_9, h_10, H⟩ := bind_inv H
    obtain ⟨r_11, h_12, H⟩ := bind_inv H
    refine T_cutX (fun (_ : Unit) => True) (fun _ => [(2, (.b 0 0)), (3, (.b 1 0)), (6, (strA r_11))]) (fun _ => [.box [(sl tRelation aDb0.relations), (sl tFact aDb0.facts)], .box [(intA aEdit1.kind), (intA aEdit1.fact.relation), (sl tInt aEdit1.fact.values)]]) ?_ ?_
    ·skip
     refine T_regionP 2 mixed rfl ?_
     refine pa tb [0, 2] 4 rfl (by kernel_rfl) rfl ?_
     refine t1 1 (by kernel_rfl) rfl rfl (TOp_callV (call_static ent18 rfl) (m_laws_toDatabase_ok _ _ h_8) rfl rfl rfl ?_)
     refine t1 3 (by kernel_rfl) rfl rfl (TOp_callV (call_static ent19 rfl) (m_laws_toEdit_ok _ _ h_10) rfl rfl rfl ?_)
     refine t1 4 (by kernel_rfl) rfl rfl (TOp_callV (call_static ent17 rfl) (m_spec_FormatEdit_ok u _ _ _ h_12) rfl rfl rfl ?_)
     refine pa tb [5] 0 rfl (by kernel_rfl) rfl ?_
     refine tae [(2, (.b 0 0)), (3, (.b 1 0)), (6, (strA r_11))] rfl ?_
     exact TA_nil (by kernel_rfl) (joined () (w0 2) trivial)
    ·rintro _ _
     refine sr ?_
     obtain ⟨r_13, h_14, H⟩ := bind_inv H
     refine pv tb 1 rfl ?_
     refine TO_cons rfl (TOp_callV (call_static ent18 rfl) (m_laws_toDatabase_ok _ _ h_14) rfl rfl rfl ?_)
     refine TO_cons rfl (TOp_alloc zero49 rfl rfl ?_)
     refine TO_cons rfl (TOp_storeB sz49 rfl rfl rfl rfl rfl rfl rfl (by decide) (lb rfl) rfl ?_)
     refine TO_st (σ' := [.box [(sl tRelation aDb0.relations), (sl tFact aDb0.facts)], .box [(intA aEdit1.kind), (intA aEdit1.fact.relation), (sl tInt aEdit1.fact.values)], .box [(sl tRelation r_13.relations), (sl tFact r_13.facts)]]) rfl ?_
     refine TO_nil ?_
     refine sr ?_
     obtain ⟨r_15, h_16, H⟩ := bind_inv H
     refine pv tb 1 rfl ?_
     refine TO_cons rfl (TOp_callV (call_static ent19 rfl) (m_laws_toEdit_ok _ _ h_16) rfl rfl rfl ?_)
     refine TO_cons rfl (TOp_alloc zero53 rfl rfl ?_)
     refine TO_cons rfl (TOp_storeB sz53 rfl rfl rfl rfl rfl rfl rfl (by decide) (lb rfl) rfl ?_)
     refine TO_st (σ' := [.box [(sl tRelation aDb0.relations), (sl tFact aDb0.facts)], .box [(intA aEdit1.kind), (intA aEdit1.fact.relation), (sl tInt aEdit1.fact.values)], .box [(sl tRelation r_13.relations), (sl tFact r_13.facts)], .box [(intA r_15.kind), (intA r_15.fact.relation), (sl tInt r_15.fact.values)]]) rfl ?_
     refine TO_nil ?_
     refine sr ?_
     obtain ⟨r_17, h_18, H⟩ := bind_inv H
     refine pv tb 2 rfl ?_
     refine TO_cons rfl (TOp_callV (call_static ent20 rfl) (m_impl_FormatEdit_ok _ _ _ h_18) rfl rfl rfl ?_)
     refine pv tb 1 rfl ?_
     refine TO_nil ?_
     refine T_seq ?_
     refine sr ?_
     refine pv tb 2 rfl ?_
     refine Tp rfl rfl (pur_neqS rfl rfl rfl) rfl ?_
     refine TO_nil ?_
     refine T_cond (t := decide (r_17 ≠ r_11)) rfl (fun c_19 => ?_) (fun c_19 => ?_)
     ·replace H := cond_t c_19 H
      refine sr ?_
      refine pv tb 1 rfl ?_
      refine TO_nil ?_
      refine te [(4, (boolA false))] rfl ?_
      refine T_ret ?_
      refine then_ret ?_
      obtain rfl := some_inj H
      refine end_ret (.tmp .nil) rfl rfl ⟨?_, rfl⟩
      rfl
     ·replace H := cond_f c_19 H
      refine T_skip ?_
      refine T_seq ?_
      obtain ⟨r_20, h_21, H⟩ := bind_inv H
      obtain ⟨r_22, h_23, H⟩ := bind_inv H
      refine T_cutX (fun (_ : Unit) => True) (fun _ => [(3, (.b 1 0)), (8, (.b 3 0)), (39, (boolA (!r_22)))]) (fun _ => [.box [(sl tRelation aDb0.relations), (sl tFact aDb0.facts)], .box [(intA aEdit1.kind), (intA aEdit1.fact.relation), (sl tInt aEdit1.fact.values)], .box [(sl tRelation r_13.relations), (sl tFact r_13.facts)], .box [(intA r_15.kind), (intA r_15.fact.relation), (sl tInt r_15.fact.values)]]) ?_ ?_
      ·skip
       refine T_regionP 4 mixed rfl ?_
       refine pa tb [0, 1] 3 rfl (by kernel_rfl) rfl ?_
       refine t1 2 (by kernel_rfl) rfl rfl (TOp_callV (call_static ent18 rfl) (m_laws_toDatabase_ok _ _ h_21) rfl rfl rfl ?_)
       refine t1 3 (by kernel_rfl) rfl rfl (TOp_callV (call_static ent21 rfl) (m_laws_eqDatabase_ok _ _ _ h_23) rfl rfl rfl ?_)
       refine pa tb [4] 0 rfl (by kernel_rfl) rfl ?_
       exact TA_nil (by kernel_rfl) (joined () (w0 4) trivial)
      ·rintro _ _
       refine T_cond (t := (!r_22)) rfl (fun c_24 => ?_) (fun c_24 => ?_)
       ·replace H := cond_t c_24 H
        refine sr ?_
        refine pv tb 1 rfl ?_
        refine TO_nil ?_
        refine T_ret ?_
        refine then_ret ?_
        obtain rfl := some_inj H
        refine end_ret (.tmp .nil) rfl rfl ⟨?_, rfl⟩
        rfl
       ·replace H := cond_f c_24 H
        refine T_skip ?_
        refine T_seq ?_
        obtain ⟨r_25, h_26, H⟩ := bind_inv H
        obtain ⟨r_27, h_28, H⟩ := bind_inv H
        refine T_cutX (fun (_ : Unit) => True) (fun _ => [(44, (boolA (!r_27)))]) (fun _ => [.box [(sl tRelation aDb0.relations), (sl tFact aDb0.facts)], .box [(intA aEdit1.kind), (intA aEdit1.fact.relation), (sl tInt aEdit1.fact.values)], .box [(sl tRelation r_13.relations), (sl tFact r_13.facts)], .box [(intA r_15.kind), (intA r_15.fact.relation), (sl tInt r_15.fact.values)]]) ?_ ?_
        ·skip
         refine T_regionP 4 mixed rfl ?_
         refine pa tb [0, 1] 3 rfl (by kernel_rfl) rfl ?_
         refine t1 2 (by kernel_rfl) rfl rfl (TOp_callV (call_static ent19 rfl) (m_laws_toEdit_ok _ _ h_26) rfl rfl rfl ?_)
         refine t1 3 (by kernel_rfl) rfl rfl (TOp_callV (call_static ent22 rfl) (m_laws_eqEdit_ok _ _ _ h_28) rfl rfl rfl ?_)
         refine pa tb [4] 0 rfl (by kernel_rfl) rfl ?_
         exact TA_nil (by kernel_rfl) (joined () (w0 4) trivial)
        ·rintro _ _
         refine T_cond (t := (!r_27)) rfl (fun c_29 => ?_) (fun c_29 => ?_)
         ·replace H := cond_t c_29 H
          refine sr ?_
          refine pv tb 1 rfl ?_
          refine TO_nil ?_
          refine T_ret ?_
          refine then_ret ?_
          obtain rfl := some_inj H
          refine end_ret (.tmp .nil) rfl rfl ⟨?_, rfl⟩
          rfl
         ·replace H := cond_f c_29 H
          refine T_skip ?_
          refine sr ?_
          refine pv tb 1 rfl ?_
          refine TO_nil ?_
          refine T_ret ?_
          obtain rfl := some_inj H
          refine end_ret (.tmp .nil) rfl rfl ⟨?_, rfl⟩
          rfl
end Go.Proofs.YtaadmoaanhdboaaDoor

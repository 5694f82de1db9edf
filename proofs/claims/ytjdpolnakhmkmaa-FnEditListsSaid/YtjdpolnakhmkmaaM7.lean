import Derived.Test.YtjdpolnakhmkmaaM1
import Derived.Test.YtjdpolnakhmkmaaM2
import Derived.Test.YtjdpolnakhmkmaaM3
import Derived.Test.YtjdpolnakhmkmaaM6
set_option linter.unusedVariables false
set_option linter.unusedSimpArgs false
set_option maxRecDepth 4000
namespace Go.Proofs.Ytjdpolnakhmkmaa
open Go Go.Proofs Go.Sep
set_option maxHeartbeats 1000000 in
theorem m_laws_FnEditLists_ok (u : Nat) (code0 : (List Int)) (r : Bool) (H : m_laws_FnEditLists u code0 = some r) : FnV prg 11 [(sl (tI .u8) code0)] (boolA r) := by
  unfold m_laws_FnEditLists at H
  refine fnV_of_T Try.func11 rfl rfl (Nat.le_of_ble_eq_true rfl) ?_
  refine te [(0, (sl (tI .u8) code0))] rfl ?_
  refine sr ?_
  refine pv tb 1 rfl ?_
  refine TO_nil ?_
  refine T_seq ?_
  refine sr ?_
  obtain ⟨r_1, h_2, H⟩ := bind_inv H
  refine pv tb 1 rfl ?_
  refine TO_cons rfl (TOp_callV (call_static ent37 rfl) (m_laws_big_ok _ _ h_2) rfl rfl rfl ?_)
  refine TO_nil ?_
  refine T_cond (t := r_1) rfl (fun c_3 => ?_) (fun c_3 => ?_)
  ·replace H := cond_t c_3 H
   refine sr ?_
   refine pv tb 1 rfl ?_
   refine TO_nil ?_
   refine T_ret ?_
   refine then_ret ?_
   obtain rfl := some_inj H
   refine end_ret (.tmp .nil) rfl rfl ⟨?_, rfl⟩
   rfl
  ·replace H := cond_f c_3 H
   refine T_skip ?_
   refine sr ?_
   obtain ⟨r_4, h_5, H⟩ := bind_inv H
   refine pv tb 1 rfl ?_
   refine TO_cons rfl (TOp_callV (call_static ent65 rfl) (m_spec_DrawApplyEdits_ok u _ _ h_5) rfl rfl rfl ?_)
   refine pv tb 3 rfl ?_
   refine TO_cons rfl (TOp_alloc zero48 rfl rfl ?_)
   refine TO_cons rfl (TOp_storeB sz48 rfl rfl rfl rfl rfl rfl rfl (by decide) (lb rfl) rfl ?_)
   refine TO_st (σ' := [.box [(sl tRelation r_4.1.relations), (sl tFact r_4.1.facts)]]) rfl ?_
   refine pv tb 1 rfl ?_
   refine TO_nil ?_
   refine sr ?_
   obtain ⟨r_6, h_7, H⟩ := bind_inv H
   refine pv tb 2 rfl ?_
   refine TO_cons rfl (TOp_callV (call_static ent66 rfl) (m_impl_ApplyEdits_ok u _ _ _ h_7) rfl rfl rfl ?_)
   refine pv tb 3 rfl ?_
   refine TO_cons rfl (TOp_alloc zero48 rfl rfl ?_)
   refine TO_cons rfl (TOp_storeB sz48 rfl rfl rfl rfl rfl rfl rfl (by decide) (lb rfl) rfl ?_)
   refine TO_st (σ' := [.box [(sl tRelation r_4.1.relations), (sl tFact r_4.1.facts)], .box [(sl tRelation r_6.1.relations), (sl tFact r_6.1.facts)]]) rfl ?_
   refine pv tb 1 rfl ?_
   refine TO_nil ?_
   refine sr ?_
   obtain ⟨r_8, h_9, H⟩ := bind_inv H
   refine pv tb 2 rfl ?_
   refine TO_cons rfl (TOp_callV (call_static ent67 rfl) (m_spec_ApplyEdits_ok u _ _ _ h_9) rfl rfl rfl ?_)
   refine pv tb 3 rfl ?_
   refine TO_cons rfl (TOp_alloc zero48 rfl rfl ?_)
   refine TO_cons rfl (TOp_storeB sz48 rfl rfl rfl rfl rfl rfl rfl (by decide) (lb rfl) rfl ?_)
   refine TO_st (σ' := [.box [(sl tRelation r_4.1.relations), (sl tFact r_4.1.facts)], .box [(sl tRelation r_6.1.relations), (sl tFact r_6.1.facts)], .box [(sl tRelation r_8.1.relations), (sl tFact r_8.1.facts)]]) rfl ?_
   refine pv tb 1 rfl ?_
   refine TO_nil ?_
   refine te [(0, (sl (tI .u8) code0)), (3, (.b 0 0)), (4, (sl tEdit r_4.2)), (5, (.b 1 0)), (6, (intA r_6.2)), (7, (.b 2 0)), (8, (intA r_8.2))] rfl ?_
   refine sr ?_
   refine pv tb 2 rfl ?_
   refine Tp rfl rfl (pur_lenT (T := tEdit) sl90 rfl rfl) rfl ?_
   obtain ⟨r_10, h_11, H⟩ := bind_inv H
   refine TO_cons rfl (TOp_callV (call_static ent68 rfl) (m_laws_cutAt_ok _ _ _ _ h_11) rfl rfl rfl ?_)
   refine pv tb 1 rfl ?_
   refine TO_nil ?_
   obtain ⟨ys_12, h_13, H⟩ := bind_inv H
   obtain ⟨r_14, h_15, H⟩ := bind_inv H
   refine T_pad ?_
   refine T_cutX (fun (_ : Unit) => True) (fun _ => [(4, (sl tEdit r_4.2)), (5, (.b 1 0)), (6, (intA r_6.2)), (7, (.b 2 0)), (8, (intA r_8.2)), (9, (intA r_10)), (10, (.b 4 0)), (11, (intA r_14.2))]) (fun _ => [.box [(sl tRelation r_4.1.relations), (sl tFact r_4.1.facts)], .box [(sl tRelation r_6.1.relations), (sl tFact r_6.1.facts)], .box [(sl tRelation r_8.1.relations), (sl tFact r_8.1.facts)], .dead, .box [(sl tRelation r_14.1.relations), (sl tFact r_14.1.facts)]]) ?_ ?_
   ·skip
    refine T_regionP 3 mixed rfl ?_
    refine TA_have 2 #[true, true, true, true, true, true, true, true, true, false, false] [(4, (sl tEdit r_4.2)), (5, (.b 1 0)), (6, (intA r_6.2)), (7, (.b 2 0)), (8, (intA r_8.2)), (9, (intA r_10)), (10, (.b 4 0)), (43, (.g (tDatabase.enc r_14.1))), (44, (intA r_14.2))] [.dead, .dead, .dead, .dead, .box [.n, .n]] ?_ (fun hj0_7 => ?_)
    ·skip
     refine t1 9 (by kernel_rfl) rfl rfl (TOp_storeB sz48 rfl rfl rfl rfl rfl rfl rfl (by decide) (lb rfl) rfl ?_)
     refine TA_st (σ' := [.dead, .dead, .dead, .dead, .box [(sl tRelation r_14.1.relations), (sl tFact r_14.1.facts)]]) rfl ?_
     refine pa tb [10] 0 rfl (by kernel_rfl) rfl ?_
     exact TA_nil (by kernel_rfl) (joined () (w0 5) trivial)
    refine pa tb [0, 1, 2] 8 rfl (by kernel_rfl) rfl ?_
    refine tf 3 rfl (pur_cutT (T := tEdit) (lo := none) (hi := (some (.tmp 40))) sl90 rfl rfl ⟨_, rfl⟩ h_13 rfl) rfl rfl (by kernel_rfl) ?_
    refine TA_all [4, 8] (by kernel_rfl) (by decide) ⟨?_, ?_, trivial⟩
    ·skip
     refine ⟨_, rfl, rfl, (TOp_callV (call_static ent66 rfl) (m_impl_ApplyEdits_ok u _ _ _ h_15) rfl rfl rfl ?_)⟩
     refine pa tb [5, 6, 7] 3 rfl (by kernel_rfl) rfl ?_
     refine t1 8 (by kernel_rfl) rfl rfl (TOp_alloc zero48 rfl rfl ?_)
     exact tj hj0_7 rfl (w0 5)
    ·skip
     refine ⟨_, rfl, rfl, (TOp_alloc zero48 rfl rfl ?_)⟩
     refine t1 4 (by kernel_rfl) rfl rfl (TOp_callV (call_static ent66 rfl) (m_impl_ApplyEdits_ok u _ _ _ h_15) rfl rfl rfl ?_)
     refine pa tb [5, 6, 7] 2 rfl (by kernel_rfl) rfl ?_
     exact tj hj0_7 rfl (w0 5)
   ·rintro _ _
    obtain ⟨ys_16, h_17, H⟩ := bind_inv H
    obtain ⟨r_18, h_19, H⟩ := bind_inv H
    refine T_pad ?_
    refine T_cutX (fun (_ : Unit) => True) (fun _ => [(4, (sl tEdit r_4.2)), (5, (.b 1 0)), (6, (intA r_6.2)), (7, (.b 2 0)), (8, (intA r_8.2)), (11, (intA r_14.2)), (12, (.b 6 0)), (13, (intA r_18.2))]) (fun _ => [.box [(sl tRelation r_4.1.relations), (sl tFact r_4.1.facts)], .box [(sl tRelation r_6.1.relations), (sl tFact r_6.1.facts)], .box [(sl tRelation r_8.1.relations), (sl tFact r_8.1.facts)], .dead, .box [(sl tRelation r_14.1.relations), (sl tFact r_14.1.facts)], .dead, .box [(sl tRelation r_18.1.relations), (sl tFact r_18.1.facts)]]) ?_ ?_
    ·skip
     refine T_regionP 5 mixed rfl ?_
     refine TA_have 2 #[true, true, true, true, true, true, true, true, true, false, false] [(4, (sl tEdit r_4.2)), (5, (.b 1 0)), (6, (intA r_6.2)), (7, (.b 2 0)), (8, (intA r_8.2)), (11, (intA r_14.2)), (12, (.b 6 0)), (51, (.g (tDatabase.enc r_18.1))), (52, (intA r_18.2))] [.dead, .dead, .dead, .dead, .dead, .dead, .box [.n, .n]] ?_ (fun hj0_8 => ?_)
     ·skip
      refine t1 9 (by kernel_rfl) rfl rfl (TOp_storeB sz48 rfl rfl rfl rfl rfl rfl rfl (by decide) (lb rfl) rfl ?_)
      refine TA_st (σ' := [.dead, .dead, .dead, .dead, .dead, .dead, .box [(sl tRelation r_18.1.relations), (sl tFact r_18.1.facts)]]) rfl ?_
      refine pa tb [10] 0 rfl (by kernel_rfl) rfl ?_
      exact TA_nil (by kernel_rfl) (joined () (w0 7) trivial)
     refine pa tb [0, 1, 2] 8 rfl (by kernel_rfl) rfl ?_
     refine tf 3 rfl (pur_cutT (T := tEdit) (lo := (some (.tmp 48))) (hi := none) sl90 rfl ⟨_, rfl⟩ rfl h_17 rfl) rfl rfl (by kernel_rfl) ?_
     refine TA_all [4, 8] (by kernel_rfl) (by decide) ⟨?_, ?_, trivial⟩
     ·skip
      refine ⟨_, rfl, rfl, (TOp_callV (call_static ent66 rfl) (m_impl_ApplyEdits_ok u _ _ _ h_19) rfl rfl rfl ?_)⟩
      refine pa tb [5, 6, 7] 3 rfl (by kernel_rfl) rfl ?_
      refine t1 8 (by kernel_rfl) rfl rfl (TOp_alloc zero48 rfl rfl ?_)
      exact tj hj0_8 rfl (w0 7)
     ·skip
      refine ⟨_, rfl, rfl, (TOp_alloc zero48 rfl rfl ?_)⟩
      refine t1 4 (by kernel_rfl) rfl rfl (TOp_callV (call_static ent66 rfl) (m_impl_ApplyEdits_ok u _ _ _ h_19) rfl rfl rfl ?_)
      refine pa tb [5, 6, 7] 2 rfl (by kernel_rfl) rfl ?_
      exact tj hj0_8 rfl (w0 7)
    ·rintro _ _
     obtain ⟨t2_20, J_20, H_21⟩ := bind_inv H
     refine T_cutX (fun x => t2_20 = x) (fun (t2_20 : Bool) => [(2, (boolA t2_20))]) (fun (t2_20 : Bool) => []) ?_ ?_
     ·replace H := J_20
      refine T_region ?_
      refine pv tb 4 rfl ?_
      refine TO_split (t := decide (r_6.2 = r_8.2)) 56 rfl (fun g_22 => ?_) (fun g_22 => ?_)
      ·replace H := cond_t g_22 H
       obtain ⟨r_23, h_24, H⟩ := bind_inv H
       refine pv tb 2 rfl ?_
       refine TO_on rfl rfl (by decide) rfl rfl (TOp_callV (call_static ent41 rfl) (m_spec_EqualDatabases_ok u _ _ _ h_24) rfl rfl rfl ?_)
       refine pv tb 2 rfl ?_
       refine TO_split (t := r_23) 61 rfl (fun g_25 => ?_) (fun g_25 => ?_)
       ·replace H := cond_t g_25 H
        obtain ⟨r_26, h_27, H⟩ := bind_inv H
        refine pv tb 2 rfl ?_
        refine TO_on rfl rfl (by decide) rfl rfl (TOp_callV (call_static ent41 rfl) (m_spec_EqualDatabases_ok u _ _ _ h_27) rfl rfl rfl ?_)
        refine pv tb 2 rfl ?_
        refine TO_split (t := r_26) 66 rfl (fun g_28 => ?_) (fun g_28 => ?_)
        ·replace H := cond_t g_28 H
         refine pv tb 7 rfl ?_
         refine TO_split (t := decide ((w64 (r_14.2 + r_18.2)) = r_6.2)) 73 rfl (fun g_29 => ?_) (fun g_29 => ?_)
         ·replace H := cond_t g_29 H
          refine pv tb 2 rfl ?_
          refine TO_on rfl rfl (by decide) rfl rfl (TOp_pure (pur_lenT (T := tEdit) sl90 rfl rfl) rfl ?_)
          refine pv tb 3 rfl ?_
          refine TO_nil ?_
          exact joined (decide (r_6.2 ≤ (r_4.2.length : Int))) (w0 0) (some_inj H).symm
         ·replace H := cond_f g_29 H
          refine pv tb 6 rfl ?_
          refine TO_nil ?_
          exact joined false (w0 0) (some_inj H).symm
        ·replace H := cond_f g_28 H
         refine pv tb 8 rfl ?_
         refine toe [(4, (sl tEdit r_4.2)), (73, (boolA false)), (74, (.v undef))] rfl ?_
         refine pv tb 5 rfl ?_
         refine TO_nil ?_
         exact joined false (w0 0) (some_inj H).symm
       ·replace H := cond_f g_25 H
        refine pv tb 8 rfl ?_
        refine toe [(4, (sl tEdit r_4.2)), (6, (intA r_6.2)), (66, (boolA false)), (69, (.v undef))] rfl ?_
        refine pv tb 10 rfl ?_
        refine TO_nil ?_
        exact joined false (w0 0) (some_inj H).symm
      ·replace H := cond_f g_22 H
       refine pv tb 16 rfl ?_
       refine toe [(4, (sl tEdit r_4.2)), (6, (intA r_6.2)), (72, (boolA false))] rfl ?_
       refine pv tb 7 rfl ?_
       refine TO_nil ?_
       exact joined false (w0 0) (some_inj H).symm
     ·rintro _ rfl
      replace H := H_21
      refine T_ret ?_
      obtain rfl := some_inj H
      refine end_ret (.tmp .nil) rfl rfl ⟨?_, rfl⟩
      rfl
end Go.Proofs.Ytjdpolnakhmkmaa

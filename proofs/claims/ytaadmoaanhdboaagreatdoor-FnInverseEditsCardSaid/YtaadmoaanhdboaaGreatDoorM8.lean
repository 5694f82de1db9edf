import Derived.Test.YtaadmoaanhdboaaGreatDoorM1
import Derived.Test.YtaadmoaanhdboaaGreatDoorM2
import Derived.Test.YtaadmoaanhdboaaGreatDoorM3
import Derived.Test.YtaadmoaanhdboaaGreatDoorM5
import Derived.Test.YtaadmoaanhdboaaGreatDoorM6
import Derived.Test.YtaadmoaanhdboaaGreatDoorM7
set_option linter.unusedVariables false
set_option linter.unusedSimpArgs false
set_option maxRecDepth 4000
set_option maxHeartbeats 1000000
namespace Go.Proofs.YtaadmoaanhdboaaGreatDoor
open Go Go.Proofs Go.Sep
theorem mlFnInverseEdits_ok (u:Nat) (code0:(List Int)) (r:Bool) (H:mlFnInverseEdits u code0=some r):FnV prg 3 [sl (tI .u8) code0] (boolA r):=by
  unfold mlFnInverseEdits at H
  refine fnV_of_T Tryz.func3 rfl rfl (Nat.le_of_ble_eq_true rfl) ?_
  refine te [(0,sl (tI .u8) code0)] rfl ?_
  refine sr ?_
  refine pv tb 1 rfl ?_
  refine TO_nil (T_seq (sr ?_))
  obtain ⟨r_1,h_2,H⟩:=bind_inv H
  refine pv tb 1 rfl ?_
  refine TO_cons rfl (TOp_callV (call_static ent4 rfl) (mlbig_ok _ _ h_2) rfl rfl rfl ?_)
  refine TO_nil ?_
  refine T_cond (t:=r_1) rfl (fun c_3=>?_) (fun c_3=>?_)
  ·replace H:=cond_t c_3 H
   refine sr ?_
   refine pv tb 1 rfl ?_
   refine TO_nil ?_
   refine T_ret ?_
   refine then_ret ?_
   obtain rfl:=some_inj H
   refine end_ret (.tmp .nil) rfl rfl ⟨?_,rfl⟩
   rfl
  ·replace H:=cond_f c_3 H
   refine T_skip ?_
   refine sr ?_
   obtain ⟨r_4,h_5,H⟩:=bind_inv H
   refine pv tb 1 rfl ?_
   refine TO_cons rfl (TOp_callV (call_static ent5 rfl) (msDrawInverseEdits_ok u _ _ h_5) rfl rfl rfl ?_)
   refine pv tb 3 rfl ?_
   refine TO_cons rfl (TOp_alloc zero27 rfl rfl ?_)
   refine TO_cons rfl (TOp_alloc zero32 rfl rfl ?_)
   refine TO_cons rfl (TOp_storeB sz27 rfl rfl rfl rfl rfl rfl rfl (by decide) (lb rfl) rfl ?_)
   refine TO_st (σ':=[.box [sl tR r_4.1.relations,sl tF r_4.1.facts],.box [intA 0,intA 0,.n]]) rfl ?_
   refine TO_cons rfl (TOp_storeB sz32 rfl rfl rfl rfl rfl rfl rfl (by decide) (lb rfl) rfl ?_)
   refine TO_st (σ':=[.box [sl tR r_4.1.relations,sl tF r_4.1.facts],.box [intA r_4.2.kind,intA r_4.2.fact.relation,sl tInt r_4.2.fact.values]]) rfl ?_
   refine TO_nil (sr ?_)
   obtain ⟨r_6,h_7,H⟩:=bind_inv H
   refine pv tb 2 rfl ?_
   refine TO_cons rfl (TOp_callV (call_static ent6 rfl) (miApplyEdit_ok u _ _ _ h_7) rfl rfl rfl ?_)
   refine pv tb 3 rfl ?_
   refine TO_cons rfl (TOp_alloc zero27 rfl rfl ?_)
   refine TO_cons rfl (TOp_storeB sz27 rfl rfl rfl rfl rfl rfl rfl (by decide) (lb rfl) rfl ?_)
   refine TO_st (σ':=[.box [sl tR r_4.1.relations,sl tF r_4.1.facts],.box [intA r_4.2.kind,intA r_4.2.fact.relation,sl tInt r_4.2.fact.values],.box [sl tR r_6.1.relations,sl tF r_6.1.facts]]) rfl ?_
   refine pv tb 1 rfl ?_
   refine TO_nil (sr ?_)
   obtain ⟨r_8,h_9,H⟩:=bind_inv H
   refine pv tb 2 rfl ?_
   refine TO_cons rfl (TOp_callV (call_static ent7 rfl) (msApplyEdit_ok u _ _ _ h_9) rfl rfl rfl ?_)
   refine pv tb 3 rfl ?_
   refine TO_cons rfl (TOp_alloc zero27 rfl rfl ?_)
   refine TO_cons rfl (TOp_storeB sz27 rfl rfl rfl rfl rfl rfl rfl (by decide) (lb rfl) rfl ?_)
   refine TO_st (σ':=[.box [sl tR r_4.1.relations,sl tF r_4.1.facts],.box [intA r_4.2.kind,intA r_4.2.fact.relation,sl tInt r_4.2.fact.values],.box [sl tR r_6.1.relations,sl tF r_6.1.facts],.box [sl tR r_8.1.relations,sl tF r_8.1.facts]]) rfl ?_
   refine pv tb 1 rfl ?_
   refine TO_nil ?_
   refine te [(0,sl (tI .u8) code0),(3,.b 0 0),(4,.b 1 0),(5,.b 2 0),(6,boolA r_6.2),(7,.b 3 0),(8,boolA r_8.2)] rfl ?_
   refine sr ?_
   obtain ⟨r_10,h_11,H⟩:=bind_inv H
   refine pv tb 2 rfl ?_
   refine TO_cons rfl (TOp_callV (call_static ent8 rfl) (miInverseEdits_ok u _ _ _ h_11) rfl rfl rfl ?_)
   refine pv tb 5 rfl ?_
   refine TO_nil (T_seq ?_)
   obtain ⟨t60_12,J_12,H_13⟩:=bind_inv H
   refine T_cutX (fun x=>t60_12=x) (fun (t60_12:Bool)=>[(0,sl (tI .u8) code0),(3,.b 0 0),(4,.b 1 0),(5,.b 2 0),(6,boolA r_6.2),(9,sl tEdit r_10.1),(60,boolA t60_12)]) (fun (t60_12:Bool)=>[.box [sl tR r_4.1.relations,sl tF r_4.1.facts],.box [intA r_4.2.kind,intA r_4.2.fact.relation,sl tInt r_4.2.fact.values],.box [sl tR r_6.1.relations,sl tF r_6.1.facts]]) ?_ ?_
   ·replace H:=J_12
    refine T_region ?_
    refine pv tb 2 rfl ?_
    refine Tp rfl rfl (pur_neqB (by kernel_rfl) rfl rfl rfl) rfl ?_
    refine pv tb 1 rfl ?_
    refine TO_split (t:=(r_6.2 != r_8.2)) 50 rfl (fun g_14=>?_) (fun g_14=>?_)
    ·replace H:=cond_t g_14 H
     refine pv tb 10 rfl ?_
     refine TO_nil ?_
     exact joined true (w0 3) (some_inj H).symm
    ·replace H:=cond_f g_14 H
     refine pv tb 2 rfl ?_
     refine TO_on rfl rfl (by decide) rfl rfl (TOp_pure (pur_neqB (by kernel_rfl) rfl rfl rfl) rfl ?_)
     refine pv tb 2 rfl ?_
     refine TO_split (t:=(r_10.2 != r_6.2)) 55 rfl (fun g_15=>?_) (fun g_15=>?_)
     ·replace H:=cond_t g_15 H
      refine pv tb 5 rfl ?_
      refine TO_nil ?_
      exact joined true (w0 3) (some_inj H).symm
     ·replace H:=cond_f g_15 H
      obtain ⟨r_16,h_17,H⟩:=bind_inv H
      refine pv tb 2 rfl ?_
      refine TO_on rfl rfl (by decide) rfl rfl (TOp_callV (call_static ent9 rfl) (msEqualDatabases_ok u _ _ _ h_17) rfl rfl rfl ?_)
      refine pv tb 2 rfl ?_
      refine TO_nil ?_
      exact joined (!r_16) (w0 3) (some_inj H).symm
   ·rintro _ rfl
    replace H:=H_13
    refine T_cond (t:=t60_12) rfl (fun c_18=>?_) (fun c_18=>?_)
    ·replace H:=cond_t c_18 H
     refine sr ?_
     refine pv tb 1 rfl ?_
     refine TO_nil ?_
     refine T_ret ?_
     refine then_ret ?_
     obtain rfl:=some_inj H
     refine end_ret (.tmp .nil) rfl rfl ⟨?_,rfl⟩
     rfl
    ·replace H:=cond_f c_18 H
     refine T_skip ?_
     refine sr ?_
     obtain ⟨r_19,h_20,H⟩:=bind_inv H
     refine pv tb 2 rfl ?_
     refine TO_cons rfl (TOp_callV (call_static ent10 rfl) (miFormatEdit_ok _ _ _ h_20) rfl rfl rfl ?_)
     refine pv tb 1 rfl ?_
     refine TO_nil (sr ?_)
     obtain ⟨r_21,h_22,H⟩:=bind_inv H
     refine pv tb 2 rfl ?_
     refine TO_cons rfl (TOp_callV (call_static ent11 rfl) (miParseEdit_ok u _ _ _ h_22) rfl rfl rfl ?_)
     refine pv tb 3 rfl ?_
     refine TO_cons rfl (TOp_alloc zero32 rfl rfl ?_)
     refine TO_cons rfl (TOp_storeB sz32 rfl rfl rfl rfl rfl rfl rfl (by decide) (lb rfl) rfl ?_)
     refine TO_st (σ':=[.box [sl tR r_4.1.relations,sl tF r_4.1.facts],.box [intA r_4.2.kind,intA r_4.2.fact.relation,sl tInt r_4.2.fact.values],.box [sl tR r_6.1.relations,sl tF r_6.1.facts],.box [intA r_21.1.kind,intA r_21.1.fact.relation,sl tInt r_21.1.fact.values]]) rfl ?_
     refine pv tb 1 rfl ?_
     refine TO_nil (sr ?_)
     obtain ⟨r_23,h_24,H⟩:=bind_inv H
     refine pv tb 1 rfl ?_
     refine TO_cons rfl (TOp_callV (call_static ent12 rfl) (msDrawParseEdit_ok u _ _ h_24) rfl rfl rfl ?_)
     refine pv tb 3 rfl ?_
     refine TO_cons rfl (TOp_alloc zero27 rfl rfl ?_)
     refine TO_cons rfl (TOp_storeB sz27 rfl rfl rfl rfl rfl rfl rfl (by decide) (lb rfl) rfl ?_)
     refine TO_st (σ':=[.box [sl tR r_4.1.relations,sl tF r_4.1.facts],.box [intA r_4.2.kind,intA r_4.2.fact.relation,sl tInt r_4.2.fact.values],.box [sl tR r_6.1.relations,sl tF r_6.1.facts],.box [intA r_21.1.kind,intA r_21.1.fact.relation,sl tInt r_21.1.fact.values],.box [sl tR r_23.1.relations,sl tF r_23.1.facts]]) rfl ?_
     refine pv tb 1 rfl ?_
     refine TO_nil ?_
     refine te [(3,.b 0 0),(4,.b 1 0),(5,.b 2 0),(6,boolA r_6.2),(9,sl tEdit r_10.1),(11,strA r_19),(12,.b 3 0),(13,boolA r_21.2),(14,.b 4 0),(15,strA r_23.2)] rfl ?_
     refine sr ?_
     obtain ⟨r_25,h_26,H⟩:=bind_inv H
     refine pv tb 2 rfl ?_
     refine TO_cons rfl (TOp_callV (call_static ent11 rfl) (miParseEdit_ok u _ _ _ h_26) rfl rfl rfl ?_)
     refine pv tb 3 rfl ?_
     refine TO_cons rfl (TOp_alloc zero32 rfl rfl ?_)
     refine TO_cons rfl (TOp_storeB sz32 rfl rfl rfl rfl rfl rfl rfl (by decide) (lb rfl) rfl ?_)
     refine TO_st (σ':=[.box [sl tR r_4.1.relations,sl tF r_4.1.facts],.box [intA r_4.2.kind,intA r_4.2.fact.relation,sl tInt r_4.2.fact.values],.box [sl tR r_6.1.relations,sl tF r_6.1.facts],.box [intA r_21.1.kind,intA r_21.1.fact.relation,sl tInt r_21.1.fact.values],.box [sl tR r_23.1.relations,sl tF r_23.1.facts],.box [intA r_25.1.kind,intA r_25.1.fact.relation,sl tInt r_25.1.fact.values]]) rfl ?_
     refine pv tb 1 rfl ?_
     refine TO_nil (sr ?_)
     obtain ⟨r_27,h_28,H⟩:=bind_inv H
     refine pv tb 2 rfl ?_
     refine TO_cons rfl (TOp_callV (call_static ent13 rfl) (msParseEdit_ok u _ _ _ h_28) rfl rfl rfl ?_)
     refine pv tb 3 rfl ?_
     refine TO_cons rfl (TOp_alloc zero32 rfl rfl ?_)
     refine TO_cons rfl (TOp_storeB sz32 rfl rfl rfl rfl rfl rfl rfl (by decide) (lb rfl) rfl ?_)
     refine TO_st (σ':=[.box [sl tR r_4.1.relations,sl tF r_4.1.facts],.box [intA r_4.2.kind,intA r_4.2.fact.relation,sl tInt r_4.2.fact.values],.box [sl tR r_6.1.relations,sl tF r_6.1.facts],.box [intA r_21.1.kind,intA r_21.1.fact.relation,sl tInt r_21.1.fact.values],.box [sl tR r_23.1.relations,sl tF r_23.1.facts],.box [intA r_25.1.kind,intA r_25.1.fact.relation,sl tInt r_25.1.fact.values],.box [intA r_27.1.kind,intA r_27.1.fact.relation,sl tInt r_27.1.fact.values]]) rfl ?_
     refine pv tb 1 rfl ?_
     refine TO_nil (T_seq ?_)
     obtain ⟨t130_29,J_29,H_30⟩:=bind_inv H
     refine T_cutX (fun x=>t130_29=x) (fun (t130_29:Bool)=>[(3,.b 0 0),(5,.b 2 0),(6,boolA r_6.2),(9,sl tEdit r_10.1),(130,boolA t130_29)]) (fun (t130_29:Bool)=>[.box [sl tR r_4.1.relations,sl tF r_4.1.facts],.box [intA r_4.2.kind,intA r_4.2.fact.relation,sl tInt r_4.2.fact.values],.box [sl tR r_6.1.relations,sl tF r_6.1.facts]]) ?_ ?_
     ·replace H:=J_29
      refine T_region ?_
      obtain ⟨r_31,h_32,H⟩:=bind_inv H
      refine pv tb 3 rfl ?_
      refine TO_cons rfl (TOp_callV (call_static ent14 rfl) (msFormatEdit_ok u _ _ _ h_32) rfl rfl rfl ?_)
      refine Tp rfl rfl (pur_neqS rfl rfl rfl) rfl ?_
      refine pv tb 1 rfl ?_
      refine TO_split (t:=decide (r_19≠r_31)) 92 rfl (fun g_33=>?_) (fun g_33=>?_)
      ·replace H:=cond_t g_33 H
       refine pv tb 8 rfl ?_
       refine toe [(3,.b 0 0),(4,.b 1 0),(5,.b 2 0),(6,boolA r_6.2),(9,sl tEdit r_10.1),(12,.b 3 0),(14,.b 4 0),(15,strA r_23.2),(16,.b 5 0),(17,boolA r_25.2),(19,boolA r_27.2),(98,boolA true),(100,.v undef)] rfl ?_
       refine pv tb 16 rfl ?_
       refine toe [(3,.b 0 0),(5,.b 2 0),(6,boolA r_6.2),(9,sl tEdit r_10.1),(14,.b 4 0),(15,strA r_23.2),(16,.b 5 0),(17,boolA r_25.2),(19,boolA r_27.2),(116,boolA true)] rfl ?_
       refine pv tb 14 rfl ?_
       refine TO_nil ?_
       exact joined true (w0 3) (some_inj H).symm
      ·replace H:=cond_f g_33 H
       refine pv tb 1 rfl ?_
       refine TO_on rfl rfl (by decide) rfl rfl (TOp_pure (pur_neqS rfl rfl rfl) rfl ?_)
       refine pv tb 1 rfl ?_
       refine TO_on rfl rfl (by decide) rfl rfl (TOp_pure (pur_neqB (by kernel_rfl) rfl rfl rfl) rfl ?_)
       refine pv tb 2 rfl ?_
       refine TO_split (t:=((decide (r_19≠(⟨#[]⟩:ByteArray))) != r_21.2)) 98 rfl (fun g_34=>?_) (fun g_34=>?_)
       ·replace H:=cond_t g_34 H
        refine pv tb 8 rfl ?_
        refine toe [(3,.b 0 0),(4,.b 1 0),(5,.b 2 0),(6,boolA r_6.2),(9,sl tEdit r_10.1),(12,.b 3 0),(14,.b 4 0),(15,strA r_23.2),(16,.b 5 0),(17,boolA r_25.2),(19,boolA r_27.2),(98,boolA true),(100,.v undef),(106,.v undef)] rfl ?_
        refine pv tb 16 rfl ?_
        refine toe [(3,.b 0 0),(5,.b 2 0),(6,boolA r_6.2),(9,sl tEdit r_10.1),(14,.b 4 0),(15,strA r_23.2),(16,.b 5 0),(121,boolA true),(122,.v undef)] rfl ?_
        refine pv tb 8 rfl ?_
        refine TO_nil ?_
        exact joined true (w0 3) (some_inj H).symm
       ·replace H:=cond_f g_34 H
        refine pv tb 2 rfl ?_
        refine TO_split (t:=r_21.2) 100 rfl (fun g_35=>?_) (fun g_35=>?_)
        ·replace H:=cond_t g_35 H
         refine pv tb 6 rfl ?_
         refine TO_split (t:=decide (r_21.1.kind≠r_4.2.kind)) 106 rfl (fun g_36=>?_) (fun g_36=>?_)
         ·replace H:=cond_t g_36 H
          refine pv tb 8 rfl ?_
          refine toe [(3,.b 0 0),(5,.b 2 0),(6,boolA r_6.2),(9,sl tEdit r_10.1),(14,.b 4 0),(15,strA r_23.2),(16,.b 5 0),(17,boolA r_25.2),(19,boolA r_27.2),(98,boolA false),(114,boolA true)] rfl ?_
          refine pv tb 16 rfl ?_
          refine TO_nil ?_
          exact joined true (w0 3) (some_inj H).symm
         ·replace H:=cond_f g_36 H
          obtain ⟨r_37,h_38,H⟩:=bind_inv H
          refine pv tb 4 rfl ?_
          refine TO_on rfl rfl (by decide) rfl rfl (TOp_callV (call_static ent15 rfl) (miCompareFacts_ok _ _ _ h_38) rfl rfl rfl ?_)
          refine pv tb 3 rfl ?_
          refine toe [(3,.b 0 0),(5,.b 2 0),(6,boolA r_6.2),(9,sl tEdit r_10.1),(14,.b 4 0),(15,strA r_23.2),(16,.b 5 0),(17,boolA r_25.2),(19,boolA r_27.2),(98,boolA false),(114,boolA (decide (r_37≠0)))] rfl ?_
          refine pv tb 2 rfl ?_
          refine TO_split (t:=decide (r_37≠0)) 116 rfl (fun g_39=>?_) (fun g_39=>?_)
          ·replace H:=cond_t g_39 H
           refine pv tb 14 rfl ?_
           refine TO_nil ?_
           exact joined true (w0 3) (some_inj H).symm
          ·replace H:=cond_f g_39 H
           refine pv tb 2 rfl ?_
           refine TO_on rfl rfl (by decide) rfl rfl (TOp_pure (pur_neqB (by kernel_rfl) rfl rfl rfl) rfl ?_)
           refine pv tb 2 rfl ?_
           refine TO_split (t:=(r_25.2 != r_27.2)) 121 rfl (fun g_40=>?_) (fun g_40=>?_)
           ·replace H:=cond_t g_40 H
            refine pv tb 9 rfl ?_
            refine TO_nil ?_
            exact joined true (w0 3) (some_inj H).symm
           ·replace H:=cond_f g_40 H
            refine pv tb 2 rfl ?_
            refine TO_split (t:=r_25.2) 123 rfl (fun g_41=>?_) (fun g_41=>?_)
            ·replace H:=cond_t g_41 H
             obtain ⟨r_42,h_43,H⟩:=bind_inv H
             refine pv tb 2 rfl ?_
             refine TO_on rfl rfl (by decide) rfl rfl (TOp_callV (call_static ent10 rfl) (miFormatEdit_ok _ _ _ h_43) rfl rfl rfl ?_)
             refine pv tb 1 rfl ?_
             refine TO_on rfl rfl (by decide) rfl rfl (TOp_pure (pur_neqS rfl rfl rfl) rfl ?_)
             refine pv tb 2 rfl ?_
             refine TO_nil ?_
             exact joined (decide (r_42≠r_23.2)) (w0 3) (some_inj H).symm
            ·replace H:=cond_f g_41 H
             refine pv tb 7 rfl ?_
             refine TO_nil ?_
             exact joined false (w0 3) (some_inj H).symm
        ·replace H:=cond_f g_35 H
         refine pv tb 8 rfl ?_
         refine toe [(3,.b 0 0),(4,.b 1 0),(5,.b 2 0),(6,boolA r_6.2),(9,sl tEdit r_10.1),(14,.b 4 0),(15,strA r_23.2),(16,.b 5 0),(17,boolA r_25.2),(19,boolA r_27.2),(98,boolA false),(100,boolA false),(106,.v undef),(108,.v undef)] rfl ?_
         refine pv tb 10 rfl ?_
         refine TO_on rfl rfl (by decide) rfl rfl (TOp_pure (pur_neqB (by kernel_rfl) rfl rfl rfl) rfl ?_)
         refine pv tb 2 rfl ?_
         refine TO_split (t:=(r_25.2 != r_27.2)) 121 rfl (fun g_44=>?_) (fun g_44=>?_)
         ·replace H:=cond_t g_44 H
          refine pv tb 9 rfl ?_
          refine TO_nil ?_
          exact joined true (w0 3) (some_inj H).symm
         ·replace H:=cond_f g_44 H
          refine pv tb 2 rfl ?_
          refine TO_split (t:=r_25.2) 123 rfl (fun g_45=>?_) (fun g_45=>?_)
          ·replace H:=cond_t g_45 H
           obtain ⟨r_46,h_47,H⟩:=bind_inv H
           refine pv tb 2 rfl ?_
           refine TO_on rfl rfl (by decide) rfl rfl (TOp_callV (call_static ent10 rfl) (miFormatEdit_ok _ _ _ h_47) rfl rfl rfl ?_)
           refine pv tb 1 rfl ?_
           refine TO_on rfl rfl (by decide) rfl rfl (TOp_pure (pur_neqS rfl rfl rfl) rfl ?_)
           refine pv tb 2 rfl ?_
           refine TO_nil ?_
           exact joined (decide (r_46≠r_23.2)) (w0 3) (some_inj H).symm
          ·replace H:=cond_f g_45 H
           refine pv tb 7 rfl ?_
           refine TO_nil ?_
           exact joined false (w0 3) (some_inj H).symm
     ·rintro _ rfl
      replace H:=H_30
      refine T_cond (t:=t130_29) rfl (fun c_48=>?_) (fun c_48=>?_)
      ·replace H:=cond_t c_48 H
       refine sr ?_
       refine pv tb 1 rfl ?_
       refine TO_nil ?_
       refine T_ret ?_
       refine then_ret ?_
       obtain rfl:=some_inj H
       refine end_ret (.tmp .nil) rfl rfl ⟨?_,rfl⟩
       rfl
      ·replace H:=cond_f c_48 H
       refine T_skip ?_
       refine T_seq (sr ?_)
       refine pv tb 2 rfl ?_
       refine TO_nil ?_
       refine T_cond (t:=(!r_6.2)) rfl (fun c_49=>?_) (fun c_49=>?_)
       ·replace H:=cond_t c_49 H
        obtain ⟨t2_50,J_50,H_51⟩:=bind_inv H
        refine T_cutX (fun x=>t2_50=x) (fun (t2_50:Bool)=>[(2,boolA t2_50)]) (fun (t2_50:Bool)=>[]) ?_ ?_
        ·replace H:=J_50
         refine T_region ?_
         obtain ⟨r_52,h_53,H⟩:=bind_inv H
         refine pv tb 2 rfl ?_
         refine TO_cons rfl (TOp_callV (call_static ent9 rfl) (msEqualDatabases_ok u _ _ _ h_53) rfl rfl rfl ?_)
         refine pv tb 1 rfl ?_
         refine TO_split (t:=r_52) 136 rfl (fun g_54=>?_) (fun g_54=>?_)
         ·replace H:=cond_t g_54 H
          refine pv tb 1 rfl ?_
          refine TO_on rfl rfl (by decide) rfl rfl (TOp_pure (pur_lenT (T:=tEdit) sl37 rfl rfl) rfl ?_)
          refine pv tb 3 rfl ?_
          refine TO_nil ?_
          exact joined (decide ((r_10.1.length:Int)=0)) (w0 0) (some_inj H).symm
         ·replace H:=cond_f g_54 H
          refine pv tb 5 rfl ?_
          refine TO_nil ?_
          exact joined false (w0 0) (some_inj H).symm
        ·rintro _ rfl
         replace H:=H_51
         refine T_ret ?_
         refine then_ret ?_
         obtain rfl:=some_inj H
         refine end_ret (.tmp .nil) rfl rfl ⟨?_,rfl⟩
         rfl
       ·replace H:=cond_f c_49 H
        refine T_skip ?_
        refine sr ?_
        obtain ⟨r_55,h_56,H⟩:=bind_inv H
        refine pv tb 2 rfl ?_
        refine TO_cons rfl (TOp_callV (call_static ent16 rfl) (miApplyEdits_ok u _ _ _ h_56) rfl rfl rfl ?_)
        refine pv tb 3 rfl ?_
        refine TO_cons rfl (TOp_alloc zero27 rfl rfl ?_)
        refine TO_cons rfl (TOp_storeB sz27 rfl rfl rfl rfl rfl rfl rfl (by decide) (lb rfl) rfl ?_)
        refine TO_st (σ':=[.box [sl tR r_4.1.relations,sl tF r_4.1.facts],.box [intA r_4.2.kind,intA r_4.2.fact.relation,sl tInt r_4.2.fact.values],.box [sl tR r_6.1.relations,sl tF r_6.1.facts],.box [sl tR r_55.1.relations,sl tF r_55.1.facts]]) rfl ?_
        refine pv tb 1 rfl ?_
        refine TO_nil ?_
        obtain ⟨t2_57,J_57,H_58⟩:=bind_inv H
        refine T_cutX (fun x=>t2_57=x) (fun (t2_57:Bool)=>[(2,boolA t2_57)]) (fun (t2_57:Bool)=>[]) ?_ ?_
        ·replace H:=J_57
         refine T_region ?_
         obtain ⟨r_59,h_60,H⟩:=bind_inv H
         refine pv tb 2 rfl ?_
         refine TO_cons rfl (TOp_callV (call_static ent9 rfl) (msEqualDatabases_ok u _ _ _ h_60) rfl rfl rfl ?_)
         refine pv tb 1 rfl ?_
         refine TO_split (t:=r_59) 150 rfl (fun g_61=>?_) (fun g_61=>?_)
         ·replace H:=cond_t g_61 H
          refine pv tb 2 rfl ?_
          refine TO_on rfl rfl (by decide) rfl rfl (TOp_pure (pur_lenT (T:=tEdit) sl37 rfl rfl) rfl ?_)
          refine pv tb 3 rfl ?_
          refine TO_nil ?_
          exact joined (decide (r_55.2=(r_10.1.length:Int))) (w0 0) (some_inj H).symm
         ·replace H:=cond_f g_61 H
          refine pv tb 6 rfl ?_
          refine TO_nil ?_
          exact joined false (w0 0) (some_inj H).symm
        ·rintro _ rfl
         replace H:=H_58
         refine T_ret ?_
         obtain rfl:=some_inj H
         refine end_ret (.tmp .nil) rfl rfl ⟨?_,rfl⟩
         rfl
end Go.Proofs.YtaadmoaanhdboaaGreatDoor

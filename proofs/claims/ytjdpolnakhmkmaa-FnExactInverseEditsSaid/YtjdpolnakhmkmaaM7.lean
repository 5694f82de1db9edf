import Derived.Test.YtjdpolnakhmkmaaM1
import Derived.Test.YtjdpolnakhmkmaaM2
import Derived.Test.YtjdpolnakhmkmaaM4
import Derived.Test.YtjdpolnakhmkmaaM6
set_option linter.unusedVariables false
set_option linter.unusedSimpArgs false
set_option maxRecDepth 4000
namespace Go.Proofs.Ytjdpolnakhmkmaa
open Go Go.Proofs Go.Sep
set_option maxHeartbeats 1000000 in
theorem m_laws_FnExactInverseEdits_ok (u : Nat) (aDb0 : Database) (aEdit1 : Edit) (r : Bool) (H : m_laws_FnExactInverseEdits u aDb0 aEdit1 = some r) : FnV prg 13 [(.g (tDatabase.enc aDb0)), (.g (tEdit.enc aEdit1))] (boolA r) := by
  unfold m_laws_FnExactInverseEdits at H
  refine fnV_of_T Try.func13 rfl rfl (Nat.le_of_ble_eq_true rfl) ?_
  refine te [(0, (.g (tDatabase.enc aDb0))), (1, (.g (tEdit.enc aEdit1)))] rfl ?_
  refine sr ?_
  refine TO_cons rfl (TOp_box rfl (boxAll rfl) rfl rfl ?_)
  refine TO_cons rfl (TOp_box rfl (boxAll rfl) rfl rfl ?_)
  refine pv tb 1 rfl ?_
  refine TO_nil ?_
  refine sr ?_
  refine pv tb 1 rfl ?_
  refine TO_nil ?_
  refine sr ?_
  obtain ⟨r_1, h_2, H⟩ := bind_inv H
  refine pv tb 2 rfl ?_
  refine TO_cons rfl (TOp_callV (call_static ent25 rfl) (m_laws_szDatabase_ok _ _ _ h_2) rfl rfl rfl ?_)
  refine pv tb 1 rfl ?_
  refine TO_nil ?_
  refine T_seq ?_
  refine sr ?_
  refine pv tb 2 rfl ?_
  refine TO_nil ?_
  refine T_cond (t := decide (r_1 < 0)) rfl (fun c_3 => ?_) (fun c_3 => ?_)
  ·replace H := cond_t c_3 H
   refine sr ?_
   refine pv tb 1 rfl ?_
   refine TO_nil ?_
   refine T_ret ?_
   refine then_ret ?_
   obtain rfl := some_inj H
   refine end_ret (.tmp .nil) rfl rfl ⟨?_, rfl⟩
   rfl
  ·replace H := cond_f c_3 H
   refine T_skip ?_
   refine sr ?_
   obtain ⟨r_4, h_5, H⟩ := bind_inv H
   refine pv tb 2 rfl ?_
   refine TO_cons rfl (TOp_callV (call_static ent69 rfl) (m_laws_szEdit_ok _ _ _ h_5) rfl rfl rfl ?_)
   refine pv tb 1 rfl ?_
   refine TO_nil ?_
   refine T_seq ?_
   refine sr ?_
   refine pv tb 2 rfl ?_
   refine TO_nil ?_
   refine T_cond (t := decide (r_4 < 0)) rfl (fun c_6 => ?_) (fun c_6 => ?_)
   ·replace H := cond_t c_6 H
    refine sr ?_
    refine pv tb 1 rfl ?_
    refine TO_nil ?_
    refine te [(4, (boolA true))] rfl ?_
    refine T_ret ?_
    refine then_ret ?_
    obtain rfl := some_inj H
    refine end_ret (.tmp .nil) rfl rfl ⟨?_, rfl⟩
    rfl
   ·replace H := cond_f c_6 H
    refine T_skip ?_
    obtain ⟨r_7, h_8, H⟩ := bind_inv H
    obtain ⟨r_9, h_10, H⟩ := bind_inv H
    obtain ⟨r_11, h_12, H⟩ := bind_inv H
    refine T_cutX (fun (_ : Unit) => True) (fun _ => [(2, (.b 0 0)), (3, (.b 1 0)), (6, (sl tEdit r_11.1)), (7, (boolA r_11.2))]) (fun _ => [.box [(sl tRelation aDb0.relations), (sl tFact aDb0.facts)], .box [(intA aEdit1.kind), (intA aEdit1.fact.relation), (sl tInt aEdit1.fact.values)]]) ?_ ?_
    ·skip
     refine T_regionP 2 mixed rfl ?_
     refine pa tb [0, 2] 8 rfl (by kernel_rfl) rfl ?_
     refine t1 1 (by kernel_rfl) rfl rfl (TOp_callV (call_static ent27 rfl) (m_laws_toDatabase_ok _ _ h_8) rfl rfl rfl ?_)
     refine t1 3 (by kernel_rfl) rfl rfl (TOp_callV (call_static ent71 rfl) (m_laws_toEdit_ok _ _ h_10) rfl rfl rfl ?_)
     refine t1 4 (by kernel_rfl) rfl rfl (TOp_callV (call_static ent75 rfl) (m_spec_InverseEdits_ok u _ _ _ h_12) rfl rfl rfl ?_)
     refine pa tb [5] 4 rfl (by kernel_rfl) rfl ?_
     refine tae [(2, (.b 0 0)), (3, (.b 1 0)), (27, (.t [(sl tEdit r_11.1), (boolA r_11.2)]))] rfl ?_
     refine pa tb [6, 7, 8, 9] 0 rfl (by kernel_rfl) rfl ?_
     exact TA_nil (by kernel_rfl) (joined () (w0 2) trivial)
    ·rintro _ _
     refine sr ?_
     obtain ⟨r_13, h_14, H⟩ := bind_inv H
     refine pv tb 1 rfl ?_
     refine TO_cons rfl (TOp_callO (call_static ent27 rfl) rfl (m_laws_toDatabase_own _ _ h_14) rfl rfl rfl ?_)
     refine toe [(2, (.b 0 0)), (3, (.b 1 0)), (6, (sl tEdit r_11.1)), (7, (boolA r_11.2)), (35, (.g (tDatabase.enc aDb0))), (36, (.g [(.m [2] 0 r_13.relations.length tRelation.k), (.m [3] 0 r_13.facts.length tFact.k)]))] rfl ?_
     refine TO_st (σ' := [.box [(sl tRelation aDb0.relations), (sl tFact aDb0.facts)], .box [(intA aEdit1.kind), (intA aEdit1.fact.relation), (sl tInt aEdit1.fact.values)], .row (flat tRelation.own r_13.relations), .row (flat tFact.own r_13.facts)]) rfl ?_
     refine TO_cons rfl (TOp_alloc zero48 rfl rfl ?_)
     refine TO_cons rfl (TOp_storeB sz48 rfl rfl rfl rfl rfl rfl rfl (by decide) (lb rfl) rfl ?_)
     refine TO_st (σ' := [.box [(sl tRelation aDb0.relations), (sl tFact aDb0.facts)], .box [(intA aEdit1.kind), (intA aEdit1.fact.relation), (sl tInt aEdit1.fact.values)], .row (flat tRelation.own r_13.relations), .row (flat tFact.own r_13.facts), .box [(.m [2] 0 r_13.relations.length tRelation.k), (.m [3] 0 r_13.facts.length tFact.k)]]) rfl ?_
     refine TO_nil ?_
     refine sr ?_
     obtain ⟨r_15, h_16, H⟩ := bind_inv H
     refine pv tb 1 rfl ?_
     refine TO_cons rfl (TOp_callO (call_static ent71 rfl) rfl (m_laws_toEdit_own _ _ h_16) rfl rfl rfl ?_)
     refine toe [(2, (.b 0 0)), (3, (.b 1 0)), (6, (sl tEdit r_11.1)), (7, (boolA r_11.2)), (8, (.b 4 0)), (37, (.g (tEdit.enc aEdit1))), (38, (.g [(intA r_15.kind), (intA r_15.fact.relation), (.m [5] 0 r_15.fact.values.length tInt.k)]))] rfl ?_
     refine TO_st (σ' := [.box [(sl tRelation aDb0.relations), (sl tFact aDb0.facts)], .box [(intA aEdit1.kind), (intA aEdit1.fact.relation), (sl tInt aEdit1.fact.values)], .row (flat tRelation.own r_13.relations), .row (flat tFact.own r_13.facts), .box [(.m [2] 0 r_13.relations.length tRelation.k), (.m [3] 0 r_13.facts.length tFact.k)], .row (flat tInt.own r_15.fact.values)]) rfl ?_
     refine TO_cons rfl (TOp_alloc zero100 rfl rfl ?_)
     refine TO_cons rfl (TOp_storeB sz100 rfl rfl rfl rfl rfl rfl rfl (by decide) (lb rfl) rfl ?_)
     refine TO_st (σ' := [.box [(sl tRelation aDb0.relations), (sl tFact aDb0.facts)], .box [(intA aEdit1.kind), (intA aEdit1.fact.relation), (sl tInt aEdit1.fact.values)], .row (flat tRelation.own r_13.relations), .row (flat tFact.own r_13.facts), .box [(.m [2] 0 r_13.relations.length tRelation.k), (.m [3] 0 r_13.facts.length tFact.k)], .row (flat tInt.own r_15.fact.values), .box [(intA r_15.kind), (intA r_15.fact.relation), (.m [5] 0 r_15.fact.values.length tInt.k)]]) rfl ?_
     refine TO_nil ?_
     refine sr ?_
     obtain ⟨r_17, h_18, H⟩ := bind_inv H
     refine pv tb 2 rfl ?_
     refine TO_cons rfl (TOp_callOG (call_static ent76 rfl) (frz_cons (frzOK_g (frz_cons (frzT (T := tRelation) rfl) (frz_cons (frzT (T := tFact) rfl) frz_nil)).1 (frz_cons (frzT (T := tRelation) rfl) (frz_cons (frzT (T := tFact) rfl) frz_nil)).2) (frz_cons (frzOK_g (frz_cons (frz_loose rfl) (frz_cons (frz_loose rfl) (frz_cons (frzT (T := tInt) rfl) frz_nil))).1 (frz_cons (frz_loose rfl) (frz_cons (frz_loose rfl) (frz_cons (frzT (T := tInt) rfl) frz_nil))).2) frz_nil)).1 (frz_cons (frzOK_g (frz_cons (frzT (T := tRelation) rfl) (frz_cons (frzT (T := tFact) rfl) frz_nil)).1 (frz_cons (frzT (T := tRelation) rfl) (frz_cons (frzT (T := tFact) rfl) frz_nil)).2) (frz_cons (frzOK_g (frz_cons (frz_loose rfl) (frz_cons (frz_loose rfl) (frz_cons (frzT (T := tInt) rfl) frz_nil))).1 (frz_cons (frz_loose rfl) (frz_cons (frz_loose rfl) (frz_cons (frzT (T := tInt) rfl) frz_nil))).2) frz_nil)).2 (m_impl_InverseEdits_own u _ _ _ h_18) rfl (ownC_of (ownSB_cons (flat_ownR tEdit _) ownSB_nil)) rfl rfl rfl ?_)
     refine toe [(2, (.b 0 0)), (3, (.b 1 0)), (6, (sl tEdit r_11.1)), (7, (boolA r_11.2)), (8, (.b 4 0)), (9, (.b 6 0)), (40, (.g [(.m [2] 0 r_13.relations.length tRelation.k), (.m [3] 0 r_13.facts.length tFact.k)])), (41, (.g [(intA r_15.kind), (intA r_15.fact.relation), (.m [5] 0 r_15.fact.values.length tInt.k)])), (42, (.t [(.m [7] 0 r_17.1.length tEdit.k), (boolA r_17.2)]))] rfl ?_
     refine TO_st (σ' := [.box [(sl tRelation aDb0.relations), (sl tFact aDb0.facts)], .box [(intA aEdit1.kind), (intA aEdit1.fact.relation), (sl tInt aEdit1.fact.values)], .row (flat tRelation.own r_13.relations), .row (flat tFact.own r_13.facts), .box [(.m [2] 0 r_13.relations.length tRelation.k), (.m [3] 0 r_13.facts.length tFact.k)], .row (flat tInt.own r_15.fact.values), .box [(intA r_15.kind), (intA r_15.fact.relation), (.m [5] 0 r_15.fact.values.length tInt.k)], .row (flat tEdit.own r_17.1)]) rfl ?_
     refine pv tb 5 rfl ?_
     refine TO_nil ?_
     refine T_seq ?_
     obtain ⟨t53_19, J_19, H_20⟩ := bind_inv H
     refine T_cutX (fun x => t53_19 = x) (fun (t53_19 : Bool) => [(2, (.b 0 0)), (3, (.b 1 0)), (6, (sl tEdit r_11.1)), (7, (boolA r_11.2)), (8, (.b 4 0)), (9, (.b 6 0)), (10, (.m [7] 0 r_17.1.length tEdit.k)), (11, (boolA r_17.2)), (53, (boolA t53_19))]) (fun (t53_19 : Bool) => [.box [(sl tRelation aDb0.relations), (sl tFact aDb0.facts)], .box [(intA aEdit1.kind), (intA aEdit1.fact.relation), (sl tInt aEdit1.fact.values)], .row (flat tRelation.own r_13.relations), .row (flat tFact.own r_13.facts), .box [(.m [2] 0 r_13.relations.length tRelation.k), (.m [3] 0 r_13.facts.length tFact.k)], .row (flat tInt.own r_15.fact.values), .box [(intA r_15.kind), (intA r_15.fact.relation), (.m [5] 0 r_15.fact.values.length tInt.k)], .row (flat tEdit.own r_17.1)]) ?_ ?_
     ·replace H := J_19
      refine T_region ?_
      obtain ⟨r_21, h_22, H⟩ := bind_inv H
      refine pv tb 2 rfl ?_
      refine TO_cons rfl (TOp_callB (call_static ent77 rfl) (frz_cons (frzT (T := tEdit) rfl) (frz_cons (frz_loose rfl) frz_nil)).1 (frz_cons (frzT (T := tEdit) rfl) (frz_cons (frz_loose rfl) frz_nil)).2 (m_laws_eqEditS_ok _ _ _ h_22) rfl ?_)
      refine pv tb 2 rfl ?_
      refine TO_split (t := (!r_21)) 49 rfl (fun g_23 => ?_) (fun g_23 => ?_)
      ·replace H := cond_t g_23 H
       refine pv tb 4 rfl ?_
       refine TO_nil ?_
       exact joined true (w0 8) (some_inj H).symm
      ·replace H := cond_f g_23 H
       refine pv tb 2 rfl ?_
       refine TO_on rfl rfl (by decide) rfl rfl (TOp_pure (pur_neqB (by kernel_rfl) rfl rfl rfl) rfl ?_)
       refine pv tb 1 rfl ?_
       refine TO_nil ?_
       exact joined (r_17.2 != r_11.2) (w0 8) (some_inj H).symm
     ·rintro _ rfl
      replace H := H_20
      refine T_cond (t := t53_19) rfl (fun c_24 => ?_) (fun c_24 => ?_)
      ·replace H := cond_t c_24 H
       refine sr ?_
       refine pv tb 1 rfl ?_
       refine TO_nil ?_
       refine T_ret ?_
       refine then_ret ?_
       obtain rfl := some_inj H
       refine end_ret (.tmp .nil) rfl rfl ⟨?_, rfl⟩
       rfl
      ·replace H := cond_f c_24 H
       refine T_skip ?_
       refine T_seq ?_
       obtain ⟨r_25, h_26, H⟩ := bind_inv H
       obtain ⟨r_27, h_28, H⟩ := bind_inv H
       refine T_cutX (fun (_ : Unit) => True) (fun _ => [(2, (.b 0 0)), (3, (.b 1 0)), (6, (sl tEdit r_11.1)), (7, (boolA r_11.2)), (8, (.b 4 0)), (9, (.b 6 0)), (10, (.m [7] 0 r_17.1.length tEdit.k)), (11, (boolA r_17.2)), (58, (boolA (!r_27)))]) (fun _ => [.box [(sl tRelation aDb0.relations), (sl tFact aDb0.facts)], .box [(intA aEdit1.kind), (intA aEdit1.fact.relation), (sl tInt aEdit1.fact.values)], .row (flat tRelation.own r_13.relations), .row (flat tFact.own r_13.facts), .box [(.m [2] 0 r_13.relations.length tRelation.k), (.m [3] 0 r_13.facts.length tFact.k)], .row (flat tInt.own r_15.fact.values), .box [(intA r_15.kind), (intA r_15.fact.relation), (.m [5] 0 r_15.fact.values.length tInt.k)], .row (flat tEdit.own r_17.1)]) ?_ ?_
       ·skip
        refine T_regionP 8 mixed rfl ?_
        refine pa tb [0, 1] 3 rfl (by kernel_rfl) rfl ?_
        refine t1 2 (by kernel_rfl) rfl rfl (TOp_callV (call_static ent27 rfl) (m_laws_toDatabase_ok _ _ h_26) rfl rfl rfl ?_)
        refine t1 3 (by kernel_rfl) rfl rfl (TOp_callB (call_static ent29 rfl) (frz_cons (frzOK_g (frz_cons (frzT (T := tRelation) rfl) (frz_cons (frzT (T := tFact) rfl) frz_nil)).1 (frz_cons (frzT (T := tRelation) rfl) (frz_cons (frzT (T := tFact) rfl) frz_nil)).2) (frz_cons (frz_loose rfl) frz_nil)).1 (frz_cons (frzOK_g (frz_cons (frzT (T := tRelation) rfl) (frz_cons (frzT (T := tFact) rfl) frz_nil)).1 (frz_cons (frzT (T := tRelation) rfl) (frz_cons (frzT (T := tFact) rfl) frz_nil)).2) (frz_cons (frz_loose rfl) frz_nil)).2 (m_laws_eqDatabase_ok _ _ _ h_28) rfl ?_)
        refine pa tb [4] 0 rfl (by kernel_rfl) rfl ?_
        exact TA_nil (by kernel_rfl) (joined () (w0 8) trivial)
       ·rintro _ _
        refine T_cond (t := (!r_27)) rfl (fun c_29 => ?_) (fun c_29 => ?_)
        ·replace H := cond_t c_29 H
         refine sr ?_
         refine pv tb 1 rfl ?_
         refine TO_nil ?_
         refine T_ret ?_
         refine then_ret ?_
         obtain rfl := some_inj H
         refine end_ret (.tmp .nil) rfl rfl ⟨?_, rfl⟩
         rfl
        ·replace H := cond_f c_29 H
         refine T_skip ?_
         refine T_seq ?_
         obtain ⟨r_30, h_31, H⟩ := bind_inv H
         obtain ⟨r_32, h_33, H⟩ := bind_inv H
         refine T_cutX (fun (_ : Unit) => True) (fun _ => [(2, (.b 0 0)), (3, (.b 1 0)), (6, (sl tEdit r_11.1)), (7, (boolA r_11.2)), (8, (.b 4 0)), (9, (.b 6 0)), (10, (.m [7] 0 r_17.1.length tEdit.k)), (11, (boolA r_17.2)), (63, (boolA (!r_32)))]) (fun _ => [.box [(sl tRelation aDb0.relations), (sl tFact aDb0.facts)], .box [(intA aEdit1.kind), (intA aEdit1.fact.relation), (sl tInt aEdit1.fact.values)], .row (flat tRelation.own r_13.relations), .row (flat tFact.own r_13.facts), .box [(.m [2] 0 r_13.relations.length tRelation.k), (.m [3] 0 r_13.facts.length tFact.k)], .row (flat tInt.own r_15.fact.values), .box [(intA r_15.kind), (intA r_15.fact.relation), (.m [5] 0 r_15.fact.values.length tInt.k)], .row (flat tEdit.own r_17.1)]) ?_ ?_
         ·skip
          refine T_regionP 8 mixed rfl ?_
          refine pa tb [0, 1] 3 rfl (by kernel_rfl) rfl ?_
          refine t1 2 (by kernel_rfl) rfl rfl (TOp_callV (call_static ent71 rfl) (m_laws_toEdit_ok _ _ h_31) rfl rfl rfl ?_)
          refine t1 3 (by kernel_rfl) rfl rfl (TOp_callB (call_static ent73 rfl) (frz_cons (frzOK_g (frz_cons (frz_loose rfl) (frz_cons (frz_loose rfl) (frz_cons (frzT (T := tInt) rfl) frz_nil))).1 (frz_cons (frz_loose rfl) (frz_cons (frz_loose rfl) (frz_cons (frzT (T := tInt) rfl) frz_nil))).2) (frz_cons (frz_loose rfl) frz_nil)).1 (frz_cons (frzOK_g (frz_cons (frz_loose rfl) (frz_cons (frz_loose rfl) (frz_cons (frzT (T := tInt) rfl) frz_nil))).1 (frz_cons (frz_loose rfl) (frz_cons (frz_loose rfl) (frz_cons (frzT (T := tInt) rfl) frz_nil))).2) (frz_cons (frz_loose rfl) frz_nil)).2 (m_laws_eqEdit_ok _ _ _ h_33) rfl ?_)
          refine pa tb [4] 0 rfl (by kernel_rfl) rfl ?_
          exact TA_nil (by kernel_rfl) (joined () (w0 8) trivial)
         ·rintro _ _
          refine T_cond (t := (!r_32)) rfl (fun c_34 => ?_) (fun c_34 => ?_)
          ·replace H := cond_t c_34 H
           refine sr ?_
           refine pv tb 1 rfl ?_
           refine TO_nil ?_
           refine T_ret ?_
           refine then_ret ?_
           obtain rfl := some_inj H
           refine end_ret (.tmp .nil) rfl rfl ⟨?_, rfl⟩
           rfl
          ·replace H := cond_f c_34 H
           refine T_skip ?_
           refine sr ?_
           refine pv tb 1 rfl ?_
           refine TO_nil ?_
           refine sr ?_
           obtain ⟨r_35, h_36, H⟩ := bind_inv H
           refine pv tb 2 rfl ?_
           refine TO_cons rfl (TOp_callG (aa := [(.g [(.m [2] 0 r_13.relations.length tRelation.k), (.m [3] 0 r_13.facts.length tFact.k)]), (intA 1)]) [[2], [3]] (call_static ent30 rfl) rfl (.cons rfl rfl (by decide) (.cons rfl rfl (by decide) .nil)) rfl rfl (m_laws_markDatabase_mut u _ _ _ h_36) rfl (fun hl_37 => ?_))
           obtain ⟨hq_38, hl_37⟩ := sameLens_T (T := tRelation) hl_37
           refine TO_env (E' := [(2, (.b 0 0)), (3, (.b 1 0)), (6, (sl tEdit r_11.1)), (7, (boolA r_11.2)), (8, (.b 4 0)), (9, (.b 6 0)), (10, (.m [7] 0 r_17.1.length tEdit.k)), (11, (boolA r_17.2)), (12, (intA 1)), (64, (.g [(.m [2] 0 r_35.2.relations.length tRelation.k), (.m [3] 0 r_13.facts.length tFact.k)])), (65, (intA 1)), (66, (intA r_35.1))]) ⟨rfl, rfl, rfl, rfl, rfl, rfl, rfl, rfl, rfl, (by simp only [hq_38]; rfl), rfl, rfl, trivial⟩ ?_
           obtain ⟨hq_39, hl_37⟩ := sameLens_T (T := tFact) hl_37
           refine TO_env (E' := [(2, (.b 0 0)), (3, (.b 1 0)), (6, (sl tEdit r_11.1)), (7, (boolA r_11.2)), (8, (.b 4 0)), (9, (.b 6 0)), (10, (.m [7] 0 r_17.1.length tEdit.k)), (11, (boolA r_17.2)), (12, (intA 1)), (64, (.g [(.m [2] 0 r_35.2.relations.length tRelation.k), (.m [3] 0 r_35.2.facts.length tFact.k)])), (65, (intA 1)), (66, (intA r_35.1))]) ⟨rfl, rfl, rfl, rfl, rfl, rfl, rfl, rfl, rfl, (by simp only [hq_39]; rfl), rfl, rfl, trivial⟩ ?_
           refine TO_st (σ' := [.box [(sl tRelation aDb0.relations), (sl tFact aDb0.facts)], .box [(intA aEdit1.kind), (intA aEdit1.fact.relation), (sl tInt aEdit1.fact.values)], .row (flat tRelation.own r_35.2.relations), .row (flat tFact.own r_35.2.facts), .box [(.m [2] 0 r_13.relations.length tRelation.k), (.m [3] 0 r_13.facts.length tFact.k)], .row (flat tInt.own r_15.fact.values), .box [(intA r_15.kind), (intA r_15.fact.relation), (.m [5] 0 r_15.fact.values.length tInt.k)], .row (flat tEdit.own r_17.1)]) rfl ?_
           refine TO_st (σ' := [.box [(sl tRelation aDb0.relations), (sl tFact aDb0.facts)], .box [(intA aEdit1.kind), (intA aEdit1.fact.relation), (sl tInt aEdit1.fact.values)], .row (flat tRelation.own r_35.2.relations), .row (flat tFact.own r_35.2.facts), .box [(.m [2] 0 r_35.2.relations.length tRelation.k), (.m [3] 0 r_13.facts.length tFact.k)], .row (flat tInt.own r_15.fact.values), .box [(intA r_15.kind), (intA r_15.fact.relation), (.m [5] 0 r_15.fact.values.length tInt.k)], .row (flat tEdit.own r_17.1)]) (by simp only [hq_38]) ?_
           refine TO_st (σ' := [.box [(sl tRelation aDb0.relations), (sl tFact aDb0.facts)], .box [(intA aEdit1.kind), (intA aEdit1.fact.relation), (sl tInt aEdit1.fact.values)], .row (flat tRelation.own r_35.2.relations), .row (flat tFact.own r_35.2.facts), .box [(.m [2] 0 r_35.2.relations.length tRelation.k), (.m [3] 0 r_35.2.facts.length tFact.k)], .row (flat tInt.own r_15.fact.values), .box [(intA r_15.kind), (intA r_15.fact.relation), (.m [5] 0 r_15.fact.values.length tInt.k)], .row (flat tEdit.own r_17.1)]) (by simp only [hq_39]) ?_
           refine pv tb 1 rfl ?_
           refine TO_nil ?_
           refine sr ?_
           obtain ⟨r_40, h_41, H⟩ := bind_inv H
           refine pv tb 2 rfl ?_
           refine TO_cons rfl (TOp_callG (aa := [(.g [(intA r_15.kind), (intA r_15.fact.relation), (.m [5] 0 r_15.fact.values.length tInt.k)]), (intA r_35.1)]) [[5]] (call_static ent74 rfl) rfl (.cons rfl rfl (by decide) .nil) rfl rfl (m_laws_markEdit_mut _ _ _ h_41) rfl (fun hl_42 => ?_))
           obtain ⟨hq_43, hl_42⟩ := sameLens_T (T := tInt) hl_42
           refine TO_env (E' := [(2, (.b 0 0)), (3, (.b 1 0)), (6, (sl tEdit r_11.1)), (7, (boolA r_11.2)), (9, (.b 6 0)), (10, (.m [7] 0 r_17.1.length tEdit.k)), (11, (boolA r_17.2)), (12, (intA r_35.1)), (67, (.g [(intA r_15.kind), (intA r_15.fact.relation), (.m [5] 0 r_40.2.fact.values.length tInt.k)])), (68, (intA r_35.1)), (69, (intA r_40.1))]) ⟨rfl, rfl, rfl, rfl, rfl, rfl, rfl, rfl, (by simp only [hq_43]; rfl), rfl, rfl, trivial⟩ ?_
           refine TO_st (σ' := [.box [(sl tRelation aDb0.relations), (sl tFact aDb0.facts)], .box [(intA aEdit1.kind), (intA aEdit1.fact.relation), (sl tInt aEdit1.fact.values)], .row (flat tRelation.own r_35.2.relations), .row (flat tFact.own r_35.2.facts), .box [(.m [2] 0 r_35.2.relations.length tRelation.k), (.m [3] 0 r_35.2.facts.length tFact.k)], .row (flat tInt.own r_40.2.fact.values), .box [(intA r_15.kind), (intA r_15.fact.relation), (.m [5] 0 r_15.fact.values.length tInt.k)], .row (flat tEdit.own r_17.1)]) rfl ?_
           refine TO_st (σ' := [.box [(sl tRelation aDb0.relations), (sl tFact aDb0.facts)], .box [(intA aEdit1.kind), (intA aEdit1.fact.relation), (sl tInt aEdit1.fact.values)], .row (flat tRelation.own r_35.2.relations), .row (flat tFact.own r_35.2.facts), .box [(.m [2] 0 r_35.2.relations.length tRelation.k), (.m [3] 0 r_35.2.facts.length tFact.k)], .row (flat tInt.own r_40.2.fact.values), .box [(intA r_15.kind), (intA r_15.fact.relation), (.m [5] 0 r_40.2.fact.values.length tInt.k)], .row (flat tEdit.own r_17.1)]) (by simp only [hq_43]) ?_
           refine pv tb 1 rfl ?_
           refine TO_nil ?_
           refine T_seq ?_
           obtain ⟨t82_44, J_44, H_45⟩ := bind_inv H
           refine T_cutX (fun x => t82_44 = x) (fun (t82_44 : Bool) => [(2, (.b 0 0)), (3, (.b 1 0)), (6, (sl tEdit r_11.1)), (7, (boolA r_11.2)), (10, (.m [7] 0 r_17.1.length tEdit.k)), (82, (boolA t82_44))]) (fun (t82_44 : Bool) => [.box [(sl tRelation aDb0.relations), (sl tFact aDb0.facts)], .box [(intA aEdit1.kind), (intA aEdit1.fact.relation), (sl tInt aEdit1.fact.values)], .row (flat tRelation.own r_35.2.relations), .row (flat tFact.own r_35.2.facts), .box [(.m [2] 0 r_35.2.relations.length tRelation.k), (.m [3] 0 r_35.2.facts.length tFact.k)], .row (flat tInt.own r_40.2.fact.values), .box [(intA r_15.kind), (intA r_15.fact.relation), (.m [5] 0 r_40.2.fact.values.length tInt.k)], .row (flat tEdit.own r_17.1)]) ?_ ?_
           ·replace H := J_44
            refine T_region ?_
            refine pv tb 3 rfl ?_
            refine TO_split (t := decide (r_40.1 < 0)) 72 rfl (fun g_46 => ?_) (fun g_46 => ?_)
            ·replace H := cond_t g_46 H
             refine pv tb 10 rfl ?_
             refine TO_nil ?_
             exact joined true (w0 8) (some_inj H).symm
            ·replace H := cond_f g_46 H
             obtain ⟨r_47, h_48, H⟩ := bind_inv H
             refine pv tb 2 rfl ?_
             refine TO_on rfl rfl (by decide) rfl rfl (TOp_callB (call_static ent77 rfl) (frz_cons (frzT (T := tEdit) rfl) (frz_cons (frz_loose rfl) frz_nil)).1 (frz_cons (frzT (T := tEdit) rfl) (frz_cons (frz_loose rfl) frz_nil)).2 (m_laws_eqEditS_ok _ _ _ h_48) rfl ?_)
             refine pv tb 3 rfl ?_
             refine TO_split (t := (!r_47)) 78 rfl (fun g_49 => ?_) (fun g_49 => ?_)
             ·replace H := cond_t g_49 H
              refine pv tb 4 rfl ?_
              refine TO_nil ?_
              exact joined true (w0 8) (some_inj H).symm
             ·replace H := cond_f g_49 H
              refine pv tb 2 rfl ?_
              refine TO_on rfl rfl (by decide) rfl rfl (TOp_pure (pur_neqB (by kernel_rfl) rfl rfl rfl) rfl ?_)
              refine pv tb 1 rfl ?_
              refine TO_nil ?_
              exact joined (r_17.2 != r_11.2) (w0 8) (some_inj H).symm
           ·rintro _ rfl
            replace H := H_45
            refine T_cond (t := t82_44) rfl (fun c_50 => ?_) (fun c_50 => ?_)
            ·replace H := cond_t c_50 H
             refine sr ?_
             refine pv tb 1 rfl ?_
             refine TO_nil ?_
             refine T_ret ?_
             refine then_ret ?_
             obtain rfl := some_inj H
             refine end_ret (.tmp .nil) rfl rfl ⟨?_, rfl⟩
             rfl
            ·replace H := cond_f c_50 H
             refine T_skip ?_
             refine sr ?_
             refine pv tb 1 rfl ?_
             refine TO_nil ?_
             refine sr ?_
             obtain ⟨r_51, h_52, H⟩ := bind_inv H
             refine pv tb 2 rfl ?_
             refine TO_cons rfl (TOp_callG (aa := [(.m [7] 0 r_17.1.length tEdit.k), (intA 1)]) [[7]] (call_static ent78 rfl) rfl (.cons rfl rfl (by decide) .nil) rfl rfl (m_laws_markEditS_mut _ _ _ h_52) rfl (fun hl_53 => ?_))
             obtain ⟨hq_54, hl_53⟩ := sameLens_T (T := tEdit) hl_53
             refine TO_env (E' := [(2, (.b 0 0)), (3, (.b 1 0)), (6, (sl tEdit r_11.1)), (7, (boolA r_11.2)), (10, (.m [7] 0 r_51.2.length tEdit.k)), (13, (intA 1)), (83, (.m [7] 0 r_51.2.length tEdit.k)), (84, (intA 1)), (85, (intA r_51.1))]) ⟨rfl, rfl, rfl, rfl, (congrArg (fun q => A.m [7] 0 q tEdit.k) hq_54.symm), rfl, (congrArg (fun q => A.m [7] 0 q tEdit.k) hq_54.symm), rfl, rfl, trivial⟩ ?_
             refine TO_st (σ' := [.box [(sl tRelation aDb0.relations), (sl tFact aDb0.facts)], .box [(intA aEdit1.kind), (intA aEdit1.fact.relation), (sl tInt aEdit1.fact.values)], .row (flat tRelation.own r_35.2.relations), .row (flat tFact.own r_35.2.facts), .box [(.m [2] 0 r_35.2.relations.length tRelation.k), (.m [3] 0 r_35.2.facts.length tFact.k)], .row (flat tInt.own r_40.2.fact.values), .box [(intA r_15.kind), (intA r_15.fact.relation), (.m [5] 0 r_40.2.fact.values.length tInt.k)], .row (flat tEdit.own r_51.2)]) rfl ?_
             refine pv tb 1 rfl ?_
             refine TO_nil ?_
             refine sr ?_
             refine pv tb 1 rfl ?_
             refine TO_nil ?_
             refine sr ?_
             obtain ⟨r_55, h_56, H⟩ := bind_inv H
             refine pv tb 2 rfl ?_
             refine TO_cons rfl (TOp_callB (call_static ent79 rfl) (frz_cons (frzT (T := tEdit) rfl) (frz_cons (frz_loose rfl) frz_nil)).1 (frz_cons (frzT (T := tEdit) rfl) (frz_cons (frz_loose rfl) frz_nil)).2 (m_laws_heldEditS_ok _ _ _ h_56) rfl ?_)
             refine pv tb 1 rfl ?_
             refine TO_nil ?_
             refine T_seq ?_
             refine sr ?_
             refine pv tb 2 rfl ?_
             refine TO_nil ?_
             refine T_cond (t := decide (r_55 < 0)) rfl (fun c_57 => ?_) (fun c_57 => ?_)
             ·replace H := cond_t c_57 H
              refine sr ?_
              refine pv tb 1 rfl ?_
              refine TO_nil ?_
              refine te [(4, (boolA false))] rfl ?_
              refine T_ret ?_
              refine then_ret ?_
              obtain rfl := some_inj H
              refine end_ret (.tmp .nil) rfl rfl ⟨?_, rfl⟩
              rfl
             ·replace H := cond_f c_57 H
              refine T_skip ?_
              refine T_seq ?_
              refine sr ?_
              refine pv tb 3 rfl ?_
              refine TO_nil ?_
              refine T_cond (t := decide (r_55 ≠ r_51.1)) rfl (fun c_58 => ?_) (fun c_58 => ?_)
              ·replace H := cond_t c_58 H
               refine sr ?_
               refine pv tb 1 rfl ?_
               refine TO_nil ?_
               refine te [(4, (boolA false))] rfl ?_
               refine T_ret ?_
               refine then_ret ?_
               obtain rfl := some_inj H
               refine end_ret (.tmp .nil) rfl rfl ⟨?_, rfl⟩
               rfl
              ·replace H := cond_f c_58 H
               refine T_skip ?_
               obtain ⟨r_59, h_60, H⟩ := bind_inv H
               obtain ⟨r_61, h_62, H⟩ := bind_inv H
               obtain ⟨r_63, h_64, H⟩ := bind_inv H
               refine T_cutX (fun (_ : Unit) => True) (fun _ => [(6, (sl tEdit r_11.1)), (7, (boolA r_11.2)), (10, (.m [7] 0 r_51.2.length tEdit.k)), (13, (intA r_51.1)), (15, (sl tEdit r_63.1)), (16, (boolA r_63.2))]) (fun _ => [.box [(sl tRelation aDb0.relations), (sl tFact aDb0.facts)], .box [(intA aEdit1.kind), (intA aEdit1.fact.relation), (sl tInt aEdit1.fact.values)], .row (flat tRelation.own r_35.2.relations), .row (flat tFact.own r_35.2.facts), .box [(.m [2] 0 r_35.2.relations.length tRelation.k), (.m [3] 0 r_35.2.facts.length tFact.k)], .row (flat tInt.own r_40.2.fact.values), .box [(intA r_15.kind), (intA r_15.fact.relation), (.m [5] 0 r_40.2.fact.values.length tInt.k)], .row (flat tEdit.own r_51.2)]) ?_ ?_
               ·skip
                refine T_regionP 8 mixed rfl ?_
                refine pa tb [0, 2] 8 rfl (by kernel_rfl) rfl ?_
                refine t1 1 (by kernel_rfl) rfl rfl (TOp_callV (call_static ent27 rfl) (m_laws_toDatabase_ok _ _ h_60) rfl rfl rfl ?_)
                refine t1 3 (by kernel_rfl) rfl rfl (TOp_callV (call_static ent71 rfl) (m_laws_toEdit_ok _ _ h_62) rfl rfl rfl ?_)
                refine t1 4 (by kernel_rfl) rfl rfl (TOp_callV (call_static ent76 rfl) (m_impl_InverseEdits_ok u _ _ _ h_64) rfl rfl rfl ?_)
                refine pa tb [5] 4 rfl (by kernel_rfl) rfl ?_
                refine tae [(6, (sl tEdit r_11.1)), (7, (boolA r_11.2)), (10, (.m [7] 0 r_51.2.length tEdit.k)), (13, (intA r_51.1)), (94, (.t [(sl tEdit r_63.1), (boolA r_63.2)]))] rfl ?_
                refine pa tb [6, 7, 8, 9] 0 rfl (by kernel_rfl) rfl ?_
                exact TA_nil (by kernel_rfl) (joined () (w0 8) trivial)
               ·rintro _ _
                refine T_seq ?_
                obtain ⟨t110_65, J_65, H_66⟩ := bind_inv H
                refine T_cutX (fun x => t110_65 = x) (fun (t110_65 : Bool) => [(10, (.m [7] 0 r_51.2.length tEdit.k)), (13, (intA r_51.1)), (110, (boolA t110_65))]) (fun (t110_65 : Bool) => [.box [(sl tRelation aDb0.relations), (sl tFact aDb0.facts)], .box [(intA aEdit1.kind), (intA aEdit1.fact.relation), (sl tInt aEdit1.fact.values)], .row (flat tRelation.own r_35.2.relations), .row (flat tFact.own r_35.2.facts), .box [(.m [2] 0 r_35.2.relations.length tRelation.k), (.m [3] 0 r_35.2.facts.length tFact.k)], .row (flat tInt.own r_40.2.fact.values), .box [(intA r_15.kind), (intA r_15.fact.relation), (.m [5] 0 r_40.2.fact.values.length tInt.k)], .row (flat tEdit.own r_51.2)]) ?_ ?_
                ·replace H := J_65
                 refine T_region ?_
                 obtain ⟨r_67, h_68, H⟩ := bind_inv H
                 refine pv tb 2 rfl ?_
                 refine TO_cons rfl (TOp_callV (call_static ent77 rfl) (m_laws_eqEditS_ok _ _ _ h_68) rfl rfl rfl ?_)
                 refine pv tb 2 rfl ?_
                 refine TO_split (t := (!r_67)) 106 rfl (fun g_69 => ?_) (fun g_69 => ?_)
                 ·replace H := cond_t g_69 H
                  refine pv tb 4 rfl ?_
                  refine TO_nil ?_
                  exact joined true (w0 8) (some_inj H).symm
                 ·replace H := cond_f g_69 H
                  refine pv tb 2 rfl ?_
                  refine TO_on rfl rfl (by decide) rfl rfl (TOp_pure (pur_neqB (by kernel_rfl) rfl rfl rfl) rfl ?_)
                  refine pv tb 1 rfl ?_
                  refine TO_nil ?_
                  exact joined (r_63.2 != r_11.2) (w0 8) (some_inj H).symm
                ·rintro _ rfl
                 replace H := H_66
                 refine T_cond (t := t110_65) rfl (fun c_70 => ?_) (fun c_70 => ?_)
                 ·replace H := cond_t c_70 H
                  refine sr ?_
                  refine pv tb 1 rfl ?_
                  refine TO_nil ?_
                  refine T_ret ?_
                  refine then_ret ?_
                  obtain rfl := some_inj H
                  refine end_ret (.tmp .nil) rfl rfl ⟨?_, rfl⟩
                  rfl
                 ·replace H := cond_f c_70 H
                  refine T_skip ?_
                  refine sr ?_
                  refine pv tb 1 rfl ?_
                  refine TO_nil ?_
                  refine sr ?_
                  obtain ⟨r_71, h_72, H⟩ := bind_inv H
                  refine pv tb 2 rfl ?_
                  refine TO_cons rfl (TOp_callB (call_static ent79 rfl) (frz_cons (frzT (T := tEdit) rfl) (frz_cons (frz_loose rfl) frz_nil)).1 (frz_cons (frzT (T := tEdit) rfl) (frz_cons (frz_loose rfl) frz_nil)).2 (m_laws_heldEditS_ok _ _ _ h_72) rfl ?_)
                  refine pv tb 1 rfl ?_
                  refine TO_nil ?_
                  refine T_seq ?_
                  refine sr ?_
                  refine pv tb 2 rfl ?_
                  refine TO_nil ?_
                  refine T_cond (t := decide (r_71 < 0)) rfl (fun c_73 => ?_) (fun c_73 => ?_)
                  ·replace H := cond_t c_73 H
                   refine sr ?_
                   refine pv tb 1 rfl ?_
                   refine TO_nil ?_
                   refine T_ret ?_
                   refine then_ret ?_
                   obtain rfl := some_inj H
                   refine end_ret (.tmp .nil) rfl rfl ⟨?_, rfl⟩
                   rfl
                  ·replace H := cond_f c_73 H
                   refine T_skip ?_
                   refine T_seq ?_
                   refine sr ?_
                   refine pv tb 3 rfl ?_
                   refine TO_nil ?_
                   refine T_cond (t := decide (r_71 ≠ r_51.1)) rfl (fun c_74 => ?_) (fun c_74 => ?_)
                   ·replace H := cond_t c_74 H
                    refine sr ?_
                    refine pv tb 1 rfl ?_
                    refine TO_nil ?_
                    refine T_ret ?_
                    refine then_ret ?_
                    obtain rfl := some_inj H
                    refine end_ret (.tmp .nil) rfl rfl ⟨?_, rfl⟩
                    rfl
                   ·replace H := cond_f c_74 H
                    refine T_skip ?_
                    refine sr ?_
                    refine pv tb 1 rfl ?_
                    refine TO_nil ?_
                    refine T_ret ?_
                    obtain rfl := some_inj H
                    refine end_ret (.tmp .nil) rfl rfl ⟨?_, rfl⟩
                    rfl
end Go.Proofs.Ytjdpolnakhmkmaa

import Derived.Test.YtjdpolnakhmkmaaM1
import Derived.Test.YtjdpolnakhmkmaaM2
import Derived.Test.YtjdpolnakhmkmaaM5
import Derived.Test.YtjdpolnakhmkmaaM6
set_option linter.unusedVariables false
set_option linter.unusedSimpArgs false
set_option maxRecDepth 4000
namespace Go.Proofs.Ytjdpolnakhmkmaa
open Go Go.Proofs Go.Sep
set_option maxHeartbeats 1000000 in
theorem m_laws_FnExactApplyEdits_ok (u : Nat) (aDb0 : Database) (aEdits1 : (List Edit)) (r : Bool) (H : m_laws_FnExactApplyEdits u aDb0 aEdits1 = some r) : FnV prg 14 [(.g (tDatabase.enc aDb0)), (sl tEdit aEdits1)] (boolA r) := by
  unfold m_laws_FnExactApplyEdits at H
  refine fnV_of_T Try.func14 rfl rfl (Nat.le_of_ble_eq_true rfl) ?_
  refine te [(0, (.g (tDatabase.enc aDb0))), (1, (sl tEdit aEdits1))] rfl ?_
  refine sr ?_
  refine TO_cons rfl (TOp_box rfl (boxAll rfl) rfl rfl ?_)
  refine pv tb 1 rfl ?_
  refine TO_nil ?_
  refine sr ?_
  refine pv tb 1 rfl ?_
  refine TO_nil ?_
  refine sr ?_
  obtain ⟨r_1, h_2, H⟩ := bind_inv H
  refine pv tb 2 rfl ?_
  refine TO_cons rfl (TOp_callV (call_static ent25 rfl) (m_laws_szDatabase_ok _ _ _ h_2) rfl rfl rfl ?_)
  refine pv tb 1 rfl ?_
  refine TO_nil ?_
  refine T_seq ?_
  refine sr ?_
  refine pv tb 2 rfl ?_
  refine TO_nil ?_
  refine T_cond (t := decide (r_1 < 0)) rfl (fun c_3 => ?_) (fun c_3 => ?_)
  ·replace H := cond_t c_3 H
   refine sr ?_
   refine pv tb 1 rfl ?_
   refine TO_nil ?_
   refine T_ret ?_
   refine then_ret ?_
   obtain rfl := some_inj H
   refine end_ret (.tmp .nil) rfl rfl ⟨?_, rfl⟩
   rfl
  ·replace H := cond_f c_3 H
   refine T_skip ?_
   refine sr ?_
   obtain ⟨r_4, h_5, H⟩ := bind_inv H
   refine pv tb 2 rfl ?_
   refine TO_cons rfl (TOp_callV (call_static ent80 rfl) (m_laws_szEditS_ok _ _ _ h_5) rfl rfl rfl ?_)
   refine pv tb 1 rfl ?_
   refine TO_nil ?_
   refine T_seq ?_
   refine sr ?_
   refine pv tb 2 rfl ?_
   refine TO_nil ?_
   refine T_cond (t := decide (r_4 < 0)) rfl (fun c_6 => ?_) (fun c_6 => ?_)
   ·replace H := cond_t c_6 H
    refine sr ?_
    refine pv tb 1 rfl ?_
    refine TO_nil ?_
    refine te [(4, (boolA true))] rfl ?_
    refine T_ret ?_
    refine then_ret ?_
    obtain rfl := some_inj H
    refine end_ret (.tmp .nil) rfl rfl ⟨?_, rfl⟩
    rfl
   ·replace H := cond_f c_6 H
    refine T_skip ?_
    refine sr ?_
    obtain ⟨r_7, h_8, H⟩ := bind_inv H
    refine pv tb 1 rfl ?_
    refine TO_cons rfl (TOp_callV (call_static ent27 rfl) (m_laws_toDatabase_ok _ _ h_8) rfl rfl rfl ?_)
    obtain ⟨r_9, h_10, H⟩ := bind_inv H
    refine pv tb 1 rfl ?_
    refine TO_cons rfl (TOp_callV (call_static ent81 rfl) (m_laws_toEditS_ok _ _ h_10) rfl rfl rfl ?_)
    obtain ⟨r_11, h_12, H⟩ := bind_inv H
    refine TO_cons rfl (TOp_callV (call_static ent67 rfl) (m_spec_ApplyEdits_ok u _ _ _ h_12) rfl rfl rfl ?_)
    refine pv tb 3 rfl ?_
    refine toe [(1, (sl tEdit aEdits1)), (2, (.b 0 0)), (33, (.g (tDatabase.enc r_11.1))), (34, (intA r_11.2))] rfl ?_
    refine TO_cons rfl (TOp_alloc zero48 rfl rfl ?_)
    refine TO_cons rfl (TOp_storeB sz48 rfl rfl rfl rfl rfl rfl rfl (by decide) (lb rfl) rfl ?_)
    refine TO_st (σ' := [.box [(sl tRelation aDb0.relations), (sl tFact aDb0.facts)], .box [(sl tRelation r_11.1.relations), (sl tFact r_11.1.facts)]]) rfl ?_
    refine pv tb 1 rfl ?_
    refine TO_nil ?_
    refine sr ?_
    obtain ⟨r_13, h_14, H⟩ := bind_inv H
    refine pv tb 1 rfl ?_
    refine TO_cons rfl (TOp_callO (call_static ent27 rfl) rfl (m_laws_toDatabase_own _ _ h_14) rfl rfl rfl ?_)
    refine toe [(1, (sl tEdit aEdits1)), (2, (.b 0 0)), (6, (.b 1 0)), (7, (intA r_11.2)), (35, (.g (tDatabase.enc aDb0))), (36, (.g [(.m [2] 0 r_13.relations.length tRelation.k), (.m [3] 0 r_13.facts.length tFact.k)]))] rfl ?_
    refine TO_st (σ' := [.box [(sl tRelation aDb0.relations), (sl tFact aDb0.facts)], .box [(sl tRelation r_11.1.relations), (sl tFact r_11.1.facts)], .row (flat tRelation.own r_13.relations), .row (flat tFact.own r_13.facts)]) rfl ?_
    refine TO_cons rfl (TOp_alloc zero48 rfl rfl ?_)
    refine TO_cons rfl (TOp_storeB sz48 rfl rfl rfl rfl rfl rfl rfl (by decide) (lb rfl) rfl ?_)
    refine TO_st (σ' := [.box [(sl tRelation aDb0.relations), (sl tFact aDb0.facts)], .box [(sl tRelation r_11.1.relations), (sl tFact r_11.1.facts)], .row (flat tRelation.own r_13.relations), .row (flat tFact.own r_13.facts), .box [(.m [2] 0 r_13.relations.length tRelation.k), (.m [3] 0 r_13.facts.length tFact.k)]]) rfl ?_
    refine TO_nil ?_
    refine sr ?_
    obtain ⟨r_15, h_16, H⟩ := bind_inv H
    refine pv tb 1 rfl ?_
    refine TO_cons rfl (TOp_callO (call_static ent81 rfl) rfl (m_laws_toEditS_own _ _ h_16) rfl rfl rfl ?_)
    refine toe [(1, (sl tEdit aEdits1)), (2, (.b 0 0)), (6, (.b 1 0)), (7, (intA r_11.2)), (8, (.b 4 0)), (37, (sl tEdit aEdits1)), (38, (.m [5] 0 r_15.length tEdit.k))] rfl ?_
    refine TO_st (σ' := [.box [(sl tRelation aDb0.relations), (sl tFact aDb0.facts)], .box [(sl tRelation r_11.1.relations), (sl tFact r_11.1.facts)], .row (flat tRelation.own r_13.relations), .row (flat tFact.own r_13.facts), .box [(.m [2] 0 r_13.relations.length tRelation.k), (.m [3] 0 r_13.facts.length tFact.k)], .row (flat tEdit.own r_15)]) rfl ?_
    refine pv tb 1 rfl ?_
    refine TO_nil ?_
    refine sr ?_
    obtain ⟨r_17, h_18, H⟩ := bind_inv H
    refine pv tb 2 rfl ?_
    refine TO_cons rfl (TOp_callOG (call_static ent66 rfl) (frz_cons (frzOK_g (frz_cons (frzT (T := tRelation) rfl) (frz_cons (frzT (T := tFact) rfl) frz_nil)).1 (frz_cons (frzT (T := tRelation) rfl) (frz_cons (frzT (T := tFact) rfl) frz_nil)).2) (frz_cons (frzT (T := tEdit) rfl) frz_nil)).1 (frz_cons (frzOK_g (frz_cons (frzT (T := tRelation) rfl) (frz_cons (frzT (T := tFact) rfl) frz_nil)).1 (frz_cons (frzT (T := tRelation) rfl) (frz_cons (frzT (T := tFact) rfl) frz_nil)).2) (frz_cons (frzT (T := tEdit) rfl) frz_nil)).2 (m_impl_ApplyEdits_own u _ _ _ h_18) rfl (ownC_of (ownSB_cons (flat_ownR tRelation _) (ownSB_cons (flat_ownR tFact _) ownSB_nil))) rfl rfl rfl ?_)
    refine toe [(1, (sl tEdit aEdits1)), (2, (.b 0 0)), (6, (.b 1 0)), (7, (intA r_11.2)), (8, (.b 4 0)), (9, (.m [5] 0 r_15.length tEdit.k)), (40, (.g [(.m [2] 0 r_13.relations.length tRelation.k), (.m [3] 0 r_13.facts.length tFact.k)])), (41, (.m [5] 0 r_15.length tEdit.k)), (42, (.t [(.g [(.m [6] 0 r_17.1.relations.length tRelation.k), (.m [7] 0 r_17.1.facts.length tFact.k)]), (intA r_17.2)]))] rfl ?_
    refine TO_st (σ' := [.box [(sl tRelation aDb0.relations), (sl tFact aDb0.facts)], .box [(sl tRelation r_11.1.relations), (sl tFact r_11.1.facts)], .row (flat tRelation.own r_13.relations), .row (flat tFact.own r_13.facts), .box [(.m [2] 0 r_13.relations.length tRelation.k), (.m [3] 0 r_13.facts.length tFact.k)], .row (flat tEdit.own r_15), .row (flat tRelation.own r_17.1.relations), .row (flat tFact.own r_17.1.facts)]) rfl ?_
    refine pv tb 3 rfl ?_
    refine TO_cons rfl (TOp_alloc zero48 rfl rfl ?_)
    refine TO_cons rfl (TOp_storeB sz48 rfl rfl rfl rfl rfl rfl rfl (by decide) (lb rfl) rfl ?_)
    refine TO_st (σ' := [.box [(sl tRelation aDb0.relations), (sl tFact aDb0.facts)], .box [(sl tRelation r_11.1.relations), (sl tFact r_11.1.facts)], .row (flat tRelation.own r_13.relations), .row (flat tFact.own r_13.facts), .box [(.m [2] 0 r_13.relations.length tRelation.k), (.m [3] 0 r_13.facts.length tFact.k)], .row (flat tEdit.own r_15), .row (flat tRelation.own r_17.1.relations), .row (flat tFact.own r_17.1.facts), .box [(.m [6] 0 r_17.1.relations.length tRelation.k), (.m [7] 0 r_17.1.facts.length tFact.k)]]) rfl ?_
    refine pv tb 1 rfl ?_
    refine TO_nil ?_
    refine T_seq ?_
    obtain ⟨t53_19, J_19, H_20⟩ := bind_inv H
    refine T_cutX (fun x => t53_19 = x) (fun (t53_19 : Bool) => [(1, (sl tEdit aEdits1)), (2, (.b 0 0)), (6, (.b 1 0)), (7, (intA r_11.2)), (8, (.b 4 0)), (9, (.m [5] 0 r_15.length tEdit.k)), (10, (.b 8 0)), (11, (intA r_17.2)), (53, (boolA t53_19))]) (fun (t53_19 : Bool) => [.box [(sl tRelation aDb0.relations), (sl tFact aDb0.facts)], .box [(sl tRelation r_11.1.relations), (sl tFact r_11.1.facts)], .row (flat tRelation.own r_13.relations), .row (flat tFact.own r_13.facts), .box [(.m [2] 0 r_13.relations.length tRelation.k), (.m [3] 0 r_13.facts.length tFact.k)], .row (flat tEdit.own r_15), .row (flat tRelation.own r_17.1.relations), .row (flat tFact.own r_17.1.facts), .box [(.m [6] 0 r_17.1.relations.length tRelation.k), (.m [7] 0 r_17.1.facts.length tFact.k)]]) ?_ ?_
    ·replace H := J_19
     refine T_region ?_
     obtain ⟨r_21, h_22, H⟩ := bind_inv H
     refine pv tb 2 rfl ?_
     refine TO_cons rfl (TOp_callB (call_static ent29 rfl) (frz_cons (frzOK_g (frz_cons (frzT (T := tRelation) rfl) (frz_cons (frzT (T := tFact) rfl) frz_nil)).1 (frz_cons (frzT (T := tRelation) rfl) (frz_cons (frzT (T := tFact) rfl) frz_nil)).2) (frz_cons (frz_loose rfl) frz_nil)).1 (frz_cons (frzOK_g (frz_cons (frzT (T := tRelation) rfl) (frz_cons (frzT (T := tFact) rfl) frz_nil)).1 (frz_cons (frzT (T := tRelation) rfl) (frz_cons (frzT (T := tFact) rfl) frz_nil)).2) (frz_cons (frz_loose rfl) frz_nil)).2 (m_laws_eqDatabase_ok _ _ _ h_22) rfl ?_)
     refine pv tb 2 rfl ?_
     refine TO_split (t := (!r_21)) 49 rfl (fun g_23 => ?_) (fun g_23 => ?_)
     ·replace H := cond_t g_23 H
      refine pv tb 4 rfl ?_
      refine TO_nil ?_
      exact joined true (w0 9) (some_inj H).symm
     ·replace H := cond_f g_23 H
      refine pv tb 4 rfl ?_
      refine TO_nil ?_
      exact joined (decide (r_17.2 ≠ r_11.2)) (w0 9) (some_inj H).symm
    ·rintro _ rfl
     replace H := H_20
     refine T_cond (t := t53_19) rfl (fun c_24 => ?_) (fun c_24 => ?_)
     ·replace H := cond_t c_24 H
      refine sr ?_
      refine pv tb 1 rfl ?_
      refine TO_nil ?_
      refine T_ret ?_
      refine then_ret ?_
      obtain rfl := some_inj H
      refine end_ret (.tmp .nil) rfl rfl ⟨?_, rfl⟩
      rfl
     ·replace H := cond_f c_24 H
      refine T_skip ?_
      refine T_seq ?_
      obtain ⟨r_25, h_26, H⟩ := bind_inv H
      obtain ⟨r_27, h_28, H⟩ := bind_inv H
      refine T_cutX (fun (_ : Unit) => True) (fun _ => [(1, (sl tEdit aEdits1)), (2, (.b 0 0)), (6, (.b 1 0)), (7, (intA r_11.2)), (8, (.b 4 0)), (9, (.m [5] 0 r_15.length tEdit.k)), (10, (.b 8 0)), (11, (intA r_17.2)), (58, (boolA (!r_27)))]) (fun _ => [.box [(sl tRelation aDb0.relations), (sl tFact aDb0.facts)], .box [(sl tRelation r_11.1.relations), (sl tFact r_11.1.facts)], .row (flat tRelation.own r_13.relations), .row (flat tFact.own r_13.facts), .box [(.m [2] 0 r_13.relations.length tRelation.k), (.m [3] 0 r_13.facts.length tFact.k)], .row (flat tEdit.own r_15), .row (flat tRelation.own r_17.1.relations), .row (flat tFact.own r_17.1.facts), .box [(.m [6] 0 r_17.1.relations.length tRelation.k), (.m [7] 0 r_17.1.facts.length tFact.k)]]) ?_ ?_
      ·skip
       refine T_regionP 9 mixed rfl ?_
       refine pa tb [0, 1] 3 rfl (by kernel_rfl) rfl ?_
       refine t1 2 (by kernel_rfl) rfl rfl (TOp_callV (call_static ent27 rfl) (m_laws_toDatabase_ok _ _ h_26) rfl rfl rfl ?_)
       refine t1 3 (by kernel_rfl) rfl rfl (TOp_callB (call_static ent29 rfl) (frz_cons (frzOK_g (frz_cons (frzT (T := tRelation) rfl) (frz_cons (frzT (T := tFact) rfl) frz_nil)).1 (frz_cons (frzT (T := tRelation) rfl) (frz_cons (frzT (T := tFact) rfl) frz_nil)).2) (frz_cons (frz_loose rfl) frz_nil)).1 (frz_cons (frzOK_g (frz_cons (frzT (T := tRelation) rfl) (frz_cons (frzT (T := tFact) rfl) frz_nil)).1 (frz_cons (frzT (T := tRelation) rfl) (frz_cons (frzT (T := tFact) rfl) frz_nil)).2) (frz_cons (frz_loose rfl) frz_nil)).2 (m_laws_eqDatabase_ok _ _ _ h_28) rfl ?_)
       refine pa tb [4] 0 rfl (by kernel_rfl) rfl ?_
       exact TA_nil (by kernel_rfl) (joined () (w0 9) trivial)
      ·rintro _ _
       refine T_cond (t := (!r_27)) rfl (fun c_29 => ?_) (fun c_29 => ?_)
       ·replace H := cond_t c_29 H
        refine sr ?_
        refine pv tb 1 rfl ?_
        refine TO_nil ?_
        refine T_ret ?_
        refine then_ret ?_
        obtain rfl := some_inj H
        refine end_ret (.tmp .nil) rfl rfl ⟨?_, rfl⟩
        rfl
       ·replace H := cond_f c_29 H
        refine T_skip ?_
        refine T_seq ?_
        refine sr ?_
        obtain ⟨r_30, h_31, H⟩ := bind_inv H
        refine pv tb 2 rfl ?_
        refine TO_cons rfl (TOp_callV (call_static ent81 rfl) (m_laws_toEditS_ok _ _ h_31) rfl rfl rfl ?_)
        obtain ⟨r_32, h_33, H⟩ := bind_inv H
        refine TO_cons rfl (TOp_callB (call_static ent77 rfl) (frz_cons (frzT (T := tEdit) rfl) (frz_cons (frz_loose rfl) frz_nil)).1 (frz_cons (frzT (T := tEdit) rfl) (frz_cons (frz_loose rfl) frz_nil)).2 (m_laws_eqEditS_ok _ _ _ h_33) rfl ?_)
        refine pv tb 1 rfl ?_
        refine TO_nil ?_
        refine T_cond (t := (!r_32)) rfl (fun c_34 => ?_) (fun c_34 => ?_)
        ·replace H := cond_t c_34 H
         refine sr ?_
         refine pv tb 1 rfl ?_
         refine TO_nil ?_
         refine T_ret ?_
         refine then_ret ?_
         obtain rfl := some_inj H
         refine end_ret (.tmp .nil) rfl rfl ⟨?_, rfl⟩
         rfl
        ·replace H := cond_f c_34 H
         refine T_skip ?_
         refine sr ?_
         refine pv tb 1 rfl ?_
         refine TO_nil ?_
         refine sr ?_
         obtain ⟨r_35, h_36, H⟩ := bind_inv H
         refine pv tb 2 rfl ?_
         refine TO_cons rfl (TOp_callG (aa := [(.g [(.m [2] 0 r_13.relations.length tRelation.k), (.m [3] 0 r_13.facts.length tFact.k)]), (intA 1)]) [[2], [3]] (call_static ent30 rfl) rfl (.cons rfl rfl (by decide) (.cons rfl rfl (by decide) .nil)) rfl rfl (m_laws_markDatabase_mut u _ _ _ h_36) rfl (fun hl_37 => ?_))
         obtain ⟨hq_38, hl_37⟩ := sameLens_T (T := tRelation) hl_37
         refine TO_env (E' := [(1, (sl tEdit aEdits1)), (2, (.b 0 0)), (6, (.b 1 0)), (7, (intA r_11.2)), (8, (.b 4 0)), (9, (.m [5] 0 r_15.length tEdit.k)), (10, (.b 8 0)), (11, (intA r_17.2)), (12, (intA 1)), (64, (.g [(.m [2] 0 r_35.2.relations.length tRelation.k), (.m [3] 0 r_13.facts.length tFact.k)])), (65, (intA 1)), (66, (intA r_35.1))]) ⟨rfl, rfl, rfl, rfl, rfl, rfl, rfl, rfl, rfl, (by simp only [hq_38]; rfl), rfl, rfl, trivial⟩ ?_
         obtain ⟨hq_39, hl_37⟩ := sameLens_T (T := tFact) hl_37
         refine TO_env (E' := [(1, (sl tEdit aEdits1)), (2, (.b 0 0)), (6, (.b 1 0)), (7, (intA r_11.2)), (8, (.b 4 0)), (9, (.m [5] 0 r_15.length tEdit.k)), (10, (.b 8 0)), (11, (intA r_17.2)), (12, (intA 1)), (64, (.g [(.m [2] 0 r_35.2.relations.length tRelation.k), (.m [3] 0 r_35.2.facts.length tFact.k)])), (65, (intA 1)), (66, (intA r_35.1))]) ⟨rfl, rfl, rfl, rfl, rfl, rfl, rfl, rfl, rfl, (by simp only [hq_39]; rfl), rfl, rfl, trivial⟩ ?_
         refine TO_st (σ' := [.box [(sl tRelation aDb0.relations), (sl tFact aDb0.facts)], .box [(sl tRelation r_11.1.relations), (sl tFact r_11.1.facts)], .row (flat tRelation.own r_35.2.relations), .row (flat tFact.own r_35.2.facts), .box [(.m [2] 0 r_13.relations.length tRelation.k), (.m [3] 0 r_13.facts.length tFact.k)], .row (flat tEdit.own r_15), .row (flat tRelation.own r_17.1.relations), .row (flat tFact.own r_17.1.facts), .box [(.m [6] 0 r_17.1.relations.length tRelation.k), (.m [7] 0 r_17.1.facts.length tFact.k)]]) rfl ?_
         refine TO_st (σ' := [.box [(sl tRelation aDb0.relations), (sl tFact aDb0.facts)], .box [(sl tRelation r_11.1.relations), (sl tFact r_11.1.facts)], .row (flat tRelation.own r_35.2.relations), .row (flat tFact.own r_35.2.facts), .box [(.m [2] 0 r_35.2.relations.length tRelation.k), (.m [3] 0 r_13.facts.length tFact.k)], .row (flat tEdit.own r_15), .row (flat tRelation.own r_17.1.relations), .row (flat tFact.own r_17.1.facts), .box [(.m [6] 0 r_17.1.relations.length tRelation.k), (.m [7] 0 r_17.1.facts.length tFact.k)]]) (by simp only [hq_38]) ?_
         refine TO_st (σ' := [.box [(sl tRelation aDb0.relations), (sl tFact aDb0.facts)], .box [(sl tRelation r_11.1.relations), (sl tFact r_11.1.facts)], .row (flat tRelation.own r_35.2.relations), .row (flat tFact.own r_35.2.facts), .box [(.m [2] 0 r_35.2.relations.length tRelation.k), (.m [3] 0 r_35.2.facts.length tFact.k)], .row (flat tEdit.own r_15), .row (flat tRelation.own r_17.1.relations), .row (flat tFact.own r_17.1.facts), .box [(.m [6] 0 r_17.1.relations.length tRelation.k), (.m [7] 0 r_17.1.facts.length tFact.k)]]) (by simp only [hq_39]) ?_
         refine pv tb 1 rfl ?_
         refine TO_nil ?_
         refine sr ?_
         obtain ⟨r_40, h_41, H⟩ := bind_inv H
         refine pv tb 2 rfl ?_
         refine TO_cons rfl (TOp_callG (aa := [(.m [5] 0 r_15.length tEdit.k), (intA r_35.1)]) [[5]] (call_static ent78 rfl) rfl (.cons rfl rfl (by decide) .nil) rfl rfl (m_laws_markEditS_mut _ _ _ h_41) rfl (fun hl_42 => ?_))
         obtain ⟨hq_43, hl_42⟩ := sameLens_T (T := tEdit) hl_42
         refine TO_env (E' := [(1, (sl tEdit aEdits1)), (2, (.b 0 0)), (6, (.b 1 0)), (7, (intA r_11.2)), (9, (.m [5] 0 r_40.2.length tEdit.k)), (10, (.b 8 0)), (11, (intA r_17.2)), (12, (intA r_35.1)), (67, (.m [5] 0 r_40.2.length tEdit.k)), (68, (intA r_35.1)), (69, (intA r_40.1))]) ⟨rfl, rfl, rfl, rfl, (congrArg (fun q => A.m [5] 0 q tEdit.k) hq_43.symm), rfl, rfl, rfl, (congrArg (fun q => A.m [5] 0 q tEdit.k) hq_43.symm), rfl, rfl, trivial⟩ ?_
         refine TO_st (σ' := [.box [(sl tRelation aDb0.relations), (sl tFact aDb0.facts)], .box [(sl tRelation r_11.1.relations), (sl tFact r_11.1.facts)], .row (flat tRelation.own r_35.2.relations), .row (flat tFact.own r_35.2.facts), .box [(.m [2] 0 r_35.2.relations.length tRelation.k), (.m [3] 0 r_35.2.facts.length tFact.k)], .row (flat tEdit.own r_40.2), .row (flat tRelation.own r_17.1.relations), .row (flat tFact.own r_17.1.facts), .box [(.m [6] 0 r_17.1.relations.length tRelation.k), (.m [7] 0 r_17.1.facts.length tFact.k)]]) rfl ?_
         refine pv tb 1 rfl ?_
         refine TO_nil ?_
         refine T_seq ?_
         obtain ⟨t82_44, J_44, H_45⟩ := bind_inv H
         refine T_cutX (fun x => t82_44 = x) (fun (t82_44 : Bool) => [(1, (sl tEdit aEdits1)), (2, (.b 0 0)), (6, (.b 1 0)), (7, (intA r_11.2)), (10, (.b 8 0)), (82, (boolA t82_44))]) (fun (t82_44 : Bool) => [.box [(sl tRelation aDb0.relations), (sl tFact aDb0.facts)], .box [(sl tRelation r_11.1.relations), (sl tFact r_11.1.facts)], .row (flat tRelation.own r_35.2.relations), .row (flat tFact.own r_35.2.facts), .box [(.m [2] 0 r_35.2.relations.length tRelation.k), (.m [3] 0 r_35.2.facts.length tFact.k)], .row (flat tEdit.own r_40.2), .row (flat tRelation.own r_17.1.relations), .row (flat tFact.own r_17.1.facts), .box [(.m [6] 0 r_17.1.relations.length tRelation.k), (.m [7] 0 r_17.1.facts.length tFact.k)]]) ?_ ?_
         ·replace H := J_44
          refine T_region ?_
          refine pv tb 3 rfl ?_
          refine TO_split (t := decide (r_40.1 < 0)) 72 rfl (fun g_46 => ?_) (fun g_46 => ?_)
          ·replace H := cond_t g_46 H
           refine pv tb 10 rfl ?_
           refine TO_nil ?_
           exact joined true (w0 9) (some_inj H).symm
          ·replace H := cond_f g_46 H
           obtain ⟨r_47, h_48, H⟩ := bind_inv H
           refine pv tb 2 rfl ?_
           refine TO_on rfl rfl (by decide) rfl rfl (TOp_callB (call_static ent29 rfl) (frz_cons (frzOK_g (frz_cons (frzT (T := tRelation) rfl) (frz_cons (frzT (T := tFact) rfl) frz_nil)).1 (frz_cons (frzT (T := tRelation) rfl) (frz_cons (frzT (T := tFact) rfl) frz_nil)).2) (frz_cons (frz_loose rfl) frz_nil)).1 (frz_cons (frzOK_g (frz_cons (frzT (T := tRelation) rfl) (frz_cons (frzT (T := tFact) rfl) frz_nil)).1 (frz_cons (frzT (T := tRelation) rfl) (frz_cons (frzT (T := tFact) rfl) frz_nil)).2) (frz_cons (frz_loose rfl) frz_nil)).2 (m_laws_eqDatabase_ok _ _ _ h_48) rfl ?_)
           refine pv tb 3 rfl ?_
           refine TO_split (t := (!r_47)) 78 rfl (fun g_49 => ?_) (fun g_49 => ?_)
           ·replace H := cond_t g_49 H
            refine pv tb 4 rfl ?_
            refine TO_nil ?_
            exact joined true (w0 9) (some_inj H).symm
           ·replace H := cond_f g_49 H
            refine pv tb 4 rfl ?_
            refine TO_nil ?_
            exact joined (decide (r_17.2 ≠ r_11.2)) (w0 9) (some_inj H).symm
         ·rintro _ rfl
          replace H := H_45
          refine T_cond (t := t82_44) rfl (fun c_50 => ?_) (fun c_50 => ?_)
          ·replace H := cond_t c_50 H
           refine sr ?_
           refine pv tb 1 rfl ?_
           refine TO_nil ?_
           refine T_ret ?_
           refine then_ret ?_
           obtain rfl := some_inj H
           refine end_ret (.tmp .nil) rfl rfl ⟨?_, rfl⟩
           rfl
          ·replace H := cond_f c_50 H
           refine T_skip ?_
           refine sr ?_
           refine pv tb 1 rfl ?_
           refine TO_nil ?_
           refine sr ?_
           obtain ⟨r_51, h_52, H⟩ := bind_inv H
           refine pv tb 2 rfl ?_
           refine TO_cons rfl (TOp_callG (aa := [(.g [(.m [6] 0 r_17.1.relations.length tRelation.k), (.m [7] 0 r_17.1.facts.length tFact.k)]), (intA 1)]) [[6], [7]] (call_static ent30 rfl) rfl (.cons rfl rfl (by decide) (.cons rfl rfl (by decide) .nil)) rfl rfl (m_laws_markDatabase_mut u _ _ _ h_52) rfl (fun hl_53 => ?_))
           obtain ⟨hq_54, hl_53⟩ := sameLens_T (T := tRelation) hl_53
           refine TO_env (E' := [(1, (sl tEdit aEdits1)), (2, (.b 0 0)), (6, (.b 1 0)), (7, (intA r_11.2)), (10, (.b 8 0)), (13, (intA 1)), (83, (.g [(.m [6] 0 r_51.2.relations.length tRelation.k), (.m [7] 0 r_17.1.facts.length tFact.k)])), (84, (intA 1)), (85, (intA r_51.1))]) ⟨rfl, rfl, rfl, rfl, rfl, rfl, (by simp only [hq_54]; rfl), rfl, rfl, trivial⟩ ?_
           obtain ⟨hq_55, hl_53⟩ := sameLens_T (T := tFact) hl_53
           refine TO_env (E' := [(1, (sl tEdit aEdits1)), (2, (.b 0 0)), (6, (.b 1 0)), (7, (intA r_11.2)), (10, (.b 8 0)), (13, (intA 1)), (83, (.g [(.m [6] 0 r_51.2.relations.length tRelation.k), (.m [7] 0 r_51.2.facts.length tFact.k)])), (84, (intA 1)), (85, (intA r_51.1))]) ⟨rfl, rfl, rfl, rfl, rfl, rfl, (by simp only [hq_55]; rfl), rfl, rfl, trivial⟩ ?_
           refine TO_st (σ' := [.box [(sl tRelation aDb0.relations), (sl tFact aDb0.facts)], .box [(sl tRelation r_11.1.relations), (sl tFact r_11.1.facts)], .row (flat tRelation.own r_35.2.relations), .row (flat tFact.own r_35.2.facts), .box [(.m [2] 0 r_35.2.relations.length tRelation.k), (.m [3] 0 r_35.2.facts.length tFact.k)], .row (flat tEdit.own r_40.2), .row (flat tRelation.own r_51.2.relations), .row (flat tFact.own r_51.2.facts), .box [(.m [6] 0 r_17.1.relations.length tRelation.k), (.m [7] 0 r_17.1.facts.length tFact.k)]]) rfl ?_
           refine TO_st (σ' := [.box [(sl tRelation aDb0.relations), (sl tFact aDb0.facts)], .box [(sl tRelation r_11.1.relations), (sl tFact r_11.1.facts)], .row (flat tRelation.own r_35.2.relations), .row (flat tFact.own r_35.2.facts), .box [(.m [2] 0 r_35.2.relations.length tRelation.k), (.m [3] 0 r_35.2.facts.length tFact.k)], .row (flat tEdit.own r_40.2), .row (flat tRelation.own r_51.2.relations), .row (flat tFact.own r_51.2.facts), .box [(.m [6] 0 r_51.2.relations.length tRelation.k), (.m [7] 0 r_17.1.facts.length tFact.k)]]) (by simp only [hq_54]) ?_
           refine TO_st (σ' := [.box [(sl tRelation aDb0.relations), (sl tFact aDb0.facts)], .box [(sl tRelation r_11.1.relations), (sl tFact r_11.1.facts)], .row (flat tRelation.own r_35.2.relations), .row (flat tFact.own r_35.2.facts), .box [(.m [2] 0 r_35.2.relations.length tRelation.k), (.m [3] 0 r_35.2.facts.length tFact.k)], .row (flat tEdit.own r_40.2), .row (flat tRelation.own r_51.2.relations), .row (flat tFact.own r_51.2.facts), .box [(.m [6] 0 r_51.2.relations.length tRelation.k), (.m [7] 0 r_51.2.facts.length tFact.k)]]) (by simp only [hq_55]) ?_
           refine pv tb 1 rfl ?_
           refine TO_nil ?_
           refine sr ?_
           refine pv tb 1 rfl ?_
           refine TO_nil ?_
           refine sr ?_
           obtain ⟨r_56, h_57, H⟩ := bind_inv H
           refine pv tb 2 rfl ?_
           refine TO_cons rfl (TOp_callB (call_static ent58 rfl) (frz_cons (frzOK_g (frz_cons (frzT (T := tRelation) rfl) (frz_cons (frzT (T := tFact) rfl) frz_nil)).1 (frz_cons (frzT (T := tRelation) rfl) (frz_cons (frzT (T := tFact) rfl) frz_nil)).2) (frz_cons (frz_loose rfl) frz_nil)).1 (frz_cons (frzOK_g (frz_cons (frzT (T := tRelation) rfl) (frz_cons (frzT (T := tFact) rfl) frz_nil)).1 (frz_cons (frzT (T := tRelation) rfl) (frz_cons (frzT (T := tFact) rfl) frz_nil)).2) (frz_cons (frz_loose rfl) frz_nil)).2 (m_laws_heldDatabase_ok u _ _ _ h_57) rfl ?_)
           refine pv tb 1 rfl ?_
           refine TO_nil ?_
           refine T_seq ?_
           refine sr ?_
           refine pv tb 2 rfl ?_
           refine TO_nil ?_
           refine T_cond (t := decide (r_56 < 0)) rfl (fun c_58 => ?_) (fun c_58 => ?_)
           ·replace H := cond_t c_58 H
            refine sr ?_
            refine pv tb 1 rfl ?_
            refine TO_nil ?_
            refine te [(4, (boolA false))] rfl ?_
            refine T_ret ?_
            refine then_ret ?_
            obtain rfl := some_inj H
            refine end_ret (.tmp .nil) rfl rfl ⟨?_, rfl⟩
            rfl
           ·replace H := cond_f c_58 H
            refine T_skip ?_
            refine T_seq ?_
            refine sr ?_
            refine pv tb 3 rfl ?_
            refine TO_nil ?_
            refine T_cond (t := decide (r_56 ≠ r_51.1)) rfl (fun c_59 => ?_) (fun c_59 => ?_)
            ·replace H := cond_t c_59 H
             refine sr ?_
             refine pv tb 1 rfl ?_
             refine TO_nil ?_
             refine te [(4, (boolA false))] rfl ?_
             refine T_ret ?_
             refine then_ret ?_
             obtain rfl := some_inj H
             refine end_ret (.tmp .nil) rfl rfl ⟨?_, rfl⟩
             rfl
            ·replace H := cond_f c_59 H
             refine T_skip ?_
             refine sr ?_
             obtain ⟨r_60, h_61, H⟩ := bind_inv H
             refine pv tb 1 rfl ?_
             refine TO_cons rfl (TOp_callV (call_static ent27 rfl) (m_laws_toDatabase_ok _ _ h_61) rfl rfl rfl ?_)
             obtain ⟨r_62, h_63, H⟩ := bind_inv H
             refine pv tb 1 rfl ?_
             refine TO_cons rfl (TOp_callV (call_static ent81 rfl) (m_laws_toEditS_ok _ _ h_63) rfl rfl rfl ?_)
             obtain ⟨r_64, h_65, H⟩ := bind_inv H
             refine TO_cons rfl (TOp_callV (call_static ent66 rfl) (m_impl_ApplyEdits_ok u _ _ _ h_65) rfl rfl rfl ?_)
             refine pv tb 3 rfl ?_
             refine toe [(6, (.b 1 0)), (7, (intA r_11.2)), (10, (.b 8 0)), (13, (intA r_51.1)), (100, (.g (tDatabase.enc r_64.1))), (101, (intA r_64.2))] rfl ?_
             refine TO_cons rfl (TOp_alloc zero48 rfl rfl ?_)
             refine TO_cons rfl (TOp_storeB sz48 rfl rfl rfl rfl rfl rfl rfl (by decide) (lb rfl) rfl ?_)
             refine TO_st (σ' := [.box [(sl tRelation aDb0.relations), (sl tFact aDb0.facts)], .box [(sl tRelation r_11.1.relations), (sl tFact r_11.1.facts)], .row (flat tRelation.own r_35.2.relations), .row (flat tFact.own r_35.2.facts), .box [(.m [2] 0 r_35.2.relations.length tRelation.k), (.m [3] 0 r_35.2.facts.length tFact.k)], .row (flat tEdit.own r_40.2), .row (flat tRelation.own r_51.2.relations), .row (flat tFact.own r_51.2.facts), .box [(.m [6] 0 r_51.2.relations.length tRelation.k), (.m [7] 0 r_51.2.facts.length tFact.k)], .box [(sl tRelation r_64.1.relations), (sl tFact r_64.1.facts)]]) rfl ?_
             refine pv tb 1 rfl ?_
             refine TO_nil ?_
             refine T_seq ?_
             obtain ⟨t110_66, J_66, H_67⟩ := bind_inv H
             refine T_cutX (fun x => t110_66 = x) (fun (t110_66 : Bool) => [(10, (.b 8 0)), (13, (intA r_51.1)), (110, (boolA t110_66))]) (fun (t110_66 : Bool) => [.box [(sl tRelation aDb0.relations), (sl tFact aDb0.facts)], .box [(sl tRelation r_11.1.relations), (sl tFact r_11.1.facts)], .row (flat tRelation.own r_35.2.relations), .row (flat tFact.own r_35.2.facts), .box [(.m [2] 0 r_35.2.relations.length tRelation.k), (.m [3] 0 r_35.2.facts.length tFact.k)], .row (flat tEdit.own r_40.2), .row (flat tRelation.own r_51.2.relations), .row (flat tFact.own r_51.2.facts), .box [(.m [6] 0 r_51.2.relations.length tRelation.k), (.m [7] 0 r_51.2.facts.length tFact.k)]]) ?_ ?_
             ·replace H := J_66
              refine T_region ?_
              obtain ⟨r_68, h_69, H⟩ := bind_inv H
              refine pv tb 2 rfl ?_
              refine TO_cons rfl (TOp_callV (call_static ent29 rfl) (m_laws_eqDatabase_ok _ _ _ h_69) rfl rfl rfl ?_)
              refine pv tb 2 rfl ?_
              refine TO_split (t := (!r_68)) 106 rfl (fun g_70 => ?_) (fun g_70 => ?_)
              ·replace H := cond_t g_70 H
               refine pv tb 4 rfl ?_
               refine TO_nil ?_
               exact joined true (w0 9) (some_inj H).symm
              ·replace H := cond_f g_70 H
               refine pv tb 4 rfl ?_
               refine TO_nil ?_
               exact joined (decide (r_64.2 ≠ r_11.2)) (w0 9) (some_inj H).symm
             ·rintro _ rfl
              replace H := H_67
              refine T_cond (t := t110_66) rfl (fun c_71 => ?_) (fun c_71 => ?_)
              ·replace H := cond_t c_71 H
               refine sr ?_
               refine pv tb 1 rfl ?_
               refine TO_nil ?_
               refine T_ret ?_
               refine then_ret ?_
               obtain rfl := some_inj H
               refine end_ret (.tmp .nil) rfl rfl ⟨?_, rfl⟩
               rfl
              ·replace H := cond_f c_71 H
               refine T_skip ?_
               refine sr ?_
               refine pv tb 1 rfl ?_
               refine TO_nil ?_
               refine sr ?_
               obtain ⟨r_72, h_73, H⟩ := bind_inv H
               refine pv tb 2 rfl ?_
               refine TO_cons rfl (TOp_callB (call_static ent58 rfl) (frz_cons (frzOK_g (frz_cons (frzT (T := tRelation) rfl) (frz_cons (frzT (T := tFact) rfl) frz_nil)).1 (frz_cons (frzT (T := tRelation) rfl) (frz_cons (frzT (T := tFact) rfl) frz_nil)).2) (frz_cons (frz_loose rfl) frz_nil)).1 (frz_cons (frzOK_g (frz_cons (frzT (T := tRelation) rfl) (frz_cons (frzT (T := tFact) rfl) frz_nil)).1 (frz_cons (frzT (T := tRelation) rfl) (frz_cons (frzT (T := tFact) rfl) frz_nil)).2) (frz_cons (frz_loose rfl) frz_nil)).2 (m_laws_heldDatabase_ok u _ _ _ h_73) rfl ?_)
               refine pv tb 1 rfl ?_
               refine TO_nil ?_
               refine T_seq ?_
               refine sr ?_
               refine pv tb 2 rfl ?_
               refine TO_nil ?_
               refine T_cond (t := decide (r_72 < 0)) rfl (fun c_74 => ?_) (fun c_74 => ?_)
               ·replace H := cond_t c_74 H
                refine sr ?_
                refine pv tb 1 rfl ?_
                refine TO_nil ?_
                refine T_ret ?_
                refine then_ret ?_
                obtain rfl := some_inj H
                refine end_ret (.tmp .nil) rfl rfl ⟨?_, rfl⟩
                rfl
               ·replace H := cond_f c_74 H
                refine T_skip ?_
                refine T_seq ?_
                refine sr ?_
                refine pv tb 3 rfl ?_
                refine TO_nil ?_
                refine T_cond (t := decide (r_72 ≠ r_51.1)) rfl (fun c_75 => ?_) (fun c_75 => ?_)
                ·replace H := cond_t c_75 H
                 refine sr ?_
                 refine pv tb 1 rfl ?_
                 refine TO_nil ?_
                 refine T_ret ?_
                 refine then_ret ?_
                 obtain rfl := some_inj H
                 refine end_ret (.tmp .nil) rfl rfl ⟨?_, rfl⟩
                 rfl
                ·replace H := cond_f c_75 H
                 refine T_skip ?_
                 refine sr ?_
                 refine pv tb 1 rfl ?_
                 refine TO_nil ?_
                 refine T_ret ?_
                 obtain rfl := some_inj H
                 refine end_ret (.tmp .nil) rfl rfl ⟨?_, rfl⟩
                 rfl
end Go.Proofs.Ytjdpolnakhmkmaa

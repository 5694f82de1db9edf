import Derived.Test.YtjdpolnakhmkmaaM1
import Derived.Test.YtjdpolnakhmkmaaM2
import Derived.Test.YtjdpolnakhmkmaaM3
set_option linter.unusedVariables false
set_option linter.unusedSimpArgs false
set_option maxRecDepth 4000
namespace Go.Proofs.Ytjdpolnakhmkmaa
open Go Go.Proofs Go.Sep
set_option maxHeartbeats 1000000 in
theorem m_laws_FnExactBindAnswer_ok (u : Nat) (aQuery0 : Query) (aRow1 : (List Int)) (r : Bool) (H : m_laws_FnExactBindAnswer u aQuery0 aRow1 = some r) : FnV prg 3 [(.g (tQuery.enc aQuery0)), (sl tInt aRow1)] (boolA r) := by
  unfold m_laws_FnExactBindAnswer at H
  refine fnV_of_T Try.func3 rfl rfl (Nat.le_of_ble_eq_true rfl) ?_
  refine te [(0, (.g (tQuery.enc aQuery0))), (1, (sl tInt aRow1))] rfl ?_
  refine sr ?_
  refine TO_cons rfl (TOp_box rfl (boxAll rfl) rfl rfl ?_)
  refine pv tb 1 rfl ?_
  refine TO_nil ?_
  refine T_seq ?_
  refine sr ?_
  refine pv tb 1 rfl ?_
  refine Tp rfl rfl (pur_lenT (T := tInt) sl23 rfl rfl) rfl ?_
  refine pv tb 1 rfl ?_
  refine TO_nil ?_
  refine T_cond (t := decide (1048576 < (aRow1.length : Int))) rfl (fun c_1 => ?_) (fun c_1 => ?_)
  ·replace H := cond_t c_1 H
   refine sr ?_
   refine pv tb 1 rfl ?_
   refine TO_nil ?_
   refine T_ret ?_
   refine then_ret ?_
   obtain rfl := some_inj H
   refine end_ret (.tmp .nil) rfl rfl ⟨?_, rfl⟩
   rfl
  ·replace H := cond_f c_1 H
   refine T_skip ?_
   refine sr ?_
   refine pv tb 1 rfl ?_
   refine TO_nil ?_
   refine sr ?_
   obtain ⟨r_2, h_3, H⟩ := bind_inv H
   refine pv tb 2 rfl ?_
   refine TO_cons rfl (TOp_callV (call_static ent15 rfl) (m_laws_szQuery_ok _ _ _ h_3) rfl rfl rfl ?_)
   refine pv tb 1 rfl ?_
   refine TO_nil ?_
   refine T_seq ?_
   refine sr ?_
   refine pv tb 2 rfl ?_
   refine TO_nil ?_
   refine T_cond (t := decide (r_2 < 0)) rfl (fun c_4 => ?_) (fun c_4 => ?_)
   ·replace H := cond_t c_4 H
    refine sr ?_
    refine pv tb 1 rfl ?_
    refine TO_nil ?_
    refine T_ret ?_
    refine then_ret ?_
    obtain rfl := some_inj H
    refine end_ret (.tmp .nil) rfl rfl ⟨?_, rfl⟩
    rfl
   ·replace H := cond_f c_4 H
    refine T_skip ?_
    refine sr ?_
    obtain ⟨r_5, h_6, H⟩ := bind_inv H
    refine pv tb 1 rfl ?_
    refine TO_cons rfl (TOp_callV (call_static ent17 rfl) (m_laws_toQuery_ok _ _ h_6) rfl rfl rfl ?_)
    obtain ⟨r_7, h_8, H⟩ := bind_inv H
    refine pv tb 1 rfl ?_
    refine TO_cons rfl (TOp_callV (call_static ent18 rfl) (m_laws_toIntS_ok _ _ h_8) rfl rfl rfl ?_)
    obtain ⟨r_9, h_10, H⟩ := bind_inv H
    refine TO_cons rfl (TOp_callV (call_static ent16 rfl) (m_spec_BindAnswer_ok u _ _ _ h_10) rfl rfl rfl ?_)
    refine pv tb 3 rfl ?_
    refine toe [(1, (sl tInt aRow1)), (2, (.b 0 0)), (31, (.g (tQuery.enc r_9.1))), (32, (boolA r_9.2))] rfl ?_
    refine TO_cons rfl (TOp_alloc zero29 rfl rfl ?_)
    refine TO_cons rfl (TOp_storeB sz29 rfl rfl rfl rfl rfl rfl rfl (by decide) (lb rfl) rfl ?_)
    refine TO_st (σ' := [.box [(intA aQuery0.variableCount), (sl tAtom aQuery0.atoms), (sl tInt aQuery0.free)], .box [(intA r_9.1.variableCount), (sl tAtom r_9.1.atoms), (sl tInt r_9.1.free)]]) rfl ?_
    refine pv tb 1 rfl ?_
    refine TO_nil ?_
    refine sr ?_
    obtain ⟨r_11, h_12, H⟩ := bind_inv H
    refine pv tb 1 rfl ?_
    refine TO_cons rfl (TOp_callO (call_static ent17 rfl) rfl (m_laws_toQuery_own _ _ h_12) rfl rfl rfl ?_)
    refine toe [(1, (sl tInt aRow1)), (2, (.b 0 0)), (6, (.b 1 0)), (7, (boolA r_9.2)), (33, (.g (tQuery.enc aQuery0))), (34, (.g [(intA r_11.variableCount), (.m [2] 0 r_11.atoms.length tAtom.k), (.m [3] 0 r_11.free.length tInt.k)]))] rfl ?_
    refine TO_st (σ' := [.box [(intA aQuery0.variableCount), (sl tAtom aQuery0.atoms), (sl tInt aQuery0.free)], .box [(intA r_9.1.variableCount), (sl tAtom r_9.1.atoms), (sl tInt r_9.1.free)], .row (flat tAtom.own r_11.atoms), .row (flat tInt.own r_11.free)]) rfl ?_
    refine TO_cons rfl (TOp_alloc zero29 rfl rfl ?_)
    refine TO_cons rfl (TOp_storeB sz29 rfl rfl rfl rfl rfl rfl rfl (by decide) (lb rfl) rfl ?_)
    refine TO_st (σ' := [.box [(intA aQuery0.variableCount), (sl tAtom aQuery0.atoms), (sl tInt aQuery0.free)], .box [(intA r_9.1.variableCount), (sl tAtom r_9.1.atoms), (sl tInt r_9.1.free)], .row (flat tAtom.own r_11.atoms), .row (flat tInt.own r_11.free), .box [(intA r_11.variableCount), (.m [2] 0 r_11.atoms.length tAtom.k), (.m [3] 0 r_11.free.length tInt.k)]]) rfl ?_
    refine TO_nil ?_
    refine sr ?_
    obtain ⟨r_13, h_14, H⟩ := bind_inv H
    refine pv tb 1 rfl ?_
    refine TO_cons rfl (TOp_callO (call_static ent18 rfl) rfl (m_laws_toIntS_own _ _ h_14) rfl rfl rfl ?_)
    refine toe [(1, (sl tInt aRow1)), (2, (.b 0 0)), (6, (.b 1 0)), (7, (boolA r_9.2)), (8, (.b 4 0)), (35, (sl tInt aRow1)), (36, (.m [5] 0 r_13.length tInt.k))] rfl ?_
    refine TO_st (σ' := [.box [(intA aQuery0.variableCount), (sl tAtom aQuery0.atoms), (sl tInt aQuery0.free)], .box [(intA r_9.1.variableCount), (sl tAtom r_9.1.atoms), (sl tInt r_9.1.free)], .row (flat tAtom.own r_11.atoms), .row (flat tInt.own r_11.free), .box [(intA r_11.variableCount), (.m [2] 0 r_11.atoms.length tAtom.k), (.m [3] 0 r_11.free.length tInt.k)], .row (flat tInt.own r_13)]) rfl ?_
    refine pv tb 1 rfl ?_
    refine TO_nil ?_
    refine sr ?_
    obtain ⟨r_15, h_16, H⟩ := bind_inv H
    refine pv tb 2 rfl ?_
    refine TO_cons rfl (TOp_callOG (call_static ent19 rfl) (frz_cons (frzOK_g (frz_cons (frz_loose rfl) (frz_cons (frzT (T := tAtom) rfl) (frz_cons (frzT (T := tInt) rfl) frz_nil))).1 (frz_cons (frz_loose rfl) (frz_cons (frzT (T := tAtom) rfl) (frz_cons (frzT (T := tInt) rfl) frz_nil))).2) (frz_cons (frzT (T := tInt) rfl) frz_nil)).1 (frz_cons (frzOK_g (frz_cons (frz_loose rfl) (frz_cons (frzT (T := tAtom) rfl) (frz_cons (frzT (T := tInt) rfl) frz_nil))).1 (frz_cons (frz_loose rfl) (frz_cons (frzT (T := tAtom) rfl) (frz_cons (frzT (T := tInt) rfl) frz_nil))).2) (frz_cons (frzT (T := tInt) rfl) frz_nil)).2 (m_impl_BindAnswer_own u _ _ _ h_16) rfl (ownC_of (ownSB_cons (flat_ownR tAtom _) (ownSB_cons (flat_ownR tInt _) ownSB_nil))) rfl rfl rfl ?_)
    refine toe [(1, (sl tInt aRow1)), (2, (.b 0 0)), (6, (.b 1 0)), (7, (boolA r_9.2)), (8, (.b 4 0)), (9, (.m [5] 0 r_13.length tInt.k)), (38, (.g [(intA r_11.variableCount), (.m [2] 0 r_11.atoms.length tAtom.k), (.m [3] 0 r_11.free.length tInt.k)])), (39, (.m [5] 0 r_13.length tInt.k)), (40, (.t [(.g [(intA r_15.1.variableCount), (.m [6] 0 r_15.1.atoms.length tAtom.k), (.m [7] 0 r_15.1.free.length tInt.k)]), (boolA r_15.2)]))] rfl ?_
    refine TO_st (σ' := [.box [(intA aQuery0.variableCount), (sl tAtom aQuery0.atoms), (sl tInt aQuery0.free)], .box [(intA r_9.1.variableCount), (sl tAtom r_9.1.atoms), (sl tInt r_9.1.free)], .row (flat tAtom.own r_11.atoms), .row (flat tInt.own r_11.free), .box [(intA r_11.variableCount), (.m [2] 0 r_11.atoms.length tAtom.k), (.m [3] 0 r_11.free.length tInt.k)], .row (flat tInt.own r_13), .row (flat tAtom.own r_15.1.atoms), .row (flat tInt.own r_15.1.free)]) rfl ?_
    refine pv tb 3 rfl ?_
    refine TO_cons rfl (TOp_alloc zero29 rfl rfl ?_)
    refine TO_cons rfl (TOp_storeB sz29 rfl rfl rfl rfl rfl rfl rfl (by decide) (lb rfl) rfl ?_)
    refine TO_st (σ' := [.box [(intA aQuery0.variableCount), (sl tAtom aQuery0.atoms), (sl tInt aQuery0.free)], .box [(intA r_9.1.variableCount), (sl tAtom r_9.1.atoms), (sl tInt r_9.1.free)], .row (flat tAtom.own r_11.atoms), .row (flat tInt.own r_11.free), .box [(intA r_11.variableCount), (.m [2] 0 r_11.atoms.length tAtom.k), (.m [3] 0 r_11.free.length tInt.k)], .row (flat tInt.own r_13), .row (flat tAtom.own r_15.1.atoms), .row (flat tInt.own r_15.1.free), .box [(intA r_15.1.variableCount), (.m [6] 0 r_15.1.atoms.length tAtom.k), (.m [7] 0 r_15.1.free.length tInt.k)]]) rfl ?_
    refine pv tb 1 rfl ?_
    refine TO_nil ?_
    refine T_seq ?_
    obtain ⟨t51_17, J_17, H_18⟩ := bind_inv H
    refine T_cutX (fun x => t51_17 = x) (fun (t51_17 : Bool) => [(1, (sl tInt aRow1)), (2, (.b 0 0)), (6, (.b 1 0)), (7, (boolA r_9.2)), (8, (.b 4 0)), (9, (.m [5] 0 r_13.length tInt.k)), (10, (.b 8 0)), (11, (boolA r_15.2)), (51, (boolA t51_17))]) (fun (t51_17 : Bool) => [.box [(intA aQuery0.variableCount), (sl tAtom aQuery0.atoms), (sl tInt aQuery0.free)], .box [(intA r_9.1.variableCount), (sl tAtom r_9.1.atoms), (sl tInt r_9.1.free)], .row (flat tAtom.own r_11.atoms), .row (flat tInt.own r_11.free), .box [(intA r_11.variableCount), (.m [2] 0 r_11.atoms.length tAtom.k), (.m [3] 0 r_11.free.length tInt.k)], .row (flat tInt.own r_13), .row (flat tAtom.own r_15.1.atoms), .row (flat tInt.own r_15.1.free), .box [(intA r_15.1.variableCount), (.m [6] 0 r_15.1.atoms.length tAtom.k), (.m [7] 0 r_15.1.free.length tInt.k)]]) ?_ ?_
    ·replace H := J_17
     refine T_region ?_
     obtain ⟨r_19, h_20, H⟩ := bind_inv H
     refine pv tb 2 rfl ?_
     refine TO_cons rfl (TOp_callB (call_static ent20 rfl) (frz_cons (frzOK_g (frz_cons (frz_loose rfl) (frz_cons (frzT (T := tAtom) rfl) (frz_cons (frzT (T := tInt) rfl) frz_nil))).1 (frz_cons (frz_loose rfl) (frz_cons (frzT (T := tAtom) rfl) (frz_cons (frzT (T := tInt) rfl) frz_nil))).2) (frz_cons (frz_loose rfl) frz_nil)).1 (frz_cons (frzOK_g (frz_cons (frz_loose rfl) (frz_cons (frzT (T := tAtom) rfl) (frz_cons (frzT (T := tInt) rfl) frz_nil))).1 (frz_cons (frz_loose rfl) (frz_cons (frzT (T := tAtom) rfl) (frz_cons (frzT (T := tInt) rfl) frz_nil))).2) (frz_cons (frz_loose rfl) frz_nil)).2 (m_laws_eqQuery_ok _ _ _ h_20) rfl ?_)
     refine pv tb 2 rfl ?_
     refine TO_split (t := (!r_19)) 47 rfl (fun g_21 => ?_) (fun g_21 => ?_)
     ·replace H := cond_t g_21 H
      refine pv tb 4 rfl ?_
      refine TO_nil ?_
      exact joined true (w0 9) (some_inj H).symm
     ·replace H := cond_f g_21 H
      refine pv tb 2 rfl ?_
      refine TO_on rfl rfl (by decide) rfl rfl (TOp_pure (pur_neqB (by kernel_rfl) rfl rfl rfl) rfl ?_)
      refine pv tb 1 rfl ?_
      refine TO_nil ?_
      exact joined (r_15.2 != r_9.2) (w0 9) (some_inj H).symm
    ·rintro _ rfl
     replace H := H_18
     refine T_cond (t := t51_17) rfl (fun c_22 => ?_) (fun c_22 => ?_)
     ·replace H := cond_t c_22 H
      refine sr ?_
      refine pv tb 1 rfl ?_
      refine TO_nil ?_
      refine T_ret ?_
      refine then_ret ?_
      obtain rfl := some_inj H
      refine end_ret (.tmp .nil) rfl rfl ⟨?_, rfl⟩
      rfl
     ·replace H := cond_f c_22 H
      refine T_skip ?_
      refine T_seq ?_
      obtain ⟨r_23, h_24, H⟩ := bind_inv H
      obtain ⟨r_25, h_26, H⟩ := bind_inv H
      refine T_cutX (fun (_ : Unit) => True) (fun _ => [(1, (sl tInt aRow1)), (2, (.b 0 0)), (6, (.b 1 0)), (7, (boolA r_9.2)), (8, (.b 4 0)), (9, (.m [5] 0 r_13.length tInt.k)), (10, (.b 8 0)), (11, (boolA r_15.2)), (56, (boolA (!r_25)))]) (fun _ => [.box [(intA aQuery0.variableCount), (sl tAtom aQuery0.atoms), (sl tInt aQuery0.free)], .box [(intA r_9.1.variableCount), (sl tAtom r_9.1.atoms), (sl tInt r_9.1.free)], .row (flat tAtom.own r_11.atoms), .row (flat tInt.own r_11.free), .box [(intA r_11.variableCount), (.m [2] 0 r_11.atoms.length tAtom.k), (.m [3] 0 r_11.free.length tInt.k)], .row (flat tInt.own r_13), .row (flat tAtom.own r_15.1.atoms), .row (flat tInt.own r_15.1.free), .box [(intA r_15.1.variableCount), (.m [6] 0 r_15.1.atoms.length tAtom.k), (.m [7] 0 r_15.1.free.length tInt.k)]]) ?_ ?_
      ·skip
       refine T_regionP 9 mixed rfl ?_
       refine pa tb [0, 1] 3 rfl (by kernel_rfl) rfl ?_
       refine t1 2 (by kernel_rfl) rfl rfl (TOp_callV (call_static ent17 rfl) (m_laws_toQuery_ok _ _ h_24) rfl rfl rfl ?_)
       refine t1 3 (by kernel_rfl) rfl rfl (TOp_callB (call_static ent20 rfl) (frz_cons (frzOK_g (frz_cons (frz_loose rfl) (frz_cons (frzT (T := tAtom) rfl) (frz_cons (frzT (T := tInt) rfl) frz_nil))).1 (frz_cons (frz_loose rfl) (frz_cons (frzT (T := tAtom) rfl) (frz_cons (frzT (T := tInt) rfl) frz_nil))).2) (frz_cons (frz_loose rfl) frz_nil)).1 (frz_cons (frzOK_g (frz_cons (frz_loose rfl) (frz_cons (frzT (T := tAtom) rfl) (frz_cons (frzT (T := tInt) rfl) frz_nil))).1 (frz_cons (frz_loose rfl) (frz_cons (frzT (T := tAtom) rfl) (frz_cons (frzT (T := tInt) rfl) frz_nil))).2) (frz_cons (frz_loose rfl) frz_nil)).2 (m_laws_eqQuery_ok _ _ _ h_26) rfl ?_)
       refine pa tb [4] 0 rfl (by kernel_rfl) rfl ?_
       exact TA_nil (by kernel_rfl) (joined () (w0 9) trivial)
      ·rintro _ _
       refine T_cond (t := (!r_25)) rfl (fun c_27 => ?_) (fun c_27 => ?_)
       ·replace H := cond_t c_27 H
        refine sr ?_
        refine pv tb 1 rfl ?_
        refine TO_nil ?_
        refine T_ret ?_
        refine then_ret ?_
        obtain rfl := some_inj H
        refine end_ret (.tmp .nil) rfl rfl ⟨?_, rfl⟩
        rfl
       ·replace H := cond_f c_27 H
        refine T_skip ?_
        refine T_seq ?_
        refine sr ?_
        obtain ⟨r_28, h_29, H⟩ := bind_inv H
        refine pv tb 2 rfl ?_
        refine TO_cons rfl (TOp_callV (call_static ent18 rfl) (m_laws_toIntS_ok _ _ h_29) rfl rfl rfl ?_)
        obtain ⟨r_30, h_31, H⟩ := bind_inv H
        refine TO_cons rfl (TOp_callB (call_static ent21 rfl) (frz_cons (frzT (T := tInt) rfl) (frz_cons (frz_loose rfl) frz_nil)).1 (frz_cons (frzT (T := tInt) rfl) (frz_cons (frz_loose rfl) frz_nil)).2 (m_laws_eqIntS_ok _ _ _ h_31) rfl ?_)
        refine pv tb 1 rfl ?_
        refine TO_nil ?_
        refine T_cond (t := (!r_30)) rfl (fun c_32 => ?_) (fun c_32 => ?_)
        ·replace H := cond_t c_32 H
         refine sr ?_
         refine pv tb 1 rfl ?_
         refine TO_nil ?_
         refine T_ret ?_
         refine then_ret ?_
         obtain rfl := some_inj H
         refine end_ret (.tmp .nil) rfl rfl ⟨?_, rfl⟩
         rfl
        ·replace H := cond_f c_32 H
         refine T_skip ?_
         refine sr ?_
         refine pv tb 1 rfl ?_
         refine TO_nil ?_
         refine sr ?_
         obtain ⟨r_33, h_34, H⟩ := bind_inv H
         refine pv tb 2 rfl ?_
         refine TO_cons rfl (TOp_callG (aa := [(.g [(intA r_11.variableCount), (.m [2] 0 r_11.atoms.length tAtom.k), (.m [3] 0 r_11.free.length tInt.k)]), (intA 1)]) [[2], [3]] (call_static ent22 rfl) rfl (.cons rfl rfl (by decide) (.cons rfl rfl (by decide) .nil)) rfl rfl (m_laws_markQuery_mut _ _ _ h_34) rfl (fun hl_35 => ?_))
         obtain ⟨hq_36, hl_35⟩ := sameLens_T (T := tAtom) hl_35
         refine TO_env (E' := [(1, (sl tInt aRow1)), (2, (.b 0 0)), (6, (.b 1 0)), (7, (boolA r_9.2)), (8, (.b 4 0)), (9, (.m [5] 0 r_13.length tInt.k)), (10, (.b 8 0)), (11, (boolA r_15.2)), (12, (intA 1)), (62, (.g [(intA r_11.variableCount), (.m [2] 0 r_33.2.atoms.length tAtom.k), (.m [3] 0 r_11.free.length tInt.k)])), (63, (intA 1)), (64, (intA r_33.1))]) ⟨rfl, rfl, rfl, rfl, rfl, rfl, rfl, rfl, rfl, (by simp only [hq_36]; rfl), rfl, rfl, trivial⟩ ?_
         obtain ⟨hq_37, hl_35⟩ := sameLens_T (T := tInt) hl_35
         refine TO_env (E' := [(1, (sl tInt aRow1)), (2, (.b 0 0)), (6, (.b 1 0)), (7, (boolA r_9.2)), (8, (.b 4 0)), (9, (.m [5] 0 r_13.length tInt.k)), (10, (.b 8 0)), (11, (boolA r_15.2)), (12, (intA 1)), (62, (.g [(intA r_11.variableCount), (.m [2] 0 r_33.2.atoms.length tAtom.k), (.m [3] 0 r_33.2.free.length tInt.k)])), (63, (intA 1)), (64, (intA r_33.1))]) ⟨rfl, rfl, rfl, rfl, rfl, rfl, rfl, rfl, rfl, (by simp only [hq_37]; rfl), rfl, rfl, trivial⟩ ?_
         refine TO_st (σ' := [.box [(intA aQuery0.variableCount), (sl tAtom aQuery0.atoms), (sl tInt aQuery0.free)], .box [(intA r_9.1.variableCount), (sl tAtom r_9.1.atoms), (sl tInt r_9.1.free)], .row (flat tAtom.own r_33.2.atoms), .row (flat tInt.own r_33.2.free), .box [(intA r_11.variableCount), (.m [2] 0 r_11.atoms.length tAtom.k), (.m [3] 0 r_11.free.length tInt.k)], .row (flat tInt.own r_13), .row (flat tAtom.own r_15.1.atoms), .row (flat tInt.own r_15.1.free), .box [(intA r_15.1.variableCount), (.m [6] 0 r_15.1.atoms.length tAtom.k), (.m [7] 0 r_15.1.free.length tInt.k)]]) rfl ?_
         refine TO_st (σ' := [.box [(intA aQuery0.variableCount), (sl tAtom aQuery0.atoms), (sl tInt aQuery0.free)], .box [(intA r_9.1.variableCount), (sl tAtom r_9.1.atoms), (sl tInt r_9.1.free)], .row (flat tAtom.own r_33.2.atoms), .row (flat tInt.own r_33.2.free), .box [(intA r_11.variableCount), (.m [2] 0 r_33.2.atoms.length tAtom.k), (.m [3] 0 r_11.free.length tInt.k)], .row (flat tInt.own r_13), .row (flat tAtom.own r_15.1.atoms), .row (flat tInt.own r_15.1.free), .box [(intA r_15.1.variableCount), (.m [6] 0 r_15.1.atoms.length tAtom.k), (.m [7] 0 r_15.1.free.length tInt.k)]]) (by simp only [hq_36]) ?_
         refine TO_st (σ' := [.box [(intA aQuery0.variableCount), (sl tAtom aQuery0.atoms), (sl tInt aQuery0.free)], .box [(intA r_9.1.variableCount), (sl tAtom r_9.1.atoms), (sl tInt r_9.1.free)], .row (flat tAtom.own r_33.2.atoms), .row (flat tInt.own r_33.2.free), .box [(intA r_11.variableCount), (.m [2] 0 r_33.2.atoms.length tAtom.k), (.m [3] 0 r_33.2.free.length tInt.k)], .row (flat tInt.own r_13), .row (flat tAtom.own r_15.1.atoms), .row (flat tInt.own r_15.1.free), .box [(intA r_15.1.variableCount), (.m [6] 0 r_15.1.atoms.length tAtom.k), (.m [7] 0 r_15.1.free.length tInt.k)]]) (by simp only [hq_37]) ?_
         refine pv tb 1 rfl ?_
         refine TO_nil ?_
         refine sr ?_
         obtain ⟨r_38, h_39, H⟩ := bind_inv H
         refine pv tb 2 rfl ?_
         refine TO_cons rfl (TOp_callG (aa := [(.m [5] 0 r_13.length tInt.k), (intA r_33.1)]) [[5]] (call_static ent23 rfl) rfl (.cons rfl rfl (by decide) .nil) rfl rfl (m_laws_markIntS_mut _ _ _ h_39) rfl (fun hl_40 => ?_))
         obtain ⟨hq_41, hl_40⟩ := sameLens_T (T := tInt) hl_40
         refine TO_env (E' := [(1, (sl tInt aRow1)), (2, (.b 0 0)), (6, (.b 1 0)), (7, (boolA r_9.2)), (9, (.m [5] 0 r_38.2.length tInt.k)), (10, (.b 8 0)), (11, (boolA r_15.2)), (12, (intA r_33.1)), (65, (.m [5] 0 r_38.2.length tInt.k)), (66, (intA r_33.1)), (67, (intA r_38.1))]) ⟨rfl, rfl, rfl, rfl, (congrArg (fun q => A.m [5] 0 q tInt.k) hq_41.symm), rfl, rfl, rfl, (congrArg (fun q => A.m [5] 0 q tInt.k) hq_41.symm), rfl, rfl, trivial⟩ ?_
         refine TO_st (σ' := [.box [(intA aQuery0.variableCount), (sl tAtom aQuery0.atoms), (sl tInt aQuery0.free)], .box [(intA r_9.1.variableCount), (sl tAtom r_9.1.atoms), (sl tInt r_9.1.free)], .row (flat tAtom.own r_33.2.atoms), .row (flat tInt.own r_33.2.free), .box [(intA r_11.variableCount), (.m [2] 0 r_33.2.atoms.length tAtom.k), (.m [3] 0 r_33.2.free.length tInt.k)], .row (flat tInt.own r_38.2), .row (flat tAtom.own r_15.1.atoms), .row (flat tInt.own r_15.1.free), .box [(intA r_15.1.variableCount), (.m [6] 0 r_15.1.atoms.length tAtom.k), (.m [7] 0 r_15.1.free.length tInt.k)]]) rfl ?_
         refine pv tb 1 rfl ?_
         refine TO_nil ?_
         refine T_seq ?_
         obtain ⟨t80_42, J_42, H_43⟩ := bind_inv H
         refine T_cutX (fun x => t80_42 = x) (fun (t80_42 : Bool) => [(1, (sl tInt aRow1)), (2, (.b 0 0)), (6, (.b 1 0)), (7, (boolA r_9.2)), (10, (.b 8 0)), (80, (boolA t80_42))]) (fun (t80_42 : Bool) => [.box [(intA aQuery0.variableCount), (sl tAtom aQuery0.atoms), (sl tInt aQuery0.free)], .box [(intA r_9.1.variableCount), (sl tAtom r_9.1.atoms), (sl tInt r_9.1.free)], .row (flat tAtom.own r_33.2.atoms), .row (flat tInt.own r_33.2.free), .box [(intA r_11.variableCount), (.m [2] 0 r_33.2.atoms.length tAtom.k), (.m [3] 0 r_33.2.free.length tInt.k)], .row (flat tInt.own r_38.2), .row (flat tAtom.own r_15.1.atoms), .row (flat tInt.own r_15.1.free), .box [(intA r_15.1.variableCount), (.m [6] 0 r_15.1.atoms.length tAtom.k), (.m [7] 0 r_15.1.free.length tInt.k)]]) ?_ ?_
         ·replace H := J_42
          refine T_region ?_
          refine pv tb 3 rfl ?_
          refine TO_split (t := decide (r_38.1 < 0)) 70 rfl (fun g_44 => ?_) (fun g_44 => ?_)
          ·replace H := cond_t g_44 H
           refine pv tb 10 rfl ?_
           refine TO_nil ?_
           exact joined true (w0 9) (some_inj H).symm
          ·replace H := cond_f g_44 H
           obtain ⟨r_45, h_46, H⟩ := bind_inv H
           refine pv tb 2 rfl ?_
           refine TO_on rfl rfl (by decide) rfl rfl (TOp_callB (call_static ent20 rfl) (frz_cons (frzOK_g (frz_cons (frz_loose rfl) (frz_cons (frzT (T := tAtom) rfl) (frz_cons (frzT (T := tInt) rfl) frz_nil))).1 (frz_cons (frz_loose rfl) (frz_cons (frzT (T := tAtom) rfl) (frz_cons (frzT (T := tInt) rfl) frz_nil))).2) (frz_cons (frz_loose rfl) frz_nil)).1 (frz_cons (frzOK_g (frz_cons (frz_loose rfl) (frz_cons (frzT (T := tAtom) rfl) (frz_cons (frzT (T := tInt) rfl) frz_nil))).1 (frz_cons (frz_loose rfl) (frz_cons (frzT (T := tAtom) rfl) (frz_cons (frzT (T := tInt) rfl) frz_nil))).2) (frz_cons (frz_loose rfl) frz_nil)).2 (m_laws_eqQuery_ok _ _ _ h_46) rfl ?_)
           refine pv tb 3 rfl ?_
           refine TO_split (t := (!r_45)) 76 rfl (fun g_47 => ?_) (fun g_47 => ?_)
           ·replace H := cond_t g_47 H
            refine pv tb 4 rfl ?_
            refine TO_nil ?_
            exact joined true (w0 9) (some_inj H).symm
           ·replace H := cond_f g_47 H
            refine pv tb 2 rfl ?_
            refine TO_on rfl rfl (by decide) rfl rfl (TOp_pure (pur_neqB (by kernel_rfl) rfl rfl rfl) rfl ?_)
            refine pv tb 1 rfl ?_
            refine TO_nil ?_
            exact joined (r_15.2 != r_9.2) (w0 9) (some_inj H).symm
         ·rintro _ rfl
          replace H := H_43
          refine T_cond (t := t80_42) rfl (fun c_48 => ?_) (fun c_48 => ?_)
          ·replace H := cond_t c_48 H
           refine sr ?_
           refine pv tb 1 rfl ?_
           refine TO_nil ?_
           refine T_ret ?_
           refine then_ret ?_
           obtain rfl := some_inj H
           refine end_ret (.tmp .nil) rfl rfl ⟨?_, rfl⟩
           rfl
          ·replace H := cond_f c_48 H
           refine T_skip ?_
           refine sr ?_
           refine pv tb 1 rfl ?_
           refine TO_nil ?_
           refine sr ?_
           obtain ⟨r_49, h_50, H⟩ := bind_inv H
           refine pv tb 2 rfl ?_
           refine TO_cons rfl (TOp_callG (aa := [(.g [(intA r_15.1.variableCount), (.m [6] 0 r_15.1.atoms.length tAtom.k), (.m [7] 0 r_15.1.free.length tInt.k)]), (intA 1)]) [[6], [7]] (call_static ent22 rfl) rfl (.cons rfl rfl (by decide) (.cons rfl rfl (by decide) .nil)) rfl rfl (m_laws_markQuery_mut _ _ _ h_50) rfl (fun hl_51 => ?_))
           obtain ⟨hq_52, hl_51⟩ := sameLens_T (T := tAtom) hl_51
           refine TO_env (E' := [(1, (sl tInt aRow1)), (2, (.b 0 0)), (6, (.b 1 0)), (7, (boolA r_9.2)), (10, (.b 8 0)), (13, (intA 1)), (81, (.g [(intA r_15.1.variableCount), (.m [6] 0 r_49.2.atoms.length tAtom.k), (.m [7] 0 r_15.1.free.length tInt.k)])), (82, (intA 1)), (83, (intA r_49.1))]) ⟨rfl, rfl, rfl, rfl, rfl, rfl, (by simp only [hq_52]; rfl), rfl, rfl, trivial⟩ ?_
           obtain ⟨hq_53, hl_51⟩ := sameLens_T (T := tInt) hl_51
           refine TO_env (E' := [(1, (sl tInt aRow1)), (2, (.b 0 0)), (6, (.b 1 0)), (7, (boolA r_9.2)), (10, (.b 8 0)), (13, (intA 1)), (81, (.g [(intA r_15.1.variableCount), (.m [6] 0 r_49.2.atoms.length tAtom.k), (.m [7] 0 r_49.2.free.length tInt.k)])), (82, (intA 1)), (83, (intA r_49.1))]) ⟨rfl, rfl, rfl, rfl, rfl, rfl, (by simp only [hq_53]; rfl), rfl, rfl, trivial⟩ ?_
           refine TO_st (σ' := [.box [(intA aQuery0.variableCount), (sl tAtom aQuery0.atoms), (sl tInt aQuery0.free)], .box [(intA r_9.1.variableCount), (sl tAtom r_9.1.atoms), (sl tInt r_9.1.free)], .row (flat tAtom.own r_33.2.atoms), .row (flat tInt.own r_33.2.free), .box [(intA r_11.variableCount), (.m [2] 0 r_33.2.atoms.length tAtom.k), (.m [3] 0 r_33.2.free.length tInt.k)], .row (flat tInt.own r_38.2), .row (flat tAtom.own r_49.2.atoms), .row (flat tInt.own r_49.2.free), .box [(intA r_15.1.variableCount), (.m [6] 0 r_15.1.atoms.length tAtom.k), (.m [7] 0 r_15.1.free.length tInt.k)]]) rfl ?_
           refine TO_st (σ' := [.box [(intA aQuery0.variableCount), (sl tAtom aQuery0.atoms), (sl tInt aQuery0.free)], .box [(intA r_9.1.variableCount), (sl tAtom r_9.1.atoms), (sl tInt r_9.1.free)], .row (flat tAtom.own r_33.2.atoms), .row (flat tInt.own r_33.2.free), .box [(intA r_11.variableCount), (.m [2] 0 r_33.2.atoms.length tAtom.k), (.m [3] 0 r_33.2.free.length tInt.k)], .row (flat tInt.own r_38.2), .row (flat tAtom.own r_49.2.atoms), .row (flat tInt.own r_49.2.free), .box [(intA r_15.1.variableCount), (.m [6] 0 r_49.2.atoms.length tAtom.k), (.m [7] 0 r_15.1.free.length tInt.k)]]) (by simp only [hq_52]) ?_
           refine TO_st (σ' := [.box [(intA aQuery0.variableCount), (sl tAtom aQuery0.atoms), (sl tInt aQuery0.free)], .box [(intA r_9.1.variableCount), (sl tAtom r_9.1.atoms), (sl tInt r_9.1.free)], .row (flat tAtom.own r_33.2.atoms), .row (flat tInt.own r_33.2.free), .box [(intA r_11.variableCount), (.m [2] 0 r_33.2.atoms.length tAtom.k), (.m [3] 0 r_33.2.free.length tInt.k)], .row (flat tInt.own r_38.2), .row (flat tAtom.own r_49.2.atoms), .row (flat tInt.own r_49.2.free), .box [(intA r_15.1.variableCount), (.m [6] 0 r_49.2.atoms.length tAtom.k), (.m [7] 0 r_49.2.free.length tInt.k)]]) (by simp only [hq_53]) ?_
           refine pv tb 1 rfl ?_
           refine TO_nil ?_
           refine sr ?_
           refine pv tb 1 rfl ?_
           refine TO_nil ?_
           refine sr ?_
           obtain ⟨r_54, h_55, H⟩ := bind_inv H
           refine pv tb 2 rfl ?_
           refine TO_cons rfl (TOp_callB (call_static ent24 rfl) (frz_cons (frzOK_g (frz_cons (frz_loose rfl) (frz_cons (frzT (T := tAtom) rfl) (frz_cons (frzT (T := tInt) rfl) frz_nil))).1 (frz_cons (frz_loose rfl) (frz_cons (frzT (T := tAtom) rfl) (frz_cons (frzT (T := tInt) rfl) frz_nil))).2) (frz_cons (frz_loose rfl) frz_nil)).1 (frz_cons (frzOK_g (frz_cons (frz_loose rfl) (frz_cons (frzT (T := tAtom) rfl) (frz_cons (frzT (T := tInt) rfl) frz_nil))).1 (frz_cons (frz_loose rfl) (frz_cons (frzT (T := tAtom) rfl) (frz_cons (frzT (T := tInt) rfl) frz_nil))).2) (frz_cons (frz_loose rfl) frz_nil)).2 (m_laws_heldQuery_ok _ _ _ h_55) rfl ?_)
           refine pv tb 1 rfl ?_
           refine TO_nil ?_
           refine T_seq ?_
           refine sr ?_
           refine pv tb 2 rfl ?_
           refine TO_nil ?_
           refine T_cond (t := decide (r_54 < 0)) rfl (fun c_56 => ?_) (fun c_56 => ?_)
           ·replace H := cond_t c_56 H
            refine sr ?_
            refine pv tb 1 rfl ?_
            refine TO_nil ?_
            refine te [(4, (boolA false))] rfl ?_
            refine T_ret ?_
            refine then_ret ?_
            obtain rfl := some_inj H
            refine end_ret (.tmp .nil) rfl rfl ⟨?_, rfl⟩
            rfl
           ·replace H := cond_f c_56 H
            refine T_skip ?_
            refine T_seq ?_
            refine sr ?_
            refine pv tb 3 rfl ?_
            refine TO_nil ?_
            refine T_cond (t := decide (r_54 ≠ r_49.1)) rfl (fun c_57 => ?_) (fun c_57 => ?_)
            ·replace H := cond_t c_57 H
             refine sr ?_
             refine pv tb 1 rfl ?_
             refine TO_nil ?_
             refine te [(4, (boolA false))] rfl ?_
             refine T_ret ?_
             refine then_ret ?_
             obtain rfl := some_inj H
             refine end_ret (.tmp .nil) rfl rfl ⟨?_, rfl⟩
             rfl
            ·replace H := cond_f c_57 H
             refine T_skip ?_
             refine sr ?_
             obtain ⟨r_58, h_59, H⟩ := bind_inv H
             refine pv tb 1 rfl ?_
             refine TO_cons rfl (TOp_callV (call_static ent17 rfl) (m_laws_toQuery_ok _ _ h_59) rfl rfl rfl ?_)
             obtain ⟨r_60, h_61, H⟩ := bind_inv H
             refine pv tb 1 rfl ?_
             refine TO_cons rfl (TOp_callV (call_static ent18 rfl) (m_laws_toIntS_ok _ _ h_61) rfl rfl rfl ?_)
             obtain ⟨r_62, h_63, H⟩ := bind_inv H
             refine TO_cons rfl (TOp_callV (call_static ent19 rfl) (m_impl_BindAnswer_ok u _ _ _ h_63) rfl rfl rfl ?_)
             refine pv tb 3 rfl ?_
             refine toe [(6, (.b 1 0)), (7, (boolA r_9.2)), (10, (.b 8 0)), (13, (intA r_49.1)), (98, (.g (tQuery.enc r_62.1))), (99, (boolA r_62.2))] rfl ?_
             refine TO_cons rfl (TOp_alloc zero29 rfl rfl ?_)
             refine TO_cons rfl (TOp_storeB sz29 rfl rfl rfl rfl rfl rfl rfl (by decide) (lb rfl) rfl ?_)
             refine TO_st (σ' := [.box [(intA aQuery0.variableCount), (sl tAtom aQuery0.atoms), (sl tInt aQuery0.free)], .box [(intA r_9.1.variableCount), (sl tAtom r_9.1.atoms), (sl tInt r_9.1.free)], .row (flat tAtom.own r_33.2.atoms), .row (flat tInt.own r_33.2.free), .box [(intA r_11.variableCount), (.m [2] 0 r_33.2.atoms.length tAtom.k), (.m [3] 0 r_33.2.free.length tInt.k)], .row (flat tInt.own r_38.2), .row (flat tAtom.own r_49.2.atoms), .row (flat tInt.own r_49.2.free), .box [(intA r_15.1.variableCount), (.m [6] 0 r_49.2.atoms.length tAtom.k), (.m [7] 0 r_49.2.free.length tInt.k)], .box [(intA r_62.1.variableCount), (sl tAtom r_62.1.atoms), (sl tInt r_62.1.free)]]) rfl ?_
             refine pv tb 1 rfl ?_
             refine TO_nil ?_
             refine T_seq ?_
             obtain ⟨t108_64, J_64, H_65⟩ := bind_inv H
             refine T_cutX (fun x => t108_64 = x) (fun (t108_64 : Bool) => [(10, (.b 8 0)), (13, (intA r_49.1)), (108, (boolA t108_64))]) (fun (t108_64 : Bool) => [.box [(intA aQuery0.variableCount), (sl tAtom aQuery0.atoms), (sl tInt aQuery0.free)], .box [(intA r_9.1.variableCount), (sl tAtom r_9.1.atoms), (sl tInt r_9.1.free)], .row (flat tAtom.own r_33.2.atoms), .row (flat tInt.own r_33.2.free), .box [(intA r_11.variableCount), (.m [2] 0 r_33.2.atoms.length tAtom.k), (.m [3] 0 r_33.2.free.length tInt.k)], .row (flat tInt.own r_38.2), .row (flat tAtom.own r_49.2.atoms), .row (flat tInt.own r_49.2.free), .box [(intA r_15.1.variableCount), (.m [6] 0 r_49.2.atoms.length tAtom.k), (.m [7] 0 r_49.2.free.length tInt.k)]]) ?_ ?_
             ·replace H := J_64
              refine T_region ?_
              obtain ⟨r_66, h_67, H⟩ := bind_inv H
              refine pv tb 2 rfl ?_
              refine TO_cons rfl (TOp_callV (call_static ent20 rfl) (m_laws_eqQuery_ok _ _ _ h_67) rfl rfl rfl ?_)
              refine pv tb 2 rfl ?_
              refine TO_split (t := (!r_66)) 104 rfl (fun g_68 => ?_) (fun g_68 => ?_)
              ·replace H := cond_t g_68 H
               refine pv tb 4 rfl ?_
               refine TO_nil ?_
               exact joined true (w0 9) (some_inj H).symm
              ·replace H := cond_f g_68 H
               refine pv tb 2 rfl ?_
               refine TO_on rfl rfl (by decide) rfl rfl (TOp_pure (pur_neqB (by kernel_rfl) rfl rfl rfl) rfl ?_)
               refine pv tb 1 rfl ?_
               refine TO_nil ?_
               exact joined (r_62.2 != r_9.2) (w0 9) (some_inj H).symm
             ·rintro _ rfl
              replace H := H_65
              refine T_cond (t := t108_64) rfl (fun c_69 => ?_) (fun c_69 => ?_)
              ·replace H := cond_t c_69 H
               refine sr ?_
               refine pv tb 1 rfl ?_
               refine TO_nil ?_
               refine T_ret ?_
               refine then_ret ?_
               obtain rfl := some_inj H
               refine end_ret (.tmp .nil) rfl rfl ⟨?_, rfl⟩
               rfl
              ·replace H := cond_f c_69 H
               refine T_skip ?_
               refine sr ?_
               refine pv tb 1 rfl ?_
               refine TO_nil ?_
               refine sr ?_
               obtain ⟨r_70, h_71, H⟩ := bind_inv H
               refine pv tb 2 rfl ?_
               refine TO_cons rfl (TOp_callB (call_static ent24 rfl) (frz_cons (frzOK_g (frz_cons (frz_loose rfl) (frz_cons (frzT (T := tAtom) rfl) (frz_cons (frzT (T := tInt) rfl) frz_nil))).1 (frz_cons (frz_loose rfl) (frz_cons (frzT (T := tAtom) rfl) (frz_cons (frzT (T := tInt) rfl) frz_nil))).2) (frz_cons (frz_loose rfl) frz_nil)).1 (frz_cons (frzOK_g (frz_cons (frz_loose rfl) (frz_cons (frzT (T := tAtom) rfl) (frz_cons (frzT (T := tInt) rfl) frz_nil))).1 (frz_cons (frz_loose rfl) (frz_cons (frzT (T := tAtom) rfl) (frz_cons (frzT (T := tInt) rfl) frz_nil))).2) (frz_cons (frz_loose rfl) frz_nil)).2 (m_laws_heldQuery_ok _ _ _ h_71) rfl ?_)
               refine pv tb 1 rfl ?_
               refine TO_nil ?_
               refine T_seq ?_
               refine sr ?_
               refine pv tb 2 rfl ?_
               refine TO_nil ?_
               refine T_cond (t := decide (r_70 < 0)) rfl (fun c_72 => ?_) (fun c_72 => ?_)
               ·replace H := cond_t c_72 H
                refine sr ?_
                refine pv tb 1 rfl ?_
                refine TO_nil ?_
                refine T_ret ?_
                refine then_ret ?_
                obtain rfl := some_inj H
                refine end_ret (.tmp .nil) rfl rfl ⟨?_, rfl⟩
                rfl
               ·replace H := cond_f c_72 H
                refine T_skip ?_
                refine T_seq ?_
                refine sr ?_
                refine pv tb 3 rfl ?_
                refine TO_nil ?_
                refine T_cond (t := decide (r_70 ≠ r_49.1)) rfl (fun c_73 => ?_) (fun c_73 => ?_)
                ·replace H := cond_t c_73 H
                 refine sr ?_
                 refine pv tb 1 rfl ?_
                 refine TO_nil ?_
                 refine T_ret ?_
                 refine then_ret ?_
                 obtain rfl := some_inj H
                 refine end_ret (.tmp .nil) rfl rfl ⟨?_, rfl⟩
                 rfl
                ·replace H := cond_f c_73 H
                 refine T_skip ?_
                 refine sr ?_
                 refine pv tb 1 rfl ?_
                 refine TO_nil ?_
                 refine T_ret ?_
                 obtain rfl := some_inj H
                 refine end_ret (.tmp .nil) rfl rfl ⟨?_, rfl⟩
                 rfl
end Go.Proofs.Ytjdpolnakhmkmaa

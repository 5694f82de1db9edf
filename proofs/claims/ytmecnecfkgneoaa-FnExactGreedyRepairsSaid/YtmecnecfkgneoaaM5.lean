import Derived.Test.YtmecnecfkgneoaaM1
import Derived.Test.YtmecnecfkgneoaaM2
import Derived.Test.YtmecnecfkgneoaaM3
import Derived.Test.YtmecnecfkgneoaaM4
set_option linter.unusedVariables false
set_option linter.unusedSimpArgs false
set_option maxRecDepth 4000
namespace Go.Proofs.Ytmecnecfkgneoaa
open Go Go.Proofs Go.Sep
set_option maxHeartbeats 1000000 in
theorem m_laws_FnExactGreedyRepairs_ok (u : Nat) (aN0 : Int) (aEdges1 : (List ConflictEdge)) (aPreferences2 : (List ConflictEdge)) (r : Bool) (H : m_laws_FnExactGreedyRepairs u aN0 aEdges1 aPreferences2 = some r) : FnV prg 3 [(intA aN0), (sl tConflictEdge aEdges1), (sl tConflictEdge aPreferences2)] (boolA r) := by
  unfold m_laws_FnExactGreedyRepairs at H
  refine fnV_of_T Try.func3 rfl rfl (Nat.le_of_ble_eq_true rfl) ?_
  refine te [(0, (intA aN0)), (1, (sl tConflictEdge aEdges1)), (2, (sl tConflictEdge aPreferences2))] rfl ?_
  refine sr ?_
  refine pv tb 1 rfl ?_
  refine TO_nil ?_
  refine sr ?_
  refine pv tb 1 rfl ?_
  refine TO_nil ?_
  refine sr ?_
  obtain ⟨r_1, h_2, H⟩ := bind_inv H
  refine pv tb 2 rfl ?_
  refine TO_cons rfl (TOp_callV (call_static ent6 rfl) (m_laws_szConflictEdgeS_ok _ _ _ h_2) rfl rfl rfl ?_)
  refine pv tb 1 rfl ?_
  refine TO_nil ?_
  refine T_seq ?_
  refine sr ?_
  refine pv tb 2 rfl ?_
  refine TO_nil ?_
  refine T_cond (t := decide (r_1 < 0)) rfl (fun c_3 => ?_) (fun c_3 => ?_)
  ·replace H := cond_t c_3 H
   refine sr ?_
   refine pv tb 1 rfl ?_
   refine TO_nil ?_
   refine T_ret ?_
   refine then_ret ?_
   obtain rfl := some_inj H
   refine end_ret (.tmp .nil) rfl rfl ⟨?_, rfl⟩
   rfl
  ·replace H := cond_f c_3 H
   refine T_skip ?_
   refine sr ?_
   obtain ⟨r_4, h_5, H⟩ := bind_inv H
   refine pv tb 2 rfl ?_
   refine TO_cons rfl (TOp_callV (call_static ent6 rfl) (m_laws_szConflictEdgeS_ok _ _ _ h_5) rfl rfl rfl ?_)
   refine pv tb 1 rfl ?_
   refine TO_nil ?_
   refine T_seq ?_
   refine sr ?_
   refine pv tb 2 rfl ?_
   refine TO_nil ?_
   refine T_cond (t := decide (r_4 < 0)) rfl (fun c_6 => ?_) (fun c_6 => ?_)
   ·replace H := cond_t c_6 H
    refine sr ?_
    refine pv tb 1 rfl ?_
    refine TO_nil ?_
    refine te [(6, (boolA true))] rfl ?_
    refine T_ret ?_
    refine then_ret ?_
    obtain rfl := some_inj H
    refine end_ret (.tmp .nil) rfl rfl ⟨?_, rfl⟩
    rfl
   ·replace H := cond_f c_6 H
    refine T_skip ?_
    refine sr ?_
    obtain ⟨r_7, h_8, H⟩ := bind_inv H
    refine pv tb 2 rfl ?_
    refine TO_cons rfl (TOp_callV (call_static ent8 rfl) (m_laws_toConflictEdgeS_ok _ _ h_8) rfl rfl rfl ?_)
    obtain ⟨r_9, h_10, H⟩ := bind_inv H
    refine pv tb 1 rfl ?_
    refine TO_cons rfl (TOp_callV (call_static ent8 rfl) (m_laws_toConflictEdgeS_ok _ _ h_10) rfl rfl rfl ?_)
    obtain ⟨r_11, h_12, H⟩ := bind_inv H
    refine TO_cons rfl (TOp_callV (call_static ent7 rfl) (m_spec_GreedyRepairs_ok u _ _ _ _ h_12) rfl rfl rfl ?_)
    refine pv tb 1 rfl ?_
    refine TO_nil ?_
    refine te [(0, (intA aN0)), (1, (sl tConflictEdge aEdges1)), (2, (sl tConflictEdge aPreferences2)), (8, (sl (tSl tInt) r_11))] rfl ?_
    refine sr ?_
    obtain ⟨r_13, h_14, H⟩ := bind_inv H
    refine pv tb 1 rfl ?_
    refine TO_cons rfl (TOp_callO (call_static ent8 rfl) rfl (m_laws_toConflictEdgeS_own _ _ h_14) rfl rfl rfl ?_)
    refine toe [(0, (intA aN0)), (1, (sl tConflictEdge aEdges1)), (2, (sl tConflictEdge aPreferences2)), (8, (sl (tSl tInt) r_11)), (32, (sl tConflictEdge aEdges1)), (33, (.m [0] 0 r_13.length tConflictEdge.k))] rfl ?_
    refine TO_st (σ' := [.row (flat tConflictEdge.own r_13)]) rfl ?_
    refine pv tb 1 rfl ?_
    refine TO_nil ?_
    refine sr ?_
    obtain ⟨r_15, h_16, H⟩ := bind_inv H
    refine pv tb 1 rfl ?_
    refine TO_cons rfl (TOp_callO (call_static ent8 rfl) rfl (m_laws_toConflictEdgeS_own _ _ h_16) rfl rfl rfl ?_)
    refine toe [(0, (intA aN0)), (1, (sl tConflictEdge aEdges1)), (2, (sl tConflictEdge aPreferences2)), (8, (sl (tSl tInt) r_11)), (9, (.m [0] 0 r_13.length tConflictEdge.k)), (34, (sl tConflictEdge aPreferences2)), (35, (.m [1] 0 r_15.length tConflictEdge.k))] rfl ?_
    refine TO_st (σ' := [.row (flat tConflictEdge.own r_13), .row (flat tConflictEdge.own r_15)]) rfl ?_
    refine pv tb 1 rfl ?_
    refine TO_nil ?_
    refine sr ?_
    obtain ⟨r_17, h_18, H⟩ := bind_inv H
    refine pv tb 3 rfl ?_
    refine TO_cons rfl (TOp_callOG (call_static ent9 rfl) (frz_cons (frz_loose rfl) (frz_cons (frzT (T := tConflictEdge) rfl) (frz_cons (frzT (T := tConflictEdge) rfl) frz_nil))).1 (frz_cons (frz_loose rfl) (frz_cons (frzT (T := tConflictEdge) rfl) (frz_cons (frzT (T := tConflictEdge) rfl) frz_nil))).2 (m_impl_GreedyRepairs_own u _ _ _ _ h_18) rfl (ownC_of (ownSB_cons (flat_ownR (tSl tInt) _) ownSB_nil)) rfl rfl rfl ?_)
    refine toe [(0, (intA aN0)), (1, (sl tConflictEdge aEdges1)), (2, (sl tConflictEdge aPreferences2)), (8, (sl (tSl tInt) r_11)), (9, (.m [0] 0 r_13.length tConflictEdge.k)), (10, (.m [1] 0 r_15.length tConflictEdge.k)), (36, (intA aN0)), (37, (.m [0] 0 r_13.length tConflictEdge.k)), (38, (.m [1] 0 r_15.length tConflictEdge.k)), (39, (.m [2] 0 r_17.length (tSl tInt).k))] rfl ?_
    refine TO_st (σ' := [.row (flat tConflictEdge.own r_13), .row (flat tConflictEdge.own r_15), .row (flat (tSl tInt).own r_17)]) rfl ?_
    refine pv tb 1 rfl ?_
    refine TO_nil ?_
    refine T_seq ?_
    refine sr ?_
    obtain ⟨r_19, h_20, H⟩ := bind_inv H
    refine pv tb 2 rfl ?_
    refine TO_cons rfl (TOp_callB (call_static ent10 rfl) (frz_cons (frzT (T := (tSl tInt)) rfl) (frz_cons (frz_loose rfl) frz_nil)).1 (frz_cons (frzT (T := (tSl tInt)) rfl) (frz_cons (frz_loose rfl) frz_nil)).2 (m_laws_eqIntSS_ok _ _ _ h_20) rfl ?_)
    refine pv tb 1 rfl ?_
    refine TO_nil ?_
    refine T_cond (t := (!r_19)) rfl (fun c_21 => ?_) (fun c_21 => ?_)
    ·replace H := cond_t c_21 H
     refine sr ?_
     refine pv tb 1 rfl ?_
     refine TO_nil ?_
     refine te [(6, (boolA false))] rfl ?_
     refine T_ret ?_
     refine then_ret ?_
     obtain rfl := some_inj H
     refine end_ret (.tmp .nil) rfl rfl ⟨?_, rfl⟩
     rfl
    ·replace H := cond_f c_21 H
     refine T_skip ?_
     refine T_seq ?_
     refine sr ?_
     obtain ⟨r_22, h_23, H⟩ := bind_inv H
     refine pv tb 2 rfl ?_
     refine TO_cons rfl (TOp_callV (call_static ent8 rfl) (m_laws_toConflictEdgeS_ok _ _ h_23) rfl rfl rfl ?_)
     obtain ⟨r_24, h_25, H⟩ := bind_inv H
     refine TO_cons rfl (TOp_callB (call_static ent11 rfl) (frz_cons (frzT (T := tConflictEdge) rfl) (frz_cons (frz_loose rfl) frz_nil)).1 (frz_cons (frzT (T := tConflictEdge) rfl) (frz_cons (frz_loose rfl) frz_nil)).2 (m_laws_eqConflictEdgeS_ok _ _ _ h_25) rfl ?_)
     refine pv tb 1 rfl ?_
     refine TO_nil ?_
     refine T_cond (t := (!r_24)) rfl (fun c_26 => ?_) (fun c_26 => ?_)
     ·replace H := cond_t c_26 H
      refine sr ?_
      refine pv tb 1 rfl ?_
      refine TO_nil ?_
      refine te [(6, (boolA false))] rfl ?_
      refine T_ret ?_
      refine then_ret ?_
      obtain rfl := some_inj H
      refine end_ret (.tmp .nil) rfl rfl ⟨?_, rfl⟩
      rfl
     ·replace H := cond_f c_26 H
      refine T_skip ?_
      refine T_seq ?_
      refine sr ?_
      obtain ⟨r_27, h_28, H⟩ := bind_inv H
      refine pv tb 2 rfl ?_
      refine TO_cons rfl (TOp_callV (call_static ent8 rfl) (m_laws_toConflictEdgeS_ok _ _ h_28) rfl rfl rfl ?_)
      obtain ⟨r_29, h_30, H⟩ := bind_inv H
      refine TO_cons rfl (TOp_callB (call_static ent11 rfl) (frz_cons (frzT (T := tConflictEdge) rfl) (frz_cons (frz_loose rfl) frz_nil)).1 (frz_cons (frzT (T := tConflictEdge) rfl) (frz_cons (frz_loose rfl) frz_nil)).2 (m_laws_eqConflictEdgeS_ok _ _ _ h_30) rfl ?_)
      refine pv tb 1 rfl ?_
      refine TO_nil ?_
      refine te [(0, (intA aN0)), (1, (sl tConflictEdge aEdges1)), (2, (sl tConflictEdge aPreferences2)), (8, (sl (tSl tInt) r_11)), (9, (.m [0] 0 r_13.length tConflictEdge.k)), (10, (.m [1] 0 r_15.length tConflictEdge.k)), (11, (.m [2] 0 r_17.length (tSl tInt).k)), (53, (boolA (!r_29)))] rfl ?_
      refine T_cond (t := (!r_29)) rfl (fun c_31 => ?_) (fun c_31 => ?_)
      ·replace H := cond_t c_31 H
       refine sr ?_
       refine pv tb 1 rfl ?_
       refine TO_nil ?_
       refine T_ret ?_
       refine then_ret ?_
       obtain rfl := some_inj H
       refine end_ret (.tmp .nil) rfl rfl ⟨?_, rfl⟩
       rfl
      ·replace H := cond_f c_31 H
       refine T_skip ?_
       refine sr ?_
       refine pv tb 1 rfl ?_
       refine TO_nil ?_
       refine sr ?_
       obtain ⟨r_32, h_33, H⟩ := bind_inv H
       refine pv tb 2 rfl ?_
       refine TO_cons rfl (TOp_callG (aa := [(.m [0] 0 r_13.length tConflictEdge.k), (intA 1)]) [[0]] (call_static ent12 rfl) rfl (.cons rfl rfl (by decide) .nil) rfl rfl (m_laws_markConflictEdgeS_mut _ _ _ h_33) rfl (fun hl_34 => ?_))
       obtain ⟨hq_35, hl_34⟩ := sameLens_T (T := tConflictEdge) hl_34
       refine TO_env (E' := [(0, (intA aN0)), (1, (sl tConflictEdge aEdges1)), (2, (sl tConflictEdge aPreferences2)), (8, (sl (tSl tInt) r_11)), (9, (.m [0] 0 r_32.2.length tConflictEdge.k)), (10, (.m [1] 0 r_15.length tConflictEdge.k)), (11, (.m [2] 0 r_17.length (tSl tInt).k)), (12, (intA 1)), (54, (.m [0] 0 r_32.2.length tConflictEdge.k)), (55, (intA 1)), (56, (intA r_32.1))]) ⟨rfl, rfl, rfl, rfl, (congrArg (fun q => A.m [0] 0 q tConflictEdge.k) hq_35.symm), rfl, rfl, rfl, (congrArg (fun q => A.m [0] 0 q tConflictEdge.k) hq_35.symm), rfl, rfl, trivial⟩ ?_
       refine TO_st (σ' := [.row (flat tConflictEdge.own r_32.2), .row (flat tConflictEdge.own r_15), .row (flat (tSl tInt).own r_17)]) rfl ?_
       refine pv tb 1 rfl ?_
       refine TO_nil ?_
       refine sr ?_
       obtain ⟨r_36, h_37, H⟩ := bind_inv H
       refine pv tb 2 rfl ?_
       refine TO_cons rfl (TOp_callG (aa := [(.m [1] 0 r_15.length tConflictEdge.k), (intA r_32.1)]) [[1]] (call_static ent12 rfl) rfl (.cons rfl rfl (by decide) .nil) rfl rfl (m_laws_markConflictEdgeS_mut _ _ _ h_37) rfl (fun hl_38 => ?_))
       obtain ⟨hq_39, hl_38⟩ := sameLens_T (T := tConflictEdge) hl_38
       refine TO_env (E' := [(0, (intA aN0)), (1, (sl tConflictEdge aEdges1)), (2, (sl tConflictEdge aPreferences2)), (8, (sl (tSl tInt) r_11)), (10, (.m [1] 0 r_36.2.length tConflictEdge.k)), (11, (.m [2] 0 r_17.length (tSl tInt).k)), (12, (intA r_32.1)), (57, (.m [1] 0 r_36.2.length tConflictEdge.k)), (58, (intA r_32.1)), (59, (intA r_36.1))]) ⟨rfl, rfl, rfl, rfl, (congrArg (fun q => A.m [1] 0 q tConflictEdge.k) hq_39.symm), rfl, rfl, (congrArg (fun q => A.m [1] 0 q tConflictEdge.k) hq_39.symm), rfl, rfl, trivial⟩ ?_
       refine TO_st (σ' := [.row (flat tConflictEdge.own r_32.2), .row (flat tConflictEdge.own r_36.2), .row (flat (tSl tInt).own r_17)]) rfl ?_
       refine pv tb 1 rfl ?_
       refine TO_nil ?_
       refine T_seq ?_
       obtain ⟨t67_40, J_40, H_41⟩ := bind_inv H
       refine T_cutX (fun x => t67_40 = x) (fun (t67_40 : Bool) => [(0, (intA aN0)), (1, (sl tConflictEdge aEdges1)), (2, (sl tConflictEdge aPreferences2)), (8, (sl (tSl tInt) r_11)), (11, (.m [2] 0 r_17.length (tSl tInt).k)), (67, (boolA t67_40))]) (fun (t67_40 : Bool) => [.row (flat tConflictEdge.own r_32.2), .row (flat tConflictEdge.own r_36.2), .row (flat (tSl tInt).own r_17)]) ?_ ?_
       ·replace H := J_40
        refine T_region ?_
        refine pv tb 3 rfl ?_
        refine TO_split (t := decide (r_36.1 < 0)) 62 rfl (fun g_42 => ?_) (fun g_42 => ?_)
        ·replace H := cond_t g_42 H
         refine pv tb 5 rfl ?_
         refine TO_nil ?_
         exact joined true (w0 3) (some_inj H).symm
        ·replace H := cond_f g_42 H
         obtain ⟨r_43, h_44, H⟩ := bind_inv H
         refine pv tb 2 rfl ?_
         refine TO_on rfl rfl (by decide) rfl rfl (TOp_callB (call_static ent10 rfl) (frz_cons (frzT (T := (tSl tInt)) rfl) (frz_cons (frz_loose rfl) frz_nil)).1 (frz_cons (frzT (T := (tSl tInt)) rfl) (frz_cons (frz_loose rfl) frz_nil)).2 (m_laws_eqIntSS_ok _ _ _ h_44) rfl ?_)
         refine pv tb 2 rfl ?_
         refine TO_nil ?_
         exact joined (!r_43) (w0 3) (some_inj H).symm
       ·rintro _ rfl
        replace H := H_41
        refine T_cond (t := t67_40) rfl (fun c_45 => ?_) (fun c_45 => ?_)
        ·replace H := cond_t c_45 H
         refine sr ?_
         refine pv tb 1 rfl ?_
         refine TO_nil ?_
         refine T_ret ?_
         refine then_ret ?_
         obtain rfl := some_inj H
         refine end_ret (.tmp .nil) rfl rfl ⟨?_, rfl⟩
         rfl
        ·replace H := cond_f c_45 H
         refine T_skip ?_
         refine sr ?_
         refine pv tb 1 rfl ?_
         refine TO_nil ?_
         refine sr ?_
         obtain ⟨r_46, h_47, H⟩ := bind_inv H
         refine pv tb 2 rfl ?_
         refine TO_cons rfl (TOp_callG (aa := [(.m [2] 0 r_17.length (tSl tInt).k), (intA 1)]) [[2]] (call_static ent13 rfl) rfl (.cons rfl rfl (by decide) .nil) rfl rfl (m_laws_markIntSS_mut _ _ _ h_47) rfl (fun hl_48 => ?_))
         obtain ⟨hq_49, hl_48⟩ := sameLens_T (T := (tSl tInt)) hl_48
         refine TO_env (E' := [(0, (intA aN0)), (1, (sl tConflictEdge aEdges1)), (2, (sl tConflictEdge aPreferences2)), (8, (sl (tSl tInt) r_11)), (11, (.m [2] 0 r_46.2.length (tSl tInt).k)), (13, (intA 1)), (68, (.m [2] 0 r_46.2.length (tSl tInt).k)), (69, (intA 1)), (70, (intA r_46.1))]) ⟨rfl, rfl, rfl, rfl, (congrArg (fun q => A.m [2] 0 q (tSl tInt).k) hq_49.symm), rfl, (congrArg (fun q => A.m [2] 0 q (tSl tInt).k) hq_49.symm), rfl, rfl, trivial⟩ ?_
         refine TO_st (σ' := [.row (flat tConflictEdge.own r_32.2), .row (flat tConflictEdge.own r_36.2), .row (flat (tSl tInt).own r_46.2)]) rfl ?_
         refine pv tb 1 rfl ?_
         refine TO_nil ?_
         refine sr ?_
         refine pv tb 1 rfl ?_
         refine TO_nil ?_
         refine sr ?_
         obtain ⟨r_50, h_51, H⟩ := bind_inv H
         refine pv tb 2 rfl ?_
         refine TO_cons rfl (TOp_callB (call_static ent14 rfl) (frz_cons (frzT (T := (tSl tInt)) rfl) (frz_cons (frz_loose rfl) frz_nil)).1 (frz_cons (frzT (T := (tSl tInt)) rfl) (frz_cons (frz_loose rfl) frz_nil)).2 (m_laws_heldIntSS_ok _ _ _ h_51) rfl ?_)
         refine pv tb 1 rfl ?_
         refine TO_nil ?_
         refine T_seq ?_
         refine sr ?_
         refine pv tb 2 rfl ?_
         refine TO_nil ?_
         refine T_cond (t := decide (r_50 < 0)) rfl (fun c_52 => ?_) (fun c_52 => ?_)
         ·replace H := cond_t c_52 H
          refine sr ?_
          refine pv tb 1 rfl ?_
          refine TO_nil ?_
          refine te [(6, (boolA false))] rfl ?_
          refine T_ret ?_
          refine then_ret ?_
          obtain rfl := some_inj H
          refine end_ret (.tmp .nil) rfl rfl ⟨?_, rfl⟩
          rfl
         ·replace H := cond_f c_52 H
          refine T_skip ?_
          refine T_seq ?_
          refine sr ?_
          refine pv tb 3 rfl ?_
          refine TO_nil ?_
          refine T_cond (t := decide (r_50 ≠ r_46.1)) rfl (fun c_53 => ?_) (fun c_53 => ?_)
          ·replace H := cond_t c_53 H
           refine sr ?_
           refine pv tb 1 rfl ?_
           refine TO_nil ?_
           refine te [(6, (boolA false))] rfl ?_
           refine T_ret ?_
           refine then_ret ?_
           obtain rfl := some_inj H
           refine end_ret (.tmp .nil) rfl rfl ⟨?_, rfl⟩
           rfl
          ·replace H := cond_f c_53 H
           refine T_skip ?_
           refine sr ?_
           obtain ⟨r_54, h_55, H⟩ := bind_inv H
           refine pv tb 2 rfl ?_
           refine TO_cons rfl (TOp_callV (call_static ent8 rfl) (m_laws_toConflictEdgeS_ok _ _ h_55) rfl rfl rfl ?_)
           obtain ⟨r_56, h_57, H⟩ := bind_inv H
           refine pv tb 1 rfl ?_
           refine TO_cons rfl (TOp_callV (call_static ent8 rfl) (m_laws_toConflictEdgeS_ok _ _ h_57) rfl rfl rfl ?_)
           obtain ⟨r_58, h_59, H⟩ := bind_inv H
           refine TO_cons rfl (TOp_callV (call_static ent9 rfl) (m_impl_GreedyRepairs_ok u _ _ _ _ h_59) rfl rfl rfl ?_)
           refine pv tb 1 rfl ?_
           refine TO_nil ?_
           refine te [(8, (sl (tSl tInt) r_11)), (11, (.m [2] 0 r_46.2.length (tSl tInt).k)), (13, (intA r_46.1)), (15, (sl (tSl tInt) r_58))] rfl ?_
           refine T_seq ?_
           refine sr ?_
           obtain ⟨r_60, h_61, H⟩ := bind_inv H
           refine pv tb 2 rfl ?_
           refine TO_cons rfl (TOp_callV (call_static ent10 rfl) (m_laws_eqIntSS_ok _ _ _ h_61) rfl rfl rfl ?_)
           refine pv tb 1 rfl ?_
           refine TO_nil ?_
           refine T_cond (t := (!r_60)) rfl (fun c_62 => ?_) (fun c_62 => ?_)
           ·replace H := cond_t c_62 H
            refine sr ?_
            refine pv tb 1 rfl ?_
            refine TO_nil ?_
            refine T_ret ?_
            refine then_ret ?_
            obtain rfl := some_inj H
            refine end_ret (.tmp .nil) rfl rfl ⟨?_, rfl⟩
            rfl
           ·replace H := cond_f c_62 H
            refine T_skip ?_
            refine sr ?_
            refine pv tb 1 rfl ?_
            refine TO_nil ?_
            refine sr ?_
            obtain ⟨r_63, h_64, H⟩ := bind_inv H
            refine pv tb 2 rfl ?_
            refine TO_cons rfl (TOp_callB (call_static ent14 rfl) (frz_cons (frzT (T := (tSl tInt)) rfl) (frz_cons (frz_loose rfl) frz_nil)).1 (frz_cons (frzT (T := (tSl tInt)) rfl) (frz_cons (frz_loose rfl) frz_nil)).2 (m_laws_heldIntSS_ok _ _ _ h_64) rfl ?_)
            refine pv tb 1 rfl ?_
            refine TO_nil ?_
            refine T_seq ?_
            refine sr ?_
            refine pv tb 2 rfl ?_
            refine TO_nil ?_
            refine T_cond (t := decide (r_63 < 0)) rfl (fun c_65 => ?_) (fun c_65 => ?_)
            ·replace H := cond_t c_65 H
             refine sr ?_
             refine pv tb 1 rfl ?_
             refine TO_nil ?_
             refine T_ret ?_
             refine then_ret ?_
             obtain rfl := some_inj H
             refine end_ret (.tmp .nil) rfl rfl ⟨?_, rfl⟩
             rfl
            ·replace H := cond_f c_65 H
             refine T_skip ?_
             refine T_seq ?_
             refine sr ?_
             refine pv tb 3 rfl ?_
             refine TO_nil ?_
             refine te [(96, (boolA (decide (r_63 ≠ r_46.1))))] rfl ?_
             refine T_cond (t := decide (r_63 ≠ r_46.1)) rfl (fun c_66 => ?_) (fun c_66 => ?_)
             ·replace H := cond_t c_66 H
              refine sr ?_
              refine pv tb 1 rfl ?_
              refine TO_nil ?_
              refine T_ret ?_
              refine then_ret ?_
              obtain rfl := some_inj H
              refine end_ret (.tmp .nil) rfl rfl ⟨?_, rfl⟩
              rfl
             ·replace H := cond_f c_66 H
              refine T_skip ?_
              refine sr ?_
              refine pv tb 1 rfl ?_
              refine TO_nil ?_
              refine T_ret ?_
              obtain rfl := some_inj H
              refine end_ret (.tmp .nil) rfl rfl ⟨?_, rfl⟩
              rfl
end Go.Proofs.Ytmecnecfkgneoaa

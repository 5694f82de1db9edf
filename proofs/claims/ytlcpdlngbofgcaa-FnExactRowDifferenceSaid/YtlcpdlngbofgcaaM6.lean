/- Walks. -/
import Derived.Test.YtlcpdlngbofgcaaM1
import Derived.Test.YtlcpdlngbofgcaaM2
import Derived.Test.YtlcpdlngbofgcaaM3
import Derived.Test.YtlcpdlngbofgcaaM4
import Derived.Test.YtlcpdlngbofgcaaM5
set_option linter.unusedVariables false
set_option linter.unusedSimpArgs false
set_option maxRecDepth 4000
namespace Go.Proofs.Ytlcpdlngbofgcaa
open Go Go.Proofs Go.Sep
set_option maxHeartbeats 1000000 in
/-- laws.FnExactRowDifference -/
theorem m_laws_FnExactRowDifference_ok (u : Nat) (aA0 : (List (List Int))) (aB1 : (List (List Int))) (r : Bool) (H : m_laws_FnExactRowDifference u aA0 aB1 = some r) : FnV prg 3 [(sl (tSl tInt) aA0), (sl (tSl tInt) aB1)] (boolA r) := by
  unfold m_laws_FnExactRowDifference at H
  refine fnV_of_T Try.func3 rfl rfl (Nat.le_of_ble_eq_true rfl) ?_
  refine T_env (E' := [(0, (sl (tSl tInt) aA0)), (1, (sl (tSl tInt) aB1))]) ⟨rfl, rfl, trivial⟩ ?_
  refine T_seq ?_
  refine T_region ?_
  refine TO_cons rfl (TOp_pure (pur_assign rfl) rfl ?_)
  refine TO_nil ?_
  refine T_env (E' := [(0, (sl (tSl tInt) aA0)), (1, (sl (tSl tInt) aB1))]) ⟨rfl, rfl, trivial⟩ ?_
  refine T_seq ?_
  refine T_region ?_
  refine TO_cons rfl (TOp_pure (pur_assign rfl) rfl ?_)
  refine TO_nil ?_
  refine T_env (E' := [(0, (sl (tSl tInt) aA0)), (1, (sl (tSl tInt) aB1)), (5, (intA 1048576))]) ⟨rfl, rfl, rfl, trivial⟩ ?_
  refine T_seq ?_
  refine T_region ?_
  refine TO_cons rfl (TOp_pure (pur_move rfl) rfl ?_)
  refine TO_cons rfl (TOp_pure (pur_move rfl) rfl ?_)
  obtain ⟨r_1, h_2, H⟩ := bind_inv H
  refine TO_cons rfl (TOp_callV (call_static ent14 rfl) (m_laws_szIntSS_ok _ _ _ h_2) rfl rfl rfl ?_)
  refine TO_cons rfl (TOp_pure (pur_assign rfl) rfl ?_)
  refine TO_nil ?_
  refine T_env (E' := [(0, (sl (tSl tInt) aA0)), (1, (sl (tSl tInt) aB1)), (5, (intA r_1))]) ⟨rfl, rfl, rfl, trivial⟩ ?_
  refine T_seq ?_
  refine T_seq ?_
  refine T_region ?_
  refine TO_cons rfl (TOp_pure (pur_move rfl) rfl ?_)
  refine TO_cons rfl (TOp_pure (pur_lss rfl rfl rfl) rfl ?_)
  refine TO_nil ?_
  refine T_env (E' := [(0, (sl (tSl tInt) aA0)), (1, (sl (tSl tInt) aB1)), (5, (intA r_1)), (18, (boolA (decide (r_1 < 0))))]) ⟨rfl, rfl, rfl, rfl, trivial⟩ ?_
  refine T_cond (t := decide (r_1 < 0)) rfl (fun c_3 => ?_) (fun c_3 => ?_)
  · replace H := cond_t c_3 H
    refine T_seq ?_
    refine T_region ?_
    refine TO_cons rfl (TOp_pure (pur_assign rfl) rfl ?_)
    refine TO_nil ?_
    refine T_env (E' := [(4, (boolA true))]) ⟨rfl, trivial⟩ ?_
    refine T_ret ?_
    refine then_ret ?_
    obtain rfl := some_inj H
    refine end_ret (.tmp .nil) rfl rfl ⟨?_, rfl⟩
    rfl
  · replace H := cond_f c_3 H
    refine T_skip ?_
    refine T_env (E' := [(0, (sl (tSl tInt) aA0)), (1, (sl (tSl tInt) aB1)), (5, (intA r_1))]) ⟨rfl, rfl, rfl, trivial⟩ ?_
    refine T_seq ?_
    refine T_region ?_
    refine TO_cons rfl (TOp_pure (pur_move rfl) rfl ?_)
    refine TO_cons rfl (TOp_pure (pur_move rfl) rfl ?_)
    obtain ⟨r_4, h_5, H⟩ := bind_inv H
    refine TO_cons rfl (TOp_callV (call_static ent14 rfl) (m_laws_szIntSS_ok _ _ _ h_5) rfl rfl rfl ?_)
    refine TO_cons rfl (TOp_pure (pur_assign rfl) rfl ?_)
    refine TO_nil ?_
    refine T_env (E' := [(0, (sl (tSl tInt) aA0)), (1, (sl (tSl tInt) aB1)), (5, (intA r_4))]) ⟨rfl, rfl, rfl, trivial⟩ ?_
    refine T_seq ?_
    refine T_seq ?_
    refine T_region ?_
    refine TO_cons rfl (TOp_pure (pur_move rfl) rfl ?_)
    refine TO_cons rfl (TOp_pure (pur_lss rfl rfl rfl) rfl ?_)
    refine TO_nil ?_
    refine T_env (E' := [(0, (sl (tSl tInt) aA0)), (1, (sl (tSl tInt) aB1)), (23, (boolA (decide (r_4 < 0))))]) ⟨rfl, rfl, rfl, trivial⟩ ?_
    refine T_cond (t := decide (r_4 < 0)) rfl (fun c_6 => ?_) (fun c_6 => ?_)
    · replace H := cond_t c_6 H
      refine T_seq ?_
      refine T_region ?_
      refine TO_cons rfl (TOp_pure (pur_assign rfl) rfl ?_)
      refine TO_nil ?_
      refine T_env (E' := [(4, (boolA true))]) ⟨rfl, trivial⟩ ?_
      refine T_ret ?_
      refine then_ret ?_
      obtain rfl := some_inj H
      refine end_ret (.tmp .nil) rfl rfl ⟨?_, rfl⟩
      rfl
    · replace H := cond_f c_6 H
      refine T_skip ?_
      refine T_env (E' := [(0, (sl (tSl tInt) aA0)), (1, (sl (tSl tInt) aB1))]) ⟨rfl, rfl, trivial⟩ ?_
      refine T_seq ?_
      refine T_region ?_
      refine TO_cons rfl (TOp_pure (pur_move rfl) rfl ?_)
      obtain ⟨r_7, h_8, H⟩ := bind_inv H
      refine TO_cons rfl (TOp_callV (call_static ent16 rfl) (m_laws_toIntSS_ok _ _ h_8) rfl rfl rfl ?_)
      refine TO_cons rfl (TOp_pure (pur_move rfl) rfl ?_)
      obtain ⟨r_9, h_10, H⟩ := bind_inv H
      refine TO_cons rfl (TOp_callV (call_static ent16 rfl) (m_laws_toIntSS_ok _ _ h_10) rfl rfl rfl ?_)
      obtain ⟨r_11, h_12, H⟩ := bind_inv H
      refine TO_cons rfl (TOp_callV (call_static ent15 rfl) (m_spec_RowDifference_ok u _ _ _ h_12) rfl rfl rfl ?_)
      refine TO_cons rfl (TOp_pure (pur_assign rfl) rfl ?_)
      refine TO_nil ?_
      refine T_env (E' := [(0, (sl (tSl tInt) aA0)), (1, (sl (tSl tInt) aB1)), (6, (sl (tSl tInt) r_11))]) ⟨rfl, rfl, rfl, trivial⟩ ?_
      refine T_seq ?_
      refine T_region ?_
      refine TO_cons rfl (TOp_pure (pur_move rfl) rfl ?_)
      obtain ⟨r_13, h_14, H⟩ := bind_inv H
      refine TO_cons rfl (TOp_callO (call_static ent16 rfl) rfl (m_laws_toIntSS_own _ _ h_14) rfl rfl rfl ?_)
      refine TO_env (E' := [(0, (sl (tSl tInt) aA0)), (1, (sl (tSl tInt) aB1)), (6, (sl (tSl tInt) r_11)), (29, (sl (tSl tInt) aA0)), (30, (.m [0] 0 r_13.length (tSl tInt).k))]) ⟨rfl, rfl, rfl, rfl, rfl, trivial⟩ ?_
      refine TO_st (σ' := [.row (flat (tSl tInt).own r_13)]) rfl ?_
      refine TO_cons rfl (TOp_pure (pur_assign rfl) rfl ?_)
      refine TO_nil ?_
      refine T_env (E' := [(0, (sl (tSl tInt) aA0)), (1, (sl (tSl tInt) aB1)), (6, (sl (tSl tInt) r_11)), (7, (.m [0] 0 r_13.length (tSl tInt).k))]) ⟨rfl, rfl, rfl, rfl, trivial⟩ ?_
      refine T_seq ?_
      refine T_region ?_
      refine TO_cons rfl (TOp_pure (pur_move rfl) rfl ?_)
      obtain ⟨r_15, h_16, H⟩ := bind_inv H
      refine TO_cons rfl (TOp_callO (call_static ent16 rfl) rfl (m_laws_toIntSS_own _ _ h_16) rfl rfl rfl ?_)
      refine TO_env (E' := [(0, (sl (tSl tInt) aA0)), (1, (sl (tSl tInt) aB1)), (6, (sl (tSl tInt) r_11)), (7, (.m [0] 0 r_13.length (tSl tInt).k)), (31, (sl (tSl tInt) aB1)), (32, (.m [1] 0 r_15.length (tSl tInt).k))]) ⟨rfl, rfl, rfl, rfl, rfl, rfl, trivial⟩ ?_
      refine TO_st (σ' := [.row (flat (tSl tInt).own r_13), .row (flat (tSl tInt).own r_15)]) rfl ?_
      refine TO_cons rfl (TOp_pure (pur_assign rfl) rfl ?_)
      refine TO_nil ?_
      refine T_env (E' := [(0, (sl (tSl tInt) aA0)), (1, (sl (tSl tInt) aB1)), (6, (sl (tSl tInt) r_11)), (7, (.m [0] 0 r_13.length (tSl tInt).k)), (8, (.m [1] 0 r_15.length (tSl tInt).k))]) ⟨rfl, rfl, rfl, rfl, rfl, trivial⟩ ?_
      refine T_seq ?_
      refine T_region ?_
      refine TO_cons rfl (TOp_pure (pur_move rfl) rfl ?_)
      refine TO_cons rfl (TOp_pure (pur_move rfl) rfl ?_)
      obtain ⟨r_17, h_18, H⟩ := bind_inv H
      refine TO_cons rfl (TOp_callOG (call_static ent17 rfl) (frz_cons (frzT (T := (tSl tInt)) rfl) (frz_cons (frzT (T := (tSl tInt)) rfl) frz_nil)).1 (frz_cons (frzT (T := (tSl tInt)) rfl) (frz_cons (frzT (T := (tSl tInt)) rfl) frz_nil)).2 (m_impl_RowDifference_own _ _ _ h_18) rfl (ownC_of (ownSB_cons (flat_ownR (tSl tInt) _) ownSB_nil)) rfl rfl rfl ?_)
      refine TO_env (E' := [(0, (sl (tSl tInt) aA0)), (1, (sl (tSl tInt) aB1)), (6, (sl (tSl tInt) r_11)), (7, (.m [0] 0 r_13.length (tSl tInt).k)), (8, (.m [1] 0 r_15.length (tSl tInt).k)), (33, (.m [0] 0 r_13.length (tSl tInt).k)), (34, (.m [1] 0 r_15.length (tSl tInt).k)), (35, (.m [2] 0 r_17.length (tSl tInt).k))]) ⟨rfl, rfl, rfl, rfl, rfl, rfl, rfl, rfl, trivial⟩ ?_
      refine TO_st (σ' := [.row (flat (tSl tInt).own r_13), .row (flat (tSl tInt).own r_15), .row (flat (tSl tInt).own r_17)]) rfl ?_
      refine TO_cons rfl (TOp_pure (pur_assign rfl) rfl ?_)
      refine TO_nil ?_
      refine T_env (E' := [(0, (sl (tSl tInt) aA0)), (1, (sl (tSl tInt) aB1)), (6, (sl (tSl tInt) r_11)), (7, (.m [0] 0 r_13.length (tSl tInt).k)), (8, (.m [1] 0 r_15.length (tSl tInt).k)), (9, (.m [2] 0 r_17.length (tSl tInt).k))]) ⟨rfl, rfl, rfl, rfl, rfl, rfl, trivial⟩ ?_
      refine T_seq ?_
      refine T_seq ?_
      refine T_region ?_
      refine TO_cons rfl (TOp_pure (pur_move rfl) rfl ?_)
      refine TO_cons rfl (TOp_pure (pur_move rfl) rfl ?_)
      obtain ⟨r_19, h_20, H⟩ := bind_inv H
      refine TO_cons rfl (TOp_callB (call_static ent18 rfl) (frz_cons (frzT (T := (tSl tInt)) rfl) (frz_cons (frz_loose rfl) frz_nil)).1 (frz_cons (frzT (T := (tSl tInt)) rfl) (frz_cons (frz_loose rfl) frz_nil)).2 (m_laws_eqIntSS_ok _ _ _ h_20) rfl ?_)
      refine TO_cons rfl (TOp_pure (pur_not rfl rfl) rfl ?_)
      refine TO_nil ?_
      refine T_env (E' := [(0, (sl (tSl tInt) aA0)), (1, (sl (tSl tInt) aB1)), (6, (sl (tSl tInt) r_11)), (7, (.m [0] 0 r_13.length (tSl tInt).k)), (8, (.m [1] 0 r_15.length (tSl tInt).k)), (9, (.m [2] 0 r_17.length (tSl tInt).k)), (39, (boolA (!r_19)))]) ⟨rfl, rfl, rfl, rfl, rfl, rfl, rfl, trivial⟩ ?_
      refine T_cond (t := (!r_19)) rfl (fun c_21 => ?_) (fun c_21 => ?_)
      · replace H := cond_t c_21 H
        refine T_seq ?_
        refine T_region ?_
        refine TO_cons rfl (TOp_pure (pur_assign rfl) rfl ?_)
        refine TO_nil ?_
        refine T_env (E' := [(4, (boolA false))]) ⟨rfl, trivial⟩ ?_
        refine T_ret ?_
        refine then_ret ?_
        obtain rfl := some_inj H
        refine end_ret (.tmp .nil) rfl rfl ⟨?_, rfl⟩
        rfl
      · replace H := cond_f c_21 H
        refine T_skip ?_
        refine T_env (E' := [(0, (sl (tSl tInt) aA0)), (1, (sl (tSl tInt) aB1)), (6, (sl (tSl tInt) r_11)), (7, (.m [0] 0 r_13.length (tSl tInt).k)), (8, (.m [1] 0 r_15.length (tSl tInt).k)), (9, (.m [2] 0 r_17.length (tSl tInt).k))]) ⟨rfl, rfl, rfl, rfl, rfl, rfl, trivial⟩ ?_
        refine T_seq ?_
        refine T_seq ?_
        refine T_region ?_
        refine TO_cons rfl (TOp_pure (pur_move rfl) rfl ?_)
        refine TO_cons rfl (TOp_pure (pur_move rfl) rfl ?_)
        obtain ⟨r_22, h_23, H⟩ := bind_inv H
        refine TO_cons rfl (TOp_callV (call_static ent16 rfl) (m_laws_toIntSS_ok _ _ h_23) rfl rfl rfl ?_)
        obtain ⟨r_24, h_25, H⟩ := bind_inv H
        refine TO_cons rfl (TOp_callB (call_static ent18 rfl) (frz_cons (frzT (T := (tSl tInt)) rfl) (frz_cons (frz_loose rfl) frz_nil)).1 (frz_cons (frzT (T := (tSl tInt)) rfl) (frz_cons (frz_loose rfl) frz_nil)).2 (m_laws_eqIntSS_ok _ _ _ h_25) rfl ?_)
        refine TO_cons rfl (TOp_pure (pur_not rfl rfl) rfl ?_)
        refine TO_nil ?_
        refine T_env (E' := [(0, (sl (tSl tInt) aA0)), (1, (sl (tSl tInt) aB1)), (6, (sl (tSl tInt) r_11)), (7, (.m [0] 0 r_13.length (tSl tInt).k)), (8, (.m [1] 0 r_15.length (tSl tInt).k)), (9, (.m [2] 0 r_17.length (tSl tInt).k)), (44, (boolA (!r_24)))]) ⟨rfl, rfl, rfl, rfl, rfl, rfl, rfl, trivial⟩ ?_
        refine T_cond (t := (!r_24)) rfl (fun c_26 => ?_) (fun c_26 => ?_)
        · replace H := cond_t c_26 H
          refine T_seq ?_
          refine T_region ?_
          refine TO_cons rfl (TOp_pure (pur_assign rfl) rfl ?_)
          refine TO_nil ?_
          refine T_env (E' := [(4, (boolA false))]) ⟨rfl, trivial⟩ ?_
          refine T_ret ?_
          refine then_ret ?_
          obtain rfl := some_inj H
          refine end_ret (.tmp .nil) rfl rfl ⟨?_, rfl⟩
          rfl
        · replace H := cond_f c_26 H
          refine T_skip ?_
          refine T_env (E' := [(0, (sl (tSl tInt) aA0)), (1, (sl (tSl tInt) aB1)), (6, (sl (tSl tInt) r_11)), (7, (.m [0] 0 r_13.length (tSl tInt).k)), (8, (.m [1] 0 r_15.length (tSl tInt).k)), (9, (.m [2] 0 r_17.length (tSl tInt).k))]) ⟨rfl, rfl, rfl, rfl, rfl, rfl, trivial⟩ ?_
          refine T_seq ?_
          refine T_seq ?_
          refine T_region ?_
          refine TO_cons rfl (TOp_pure (pur_move rfl) rfl ?_)
          refine TO_cons rfl (TOp_pure (pur_move rfl) rfl ?_)
          obtain ⟨r_27, h_28, H⟩ := bind_inv H
          refine TO_cons rfl (TOp_callV (call_static ent16 rfl) (m_laws_toIntSS_ok _ _ h_28) rfl rfl rfl ?_)
          obtain ⟨r_29, h_30, H⟩ := bind_inv H
          refine TO_cons rfl (TOp_callB (call_static ent18 rfl) (frz_cons (frzT (T := (tSl tInt)) rfl) (frz_cons (frz_loose rfl) frz_nil)).1 (frz_cons (frzT (T := (tSl tInt)) rfl) (frz_cons (frz_loose rfl) frz_nil)).2 (m_laws_eqIntSS_ok _ _ _ h_30) rfl ?_)
          refine TO_cons rfl (TOp_pure (pur_not rfl rfl) rfl ?_)
          refine TO_nil ?_
          refine T_env (E' := [(0, (sl (tSl tInt) aA0)), (1, (sl (tSl tInt) aB1)), (6, (sl (tSl tInt) r_11)), (7, (.m [0] 0 r_13.length (tSl tInt).k)), (8, (.m [1] 0 r_15.length (tSl tInt).k)), (9, (.m [2] 0 r_17.length (tSl tInt).k)), (49, (boolA (!r_29)))]) ⟨rfl, rfl, rfl, rfl, rfl, rfl, rfl, trivial⟩ ?_
          refine T_cond (t := (!r_29)) rfl (fun c_31 => ?_) (fun c_31 => ?_)
          · replace H := cond_t c_31 H
            refine T_seq ?_
            refine T_region ?_
            refine TO_cons rfl (TOp_pure (pur_assign rfl) rfl ?_)
            refine TO_nil ?_
            refine T_env (E' := [(4, (boolA false))]) ⟨rfl, trivial⟩ ?_
            refine T_ret ?_
            refine then_ret ?_
            obtain rfl := some_inj H
            refine end_ret (.tmp .nil) rfl rfl ⟨?_, rfl⟩
            rfl
          · replace H := cond_f c_31 H
            refine T_skip ?_
            refine T_env (E' := [(0, (sl (tSl tInt) aA0)), (1, (sl (tSl tInt) aB1)), (6, (sl (tSl tInt) r_11)), (7, (.m [0] 0 r_13.length (tSl tInt).k)), (8, (.m [1] 0 r_15.length (tSl tInt).k)), (9, (.m [2] 0 r_17.length (tSl tInt).k))]) ⟨rfl, rfl, rfl, rfl, rfl, rfl, trivial⟩ ?_
            refine T_seq ?_
            refine T_region ?_
            refine TO_cons rfl (TOp_pure (pur_assign rfl) rfl ?_)
            refine TO_nil ?_
            refine T_env (E' := [(0, (sl (tSl tInt) aA0)), (1, (sl (tSl tInt) aB1)), (6, (sl (tSl tInt) r_11)), (7, (.m [0] 0 r_13.length (tSl tInt).k)), (8, (.m [1] 0 r_15.length (tSl tInt).k)), (9, (.m [2] 0 r_17.length (tSl tInt).k)), (10, (intA 1))]) ⟨rfl, rfl, rfl, rfl, rfl, rfl, rfl, trivial⟩ ?_
            refine T_seq ?_
            refine T_region ?_
            refine TO_cons rfl (TOp_pure (pur_move rfl) rfl ?_)
            refine TO_cons rfl (TOp_pure (pur_move rfl) rfl ?_)
            obtain ⟨r_32, h_33, H⟩ := bind_inv H
            refine TO_cons rfl (TOp_callG (aa := [(.m [0] 0 r_13.length (tSl tInt).k), (intA 1)]) [[0]] (call_static ent19 rfl) rfl (.cons rfl rfl (by decide) .nil) rfl rfl (m_laws_markIntSS_mut _ _ _ h_33) rfl (fun hl_34 => ?_))
            obtain ⟨hq_35, hl_34⟩ := sameLens_T (T := (tSl tInt)) hl_34
            refine TO_env (E' := [(0, (sl (tSl tInt) aA0)), (1, (sl (tSl tInt) aB1)), (6, (sl (tSl tInt) r_11)), (7, (.m [0] 0 r_32.2.length (tSl tInt).k)), (8, (.m [1] 0 r_15.length (tSl tInt).k)), (9, (.m [2] 0 r_17.length (tSl tInt).k)), (10, (intA 1)), (50, (.m [0] 0 r_32.2.length (tSl tInt).k)), (51, (intA 1)), (52, (intA r_32.1))]) ⟨rfl, rfl, rfl, (congrArg (fun q => A.m [0] 0 q (tSl tInt).k) hq_35.symm), rfl, rfl, rfl, (congrArg (fun q => A.m [0] 0 q (tSl tInt).k) hq_35.symm), rfl, rfl, trivial⟩ ?_
            refine TO_st (σ' := [.row (flat (tSl tInt).own r_32.2), .row (flat (tSl tInt).own r_15), .row (flat (tSl tInt).own r_17)]) rfl ?_
            refine TO_cons rfl (TOp_pure (pur_assign rfl) rfl ?_)
            refine TO_nil ?_
            refine T_env (E' := [(0, (sl (tSl tInt) aA0)), (1, (sl (tSl tInt) aB1)), (6, (sl (tSl tInt) r_11)), (8, (.m [1] 0 r_15.length (tSl tInt).k)), (9, (.m [2] 0 r_17.length (tSl tInt).k)), (10, (intA r_32.1))]) ⟨rfl, rfl, rfl, rfl, rfl, rfl, trivial⟩ ?_
            refine T_seq ?_
            refine T_region ?_
            refine TO_cons rfl (TOp_pure (pur_move rfl) rfl ?_)
            refine TO_cons rfl (TOp_pure (pur_move rfl) rfl ?_)
            obtain ⟨r_36, h_37, H⟩ := bind_inv H
            refine TO_cons rfl (TOp_callG (aa := [(.m [1] 0 r_15.length (tSl tInt).k), (intA r_32.1)]) [[1]] (call_static ent19 rfl) rfl (.cons rfl rfl (by decide) .nil) rfl rfl (m_laws_markIntSS_mut _ _ _ h_37) rfl (fun hl_38 => ?_))
            obtain ⟨hq_39, hl_38⟩ := sameLens_T (T := (tSl tInt)) hl_38
            refine TO_env (E' := [(0, (sl (tSl tInt) aA0)), (1, (sl (tSl tInt) aB1)), (6, (sl (tSl tInt) r_11)), (8, (.m [1] 0 r_36.2.length (tSl tInt).k)), (9, (.m [2] 0 r_17.length (tSl tInt).k)), (10, (intA r_32.1)), (53, (.m [1] 0 r_36.2.length (tSl tInt).k)), (54, (intA r_32.1)), (55, (intA r_36.1))]) ⟨rfl, rfl, rfl, (congrArg (fun q => A.m [1] 0 q (tSl tInt).k) hq_39.symm), rfl, rfl, (congrArg (fun q => A.m [1] 0 q (tSl tInt).k) hq_39.symm), rfl, rfl, trivial⟩ ?_
            refine TO_st (σ' := [.row (flat (tSl tInt).own r_32.2), .row (flat (tSl tInt).own r_36.2), .row (flat (tSl tInt).own r_17)]) rfl ?_
            refine TO_cons rfl (TOp_pure (pur_assign rfl) rfl ?_)
            refine TO_nil ?_
            refine T_env (E' := [(0, (sl (tSl tInt) aA0)), (1, (sl (tSl tInt) aB1)), (6, (sl (tSl tInt) r_11)), (9, (.m [2] 0 r_17.length (tSl tInt).k)), (10, (intA r_36.1))]) ⟨rfl, rfl, rfl, rfl, rfl, trivial⟩ ?_
            refine T_seq ?_
            obtain ⟨t63, J_40, H_41⟩ := bind_inv H
            refine T_cutX (fun x => t63 = x) (fun (t63 : Bool) => [(0, (sl (tSl tInt) aA0)), (1, (sl (tSl tInt) aB1)), (6, (sl (tSl tInt) r_11)), (9, (.m [2] 0 r_17.length (tSl tInt).k)), (63, (boolA t63))]) (fun (t63 : Bool) => [.row (flat (tSl tInt).own r_32.2), .row (flat (tSl tInt).own r_36.2), .row (flat (tSl tInt).own r_17)]) ?_ ?_
            · replace H := J_40
              refine T_region ?_
              refine TO_cons rfl (TOp_pure (pur_move rfl) rfl ?_)
              refine TO_cons rfl (TOp_pure (pur_lss rfl rfl rfl) rfl ?_)
              refine TO_cons rfl (TOp_pure (pur_move rfl) rfl ?_)
              refine TO_split (t := decide (r_36.1 < 0)) 58 rfl (fun g_42 => ?_) (fun g_42 => ?_)
              · replace H := cond_t g_42 H
                refine TO_off rfl rfl (by decide) rfl rfl rfl ?_
                refine TO_off rfl rfl (by decide) rfl rfl rfl ?_
                refine TO_off rfl rfl (by decide) rfl rfl rfl ?_
                refine TO_off rfl rfl (by decide) rfl rfl rfl ?_
                refine TO_cons rfl (TOp_pure (pur_pick (t := true) rfl rfl rfl) rfl ?_)
                refine TO_nil ?_
                exact joined true (WeakL.to 3 (Nat.le_of_ble_eq_true rfl) rfl rfl rfl rfl ⟨leR rfl, leR rfl, leR rfl, leR rfl, leR rfl, trivial⟩) (some_inj H).symm
              · replace H := cond_f g_42 H
                refine TO_on rfl rfl (by decide) rfl rfl (TOp_pure (pur_move rfl) rfl ?_)
                refine TO_on rfl rfl (by decide) rfl rfl (TOp_pure (pur_move rfl) rfl ?_)
                obtain ⟨r_43, h_44, H⟩ := bind_inv H
                refine TO_on rfl rfl (by decide) rfl rfl (TOp_callB (call_static ent18 rfl) (frz_cons (frzT (T := (tSl tInt)) rfl) (frz_cons (frz_loose rfl) frz_nil)).1 (frz_cons (frzT (T := (tSl tInt)) rfl) (frz_cons (frz_loose rfl) frz_nil)).2 (m_laws_eqIntSS_ok _ _ _ h_44) rfl ?_)
                refine TO_on rfl rfl (by decide) rfl rfl (TOp_pure (pur_not rfl rfl) rfl ?_)
                refine TO_cons rfl (TOp_pure (pur_pick (t := false) rfl rfl rfl) rfl ?_)
                refine TO_nil ?_
                exact joined (!r_43) (WeakL.to 3 (Nat.le_of_ble_eq_true rfl) rfl rfl rfl rfl ⟨leR rfl, leR rfl, leR rfl, leR rfl, leR rfl, trivial⟩) (some_inj H).symm
            · rintro _ rfl
              replace H := H_41
              refine T_env (E' := [(0, (sl (tSl tInt) aA0)), (1, (sl (tSl tInt) aB1)), (6, (sl (tSl tInt) r_11)), (9, (.m [2] 0 r_17.length (tSl tInt).k)), (63, (boolA t63))]) ⟨rfl, rfl, rfl, rfl, rfl, trivial⟩ ?_
              refine T_cond (t := t63) rfl (fun c_45 => ?_) (fun c_45 => ?_)
              · replace H := cond_t c_45 H
                refine T_seq ?_
                refine T_region ?_
                refine TO_cons rfl (TOp_pure (pur_assign rfl) rfl ?_)
                refine TO_nil ?_
                refine T_env (E' := [(4, (boolA false))]) ⟨rfl, trivial⟩ ?_
                refine T_ret ?_
                refine then_ret ?_
                obtain rfl := some_inj H
                refine end_ret (.tmp .nil) rfl rfl ⟨?_, rfl⟩
                rfl
              · replace H := cond_f c_45 H
                refine T_skip ?_
                refine T_env (E' := [(0, (sl (tSl tInt) aA0)), (1, (sl (tSl tInt) aB1)), (6, (sl (tSl tInt) r_11)), (9, (.m [2] 0 r_17.length (tSl tInt).k))]) ⟨rfl, rfl, rfl, rfl, trivial⟩ ?_
                refine T_seq ?_
                refine T_region ?_
                refine TO_cons rfl (TOp_pure (pur_assign rfl) rfl ?_)
                refine TO_nil ?_
                refine T_env (E' := [(0, (sl (tSl tInt) aA0)), (1, (sl (tSl tInt) aB1)), (6, (sl (tSl tInt) r_11)), (9, (.m [2] 0 r_17.length (tSl tInt).k)), (11, (intA 1))]) ⟨rfl, rfl, rfl, rfl, rfl, trivial⟩ ?_
                refine T_seq ?_
                refine T_region ?_
                refine TO_cons rfl (TOp_pure (pur_move rfl) rfl ?_)
                refine TO_cons rfl (TOp_pure (pur_move rfl) rfl ?_)
                obtain ⟨r_46, h_47, H⟩ := bind_inv H
                refine TO_cons rfl (TOp_callG (aa := [(.m [2] 0 r_17.length (tSl tInt).k), (intA 1)]) [[2]] (call_static ent19 rfl) rfl (.cons rfl rfl (by decide) .nil) rfl rfl (m_laws_markIntSS_mut _ _ _ h_47) rfl (fun hl_48 => ?_))
                obtain ⟨hq_49, hl_48⟩ := sameLens_T (T := (tSl tInt)) hl_48
                refine TO_env (E' := [(0, (sl (tSl tInt) aA0)), (1, (sl (tSl tInt) aB1)), (6, (sl (tSl tInt) r_11)), (9, (.m [2] 0 r_46.2.length (tSl tInt).k)), (11, (intA 1)), (64, (.m [2] 0 r_46.2.length (tSl tInt).k)), (65, (intA 1)), (66, (intA r_46.1))]) ⟨rfl, rfl, rfl, (congrArg (fun q => A.m [2] 0 q (tSl tInt).k) hq_49.symm), rfl, (congrArg (fun q => A.m [2] 0 q (tSl tInt).k) hq_49.symm), rfl, rfl, trivial⟩ ?_
                refine TO_st (σ' := [.row (flat (tSl tInt).own r_32.2), .row (flat (tSl tInt).own r_36.2), .row (flat (tSl tInt).own r_46.2)]) rfl ?_
                refine TO_cons rfl (TOp_pure (pur_assign rfl) rfl ?_)
                refine TO_nil ?_
                refine T_env (E' := [(0, (sl (tSl tInt) aA0)), (1, (sl (tSl tInt) aB1)), (6, (sl (tSl tInt) r_11)), (9, (.m [2] 0 r_46.2.length (tSl tInt).k)), (11, (intA r_46.1))]) ⟨rfl, rfl, rfl, rfl, rfl, trivial⟩ ?_
                refine T_seq ?_
                refine T_region ?_
                refine TO_cons rfl (TOp_pure (pur_assign rfl) rfl ?_)
                refine TO_nil ?_
                refine T_env (E' := [(0, (sl (tSl tInt) aA0)), (1, (sl (tSl tInt) aB1)), (6, (sl (tSl tInt) r_11)), (9, (.m [2] 0 r_46.2.length (tSl tInt).k)), (11, (intA r_46.1)), (12, (intA 1))]) ⟨rfl, rfl, rfl, rfl, rfl, rfl, trivial⟩ ?_
                refine T_seq ?_
                refine T_region ?_
                refine TO_cons rfl (TOp_pure (pur_move rfl) rfl ?_)
                refine TO_cons rfl (TOp_pure (pur_move rfl) rfl ?_)
                obtain ⟨r_50, h_51, H⟩ := bind_inv H
                refine TO_cons rfl (TOp_callB (call_static ent20 rfl) (frz_cons (frzT (T := (tSl tInt)) rfl) (frz_cons (frz_loose rfl) frz_nil)).1 (frz_cons (frzT (T := (tSl tInt)) rfl) (frz_cons (frz_loose rfl) frz_nil)).2 (m_laws_heldIntSS_ok _ _ _ h_51) rfl ?_)
                refine TO_cons rfl (TOp_pure (pur_assign rfl) rfl ?_)
                refine TO_nil ?_
                refine T_env (E' := [(0, (sl (tSl tInt) aA0)), (1, (sl (tSl tInt) aB1)), (6, (sl (tSl tInt) r_11)), (9, (.m [2] 0 r_46.2.length (tSl tInt).k)), (11, (intA r_46.1)), (12, (intA r_50))]) ⟨rfl, rfl, rfl, rfl, rfl, rfl, trivial⟩ ?_
                refine T_seq ?_
                refine T_seq ?_
                refine T_region ?_
                refine TO_cons rfl (TOp_pure (pur_move rfl) rfl ?_)
                refine TO_cons rfl (TOp_pure (pur_lss rfl rfl rfl) rfl ?_)
                refine TO_nil ?_
                refine T_env (E' := [(0, (sl (tSl tInt) aA0)), (1, (sl (tSl tInt) aB1)), (6, (sl (tSl tInt) r_11)), (9, (.m [2] 0 r_46.2.length (tSl tInt).k)), (11, (intA r_46.1)), (12, (intA r_50)), (71, (boolA (decide (r_50 < 0))))]) ⟨rfl, rfl, rfl, rfl, rfl, rfl, rfl, trivial⟩ ?_
                refine T_cond (t := decide (r_50 < 0)) rfl (fun c_52 => ?_) (fun c_52 => ?_)
                · replace H := cond_t c_52 H
                  refine T_seq ?_
                  refine T_region ?_
                  refine TO_cons rfl (TOp_pure (pur_assign rfl) rfl ?_)
                  refine TO_nil ?_
                  refine T_env (E' := [(4, (boolA false))]) ⟨rfl, trivial⟩ ?_
                  refine T_ret ?_
                  refine then_ret ?_
                  obtain rfl := some_inj H
                  refine end_ret (.tmp .nil) rfl rfl ⟨?_, rfl⟩
                  rfl
                · replace H := cond_f c_52 H
                  refine T_skip ?_
                  refine T_env (E' := [(0, (sl (tSl tInt) aA0)), (1, (sl (tSl tInt) aB1)), (6, (sl (tSl tInt) r_11)), (9, (.m [2] 0 r_46.2.length (tSl tInt).k)), (11, (intA r_46.1)), (12, (intA r_50))]) ⟨rfl, rfl, rfl, rfl, rfl, rfl, trivial⟩ ?_
                  refine T_seq ?_
                  refine T_seq ?_
                  refine T_region ?_
                  refine TO_cons rfl (TOp_pure (pur_move rfl) rfl ?_)
                  refine TO_cons rfl (TOp_pure (pur_move rfl) rfl ?_)
                  refine TO_cons rfl (TOp_pure (pur_neq rfl rfl rfl) rfl ?_)
                  refine TO_nil ?_
                  refine T_env (E' := [(0, (sl (tSl tInt) aA0)), (1, (sl (tSl tInt) aB1)), (6, (sl (tSl tInt) r_11)), (9, (.m [2] 0 r_46.2.length (tSl tInt).k)), (11, (intA r_46.1)), (74, (boolA (decide (r_50 ≠ r_46.1))))]) ⟨rfl, rfl, rfl, rfl, rfl, rfl, trivial⟩ ?_
                  refine T_cond (t := decide (r_50 ≠ r_46.1)) rfl (fun c_53 => ?_) (fun c_53 => ?_)
                  · replace H := cond_t c_53 H
                    refine T_seq ?_
                    refine T_region ?_
                    refine TO_cons rfl (TOp_pure (pur_assign rfl) rfl ?_)
                    refine TO_nil ?_
                    refine T_env (E' := [(4, (boolA false))]) ⟨rfl, trivial⟩ ?_
                    refine T_ret ?_
                    refine then_ret ?_
                    obtain rfl := some_inj H
                    refine end_ret (.tmp .nil) rfl rfl ⟨?_, rfl⟩
                    rfl
                  · replace H := cond_f c_53 H
                    refine T_skip ?_
                    refine T_env (E' := [(0, (sl (tSl tInt) aA0)), (1, (sl (tSl tInt) aB1)), (6, (sl (tSl tInt) r_11)), (9, (.m [2] 0 r_46.2.length (tSl tInt).k)), (11, (intA r_46.1))]) ⟨rfl, rfl, rfl, rfl, rfl, trivial⟩ ?_
                    refine T_seq ?_
                    refine T_region ?_
                    refine TO_cons rfl (TOp_pure (pur_move rfl) rfl ?_)
                    obtain ⟨r_54, h_55, H⟩ := bind_inv H
                    refine TO_cons rfl (TOp_callV (call_static ent16 rfl) (m_laws_toIntSS_ok _ _ h_55) rfl rfl rfl ?_)
                    refine TO_cons rfl (TOp_pure (pur_move rfl) rfl ?_)
                    obtain ⟨r_56, h_57, H⟩ := bind_inv H
                    refine TO_cons rfl (TOp_callV (call_static ent16 rfl) (m_laws_toIntSS_ok _ _ h_57) rfl rfl rfl ?_)
                    obtain ⟨r_58, h_59, H⟩ := bind_inv H
                    refine TO_cons rfl (TOp_callV (call_static ent17 rfl) (m_impl_RowDifference_ok _ _ _ h_59) rfl rfl rfl ?_)
                    refine TO_cons rfl (TOp_pure (pur_assign rfl) rfl ?_)
                    refine TO_nil ?_
                    refine T_env (E' := [(6, (sl (tSl tInt) r_11)), (9, (.m [2] 0 r_46.2.length (tSl tInt).k)), (11, (intA r_46.1)), (13, (sl (tSl tInt) r_58))]) ⟨rfl, rfl, rfl, rfl, trivial⟩ ?_
                    refine T_seq ?_
                    refine T_seq ?_
                    refine T_region ?_
                    refine TO_cons rfl (TOp_pure (pur_move rfl) rfl ?_)
                    refine TO_cons rfl (TOp_pure (pur_move rfl) rfl ?_)
                    obtain ⟨r_60, h_61, H⟩ := bind_inv H
                    refine TO_cons rfl (TOp_callV (call_static ent18 rfl) (m_laws_eqIntSS_ok _ _ _ h_61) rfl rfl rfl ?_)
                    refine TO_cons rfl (TOp_pure (pur_not rfl rfl) rfl ?_)
                    refine TO_nil ?_
                    refine T_env (E' := [(9, (.m [2] 0 r_46.2.length (tSl tInt).k)), (11, (intA r_46.1)), (83, (boolA (!r_60)))]) ⟨rfl, rfl, rfl, trivial⟩ ?_
                    refine T_cond (t := (!r_60)) rfl (fun c_62 => ?_) (fun c_62 => ?_)
                    · replace H := cond_t c_62 H
                      refine T_seq ?_
                      refine T_region ?_
                      refine TO_cons rfl (TOp_pure (pur_assign rfl) rfl ?_)
                      refine TO_nil ?_
                      refine T_env (E' := [(4, (boolA false))]) ⟨rfl, trivial⟩ ?_
                      refine T_ret ?_
                      refine then_ret ?_
                      obtain rfl := some_inj H
                      refine end_ret (.tmp .nil) rfl rfl ⟨?_, rfl⟩
                      rfl
                    · replace H := cond_f c_62 H
                      refine T_skip ?_
                      refine T_env (E' := [(9, (.m [2] 0 r_46.2.length (tSl tInt).k)), (11, (intA r_46.1))]) ⟨rfl, rfl, trivial⟩ ?_
                      refine T_seq ?_
                      refine T_region ?_
                      refine TO_cons rfl (TOp_pure (pur_assign rfl) rfl ?_)
                      refine TO_nil ?_
                      refine T_env (E' := [(9, (.m [2] 0 r_46.2.length (tSl tInt).k)), (11, (intA r_46.1)), (12, (intA 1))]) ⟨rfl, rfl, rfl, trivial⟩ ?_
                      refine T_seq ?_
                      refine T_region ?_
                      refine TO_cons rfl (TOp_pure (pur_move rfl) rfl ?_)
                      refine TO_cons rfl (TOp_pure (pur_move rfl) rfl ?_)
                      obtain ⟨r_63, h_64, H⟩ := bind_inv H
                      refine TO_cons rfl (TOp_callB (call_static ent20 rfl) (frz_cons (frzT (T := (tSl tInt)) rfl) (frz_cons (frz_loose rfl) frz_nil)).1 (frz_cons (frzT (T := (tSl tInt)) rfl) (frz_cons (frz_loose rfl) frz_nil)).2 (m_laws_heldIntSS_ok _ _ _ h_64) rfl ?_)
                      refine TO_cons rfl (TOp_pure (pur_assign rfl) rfl ?_)
                      refine TO_nil ?_
                      refine T_env (E' := [(11, (intA r_46.1)), (12, (intA r_63))]) ⟨rfl, rfl, trivial⟩ ?_
                      refine T_seq ?_
                      refine T_seq ?_
                      refine T_region ?_
                      refine TO_cons rfl (TOp_pure (pur_move rfl) rfl ?_)
                      refine TO_cons rfl (TOp_pure (pur_lss rfl rfl rfl) rfl ?_)
                      refine TO_nil ?_
                      refine T_env (E' := [(11, (intA r_46.1)), (12, (intA r_63)), (88, (boolA (decide (r_63 < 0))))]) ⟨rfl, rfl, rfl, trivial⟩ ?_
                      refine T_cond (t := decide (r_63 < 0)) rfl (fun c_65 => ?_) (fun c_65 => ?_)
                      · replace H := cond_t c_65 H
                        refine T_seq ?_
                        refine T_region ?_
                        refine TO_cons rfl (TOp_pure (pur_assign rfl) rfl ?_)
                        refine TO_nil ?_
                        refine T_env (E' := [(4, (boolA false))]) ⟨rfl, trivial⟩ ?_
                        refine T_ret ?_
                        refine then_ret ?_
                        obtain rfl := some_inj H
                        refine end_ret (.tmp .nil) rfl rfl ⟨?_, rfl⟩
                        rfl
                      · replace H := cond_f c_65 H
                        refine T_skip ?_
                        refine T_env (E' := [(11, (intA r_46.1)), (12, (intA r_63))]) ⟨rfl, rfl, trivial⟩ ?_
                        refine T_seq ?_
                        refine T_seq ?_
                        refine T_region ?_
                        refine TO_cons rfl (TOp_pure (pur_move rfl) rfl ?_)
                        refine TO_cons rfl (TOp_pure (pur_move rfl) rfl ?_)
                        refine TO_cons rfl (TOp_pure (pur_neq rfl rfl rfl) rfl ?_)
                        refine TO_nil ?_
                        refine T_env (E' := [(91, (boolA (decide (r_63 ≠ r_46.1))))]) ⟨rfl, trivial⟩ ?_
                        refine T_cond (t := decide (r_63 ≠ r_46.1)) rfl (fun c_66 => ?_) (fun c_66 => ?_)
                        · replace H := cond_t c_66 H
                          refine T_seq ?_
                          refine T_region ?_
                          refine TO_cons rfl (TOp_pure (pur_assign rfl) rfl ?_)
                          refine TO_nil ?_
                          refine T_env (E' := [(4, (boolA false))]) ⟨rfl, trivial⟩ ?_
                          refine T_ret ?_
                          refine then_ret ?_
                          obtain rfl := some_inj H
                          refine end_ret (.tmp .nil) rfl rfl ⟨?_, rfl⟩
                          rfl
                        · replace H := cond_f c_66 H
                          refine T_skip ?_
                          refine T_env (E' := []) trivial ?_
                          refine T_seq ?_
                          refine T_region ?_
                          refine TO_cons rfl (TOp_pure (pur_assign rfl) rfl ?_)
                          refine TO_nil ?_
                          refine T_env (E' := [(4, (boolA true))]) ⟨rfl, trivial⟩ ?_
                          refine T_ret ?_
                          obtain rfl := some_inj H
                          refine end_ret (.tmp .nil) rfl rfl ⟨?_, rfl⟩
                          rfl
end Go.Proofs.Ytlcpdlngbofgcaa

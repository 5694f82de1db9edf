/- Walks. -/
import Derived.Test.YtlcpdlngbofgcaaM1
import Derived.Test.YtlcpdlngbofgcaaM2
import Derived.Test.YtlcpdlngbofgcaaM4
import Derived.Test.YtlcpdlngbofgcaaM5
import Derived.Test.YtlcpdlngbofgcaaM8
set_option linter.unusedVariables false
set_option linter.unusedSimpArgs false
set_option maxRecDepth 4000
namespace Go.Proofs.Ytlcpdlngbofgcaa
open Go Go.Proofs Go.Sep
set_option maxHeartbeats 1000000 in
/-- laws.FnSumRange -/
theorem m_laws_FnSumRange_ok (u : Nat) (code0 : (List Int)) (r : Bool) (H : m_laws_FnSumRange u code0 = some r) : FnV prg 10 [(sl (tI .u8) code0)] (boolA r) := by
  unfold m_laws_FnSumRange at H
  refine fnV_of_T Try.func10 rfl rfl (Nat.le_of_ble_eq_true rfl) ?_
  refine T_env (E' := [(0, (sl (tI .u8) code0))]) ⟨rfl, trivial⟩ ?_
  refine sr ?_
  refine Tp rfl rfl (pur_assign rfl) rfl ?_
  refine TO_nil ?_
  refine T_env (E' := [(0, (sl (tI .u8) code0))]) ⟨rfl, trivial⟩ ?_
  refine T_seq ?_
  refine sr ?_
  refine Tp rfl rfl (pur_move rfl) rfl ?_
  obtain ⟨r_1, h_2, H⟩ := bind_inv H
  refine TO_cons rfl (TOp_callV (call_static ent21 rfl) (m_laws_big_ok _ _ h_2) rfl rfl rfl ?_)
  refine TO_nil ?_
  refine T_env (E' := [(0, (sl (tI .u8) code0)), (19, (boolA r_1))]) ⟨rfl, rfl, trivial⟩ ?_
  refine T_cond (t := r_1) rfl (fun c_3 => ?_) (fun c_3 => ?_)
  · replace H := cond_t c_3 H
    refine sr ?_
    refine Tp rfl rfl (pur_assign rfl) rfl ?_
    refine TO_nil ?_
    refine T_env (E' := [(2, (boolA true))]) ⟨rfl, trivial⟩ ?_
    refine T_ret ?_
    refine then_ret ?_
    obtain rfl := some_inj H
    refine end_ret (.tmp .nil) rfl rfl ⟨?_, rfl⟩
    rfl
  · replace H := cond_f c_3 H
    refine T_skip ?_
    refine T_env (E' := [(0, (sl (tI .u8) code0))]) ⟨rfl, trivial⟩ ?_
    refine sr ?_
    refine Tp rfl rfl (pur_move rfl) rfl ?_
    obtain ⟨r_4, h_5, H⟩ := bind_inv H
    refine TO_cons rfl (TOp_callV (call_static ent39 rfl) (m_spec_DrawSumRange_ok u _ _ h_5) rfl rfl rfl ?_)
    refine Tp rfl rfl (pur_move rfl) rfl ?_
    refine Tp rfl rfl (pur_extract rfl rfl rfl) rfl ?_
    refine Tp rfl rfl (pur_extract rfl rfl rfl) rfl ?_
    refine Tp rfl rfl (pur_extract rfl rfl rfl) rfl ?_
    refine TO_cons rfl (TOp_alloc zero32 rfl rfl ?_)
    refine TO_cons rfl (TOp_storeB sz32 rfl rfl rfl rfl rfl rfl rfl (by decide) (lb rfl) rfl ?_)
    refine TO_st (σ' := [.box [(sl tRelation r_4.1.relations), (sl tFact r_4.1.facts)]]) rfl ?_
    refine Tp rfl rfl (pur_assign rfl) rfl ?_
    refine Tp rfl rfl (pur_assign rfl) rfl ?_
    refine TO_nil ?_
    refine T_env (E' := [(3, (.b 0 0)), (4, (intA r_4.2.1)), (5, (intA r_4.2.2))]) ⟨rfl, rfl, rfl, trivial⟩ ?_
    refine sr ?_
    refine Tp rfl rfl (pur_ldK_b agg32 rfl rfl (lb rfl) rfl) rfl ?_
    refine Tp rfl rfl (pur_move rfl) rfl ?_
    refine Tp rfl rfl (pur_move rfl) rfl ?_
    obtain ⟨r_6, h_7, H⟩ := bind_inv H
    refine TO_cons rfl (TOp_callV (call_static ent32 rfl) (m_impl_SumRange_ok u _ _ _ _ h_7) rfl rfl rfl ?_)
    refine Tp rfl rfl (pur_move rfl) rfl ?_
    refine Tp rfl rfl (pur_extract rfl rfl rfl) rfl ?_
    refine Tp rfl rfl (pur_extract rfl rfl rfl) rfl ?_
    refine Tp rfl rfl (pur_extract rfl rfl rfl) rfl ?_
    refine TO_env (E' := [(3, (.b 0 0)), (4, (intA r_4.2.1)), (5, (intA r_4.2.2)), (31, (intA r_6.1)), (32, (intA r_6.2.1)), (33, (boolA r_6.2.2))]) ⟨rfl, rfl, rfl, rfl, rfl, rfl, trivial⟩ ?_
    refine Tp rfl rfl (pur_assign rfl) rfl ?_
    refine Tp rfl rfl (pur_assign rfl) rfl ?_
    refine Tp rfl rfl (pur_assign rfl) rfl ?_
    refine TO_nil ?_
    refine T_env (E' := [(3, (.b 0 0)), (4, (intA r_4.2.1)), (5, (intA r_4.2.2)), (6, (intA r_6.1)), (7, (intA r_6.2.1)), (8, (boolA r_6.2.2))]) ⟨rfl, rfl, rfl, rfl, rfl, rfl, trivial⟩ ?_
    refine sr ?_
    refine Tp rfl rfl (pur_ldK_b agg32 rfl rfl (lb rfl) rfl) rfl ?_
    refine Tp rfl rfl (pur_move rfl) rfl ?_
    refine Tp rfl rfl (pur_move rfl) rfl ?_
    obtain ⟨r_8, h_9, H⟩ := bind_inv H
    refine TO_cons rfl (TOp_callV (call_static ent31 rfl) (m_spec_SumRange_ok u _ _ _ _ h_9) rfl rfl rfl ?_)
    refine Tp rfl rfl (pur_move rfl) rfl ?_
    refine Tp rfl rfl (pur_extract rfl rfl rfl) rfl ?_
    refine Tp rfl rfl (pur_extract rfl rfl rfl) rfl ?_
    refine Tp rfl rfl (pur_extract rfl rfl rfl) rfl ?_
    refine TO_env (E' := [(3, (.b 0 0)), (4, (intA r_4.2.1)), (5, (intA r_4.2.2)), (6, (intA r_6.1)), (7, (intA r_6.2.1)), (8, (boolA r_6.2.2)), (39, (intA r_8.1)), (40, (intA r_8.2.1)), (41, (boolA r_8.2.2))]) ⟨rfl, rfl, rfl, rfl, rfl, rfl, rfl, rfl, rfl, trivial⟩ ?_
    refine Tp rfl rfl (pur_assign rfl) rfl ?_
    refine Tp rfl rfl (pur_assign rfl) rfl ?_
    refine Tp rfl rfl (pur_assign rfl) rfl ?_
    refine TO_nil ?_
    refine T_env (E' := [(3, (.b 0 0)), (4, (intA r_4.2.1)), (5, (intA r_4.2.2)), (6, (intA r_6.1)), (7, (intA r_6.2.1)), (8, (boolA r_6.2.2)), (9, (intA r_8.1)), (10, (intA r_8.2.1)), (11, (boolA r_8.2.2))]) ⟨rfl, rfl, rfl, rfl, rfl, rfl, rfl, rfl, rfl, trivial⟩ ?_
    refine T_seq ?_
    refine T_cutX (fun x => ((r_6.2.2 != r_8.2.2) || ((decide (r_6.1 ≠ r_8.1)) || (decide (r_6.2.1 ≠ r_8.2.1)))) = x) (fun (t54_10 : Bool) => [(3, (.b 0 0)), (4, (intA r_4.2.1)), (5, (intA r_4.2.2)), (6, (intA r_6.1)), (7, (intA r_6.2.1)), (8, (boolA r_6.2.2)), (54, (boolA t54_10))]) (fun (t54_10 : Bool) => [.box [(sl tRelation r_4.1.relations), (sl tFact r_4.1.facts)]]) ?_ ?_
    · skip
      refine T_region ?_
      refine Tp rfl rfl (pur_move rfl) rfl ?_
      refine Tp rfl rfl (pur_move rfl) rfl ?_
      refine Tp rfl rfl (pur_neqB (by kernel_rfl) rfl rfl rfl) rfl ?_
      refine Tp rfl rfl (pur_move rfl) rfl ?_
      refine TO_split (t := (r_6.2.2 != r_8.2.2)) 45 rfl (fun g_12 => ?_) (fun g_12 => ?_)
      · skip
        refine TO_off rfl rfl (by decide) rfl rfl rfl ?_
        refine TO_off rfl rfl (by decide) rfl rfl rfl ?_
        refine TO_off rfl rfl (by decide) rfl rfl rfl ?_
        refine Tp rfl rfl (pur_pick (t := true) rfl rfl rfl) rfl ?_
        refine Tp rfl rfl (pur_move rfl) rfl ?_
        refine TO_off rfl rfl (by decide) rfl rfl rfl ?_
        refine TO_off rfl rfl (by decide) rfl rfl rfl ?_
        refine TO_off rfl rfl (by decide) rfl rfl rfl ?_
        refine Tp rfl rfl (pur_pick (t := true) rfl rfl rfl) rfl ?_
        refine TO_nil ?_
        exact joined true (wp 1 (lb rfl) rfl rfl rfl rfl ⟨rfl, rfl, rfl, rfl, rfl, rfl, rfl, trivial⟩) (by first | exact Eq.symm ((or_T g_12 rfl)))
      · skip
        refine TO_on rfl rfl (by decide) rfl rfl (TOp_pure (pur_move rfl) rfl ?_)
        refine TO_on rfl rfl (by decide) rfl rfl (TOp_pure (pur_move rfl) rfl ?_)
        refine TO_on rfl rfl (by decide) rfl rfl (TOp_pure (pur_neq rfl rfl rfl) rfl ?_)
        refine Tp rfl rfl (pur_pick (t := false) rfl rfl rfl) rfl ?_
        refine Tp rfl rfl (pur_move rfl) rfl ?_
        refine TO_split (t := decide (r_6.1 ≠ r_8.1)) 50 rfl (fun g_13 => ?_) (fun g_13 => ?_)
        · skip
          refine TO_off rfl rfl (by decide) rfl rfl rfl ?_
          refine TO_off rfl rfl (by decide) rfl rfl rfl ?_
          refine TO_off rfl rfl (by decide) rfl rfl rfl ?_
          refine Tp rfl rfl (pur_pick (t := true) rfl rfl rfl) rfl ?_
          refine TO_nil ?_
          exact joined true (wp 1 (lb rfl) rfl rfl rfl rfl ⟨rfl, rfl, rfl, rfl, rfl, rfl, rfl, trivial⟩) (by first | exact Eq.symm ((or_F g_12 (or_T g_13 rfl))))
        · skip
          refine TO_on rfl rfl (by decide) rfl rfl (TOp_pure (pur_move rfl) rfl ?_)
          refine TO_on rfl rfl (by decide) rfl rfl (TOp_pure (pur_move rfl) rfl ?_)
          refine TO_on rfl rfl (by decide) rfl rfl (TOp_pure (pur_neq rfl rfl rfl) rfl ?_)
          refine Tp rfl rfl (pur_pick (t := false) rfl rfl rfl) rfl ?_
          refine TO_nil ?_
          exact joined (decide (r_6.2.1 ≠ r_8.2.1)) (wp 1 (lb rfl) rfl rfl rfl rfl ⟨rfl, rfl, rfl, rfl, rfl, rfl, rfl, trivial⟩) (by first | exact Eq.symm ((or_F g_12 (or_F g_13 rfl))))
    · rintro _ rfl
      refine T_env (E' := [(3, (.b 0 0)), (4, (intA r_4.2.1)), (5, (intA r_4.2.2)), (6, (intA r_6.1)), (7, (intA r_6.2.1)), (8, (boolA r_6.2.2)), (54, (boolA ((r_6.2.2 != r_8.2.2) || ((decide (r_6.1 ≠ r_8.1)) || (decide (r_6.2.1 ≠ r_8.2.1))))))]) ⟨rfl, rfl, rfl, rfl, rfl, rfl, rfl, trivial⟩ ?_
      refine T_cond (t := ((r_6.2.2 != r_8.2.2) || ((decide (r_6.1 ≠ r_8.1)) || (decide (r_6.2.1 ≠ r_8.2.1))))) rfl (fun c_14 => ?_) (fun c_14 => ?_)
      · replace H := cond_t c_14 H
        refine sr ?_
        refine Tp rfl rfl (pur_assign rfl) rfl ?_
        refine TO_nil ?_
        refine T_env (E' := [(2, (boolA false))]) ⟨rfl, trivial⟩ ?_
        refine T_ret ?_
        refine then_ret ?_
        obtain rfl := some_inj H
        refine end_ret (.tmp .nil) rfl rfl ⟨?_, rfl⟩
        rfl
      · replace H := cond_f c_14 H
        refine T_skip ?_
        refine T_env (E' := [(3, (.b 0 0)), (4, (intA r_4.2.1)), (5, (intA r_4.2.2)), (6, (intA r_6.1)), (7, (intA r_6.2.1)), (8, (boolA r_6.2.2))]) ⟨rfl, rfl, rfl, rfl, rfl, rfl, trivial⟩ ?_
        refine T_seq ?_
        refine sr ?_
        refine Tp rfl rfl (pur_move rfl) rfl ?_
        refine Tp rfl rfl (pur_not rfl rfl) rfl ?_
        refine TO_nil ?_
        refine T_env (E' := [(3, (.b 0 0)), (4, (intA r_4.2.1)), (5, (intA r_4.2.2)), (6, (intA r_6.1)), (7, (intA r_6.2.1)), (56, (boolA (!r_6.2.2)))]) ⟨rfl, rfl, rfl, rfl, rfl, rfl, trivial⟩ ?_
        refine T_cond (t := (!r_6.2.2)) rfl (fun c_15 => ?_) (fun c_15 => ?_)
        · replace H := cond_t c_15 H
          refine T_cutX (fun x => ((decide (r_6.1 = 0)) && (decide (r_6.2.1 = 0))) = x) (fun (t2_16 : Bool) => [(2, (boolA t2_16))]) (fun (t2_16 : Bool) => []) ?_ ?_
          · skip
            refine T_region ?_
            refine Tp rfl rfl (pur_move rfl) rfl ?_
            refine Tp rfl rfl (pur_eql rfl rfl rfl) rfl ?_
            refine Tp rfl rfl (pur_move rfl) rfl ?_
            refine TO_split (t := decide (r_6.1 = 0)) 59 rfl (fun g_18 => ?_) (fun g_18 => ?_)
            · skip
              refine TO_on rfl rfl (by decide) rfl rfl (TOp_pure (pur_move rfl) rfl ?_)
              refine TO_on rfl rfl (by decide) rfl rfl (TOp_pure (pur_eql rfl rfl rfl) rfl ?_)
              refine Tp rfl rfl (pur_pick (t := true) rfl rfl rfl) rfl ?_
              refine Tp rfl rfl (pur_assign rfl) rfl ?_
              refine TO_nil ?_
              exact joined (decide (r_6.2.1 = 0)) (wp 0 (lb rfl) rfl rfl rfl rfl ⟨rfl, trivial⟩) (by first | exact Eq.symm ((and_T g_18 rfl)))
            · skip
              refine TO_off rfl rfl (by decide) rfl rfl rfl ?_
              refine TO_off rfl rfl (by decide) rfl rfl rfl ?_
              refine Tp rfl rfl (pur_pick (t := false) rfl rfl rfl) rfl ?_
              refine Tp rfl rfl (pur_assign rfl) rfl ?_
              refine TO_nil ?_
              exact joined false (wp 0 (lb rfl) rfl rfl rfl rfl ⟨rfl, trivial⟩) (by first | exact Eq.symm ((and_F g_18 rfl)))
          · rintro _ rfl
            refine T_env (E' := [(2, (boolA ((decide (r_6.1 = 0)) && (decide (r_6.2.1 = 0)))))]) ⟨rfl, trivial⟩ ?_
            refine T_ret ?_
            refine then_ret ?_
            obtain rfl := some_inj H
            refine end_ret (.tmp .nil) rfl rfl ⟨?_, rfl⟩
            rfl
        · replace H := cond_f c_15 H
          refine T_skip ?_
          refine T_env (E' := [(3, (.b 0 0)), (4, (intA r_4.2.1)), (5, (intA r_4.2.2)), (6, (intA r_6.1)), (7, (intA r_6.2.1))]) ⟨rfl, rfl, rfl, rfl, rfl, trivial⟩ ?_
          refine sr ?_
          refine Tp rfl rfl (pur_assign rfl) rfl ?_
          refine TO_nil ?_
          refine T_env (E' := [(3, (.b 0 0)), (4, (intA r_4.2.1)), (5, (intA r_4.2.2)), (6, (intA r_6.1)), (7, (intA r_6.2.1)), (12, (boolA false))]) ⟨rfl, rfl, rfl, rfl, rfl, rfl, trivial⟩ ?_
          refine sr ?_
          refine Tp rfl rfl (pur_assign rfl) rfl ?_
          refine TO_nil ?_
          refine T_env (E' := [(3, (.b 0 0)), (4, (intA r_4.2.1)), (5, (intA r_4.2.2)), (6, (intA r_6.1)), (7, (intA r_6.2.1)), (12, (boolA false)), (13, (boolA false))]) ⟨rfl, rfl, rfl, rfl, rfl, rfl, rfl, trivial⟩ ?_
          refine T_seq ?_
          refine sr ?_
          refine Tp rfl rfl (pur_assign rfl) rfl ?_
          refine TO_nil ?_
          refine T_env (E' := [(3, (.b 0 0)), (4, (intA r_4.2.1)), (5, (intA r_4.2.2)), (6, (intA r_6.1)), (7, (intA r_6.2.1)), (12, (boolA false)), (13, (boolA false)), (14, (intA 0))]) ⟨rfl, rfl, rfl, rfl, rfl, rfl, rfl, rfl, trivial⟩ ?_
          obtain ⟨O19_, L19_, N19_⟩ := bind_inv H
          clear H
          obtain ⟨B19_, hb19, L19_⟩ := gen_whileF L19_
          refine T_block ?_
          refine T_loopX (fun k => fun (x_ : Bool × Bool × Int) => whileF B19_ k (x_.1, x_.2.1, x_.2.2) = some O19_) (fun (x_ : Bool × Bool × Int) => [(3, (.b 0 0)), (4, (intA r_4.2.1)), (5, (intA r_4.2.2)), (6, (intA r_6.1)), (7, (intA r_6.2.1)), (12, (boolA x_.1)), (13, (boolA x_.2.1)), (14, (intA x_.2.2))]) (fun (x_ : Bool × Bool × Int) => [.box [(sl tRelation r_4.1.relations), (sl tFact r_4.1.facts)]]) u (false, false, 0) (wp 1 (lb rfl) rfl rfl rfl rfl ⟨rfl, rfl, rfl, rfl, rfl, rfl, rfl, rfl, trivial⟩) L19_ ?_
          rintro _ ⟨least12, most13, k14⟩ L19_
          obtain ⟨k19, rfl, C19_, H, K19_⟩ := while_step L19_
          rw [hb19] at H
          refine T_env (E' := [(3, (.b 0 0)), (4, (intA r_4.2.1)), (5, (intA r_4.2.2)), (6, (intA r_6.1)), (7, (intA r_6.2.1)), (12, (boolA least12)), (13, (boolA most13)), (14, (intA k14))]) ⟨rfl, rfl, rfl, rfl, rfl, rfl, rfl, rfl, trivial⟩ ?_
          refine T_st (σ' := [.box [(sl tRelation r_4.1.relations), (sl tFact r_4.1.facts)]]) rfl ?_
          refine T_seq ?_
          refine sr ?_
          refine Tp rfl rfl (pur_move rfl) rfl ?_
          refine Tp rfl rfl (pur_ldK_b agg32 rfl rfl (lb rfl) rfl) rfl ?_
          obtain ⟨r_20, h_21, H⟩ := bind_inv H
          refine TO_cons rfl (TOp_callV (call_static ent40 rfl) (m_spec_CountRepairs_ok u _ _ h_21) rfl rfl rfl ?_)
          refine Tp rfl rfl (pur_lss rfl rfl rfl) rfl ?_
          refine TO_nil ?_
          refine T_env (E' := [(3, (.b 0 0)), (4, (intA r_4.2.1)), (5, (intA r_4.2.2)), (6, (intA r_6.1)), (7, (intA r_6.2.1)), (12, (boolA least12)), (13, (boolA most13)), (14, (intA k14)), (66, (boolA (decide (k14 < r_20))))]) ⟨rfl, rfl, rfl, rfl, rfl, rfl, rfl, rfl, rfl, trivial⟩ ?_
          refine T_cond (t := decide (k14 < r_20)) rfl (fun c_22 => ?_) (fun c_22 => ?_)
          · replace H := cond_t c_22 H
            refine T_skip ?_
            refine T_env (E' := [(3, (.b 0 0)), (4, (intA r_4.2.1)), (5, (intA r_4.2.2)), (6, (intA r_6.1)), (7, (intA r_6.2.1)), (12, (boolA least12)), (13, (boolA most13)), (14, (intA k14))]) ⟨rfl, rfl, rfl, rfl, rfl, rfl, rfl, rfl, trivial⟩ ?_
            refine T_seq ?_
            refine T_block ?_
            refine sr ?_
            refine Tp rfl rfl (pur_ldK_b agg32 rfl rfl (lb rfl) rfl) rfl ?_
            refine Tp rfl rfl (pur_move rfl) rfl ?_
            obtain ⟨r_23, h_24, H⟩ := bind_inv H
            refine TO_cons rfl (TOp_callV (call_static ent41 rfl) (m_spec_NthRepair_ok u _ _ _ h_24) rfl rfl rfl ?_)
            refine Tp rfl rfl (pur_move rfl) rfl ?_
            refine Tp rfl rfl (pur_extract rfl rfl rfl) rfl ?_
            refine Tp rfl rfl (pur_extract rfl rfl rfl) rfl ?_
            refine Tp rfl rfl (pur_assign rfl) rfl ?_
            refine Tp rfl rfl (pur_assign rfl) rfl ?_
            refine TO_nil ?_
            refine T_env (E' := [(3, (.b 0 0)), (4, (intA r_4.2.1)), (5, (intA r_4.2.2)), (6, (intA r_6.1)), (7, (intA r_6.2.1)), (12, (boolA least12)), (13, (boolA most13)), (14, (intA k14)), (15, (sl tInt r_23.1))]) ⟨rfl, rfl, rfl, rfl, rfl, rfl, rfl, rfl, rfl, trivial⟩ ?_
            refine sr ?_
            refine Tp rfl rfl (pur_ldK_b agg32 rfl rfl (lb rfl) rfl) rfl ?_
            refine Tp rfl rfl (pur_move rfl) rfl ?_
            refine Tp rfl rfl (pur_move rfl) rfl ?_
            refine Tp rfl rfl (pur_move rfl) rfl ?_
            obtain ⟨r_25, h_26, H⟩ := bind_inv H
            refine TO_cons rfl (TOp_callV (call_static ent23 rfl) (m_impl_ColumnSum_ok _ _ _ _ _ h_26) rfl rfl rfl ?_)
            refine Tp rfl rfl (pur_assign rfl) rfl ?_
            refine TO_nil ?_
            refine T_env (E' := [(3, (.b 0 0)), (4, (intA r_4.2.1)), (5, (intA r_4.2.2)), (6, (intA r_6.1)), (7, (intA r_6.2.1)), (12, (boolA least12)), (13, (boolA most13)), (14, (intA k14)), (17, (intA r_25))]) ⟨rfl, rfl, rfl, rfl, rfl, rfl, rfl, rfl, rfl, trivial⟩ ?_
            refine T_seq ?_
            refine T_cutX (fun x => ((decide (r_25 < r_6.1)) || (decide (r_6.2.1 < r_25))) = x) (fun (t87_27 : Bool) => [(3, (.b 0 0)), (4, (intA r_4.2.1)), (5, (intA r_4.2.2)), (6, (intA r_6.1)), (7, (intA r_6.2.1)), (12, (boolA least12)), (13, (boolA most13)), (14, (intA k14)), (17, (intA r_25)), (87, (boolA t87_27))]) (fun (t87_27 : Bool) => [.box [(sl tRelation r_4.1.relations), (sl tFact r_4.1.facts)]]) ?_ ?_
            · skip
              refine T_region ?_
              refine Tp rfl rfl (pur_move rfl) rfl ?_
              refine Tp rfl rfl (pur_move rfl) rfl ?_
              refine Tp rfl rfl (pur_lss rfl rfl rfl) rfl ?_
              refine Tp rfl rfl (pur_move rfl) rfl ?_
              refine TO_split (t := decide (r_25 < r_6.1)) 83 rfl (fun g_29 => ?_) (fun g_29 => ?_)
              · skip
                refine TO_off rfl rfl (by decide) rfl rfl rfl ?_
                refine TO_off rfl rfl (by decide) rfl rfl rfl ?_
                refine TO_off rfl rfl (by decide) rfl rfl rfl ?_
                refine Tp rfl rfl (pur_pick (t := true) rfl rfl rfl) rfl ?_
                refine TO_nil ?_
                exact joined true (wp 1 (lb rfl) rfl rfl rfl rfl ⟨rfl, rfl, rfl, rfl, rfl, rfl, rfl, rfl, rfl, rfl, trivial⟩) (by first | exact Eq.symm ((or_T g_29 rfl)))
              · skip
                refine TO_on rfl rfl (by decide) rfl rfl (TOp_pure (pur_move rfl) rfl ?_)
                refine TO_on rfl rfl (by decide) rfl rfl (TOp_pure (pur_move rfl) rfl ?_)
                refine TO_on rfl rfl (by decide) rfl rfl (TOp_pure (pur_gtr rfl rfl rfl) rfl ?_)
                refine Tp rfl rfl (pur_pick (t := false) rfl rfl rfl) rfl ?_
                refine TO_nil ?_
                exact joined (decide (r_6.2.1 < r_25)) (wp 1 (lb rfl) rfl rfl rfl rfl ⟨rfl, rfl, rfl, rfl, rfl, rfl, rfl, rfl, rfl, rfl, trivial⟩) (by first | exact Eq.symm ((or_F g_29 rfl)))
            · rintro _ rfl
              refine T_env (E' := [(3, (.b 0 0)), (4, (intA r_4.2.1)), (5, (intA r_4.2.2)), (6, (intA r_6.1)), (7, (intA r_6.2.1)), (12, (boolA least12)), (13, (boolA most13)), (14, (intA k14)), (17, (intA r_25)), (87, (boolA ((decide (r_25 < r_6.1)) || (decide (r_6.2.1 < r_25)))))]) ⟨rfl, rfl, rfl, rfl, rfl, rfl, rfl, rfl, rfl, rfl, trivial⟩ ?_
              refine T_cond (t := ((decide (r_25 < r_6.1)) || (decide (r_6.2.1 < r_25)))) rfl (fun c_30 => ?_) (fun c_30 => ?_)
              · replace H := cond_t c_30 H
                refine sr ?_
                refine Tp rfl rfl (pur_assign rfl) rfl ?_
                refine TO_nil ?_
                refine T_env (E' := [(2, (boolA false))]) ⟨rfl, trivial⟩ ?_
                refine T_ret ?_
                refine then_ret ?_
                refine block_ret ?_
                refine then_ret ?_
                refine then_ret ?_
                refine block_ret ?_
                refine then_ret ?_
                obtain rfl := some_inj H
                obtain rfl := some_inj K19_
                replace H := onS_r N19_
                obtain rfl := some_inj H
                refine end_ret (.tmp .nil) rfl rfl ⟨?_, rfl⟩
                rfl
              · replace H := cond_f c_30 H
                refine T_skip ?_
                refine T_env (E' := [(3, (.b 0 0)), (4, (intA r_4.2.1)), (5, (intA r_4.2.2)), (6, (intA r_6.1)), (7, (intA r_6.2.1)), (12, (boolA least12)), (13, (boolA most13)), (14, (intA k14)), (17, (intA r_25))]) ⟨rfl, rfl, rfl, rfl, rfl, rfl, rfl, rfl, rfl, trivial⟩ ?_
                refine T_cutX (fun x => (least12 || (decide (r_25 = r_6.1))) = x) (fun (least12_31 : Bool) => [(3, (.b 0 0)), (4, (intA r_4.2.1)), (5, (intA r_4.2.2)), (6, (intA r_6.1)), (7, (intA r_6.2.1)), (12, (boolA least12_31)), (13, (boolA most13)), (14, (intA k14)), (17, (intA r_25))]) (fun (least12_31 : Bool) => [.box [(sl tRelation r_4.1.relations), (sl tFact r_4.1.facts)]]) ?_ ?_
                · skip
                  refine T_region ?_
                  refine Tp rfl rfl (pur_move rfl) rfl ?_
                  refine Tp rfl rfl (pur_move rfl) rfl ?_
                  refine TO_split (t := least12) 89 rfl (fun g_33 => ?_) (fun g_33 => ?_)
                  · skip
                    refine TO_off rfl rfl (by decide) rfl rfl rfl ?_
                    refine TO_off rfl rfl (by decide) rfl rfl rfl ?_
                    refine TO_off rfl rfl (by decide) rfl rfl rfl ?_
                    refine Tp rfl rfl (pur_pick (t := true) rfl rfl rfl) rfl ?_
                    refine Tp rfl rfl (pur_assign rfl) rfl ?_
                    refine TO_nil ?_
                    exact joined true (wp 1 (lb rfl) rfl rfl rfl rfl ⟨rfl, rfl, rfl, rfl, rfl, rfl, rfl, rfl, rfl, trivial⟩) (by first | exact Eq.symm ((or_T g_33 rfl)))
                  · skip
                    refine TO_on rfl rfl (by decide) rfl rfl (TOp_pure (pur_move rfl) rfl ?_)
                    refine TO_on rfl rfl (by decide) rfl rfl (TOp_pure (pur_move rfl) rfl ?_)
                    refine TO_on rfl rfl (by decide) rfl rfl (TOp_pure (pur_eql rfl rfl rfl) rfl ?_)
                    refine Tp rfl rfl (pur_pick (t := false) rfl rfl rfl) rfl ?_
                    refine Tp rfl rfl (pur_assign rfl) rfl ?_
                    refine TO_nil ?_
                    exact joined (decide (r_25 = r_6.1)) (wp 1 (lb rfl) rfl rfl rfl rfl ⟨rfl, rfl, rfl, rfl, rfl, rfl, rfl, rfl, rfl, trivial⟩) (by first | exact Eq.symm ((or_F g_33 rfl)))
                · rintro _ rfl
                  refine T_env (E' := [(3, (.b 0 0)), (4, (intA r_4.2.1)), (5, (intA r_4.2.2)), (6, (intA r_6.1)), (7, (intA r_6.2.1)), (12, (boolA (least12 || (decide (r_25 = r_6.1))))), (13, (boolA most13)), (14, (intA k14)), (17, (intA r_25))]) ⟨rfl, rfl, rfl, rfl, rfl, rfl, rfl, rfl, rfl, trivial⟩ ?_
                  refine T_region ?_
                  refine Tp rfl rfl (pur_move rfl) rfl ?_
                  refine Tp rfl rfl (pur_move rfl) rfl ?_
                  refine TO_split (t := most13) 95 rfl (fun g_34 => ?_) (fun g_34 => ?_)
                  · replace H := cond_t g_34 H
                    refine TO_off rfl rfl (by decide) rfl rfl rfl ?_
                    refine TO_off rfl rfl (by decide) rfl rfl rfl ?_
                    refine TO_off rfl rfl (by decide) rfl rfl rfl ?_
                    refine Tp rfl rfl (pur_pick (t := true) rfl rfl rfl) rfl ?_
                    refine Tp rfl rfl (pur_assign rfl) rfl ?_
                    refine TO_nil ?_
                    refine T_env (E' := [(3, (.b 0 0)), (4, (intA r_4.2.1)), (5, (intA r_4.2.2)), (6, (intA r_6.1)), (7, (intA r_6.2.1)), (12, (boolA (least12 || (decide (r_25 = r_6.1))))), (13, (boolA true)), (14, (intA k14))]) ⟨rfl, rfl, rfl, rfl, rfl, rfl, rfl, rfl, trivial⟩ ?_
                    refine T_region ?_
                    refine Tp rfl rfl (pur_move rfl) rfl ?_
                    refine Tp rfl rfl (pur_wadd rfl rfl rfl) rfl ?_
                    refine Tp rfl rfl (pur_assign rfl) rfl ?_
                    refine TO_nil ?_
                    obtain rfl := some_inj H
                    exact again k19 ((least12 || (decide (r_25 = r_6.1))), true, (w64 (k14 + 1))) (Nat.lt_succ_self _) (wp 1 (lb rfl) rfl rfl rfl rfl ⟨rfl, rfl, rfl, rfl, rfl, rfl, rfl, rfl, trivial⟩) K19_
                  · replace H := cond_f g_34 H
                    refine TO_on rfl rfl (by decide) rfl rfl (TOp_pure (pur_move rfl) rfl ?_)
                    refine TO_on rfl rfl (by decide) rfl rfl (TOp_pure (pur_move rfl) rfl ?_)
                    refine TO_on rfl rfl (by decide) rfl rfl (TOp_pure (pur_eql rfl rfl rfl) rfl ?_)
                    refine Tp rfl rfl (pur_pick (t := false) rfl rfl rfl) rfl ?_
                    refine Tp rfl rfl (pur_assign rfl) rfl ?_
                    refine TO_nil ?_
                    refine T_env (E' := [(3, (.b 0 0)), (4, (intA r_4.2.1)), (5, (intA r_4.2.2)), (6, (intA r_6.1)), (7, (intA r_6.2.1)), (12, (boolA (least12 || (decide (r_25 = r_6.1))))), (13, (boolA (decide (r_25 = r_6.2.1)))), (14, (intA k14))]) ⟨rfl, rfl, rfl, rfl, rfl, rfl, rfl, rfl, trivial⟩ ?_
                    refine T_region ?_
                    refine Tp rfl rfl (pur_move rfl) rfl ?_
                    refine Tp rfl rfl (pur_wadd rfl rfl rfl) rfl ?_
                    refine Tp rfl rfl (pur_assign rfl) rfl ?_
                    refine TO_nil ?_
                    obtain rfl := some_inj H
                    exact again k19 ((least12 || (decide (r_25 = r_6.1))), decide (r_25 = r_6.2.1), (w64 (k14 + 1))) (Nat.lt_succ_self _) (wp 1 (lb rfl) rfl rfl rfl rfl ⟨rfl, rfl, rfl, rfl, rfl, rfl, rfl, rfl, trivial⟩) K19_
          · replace H := cond_f c_22 H
            refine T_exit ?_
            refine then_exit ?_
            refine then_exit ?_
            refine block_exit ?_
            obtain rfl := some_inj H
            obtain rfl := some_inj K19_
            replace H := onS_l N19_
            refine T_env (E' := [(12, (boolA least12)), (13, (boolA most13))]) ⟨rfl, rfl, trivial⟩ ?_
            refine T_cutX (fun x => (least12 && most13) = x) (fun (t2_35 : Bool) => [(2, (boolA t2_35))]) (fun (t2_35 : Bool) => []) ?_ ?_
            · skip
              refine T_region ?_
              refine Tp rfl rfl (pur_move rfl) rfl ?_
              refine Tp rfl rfl (pur_move rfl) rfl ?_
              refine TO_split (t := least12) 101 rfl (fun g_37 => ?_) (fun g_37 => ?_)
              · skip
                refine TO_on rfl rfl (by decide) rfl rfl (TOp_pure (pur_move rfl) rfl ?_)
                refine Tp rfl rfl (pur_pick (t := true) rfl rfl rfl) rfl ?_
                refine Tp rfl rfl (pur_assign rfl) rfl ?_
                refine TO_nil ?_
                exact joined most13 (wp 0 (lb rfl) rfl rfl rfl rfl ⟨rfl, trivial⟩) (by first | exact Eq.symm ((and_T g_37 rfl)))
              · skip
                refine TO_off rfl rfl (by decide) rfl rfl rfl ?_
                refine Tp rfl rfl (pur_pick (t := false) rfl rfl rfl) rfl ?_
                refine Tp rfl rfl (pur_assign rfl) rfl ?_
                refine TO_nil ?_
                exact joined false (wp 0 (lb rfl) rfl rfl rfl rfl ⟨rfl, trivial⟩) (by first | exact Eq.symm ((and_F g_37 rfl)))
            · rintro _ rfl
              refine T_env (E' := [(2, (boolA (least12 && most13)))]) ⟨rfl, trivial⟩ ?_
              refine T_ret ?_
              obtain rfl := some_inj H
              refine end_ret (.tmp .nil) rfl rfl ⟨?_, rfl⟩
              rfl
end Go.Proofs.Ytlcpdlngbofgcaa

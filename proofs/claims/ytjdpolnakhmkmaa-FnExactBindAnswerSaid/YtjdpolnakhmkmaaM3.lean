import Derived.Test.YtjdpolnakhmkmaaM1
import Derived.Test.YtjdpolnakhmkmaaM2
set_option linter.unusedVariables false
set_option linter.unusedSimpArgs false
set_option maxRecDepth 4000
namespace Go.Proofs.Ytjdpolnakhmkmaa
open Go Go.Proofs Go.Sep
set_option maxHeartbeats 1000000 in
theorem m_impl_within_ok (n0 : Int) (low1 : Int) (high2 : Int) (r : Bool) (H : m_impl_within n0 low1 high2 = some r) : FnV prg 140 [(intA n0), (intA low1), (intA high2)] (boolA r) := by
  unfold m_impl_within at H
  refine fnV_of_T Try.func140 rfl rfl (Nat.le_of_ble_eq_true rfl) ?_
  refine te [(0, (intA n0)), (1, (intA low1)), (2, (intA high2))] rfl ?_
  refine sr ?_
  refine pv tb 1 rfl ?_
  refine TO_nil ?_
  refine T_cutX (fun x => ((decide (low1 ≤ n0)) && (decide (n0 ≤ high2))) = x) (fun (t6_1 : Bool) => [(6, (boolA t6_1))]) (fun (t6_1 : Bool) => []) ?_ ?_
  ·skip
   refine T_region ?_
   refine pv tb 4 rfl ?_
   refine TO_split (t := decide (low1 ≤ n0)) 10 rfl (fun g_3 => ?_) (fun g_3 => ?_)
   ·skip
    refine pv tb 5 rfl ?_
    refine TO_nil ?_
    exact joined (decide (n0 ≤ high2)) (w0 0) (by first | exact Eq.symm ((and_T g_3 rfl)))
   ·skip
    refine pv tb 5 rfl ?_
    refine TO_nil ?_
    exact joined false (w0 0) (by first | exact Eq.symm ((and_F g_3 rfl)))
  ·rintro _ rfl
   refine T_ret ?_
   obtain rfl := some_inj H
   refine end_ret (.tmp .nil) rfl rfl ⟨?_, rfl⟩
   rfl

set_option maxHeartbeats 1000000 in
theorem m_impl_bound_ok (t0 : Int) (variable1 : Int) (r : Int) (H : m_impl_bound t0 variable1 = some r) : FnV prg 141 [(intA t0), (intA variable1)] (intA r) := by
  unfold m_impl_bound at H
  refine fnV_of_T Try.func141 rfl rfl (Nat.le_of_ble_eq_true rfl) ?_
  refine te [(0, (intA t0)), (1, (intA variable1))] rfl ?_
  refine sr ?_
  refine pv tb 1 rfl ?_
  refine TO_nil ?_
  refine T_seq ?_
  refine sr ?_
  refine pv tb 3 rfl ?_
  refine TO_nil ?_
  refine T_cond (t := decide (variable1 < t0)) rfl (fun c_1 => ?_) (fun c_1 => ?_)
  ·replace H := cond_t c_1 H
   refine sr ?_
   refine pv tb 3 rfl ?_
   refine TO_nil ?_
   refine T_ret ?_
   refine then_ret ?_
   obtain rfl := some_inj H
   refine end_ret (.tmp .nil) rfl rfl ⟨?_, rfl⟩
   rfl
  ·replace H := cond_f c_1 H
   refine T_skip ?_
   refine sr ?_
   refine pv tb 2 rfl ?_
   refine TO_nil ?_
   refine T_ret ?_
   obtain rfl := some_inj H
   refine end_ret (.tmp .nil) rfl rfl ⟨?_, rfl⟩
   rfl

set_option maxHeartbeats 1000000 in
theorem m_impl_ConstantTerm_ok (v0 : Int) (r : Int) (H : m_impl_ConstantTerm v0 = some r) : FnV prg 142 [(intA v0)] (intA r) := by
  unfold m_impl_ConstantTerm at H
  refine fnV_of_T Try.func142 rfl rfl (Nat.le_of_ble_eq_true rfl) ?_
  refine te [(0, (intA v0))] rfl ?_
  refine sr ?_
  refine pv tb 1 rfl ?_
  refine TO_nil ?_
  refine sr ?_
  refine pv tb 3 rfl ?_
  refine TO_nil ?_
  refine T_ret ?_
  obtain rfl := some_inj H
  refine end_ret (.tmp .nil) rfl rfl ⟨?_, rfl⟩
  rfl

set_option maxHeartbeats 1000000 in
theorem m_impl_BindVariable_own (query0 : Query) (variable1 : Int) (value2 : Int) (r : (Query × Bool)) (H : m_impl_BindVariable query0 variable1 value2 = some r) : FnO prg 88 [(.g (tQuery.enc query0)), (intA variable1), (intA value2)] (.t [(.g [(intA r.1.variableCount), (.m [0] 0 r.1.atoms.length tAtom.k), (.m [1] 0 r.1.free.length tInt.k)]), (boolA r.2)]) [.row (flat tAtom.own r.1.atoms), .row (flat tInt.own r.1.free)] := by
  unfold m_impl_BindVariable at H
  refine fnO_of_T Try.func88 rfl rfl (Nat.le_of_ble_eq_true rfl) ?_
  refine te [(0, (.g (tQuery.enc query0))), (1, (intA variable1)), (2, (intA value2))] rfl ?_
  refine sr ?_
  refine TO_cons rfl (TOp_box rfl (boxAll rfl) rfl rfl ?_)
  refine TO_cons rfl (TOp_alloc zero29 rfl rfl ?_)
  refine pv tb 1 rfl ?_
  refine TO_nil ?_
  refine sr ?_
  obtain ⟨r_1, h_2, H⟩ := bind_inv H
  refine pv tb 1 rfl ?_
  refine TO_cons rfl (TOp_callO (call_static ent87 rfl) rfl (m_impl_copyQuery_own _ _ h_2) rfl rfl rfl ?_)
  refine toe [(1, (intA variable1)), (2, (intA value2)), (3, (.b 0 0)), (6, (.b 1 0)), (15, (.g (tQuery.enc query0))), (16, (.g [(intA r_1.variableCount), (.m [2] 0 r_1.atoms.length tAtom.k), (.m [3] 0 r_1.free.length tInt.k)]))] rfl ?_
  refine TO_st (σ' := [.box [(intA query0.variableCount), (sl tAtom query0.atoms), (sl tInt query0.free)], .box [(intA 0), .n, .n], .row (flat tAtom.own r_1.atoms), .row (flat tInt.own r_1.free)]) rfl ?_
  refine TO_cons rfl (TOp_alloc zero29 rfl rfl ?_)
  refine TO_cons rfl (TOp_storeB sz29 rfl rfl rfl rfl rfl rfl rfl (by decide) (lb rfl) rfl ?_)
  refine TO_st (σ' := [.box [(intA query0.variableCount), (sl tAtom query0.atoms), (sl tInt query0.free)], .box [(intA 0), .n, .n], .row (flat tAtom.own r_1.atoms), .row (flat tInt.own r_1.free), .box [(intA r_1.variableCount), (.m [2] 0 r_1.atoms.length tAtom.k), (.m [3] 0 r_1.free.length tInt.k)]]) rfl ?_
  refine TO_nil ?_
  refine T_seq ?_
  obtain ⟨t27_3, J_3, H_4⟩ := bind_inv H
  refine T_cutX (fun x => t27_3 = x) (fun (t27_3 : Bool) => [(1, (intA variable1)), (2, (intA value2)), (3, (.b 0 0)), (6, (.b 1 0)), (8, (.b 4 0)), (27, (boolA t27_3))]) (fun (t27_3 : Bool) => [.box [(intA query0.variableCount), (sl tAtom query0.atoms), (sl tInt query0.free)], .box [(intA 0), .n, .n], .row (flat tAtom.own r_1.atoms), .row (flat tInt.own r_1.free), .box [(intA r_1.variableCount), (.m [2] 0 r_1.atoms.length tAtom.k), (.m [3] 0 r_1.free.length tInt.k)]]) ?_ ?_
  ·replace H := J_3
   refine T_region ?_
   obtain ⟨r_5, h_6, H⟩ := bind_inv H
   refine pv tb 4 rfl ?_
   refine TO_cons rfl (TOp_callV (call_static ent140 rfl) (m_impl_within_ok _ _ _ _ h_6) rfl rfl rfl ?_)
   refine pv tb 2 rfl ?_
   refine TO_split (t := (!r_5)) 23 rfl (fun g_7 => ?_) (fun g_7 => ?_)
   ·replace H := cond_t g_7 H
    refine pv tb 4 rfl ?_
    refine TO_nil ?_
    exact joined true (w0 5) (some_inj H).symm
   ·replace H := cond_f g_7 H
    obtain ⟨r_8, h_9, H⟩ := bind_inv H
    refine pv tb 1 rfl ?_
    refine TO_on rfl rfl (by decide) rfl rfl (TOp_callV (call_static ent140 rfl) (m_impl_within_ok _ _ _ _ h_9) rfl rfl rfl ?_)
    refine pv tb 2 rfl ?_
    refine TO_nil ?_
    exact joined (!r_8) (w0 5) (some_inj H).symm
  ·rintro _ rfl
   replace H := H_4
   refine T_cond (t := t27_3) rfl (fun c_10 => ?_) (fun c_10 => ?_)
   ·replace H := cond_t c_10 H
    refine sr ?_
    refine pv tb 1 rfl ?_
    refine TO_cons rfl (TOp_storeB sz29 rfl rfl rfl rfl rfl rfl rfl (by decide) (lb rfl) rfl ?_)
    refine TO_st (σ' := [.box [(intA query0.variableCount), (sl tAtom query0.atoms), (sl tInt query0.free)], .box [(intA r_1.variableCount), (.m [2] 0 r_1.atoms.length tAtom.k), (.m [3] 0 r_1.free.length tInt.k)], .row (flat tAtom.own r_1.atoms), .row (flat tInt.own r_1.free), .box [(intA r_1.variableCount), (.m [2] 0 r_1.atoms.length tAtom.k), (.m [3] 0 r_1.free.length tInt.k)]]) rfl ?_
    refine pv tb 1 rfl ?_
    refine TO_nil ?_
    refine T_ret ?_
    refine then_ret ?_
    obtain rfl := some_inj H
    exact end_pick (.cellK rfl agg29 rfl (lb rfl) (.tmp .nil)) rfl [2, 3] (by decide) rfl rfl rfl rfl rfl rfl
   ·replace H := cond_f c_10 H
    refine T_skip ?_
    refine T_seq ?_
    refine sr ?_
    refine pv tb 2 rfl ?_
    refine Tp rfl rfl (pur_len_m sl27 rfl rfl) rfl ?_
    refine pv tb 1 rfl ?_
    refine TO_nil ?_
    obtain ⟨O12_, L12_, N12_⟩ := bind_inv H
    clear H
    obtain ⟨B12_, hb12, L12_⟩ := gen_forM L12_
    refine T_block ?_
    refine T_loopX (fun k => fun (⟨t_11, t30m⟩ : Int × (List Atom)) => k = ((r_1.atoms.length : Int) - t_11).toNat ∧ 0 ≤ t_11 ∧ forM B12_ ((r_1.atoms.length : Int) - t_11).toNat t_11 t30m = some O12_ ∧ t30m.length = r_1.atoms.length) (fun (⟨t_11, t30m⟩ : Int × (List Atom)) => [(1, (intA variable1)), (2, (intA value2)), (3, (.b 0 0)), (6, (.b 1 0)), (8, (.b 4 0)), (30, (.m [2] 0 t30m.length tAtom.k)), (31, (intA (r_1.atoms.length : Int))), (32, (intA (t_11 : Int)))]) (fun (⟨t_11, t30m⟩ : Int × (List Atom)) => [.box [(intA query0.variableCount), (sl tAtom query0.atoms), (sl tInt query0.free)], .box [(intA 0), .n, .n], .row (flat tAtom.own t30m), .row (flat tInt.own r_1.free), .box [(intA r_1.variableCount), (.m [2] 0 t30m.length tAtom.k), (.m [3] 0 r_1.free.length tInt.k)]]) _ (0, r_1.atoms) (w0 5) ⟨rfl, Int.le_refl _, L12_, rfl⟩ ?_
    rintro _ ⟨t_11, t30m⟩ ⟨rfl, hi12, L12_, hq_t30m⟩
    replace hq_t30m : t30m.length = r_1.atoms.length := hq_t30m
    refine T_fact (len_m (.tmp 30) rfl) (fun hl12 => ?_)
    refine sr ?_
    refine pv tb 1 rfl ?_
    refine TO_nil ?_
    refine T_seq ?_
    refine T_cond (t := decide ((t_11 : Int) < (r_1.atoms.length : Int))) rfl (fun d12 => ?_) (fun d12 => ?_)
    ·replace d12 := of_decide_eq_true d12
     replace d12 : (t_11 : Int) < (r_1.atoms.length : Int) := by omega
     obtain ⟨C12_, H, K12_⟩ := forM_step L12_ d12
     rw [hb12] at H
     refine T_skip ?_
     refine T_seq ?_
     refine T_block ?_
     refine sr ?_
     obtain ⟨v_13, h_14, H⟩ := bind_inv H
     obtain ⟨n_15, hz_16, hv_17⟩ := getI_inv h_14
     refine Tp rfl rfl (pur_ixM (T := tAtom) sl27 rfl rfl hz_16 hv_17 rfl) rfl ?_
     refine Tp rfl rfl (pur_ldEK (f := tAtom.own) (k := tAtom.k) (i := n_15) (off := 0) tAtom.lenO rfl agg150 rfl rfl rfl hv_17 (by decide) (cvCons rfl (cvCons cellVal_sl cvNil))) rfl ?_
     refine TO_cons rfl (TOp_alloc zero150 rfl rfl ?_)
     refine TO_cons rfl (TOp_storeB sz150 rfl rfl rfl rfl rfl rfl rfl (by decide) (lb rfl) rfl ?_)
     refine TO_st (σ' := [.box [(intA query0.variableCount), (sl tAtom query0.atoms), (sl tInt query0.free)], .box [(intA 0), .n, .n], .row (flat tAtom.own t30m), .row (flat tInt.own r_1.free), .box [(intA r_1.variableCount), (.m [2] 0 t30m.length tAtom.k), (.m [3] 0 r_1.free.length tInt.k)], .box [(intA v_13.relation), (.m [2, n_15 * tAtom.k + 1] 0 v_13.terms.length tInt.k)]]) rfl ?_
     refine TO_nil ?_
     refine sr ?_
     refine pv tb 2 rfl ?_
     refine Tp rfl rfl (pur_len_m sl23 rfl rfl) rfl ?_
     refine pv tb 1 rfl ?_
     refine TO_nil ?_
     refine T_env (E' := [(1, (intA variable1)), (2, (intA value2)), (3, (.b 0 0)), (6, (.b 1 0)), (8, (.b 4 0)), (10, (.b 5 0)), (30, (.m [2] 0 (t30m.set ((t_11 : Int)).toNat v_13).length tAtom.k)), (31, (intA (r_1.atoms.length : Int))), (32, (intA (t_11 : Int))), (37, (.m [2, n_15 * tAtom.k + 1] 0 v_13.terms.length tInt.k)), (38, (intA (v_13.terms.length : Int))), (39, (intA 0))]) ⟨rfl, rfl, rfl, rfl, rfl, rfl, (congrArg (fun q => A.m [2] 0 q tAtom.k) (List.length_set ..).symm), rfl, rfl, rfl, rfl, rfl, trivial⟩ ?_
     refine T_st (σ' := [.box [(intA query0.variableCount), (sl tAtom query0.atoms), (sl tInt query0.free)], .box [(intA 0), .n, .n], .row (flat tAtom.own (t30m.set ((t_11 : Int)).toNat v_13)), .row (flat tInt.own r_1.free), .box [(intA r_1.variableCount), (.m [2] 0 (t30m.set ((t_11 : Int)).toNat v_13).length tAtom.k), (.m [3] 0 r_1.free.length tInt.k)], .box [(intA v_13.relation), (.m [2, n_15 * tAtom.k + 1] 0 v_13.terms.length tInt.k)]]) (by simp only [set_id hz_16 hv_17, List.length_set]) ?_
     obtain ⟨O19_, L19_, N19_⟩ := bind_inv H
     clear H
     obtain ⟨B19_, hb19, L19_⟩ := gen_forM L19_
     refine T_block ?_
     refine T_loopX (fun k => fun (⟨t_18, nest2_terms⟩ : Int × (List Int)) => k = ((v_13.terms.length : Int) - t_18).toNat ∧ 0 ≤ t_18 ∧ forM B19_ ((v_13.terms.length : Int) - t_18).toNat t_18 nest2_terms = some O19_ ∧ nest2_terms.length = v_13.terms.length) (fun (⟨t_18, nest2_terms⟩ : Int × (List Int)) => [(1, (intA variable1)), (2, (intA value2)), (3, (.b 0 0)), (6, (.b 1 0)), (8, (.b 4 0)), (10, (.b 5 0)), (30, (.m [2] 0 (t30m.set ((t_11 : Int)).toNat ({ relation := v_13.relation, terms := nest2_terms } : Atom)).length tAtom.k)), (31, (intA (r_1.atoms.length : Int))), (32, (intA (t_11 : Int))), (37, (.m [2, n_15 * tAtom.k + 1] 0 nest2_terms.length tInt.k)), (38, (intA (v_13.terms.length : Int))), (39, (intA (t_18 : Int)))]) (fun (⟨t_18, nest2_terms⟩ : Int × (List Int)) => [.box [(intA query0.variableCount), (sl tAtom query0.atoms), (sl tInt query0.free)], .box [(intA 0), .n, .n], .row (flat tAtom.own (t30m.set ((t_11 : Int)).toNat ({ relation := v_13.relation, terms := nest2_terms } : Atom))), .row (flat tInt.own r_1.free), .box [(intA r_1.variableCount), (.m [2] 0 (t30m.set ((t_11 : Int)).toNat ({ relation := v_13.relation, terms := nest2_terms } : Atom)).length tAtom.k), (.m [3] 0 r_1.free.length tInt.k)], .box [(intA v_13.relation), (.m [2, n_15 * tAtom.k + 1] 0 nest2_terms.length tInt.k)]]) _ (0, v_13.terms) (w0 6) ⟨rfl, Int.le_refl _, L19_, rfl⟩ ?_
     rintro _ ⟨t_18, nest2_terms⟩ ⟨rfl, hi19, L19_, hq_nest2_terms⟩
     replace hq_nest2_terms : nest2_terms.length = v_13.terms.length := hq_nest2_terms
     refine T_fact (len_m (.tmp 37) rfl) (fun hl19 => ?_)
     refine sr ?_
     refine pv tb 1 rfl ?_
     refine TO_nil ?_
     refine T_seq ?_
     refine T_cond (t := decide ((t_18 : Int) < (v_13.terms.length : Int))) rfl (fun d19 => ?_) (fun d19 => ?_)
     ·replace d19 := of_decide_eq_true d19
      replace d19 : (t_18 : Int) < (v_13.terms.length : Int) := by omega
      obtain ⟨C19_, H, K19_⟩ := forM_step L19_ d19
      rw [hb19] at H
      refine T_skip ?_
      refine T_seq ?_
      refine T_block ?_
      refine sr ?_
      obtain ⟨v_20, h_21, H⟩ := bind_inv H
      obtain ⟨n_22, hz_23, hv_24⟩ := getI_inv h_21
      refine pv tb 1 rfl ?_
      refine Tp rfl rfl (pur_ixM (T := tInt) sl23 rfl rfl hz_23 hv_24 rfl) rfl ?_
      refine Tp rfl rfl (pur_ldE (f := tInt.own) (k := tInt.k) (i := n_22) (off := 0) tInt.lenO rfl one3 rfl (rowAt_el (f := tAtom.own) (i := n_15) (off := 1) tAtom.lenO rfl (set_el hz_16 hv_17) rfl) rfl hv_24 rfl rfl) rfl ?_
      refine pv tb 2 rfl ?_
      refine TO_nil ?_
      obtain ⟨r_25, h_26, H⟩ := bind_inv H
      refine T_cutX (fun (_ : Unit) => True) (fun _ => [(1, (intA variable1)), (2, (intA value2)), (3, (.b 0 0)), (6, (.b 1 0)), (8, (.b 4 0)), (10, (.b 5 0)), (11, (intA (t_18 : Int))), (12, (intA v_20)), (30, (.m [2] 0 (t30m.set ((t_11 : Int)).toNat ({ relation := v_13.relation, terms := (nest2_terms.set ((t_18 : Int)).toNat r_25) } : Atom)).length tAtom.k)), (31, (intA (r_1.atoms.length : Int))), (32, (intA (t_11 : Int))), (37, (.m [2, n_15 * tAtom.k + 1] 0 (nest2_terms.set ((t_18 : Int)).toNat r_25).length tInt.k)), (38, (intA (v_13.terms.length : Int))), (39, (intA (t_18 : Int)))]) (fun _ => [.box [(intA query0.variableCount), (sl tAtom query0.atoms), (sl tInt query0.free)], .box [(intA 0), .n, .n], .row (flat tAtom.own (t30m.set ((t_11 : Int)).toNat ({ relation := v_13.relation, terms := (nest2_terms.set ((t_18 : Int)).toNat r_25) } : Atom))), .row (flat tInt.own r_1.free), .box [(intA r_1.variableCount), (.m [2] 0 (t30m.set ((t_11 : Int)).toNat ({ relation := v_13.relation, terms := (nest2_terms.set ((t_18 : Int)).toNat r_25) } : Atom)).length tAtom.k), (.m [3] 0 r_1.free.length tInt.k)], .box [(intA v_13.relation), (.m [2, n_15 * tAtom.k + 1] 0 (nest2_terms.set ((t_18 : Int)).toNat r_25).length tInt.k)]]) ?_ ?_
      ·skip
       refine T_regionPh 6 7 mixed rfl (by kernel_rfl) ?_
       refine pa tb [0, 1, 2, 3, 4] 2 rfl (by kernel_rfl) rfl ?_
       refine t1 5 (by kernel_rfl) rfl rfl (TOp_callV (call_static ent141 rfl) (m_impl_bound_ok _ _ _ h_26) rfl rfl rfl ?_)
       refine tf 6 rfl (pur_ixM (T := tInt) sl23 rfl rfl hz_23 hv_24 rfl) rfl rfl (by kernel_rfl) ?_
       refine TA_nil (by kernel_rfl) ?_
       refine TA_st (σ' := [.box [(intA query0.variableCount), (sl tAtom query0.atoms), (sl tInt query0.free)], .box [(intA 0), .n, .n], .row (flat tAtom.own (t30m.set ((t_11 : Int)).toNat ({ relation := v_13.relation, terms := nest2_terms } : Atom))), .row (flat tInt.own r_1.free), .box [(intA r_1.variableCount), (.m [2] 0 (t30m.set ((t_11 : Int)).toNat ({ relation := v_13.relation, terms := nest2_terms } : Atom)).length tAtom.k), (.m [3] 0 r_1.free.length tInt.k)], .box [(intA v_13.relation), (.m [2, n_15 * tAtom.k + 1] 0 nest2_terms.length tInt.k)]]) rfl ?_
       refine t1 7 (by kernel_rfl) rfl rfl (TOp_setR (T := tAtom) (T2 := tInt) (i := n_15) (off := 1) (v := ({ relation := v_13.relation, terms := nest2_terms } : Atom)) (v' := ({ relation := v_13.relation, terms := (nest2_terms.set ((t_18 : Int)).toNat r_25) } : Atom)) hz_16 hz_23 sz3 rfl rfl rfl rfl rfl (set_el hz_16 hv_17) rfl hv_24 rfl rfl rfl ?_)
       refine TA_env (E' := [(1, (intA variable1)), (2, (intA value2)), (3, (.b 0 0)), (6, (.b 1 0)), (8, (.b 4 0)), (10, (.b 5 0)), (11, (intA (t_18 : Int))), (12, (intA v_20)), (30, (.m [2] 0 (t30m.set ((t_11 : Int)).toNat ({ relation := v_13.relation, terms := (nest2_terms.set ((t_18 : Int)).toNat r_25) } : Atom)).length tAtom.k)), (31, (intA (r_1.atoms.length : Int))), (32, (intA (t_11 : Int))), (37, (.m [2, n_15 * tAtom.k + 1] 0 (nest2_terms.set ((t_18 : Int)).toNat r_25).length tInt.k)), (38, (intA (v_13.terms.length : Int))), (39, (intA (t_18 : Int))), (49, (intA r_25))]) ⟨rfl, rfl, rfl, rfl, rfl, rfl, rfl, rfl, (congrArg (fun q => A.m [2] 0 q tAtom.k) ((List.length_set ..).trans (List.length_set ..).symm)), rfl, rfl, (congrArg (fun q => A.m [2, n_15 * tAtom.k + 1] 0 q tInt.k) (List.length_set ..).symm), rfl, rfl, rfl, trivial⟩ ?_
       refine TA_st (σ' := [.box [(intA query0.variableCount), (sl tAtom query0.atoms), (sl tInt query0.free)], .box [(intA 0), .n, .n], .row (flat tAtom.own ((t30m.set ((t_11 : Int)).toNat ({ relation := v_13.relation, terms := nest2_terms } : Atom)).set ((t_11 : Int)).toNat ({ relation := v_13.relation, terms := (nest2_terms.set ((t_18 : Int)).toNat r_25) } : Atom))), .row (flat tInt.own r_1.free), .box [(intA r_1.variableCount), (.m [2] 0 (t30m.set ((t_11 : Int)).toNat ({ relation := v_13.relation, terms := nest2_terms } : Atom)).length tAtom.k), (.m [3] 0 r_1.free.length tInt.k)], .box [(intA v_13.relation), (.m [2, n_15 * tAtom.k + 1] 0 nest2_terms.length tInt.k)]]) rfl ?_
       refine TA_st (σ' := [.box [(intA query0.variableCount), (sl tAtom query0.atoms), (sl tInt query0.free)], .box [(intA 0), .n, .n], .row (flat tAtom.own (t30m.set ((t_11 : Int)).toNat ({ relation := v_13.relation, terms := (nest2_terms.set ((t_18 : Int)).toNat r_25) } : Atom))), .row (flat tInt.own r_1.free), .box [(intA r_1.variableCount), (.m [2] 0 (t30m.set ((t_11 : Int)).toNat ({ relation := v_13.relation, terms := (nest2_terms.set ((t_18 : Int)).toNat r_25) } : Atom)).length tAtom.k), (.m [3] 0 r_1.free.length tInt.k)], .box [(intA v_13.relation), (.m [2, n_15 * tAtom.k + 1] 0 (nest2_terms.set ((t_18 : Int)).toNat r_25).length tInt.k)]]) (by simp only [List.set_set, List.length_set]) ?_
       exact TA_nil (by kernel_rfl) (joined () (w0 6) trivial)
      ·rintro _ _
       refine sr ?_
       refine pv tb 3 rfl ?_
       refine TO_nil ?_
       refine T_cond (t := decide (v_20 = variable1)) rfl (fun c_27 => ?_) (fun c_27 => ?_)
       ·replace H := cond_t c_27 H
        obtain ⟨r_28, h_29, H⟩ := bind_inv H
        obtain ⟨v_30, h_31, H⟩ := bind_inv H
        obtain ⟨n_32, hz_33, hv_34⟩ := getI_inv h_31
        refine T_regionPh 6 6 mixed rfl (by kernel_rfl) ?_
        refine pa tb [0, 1, 2, 3] 2 rfl (by kernel_rfl) rfl ?_
        refine t1 4 (by kernel_rfl) rfl rfl (TOp_callV (call_static ent142 rfl) (m_impl_ConstantTerm_ok _ _ h_29) rfl rfl rfl ?_)
        refine tf 5 rfl (pur_ixM (T := tInt) sl23 rfl rfl hz_33 hv_34 rfl) rfl rfl (by kernel_rfl) ?_
        refine TA_nil (by kernel_rfl) ?_
        refine TA_st (σ' := [.box [(intA query0.variableCount), (sl tAtom query0.atoms), (sl tInt query0.free)], .box [(intA 0), .n, .n], .row (flat tAtom.own (t30m.set ((t_11 : Int)).toNat ({ relation := v_13.relation, terms := (nest2_terms.set ((t_18 : Int)).toNat r_25) } : Atom))), .row (flat tInt.own r_1.free), .box [(intA r_1.variableCount), (.m [2] 0 (t30m.set ((t_11 : Int)).toNat ({ relation := v_13.relation, terms := (nest2_terms.set ((t_18 : Int)).toNat r_25) } : Atom)).length tAtom.k), (.m [3] 0 r_1.free.length tInt.k)], .box [(intA v_13.relation), (.m [2, n_15 * tAtom.k + 1] 0 (nest2_terms.set ((t_18 : Int)).toNat r_25).length tInt.k)]]) rfl ?_
        refine t1 6 (by kernel_rfl) rfl rfl (TOp_setR (T := tAtom) (T2 := tInt) (i := n_15) (off := 1) (v := ({ relation := v_13.relation, terms := (nest2_terms.set ((t_18 : Int)).toNat r_25) } : Atom)) (v' := ({ relation := v_13.relation, terms := ((nest2_terms.set ((t_18 : Int)).toNat r_25).set ((t_18 : Int)).toNat r_28) } : Atom)) hz_16 hz_33 sz3 rfl rfl rfl rfl rfl (set_el hz_16 hv_17) rfl hv_34 rfl rfl rfl ?_)
        refine TA_env (E' := [(1, (intA variable1)), (2, (intA value2)), (3, (.b 0 0)), (6, (.b 1 0)), (8, (.b 4 0)), (10, (.b 5 0)), (30, (.m [2] 0 (t30m.set ((t_11 : Int)).toNat ({ relation := v_13.relation, terms := ((nest2_terms.set ((t_18 : Int)).toNat r_25).set ((t_18 : Int)).toNat r_28) } : Atom)).length tAtom.k)), (31, (intA (r_1.atoms.length : Int))), (32, (intA (t_11 : Int))), (37, (.m [2, n_15 * tAtom.k + 1] 0 ((nest2_terms.set ((t_18 : Int)).toNat r_25).set ((t_18 : Int)).toNat r_28).length tInt.k)), (38, (intA (v_13.terms.length : Int))), (39, (intA (t_18 : Int))), (58, (intA r_28))]) ⟨rfl, rfl, rfl, rfl, rfl, rfl, (congrArg (fun q => A.m [2] 0 q tAtom.k) ((List.length_set ..).trans (List.length_set ..).symm)), rfl, rfl, (congrArg (fun q => A.m [2, n_15 * tAtom.k + 1] 0 q tInt.k) (List.length_set ..).symm), rfl, rfl, rfl, trivial⟩ ?_
        refine TA_st (σ' := [.box [(intA query0.variableCount), (sl tAtom query0.atoms), (sl tInt query0.free)], .box [(intA 0), .n, .n], .row (flat tAtom.own ((t30m.set ((t_11 : Int)).toNat ({ relation := v_13.relation, terms := (nest2_terms.set ((t_18 : Int)).toNat r_25) } : Atom)).set ((t_11 : Int)).toNat ({ relation := v_13.relation, terms := ((nest2_terms.set ((t_18 : Int)).toNat r_25).set ((t_18 : Int)).toNat r_28) } : Atom))), .row (flat tInt.own r_1.free), .box [(intA r_1.variableCount), (.m [2] 0 (t30m.set ((t_11 : Int)).toNat ({ relation := v_13.relation, terms := (nest2_terms.set ((t_18 : Int)).toNat r_25) } : Atom)).length tAtom.k), (.m [3] 0 r_1.free.length tInt.k)], .box [(intA v_13.relation), (.m [2, n_15 * tAtom.k + 1] 0 (nest2_terms.set ((t_18 : Int)).toNat r_25).length tInt.k)]]) rfl ?_
        refine TA_st (σ' := [.box [(intA query0.variableCount), (sl tAtom query0.atoms), (sl tInt query0.free)], .box [(intA 0), .n, .n], .row (flat tAtom.own (t30m.set ((t_11 : Int)).toNat ({ relation := v_13.relation, terms := ((nest2_terms.set ((t_18 : Int)).toNat r_25).set ((t_18 : Int)).toNat r_28) } : Atom))), .row (flat tInt.own r_1.free), .box [(intA r_1.variableCount), (.m [2] 0 (t30m.set ((t_11 : Int)).toNat ({ relation := v_13.relation, terms := ((nest2_terms.set ((t_18 : Int)).toNat r_25).set ((t_18 : Int)).toNat r_28) } : Atom)).length tAtom.k), (.m [3] 0 r_1.free.length tInt.k)], .box [(intA v_13.relation), (.m [2, n_15 * tAtom.k + 1] 0 ((nest2_terms.set ((t_18 : Int)).toNat r_25).set ((t_18 : Int)).toNat r_28).length tInt.k)]]) (by simp only [List.set_set, List.length_set]) ?_
        refine TA_nil (by kernel_rfl) ?_
        refine T_region ?_
        refine Tp rfl rfl (pur_add rfl rfl rfl (fits64 (by omega) (by omega))) rfl ?_
        refine pv tb 1 rfl ?_
        refine TO_nil ?_
        obtain rfl := some_inj H
        exact again ((v_13.terms.length : Int) - (t_18 + 1)).toNat (t_18 + 1, ((nest2_terms.set ((t_18 : Int)).toNat r_25).set ((t_18 : Int)).toNat r_28)) (by omega) (w0 6) ⟨rfl, by omega, K19_, ((List.length_set ..).trans ((List.length_set ..).trans hq_nest2_terms))⟩
       ·replace H := cond_f c_27 H
        refine T_skip ?_
        refine T_region ?_
        refine Tp rfl rfl (pur_add rfl rfl rfl (fits64 (by omega) (by omega))) rfl ?_
        refine pv tb 1 rfl ?_
        refine TO_nil ?_
        obtain rfl := some_inj H
        exact again ((v_13.terms.length : Int) - (t_18 + 1)).toNat (t_18 + 1, (nest2_terms.set ((t_18 : Int)).toNat r_25)) (by omega) (w0 6) ⟨rfl, by omega, K19_, ((List.length_set ..).trans hq_nest2_terms)⟩
     ·replace d19 := of_decide_eq_false d19
      obtain rfl := forM_end L19_ (by omega)
      refine T_exit ?_
      refine then_exit ?_
      refine then_exit ?_
      refine block_exit ?_
      replace H := N19_
      refine T_region ?_
      refine Tp rfl rfl (pur_add rfl rfl rfl (fits64 (by omega) (by omega))) rfl ?_
      refine pv tb 1 rfl ?_
      refine TO_nil ?_
      obtain rfl := some_inj H
      exact again ((r_1.atoms.length : Int) - (t_11 + 1)).toNat (t_11 + 1, (t30m.set ((t_11 : Int)).toNat ({ relation := v_13.relation, terms := nest2_terms } : Atom))) (by omega) (w0 5) ⟨rfl, by omega, K12_, ((List.length_set ..).trans hq_t30m)⟩
    ·replace d12 := of_decide_eq_false d12
     obtain rfl := forM_end L12_ (by omega)
     refine T_exit ?_
     refine then_exit ?_
     refine then_exit ?_
     refine block_exit ?_
     replace H := N12_
     refine sr ?_
     refine pv tb 1 rfl ?_
     refine TO_cons rfl (TOp_storeB sz23 rfl rfl rfl rfl rfl rfl rfl (by decide) (lb rfl) rfl ?_)
     refine TO_st (σ' := [.box [(intA query0.variableCount), (sl tAtom query0.atoms), (sl tInt query0.free)], .box [(intA 0), .n, .n], .row (flat tAtom.own t30m), .row (flat tInt.own r_1.free), .box [(intA r_1.variableCount), (.m [2] 0 t30m.length tAtom.k), .n]]) rfl ?_
     refine TO_nil ?_
     refine T_seq ?_
     refine sr ?_
     refine pv tb 2 rfl ?_
     refine Tp rfl rfl (pur_lenT (T := tInt) sl23 rfl rfl) rfl ?_
     refine pv tb 1 rfl ?_
     refine TO_nil ?_
     refine T_row0 ?_
     refine T_boxle (xs := [(intA r_1.variableCount), (.m [2] 0 t30m.length tAtom.k), .n]) (ys := [(intA r_1.variableCount), (.m [2] 0 t30m.length tAtom.k), (.m [5] 0 ([] : (List Int)).length tInt.k)]) 4 rfl (leCons (leR rfl) (leCons (leR rfl) (leCons leM leNil))) ?_
     refine T_st (σ' := [.box [(intA query0.variableCount), (sl tAtom query0.atoms), (sl tInt query0.free)], .box [(intA 0), .n, .n], .row (flat tAtom.own t30m), .row (flat tInt.own r_1.free), .box [(intA r_1.variableCount), (.m [2] 0 t30m.length tAtom.k), (.m [5] 0 ([] : (List Int)).length tInt.k)], .row (flat tInt.enc ([] : (List Int)))]) rfl ?_
     obtain ⟨O36_, L36_, N36_⟩ := bind_inv H
     clear H
     obtain ⟨B36_, hb36, L36_⟩ := gen_forS L36_
     refine T_block ?_
     refine T_loopX (fun k => fun (⟨t_35, box4_free⟩ : Nat × (List Int)) => k = query0.free.length - t_35 ∧ forS B36_ (query0.free.drop t_35) (t_35 : Int) box4_free = some O36_) (fun (⟨t_35, box4_free⟩ : Nat × (List Int)) => [(1, (intA variable1)), (6, (.b 1 0)), (8, (.b 4 0)), (64, (sl tInt query0.free)), (65, (intA (query0.free.length : Int))), (66, (intA (t_35 : Int)))]) (fun (⟨t_35, box4_free⟩ : Nat × (List Int)) => [.box [(intA query0.variableCount), (sl tAtom query0.atoms), (sl tInt query0.free)], .box [(intA 0), .n, .n], .row (flat tAtom.own t30m), .row (flat tInt.own r_1.free), .box [(intA r_1.variableCount), (.m [2] 0 t30m.length tAtom.k), (.m [5] 0 box4_free.length tInt.k)], .row (flat tInt.enc box4_free)]) _ (0, ([] : (List Int))) (w0 6) ⟨rfl, L36_⟩ ?_
     rintro _ ⟨t_35, box4_free⟩ ⟨rfl, L36_⟩
     refine T_fact (len_sl (T := tInt) (.tmp 64) rfl) (fun hl36 => ?_)
     refine sr ?_
     refine pv tb 1 rfl ?_
     refine TO_nil ?_
     refine T_seq ?_
     refine T_cond (t := decide ((t_35 : Int) < (query0.free.length : Int))) rfl (fun d36 => ?_) (fun d36 => ?_)
     ·replace d36 := of_decide_eq_true d36
      obtain ⟨x_t_35, hx_t_35⟩ : ∃ v, (query0.free)[t_35]? = some v := ⟨_, List.getElem?_eq_getElem (by omega)⟩
      obtain ⟨C36_, H, K36_⟩ := forS_step L36_ hx_t_35
      rw [hb36] at H
      refine T_skip ?_
      refine T_seq ?_
      refine T_block ?_
      refine sr ?_
      refine Tp rfl rfl (pur_ixT (T := tInt) sl23 rfl rfl rfl hx_t_35 rfl) rfl ?_
      refine Tp rfl rfl (pur_ldT (T := tInt) (i := t_35) (off := 0) rfl one3 rfl rfl hx_t_35 rfl) rfl ?_
      refine pv tb 1 rfl ?_
      refine TO_nil ?_
      refine sr ?_
      refine pv tb 3 rfl ?_
      refine TO_nil ?_
      refine T_cond (t := decide (x_t_35 ≠ variable1)) rfl (fun c_37 => ?_) (fun c_37 => ?_)
      ·replace H := cond_t c_37 H
       obtain ⟨r_38, h_39, H⟩ := bind_inv H
       obtain ⟨us_40, h_41, H⟩ := bind_inv H
       refine T_pad ?_
       refine T_pad ?_
       refine T_regionPh 6 8 mixed rfl (by kernel_rfl) ?_
       refine pa tb [0, 1, 2, 3] 4 rfl (by kernel_rfl) rfl ?_
       refine t1 4 (by kernel_rfl) rfl rfl (TOp_callV (call_static ent141 rfl) (m_impl_bound_ok _ _ _ h_39) rfl rfl rfl ?_)
       refine t1 5 (by kernel_rfl) rfl rfl (TOp_lit (nn := 1) (k := 1) sl23 zero3 rfl rfl rfl rfl (by decide) ?_)
       refine tmw 6 8 (by decide) (lb rfl) rfl rfl (lb rfl) rfl ?_
       refine t1 6 (by kernel_rfl) rfl rfl (TOp_appY (T := tInt) (f := tInt.enc) (xs := box4_free) (ys := ([r_38] : (List Int))) tInt.len sl23 zero3 rfl bytes3 (by decide) rfl rfl rfl rfl (src_mT (f := tInt.enc) tInt.len rfl rfl (flat_cell tInt _)) (flat_cell tInt _) h_41 ?_)
       refine tmw 7 9 (by decide) (lb rfl) rfl rfl (lb rfl) rfl ?_
       refine tae [(1, (intA variable1)), (6, (.b 1 0)), (8, (.b 4 0)), (64, (sl tInt query0.free)), (65, (intA (query0.free.length : Int))), (66, (intA (t_35 : Int))), (79, (.m [7] 0 us_40.length tInt.k))] rfl ?_
       refine TA_st (σ' := [.dead, .dead, .row (flat tAtom.own t30m), .row (flat tInt.own r_1.free), .dead, .dead, .row (flat tInt.enc ([r_38] : (List Int))), .row (flat tInt.enc us_40), .dead, .dead]) rfl ?_
       refine pa tb [7] 0 rfl (by kernel_rfl) rfl ?_
       refine TA_nil (by kernel_rfl) ?_
       refine TA_st (σ' := [.box [(intA query0.variableCount), (sl tAtom query0.atoms), (sl tInt query0.free)], .box [(intA 0), .n, .n], .row (flat tAtom.own t30m), .row (flat tInt.own r_1.free), .box [(intA r_1.variableCount), (.m [2] 0 t30m.length tAtom.k), (.m [5] 0 box4_free.length tInt.k)], .dead, .row (flat tInt.enc ([r_38] : (List Int))), .row (flat tInt.enc us_40), .dead, .dead]) rfl ?_
       refine tmv 5 7 (by decide) (lb rfl) rfl rfl (lb rfl) ?_
       refine TA_st (σ' := [.box [(intA query0.variableCount), (sl tAtom query0.atoms), (sl tInt query0.free)], .box [(intA 0), .n, .n], .row (flat tAtom.own t30m), .row (flat tInt.own r_1.free), .box [(intA r_1.variableCount), (.m [2] 0 t30m.length tAtom.k), .j], .row (flat tInt.enc us_40), .row (flat tInt.enc ([r_38] : (List Int))), .dead, .dead, .dead]) rfl ?_
       refine t1 8 (by kernel_rfl) rfl rfl (TOp_storeB sz23 rfl rfl rfl rfl rfl rfl rfl (by decide) (lb rfl) rfl ?_)
       refine TA_st (σ' := [.box [(intA query0.variableCount), (sl tAtom query0.atoms), (sl tInt query0.free)], .box [(intA 0), .n, .n], .row (flat tAtom.own t30m), .row (flat tInt.own r_1.free), .box [(intA r_1.variableCount), (.m [2] 0 t30m.length tAtom.k), (.m [5] 0 us_40.length tInt.k)], .row (flat tInt.enc us_40), .row (flat tInt.enc ([r_38] : (List Int))), .dead, .dead, .dead]) rfl ?_
       refine TA_nil (by kernel_rfl) ?_
       refine T_region ?_
       refine Tp rfl rfl (pur_add rfl rfl rfl (fits64 (by omega) (by omega))) rfl ?_
       refine pv tb 1 rfl ?_
       refine TO_nil ?_
       obtain rfl := some_inj H
       exact again (query0.free.length - (t_35 + 1)) (t_35 + 1, us_40) (by omega) (w0 6) ⟨rfl, K36_⟩
      ·replace H := cond_f c_37 H
       refine T_skip ?_
       refine T_region ?_
       refine Tp rfl rfl (pur_add rfl rfl rfl (fits64 (by omega) (by omega))) rfl ?_
       refine pv tb 1 rfl ?_
       refine TO_nil ?_
       obtain rfl := some_inj H
       exact again (query0.free.length - (t_35 + 1)) (t_35 + 1, box4_free) (by omega) (w0 6) ⟨rfl, K36_⟩
     ·replace d36 := of_decide_eq_false d36
      obtain rfl := forS_end L36_ (by omega)
      refine T_exit ?_
      refine then_exit ?_
      refine then_exit ?_
      refine block_exit ?_
      replace H := N36_
      refine sr ?_
      refine pv tb 4 rfl ?_
      refine TO_cons rfl (TOp_storeB sz3 rfl rfl rfl rfl rfl rfl rfl (by decide) (lb rfl) rfl ?_)
      refine TO_st (σ' := [.box [(intA query0.variableCount), (sl tAtom query0.atoms), (sl tInt query0.free)], .box [(intA 0), .n, .n], .row (flat tAtom.own t30m), .row (flat tInt.own r_1.free), .box [(intA (w64 (r_1.variableCount - 1))), (.m [2] 0 t30m.length tAtom.k), (.m [5] 0 box4_free.length tInt.k)], .row (flat tInt.enc box4_free)]) rfl ?_
      refine TO_nil ?_
      refine sr ?_
      refine pv tb 1 rfl ?_
      refine TO_cons rfl (TOp_storeB sz29 rfl rfl rfl rfl rfl rfl rfl (by decide) (lb rfl) rfl ?_)
      refine TO_st (σ' := [.box [(intA query0.variableCount), (sl tAtom query0.atoms), (sl tInt query0.free)], .box [(intA (w64 (r_1.variableCount - 1))), (.m [2] 0 t30m.length tAtom.k), (.m [5] 0 box4_free.length tInt.k)], .row (flat tAtom.own t30m), .row (flat tInt.own r_1.free), .box [(intA (w64 (r_1.variableCount - 1))), (.m [2] 0 t30m.length tAtom.k), (.m [5] 0 box4_free.length tInt.k)], .row (flat tInt.enc box4_free)]) rfl ?_
      refine pv tb 1 rfl ?_
      refine TO_nil ?_
      refine T_ret ?_
      obtain rfl := some_inj H
      exact end_pick (.cellK rfl agg29 rfl (lb rfl) (.tmp .nil)) rfl [2, 5] (by decide) rfl rfl rfl rfl rfl rfl
theorem m_impl_BindVariable_ok (query0 : Query) (variable1 : Int) (value2 : Int) (r : (Query × Bool)) (H : m_impl_BindVariable query0 variable1 value2 = some r) : FnV prg 88 [(.g (tQuery.enc query0)), (intA variable1), (intA value2)] (.t [(.g (tQuery.enc r.1)), (boolA r.2)]) := (m_impl_BindVariable_own query0 variable1 value2 r H).frz (frzOK_t (frz_cons (frzOK_g (frz_cons (frz_loose rfl) (frz_cons (frzT (T := tAtom) rfl) (frz_cons (frzT (T := tInt) rfl) frz_nil))).1 (frz_cons (frz_loose rfl) (frz_cons (frzT (T := tAtom) rfl) (frz_cons (frzT (T := tInt) rfl) frz_nil))).2) (frz_cons (frz_loose rfl) frz_nil)).1 (frz_cons (frzOK_g (frz_cons (frz_loose rfl) (frz_cons (frzT (T := tAtom) rfl) (frz_cons (frzT (T := tInt) rfl) frz_nil))).1 (frz_cons (frz_loose rfl) (frz_cons (frzT (T := tAtom) rfl) (frz_cons (frzT (T := tInt) rfl) frz_nil))).2) (frz_cons (frz_loose rfl) frz_nil)).2)

set_option maxHeartbeats 1000000 in
theorem m_impl_BindAnswer_own (u : Nat) (query0 : Query) (row1 : (List Int)) (r : (Query × Bool)) (H : m_impl_BindAnswer u query0 row1 = some r) : FnO prg 19 [(.g (tQuery.enc query0)), (sl tInt row1)] (.t [(.g [(intA r.1.variableCount), (.m [0] 0 r.1.atoms.length tAtom.k), (.m [1] 0 r.1.free.length tInt.k)]), (boolA r.2)]) [.row (flat tAtom.own r.1.atoms), .row (flat tInt.own r.1.free)] := by
  unfold m_impl_BindAnswer at H
  refine fnO_of_T Try.func19 rfl rfl (Nat.le_of_ble_eq_true rfl) ?_
  refine te [(0, (.g (tQuery.enc query0))), (1, (sl tInt row1))] rfl ?_
  refine sr ?_
  refine TO_cons rfl (TOp_box rfl (boxAll rfl) rfl rfl ?_)
  refine TO_cons rfl (TOp_alloc zero29 rfl rfl ?_)
  refine pv tb 1 rfl ?_
  refine TO_nil ?_
  refine sr ?_
  obtain ⟨r_1, h_2, H⟩ := bind_inv H
  refine pv tb 1 rfl ?_
  refine TO_cons rfl (TOp_callO (call_static ent87 rfl) rfl (m_impl_copyQuery_own _ _ h_2) rfl rfl rfl ?_)
  refine toe [(1, (sl tInt row1)), (2, (.b 0 0)), (4, (.b 1 0)), (10, (.g (tQuery.enc query0))), (11, (.g [(intA r_1.variableCount), (.m [2] 0 r_1.atoms.length tAtom.k), (.m [3] 0 r_1.free.length tInt.k)]))] rfl ?_
  refine TO_st (σ' := [.box [(intA query0.variableCount), (sl tAtom query0.atoms), (sl tInt query0.free)], .box [(intA 0), .n, .n], .row (flat tAtom.own r_1.atoms), .row (flat tInt.own r_1.free)]) rfl ?_
  refine TO_cons rfl (TOp_alloc zero29 rfl rfl ?_)
  refine TO_cons rfl (TOp_storeB sz29 rfl rfl rfl rfl rfl rfl rfl (by decide) (lb rfl) rfl ?_)
  refine TO_st (σ' := [.box [(intA query0.variableCount), (sl tAtom query0.atoms), (sl tInt query0.free)], .box [(intA 0), .n, .n], .row (flat tAtom.own r_1.atoms), .row (flat tInt.own r_1.free), .box [(intA r_1.variableCount), (.m [2] 0 r_1.atoms.length tAtom.k), (.m [3] 0 r_1.free.length tInt.k)]]) rfl ?_
  refine TO_nil ?_
  refine T_seq ?_
  refine sr ?_
  refine pv tb 1 rfl ?_
  refine Tp rfl rfl (pur_lenT (T := tInt) sl23 rfl rfl) rfl ?_
  refine pv tb 2 rfl ?_
  refine Tp rfl rfl (pur_lenT (T := tInt) sl23 rfl rfl) rfl ?_
  refine pv tb 1 rfl ?_
  refine TO_nil ?_
  refine T_cond (t := decide ((row1.length : Int) ≠ (query0.free.length : Int))) rfl (fun c_3 => ?_) (fun c_3 => ?_)
  ·replace H := cond_t c_3 H
   refine sr ?_
   refine pv tb 1 rfl ?_
   refine TO_cons rfl (TOp_storeB sz29 rfl rfl rfl rfl rfl rfl rfl (by decide) (lb rfl) rfl ?_)
   refine TO_st (σ' := [.box [(intA query0.variableCount), (sl tAtom query0.atoms), (sl tInt query0.free)], .box [(intA r_1.variableCount), (.m [2] 0 r_1.atoms.length tAtom.k), (.m [3] 0 r_1.free.length tInt.k)], .row (flat tAtom.own r_1.atoms), .row (flat tInt.own r_1.free), .box [(intA r_1.variableCount), (.m [2] 0 r_1.atoms.length tAtom.k), (.m [3] 0 r_1.free.length tInt.k)]]) rfl ?_
   refine pv tb 1 rfl ?_
   refine TO_nil ?_
   refine T_ret ?_
   refine then_ret ?_
   obtain rfl := some_inj H
   exact end_pick (.cellK rfl agg29 rfl (lb rfl) (.tmp .nil)) rfl [2, 3] (by decide) rfl rfl rfl rfl rfl rfl
  ·replace H := cond_f c_3 H
   refine T_skip ?_
   refine T_seq ?_
   refine sr ?_
   refine pv tb 1 rfl ?_
   refine Tp rfl rfl (pur_lenT (T := tInt) sl23 rfl rfl) rfl ?_
   refine TO_fact (len_sl (T := tInt) (.tmp 1) rfl) (fun hl_4 => ?_)
   refine Tp rfl rfl (pur_sub rfl rfl rfl (fits64 (by omega) (by omega))) rfl ?_
   refine pv tb 1 rfl ?_
   refine TO_nil ?_
   obtain ⟨O5_, L5_, N5_⟩ := bind_inv H
   clear H
   obtain ⟨B5_, hb5, L5_⟩ := gen_whileF L5_
   refine T_block ?_
   refine T_loopX (fun k => fun (⟨i7, box4_variableCount, box4_atoms, box4_free⟩ : Int × Int × (List Atom) × (List Int)) => whileF B5_ k (i7, box4_variableCount, box4_atoms, box4_free) = some O5_) (fun (⟨i7, box4_variableCount, box4_atoms, box4_free⟩ : Int × Int × (List Atom) × (List Int)) => [(1, (sl tInt row1)), (2, (.b 0 0)), (4, (.b 1 0)), (6, (.b 4 0)), (7, (intA i7))]) (fun (⟨i7, box4_variableCount, box4_atoms, box4_free⟩ : Int × Int × (List Atom) × (List Int)) => [.box [(intA query0.variableCount), (sl tAtom query0.atoms), (sl tInt query0.free)], .box [(intA 0), .n, .n], .row (flat tAtom.own box4_atoms), .row (flat tInt.own box4_free), .box [(intA box4_variableCount), (.m [2] 0 box4_atoms.length tAtom.k), (.m [3] 0 box4_free.length tInt.k)]]) u (((row1.length : Int) - 1), r_1.variableCount, r_1.atoms, r_1.free) (w0 5) L5_ ?_
   rintro _ ⟨i7, box4_variableCount, box4_atoms, box4_free⟩ L5_
   obtain ⟨k5, rfl, C5_, H, K5_⟩ := while_step L5_
   rw [hb5] at H
   refine T_seq ?_
   refine sr ?_
   refine pv tb 2 rfl ?_
   refine TO_nil ?_
   refine T_cond (t := decide (0 ≤ i7)) rfl (fun c_6 => ?_) (fun c_6 => ?_)
   ·replace H := cond_t c_6 H
    refine T_skip ?_
    refine T_seq ?_
    refine T_block ?_
    obtain ⟨v_7, h_8, H⟩ := bind_inv H
    obtain ⟨n_9, hz_10, hv_11⟩ := getI_inv h_8
    obtain ⟨v_12, h_13, H⟩ := bind_inv H
    obtain ⟨n_14, hz_15, hv_16⟩ := getI_inv h_13
    obtain ⟨r_17, h_18, H⟩ := bind_inv H
    refine T_pad ?_
    refine T_pad ?_
    refine T_pad ?_
    refine T_pad ?_
    refine T_pad ?_
    refine T_cutX (fun (_ : Unit) => True) (fun _ => [(1, (sl tInt row1)), (2, (.b 0 0)), (4, (.b 1 0)), (6, (.b 4 0)), (7, (intA i7)), (8, (.b 10 0)), (9, (boolA r_17.2))]) (fun _ => [.box [(intA query0.variableCount), (sl tAtom query0.atoms), (sl tInt query0.free)], .box [(intA 0), .n, .n], .row (flat tAtom.own box4_atoms), .row (flat tInt.own box4_free), .box [(intA box4_variableCount), (.m [2] 0 box4_atoms.length tAtom.k), (.m [3] 0 box4_free.length tInt.k)], .row (flat tAtom.own r_17.1.atoms), .row (flat tInt.own r_17.1.free), .dead, .dead, .dead, .box [(intA r_17.1.variableCount), (.m [5] 0 r_17.1.atoms.length tAtom.k), (.m [6] 0 r_17.1.free.length tInt.k)]]) ?_ ?_
    ·skip
     refine T_regionP 5 mixed rfl ?_
     refine TA_have 2 #[true, true, true, true, true, true, true, true, true, true, true, true, true, true, true, false, false] [(1, (sl tInt row1)), (2, (.b 0 0)), (4, (.b 1 0)), (6, (.b 4 0)), (7, (intA i7)), (8, (.b 10 0)), (38, (.g [(intA r_17.1.variableCount), (.m [7] 0 r_17.1.atoms.length tAtom.k), (.m [8] 0 r_17.1.free.length tInt.k)])), (39, (boolA r_17.2))] [.dead, .dead, .row (flat tAtom.own box4_atoms), .row (flat tInt.own box4_free), .dead, .dead, .dead, .row (flat tAtom.own r_17.1.atoms), .row (flat tInt.own r_17.1.free), .dead, .box [(intA 0), .n, .n]] ?_ (fun hj0_7 => ?_)
     ·skip
      refine t1 15 (by kernel_rfl) rfl rfl (TOp_storeB sz29 rfl rfl rfl rfl rfl rfl rfl (by decide) (lb rfl) rfl ?_)
      refine TA_st (σ' := [.dead, .dead, .row (flat tAtom.own box4_atoms), .row (flat tInt.own box4_free), .dead, .dead, .dead, .row (flat tAtom.own r_17.1.atoms), .row (flat tInt.own r_17.1.free), .dead, .box [(intA r_17.1.variableCount), (.m [7] 0 r_17.1.atoms.length tAtom.k), (.m [8] 0 r_17.1.free.length tInt.k)]]) rfl ?_
      refine pa tb [16] 0 rfl (by kernel_rfl) rfl ?_
      refine TA_ghost (E' := [(1, (sl tInt row1)), (2, (.b 0 0)), (4, (.b 1 0)), (6, (.b 4 0)), (7, (intA i7)), (8, (.b 10 0)), (9, (boolA r_17.2))]) (σ' := [.dead, .dead, .row (flat tAtom.own box4_atoms), .row (flat tInt.own box4_free), .dead, .row (flat tAtom.own r_17.1.atoms), .dead, .dead, .row (flat tInt.own r_17.1.free), .dead, .box [(intA r_17.1.variableCount), (.m [5] 0 r_17.1.atoms.length tAtom.k), (.m [8] 0 r_17.1.free.length tInt.k)]]) (Ghost.move 5 7 (by decide) (lb rfl) rfl rfl (lb rfl) (Ghost.weak (WeakL.to 11 (lb rfl) rfl rfl rfl rfl ⟨leR rfl, leR rfl, leR rfl, leR rfl, leR rfl, leR rfl, leR rfl, trivial⟩))) ?_
      refine TA_ghost (E' := [(1, (sl tInt row1)), (2, (.b 0 0)), (4, (.b 1 0)), (6, (.b 4 0)), (7, (intA i7)), (8, (.b 10 0)), (9, (boolA r_17.2))]) (σ' := [.dead, .dead, .row (flat tAtom.own box4_atoms), .row (flat tInt.own box4_free), .dead, .row (flat tAtom.own r_17.1.atoms), .row (flat tInt.own r_17.1.free), .dead, .dead, .dead, .box [(intA r_17.1.variableCount), (.m [5] 0 r_17.1.atoms.length tAtom.k), (.m [6] 0 r_17.1.free.length tInt.k)]]) (Ghost.move 6 8 (by decide) (lb rfl) rfl rfl (lb rfl) (Ghost.weak (WeakL.to 11 (lb rfl) rfl rfl rfl rfl ⟨leR rfl, leR rfl, leR rfl, leR rfl, leR rfl, leR rfl, leR rfl, trivial⟩))) ?_
      exact TA_nil (by kernel_rfl) (joined () (w0 11) trivial)
     refine pa tb [0, 1, 2, 3] 13 rfl (by kernel_rfl) rfl ?_
     refine tf 4 rfl (pur_ixT (T := tInt) sl23 rfl rfl hz_10 hv_11 rfl) rfl rfl (by kernel_rfl) ?_
     refine tf 5 rfl (pur_ldT (T := tInt) (i := n_9) (off := 0) rfl one3 rfl rfl hv_11 rfl) rfl rfl (by kernel_rfl) ?_
     refine pa tb [6, 7] 9 rfl (by kernel_rfl) rfl ?_
     refine tf 8 rfl (pur_ixT (T := tInt) sl23 rfl rfl hz_15 hv_16 rfl) rfl rfl (by kernel_rfl) ?_
     refine tf 9 rfl (pur_ldT (T := tInt) (i := n_14) (off := 0) rfl one3 rfl rfl hv_16 rfl) rfl rfl (by kernel_rfl) ?_
     refine TA_all [10, 14] (by kernel_rfl) (by decide) ⟨?_, ?_, trivial⟩
     ·skip
      refine ⟨_, rfl, rfl, (TOp_callOG (call_static ent88 rfl) (frz_cons (frzOK_g (frz_cons (frz_loose rfl) (frz_cons (frzT (T := tAtom) rfl) (frz_cons (frzT (T := tInt) rfl) frz_nil))).1 (frz_cons (frz_loose rfl) (frz_cons (frzT (T := tAtom) rfl) (frz_cons (frzT (T := tInt) rfl) frz_nil))).2) (frz_cons (frz_loose rfl) (frz_cons (frz_loose rfl) frz_nil))).1 (frz_cons (frzOK_g (frz_cons (frz_loose rfl) (frz_cons (frzT (T := tAtom) rfl) (frz_cons (frzT (T := tInt) rfl) frz_nil))).1 (frz_cons (frz_loose rfl) (frz_cons (frzT (T := tAtom) rfl) (frz_cons (frzT (T := tInt) rfl) frz_nil))).2) (frz_cons (frz_loose rfl) (frz_cons (frz_loose rfl) frz_nil))).2 (m_impl_BindVariable_own _ _ _ _ h_18) rfl (ownC_of (ownSB_cons (flat_ownR tAtom _) (ownSB_cons (flat_ownR tInt _) ownSB_nil))) rfl rfl rfl ?_)⟩
      refine tae [(1, (sl tInt row1)), (2, (.b 0 0)), (4, (.b 1 0)), (6, (.b 4 0)), (7, (intA i7)), (27, (.g [(intA box4_variableCount), (.m [2] 0 box4_atoms.length tAtom.k), (.m [3] 0 box4_free.length tInt.k)])), (32, (intA v_7)), (33, (sl tInt row1)), (34, (intA i7)), (35, (.q (flat tInt.enc row1) (n_14 * tInt.k))), (36, (intA v_12)), (37, (.t [(.g [(intA r_17.1.variableCount), (.m [10] 0 r_17.1.atoms.length tAtom.k), (.m [11] 0 r_17.1.free.length tInt.k)]), (boolA r_17.2)]))] rfl ?_
      refine TA_st (σ' := [.dead, .dead, .row (flat tAtom.own box4_atoms), .row (flat tInt.own box4_free), .dead, .dead, .dead, .dead, .dead, .dead, .row (flat tAtom.own r_17.1.atoms), .row (flat tInt.own r_17.1.free)]) rfl ?_
      refine TA_ghost (E' := [(1, (sl tInt row1)), (2, (.b 0 0)), (4, (.b 1 0)), (6, (.b 4 0)), (7, (intA i7)), (27, (.g [(intA box4_variableCount), (.m [2] 0 box4_atoms.length tAtom.k), (.m [3] 0 box4_free.length tInt.k)])), (32, (intA v_7)), (33, (sl tInt row1)), (34, (intA i7)), (35, (.q (flat tInt.enc row1) (n_14 * tInt.k))), (36, (intA v_12)), (37, (.t [(.g [(intA r_17.1.variableCount), (.m [7] 0 r_17.1.atoms.length tAtom.k), (.m [11] 0 r_17.1.free.length tInt.k)]), (boolA r_17.2)]))]) (σ' := [.dead, .dead, .row (flat tAtom.own box4_atoms), .row (flat tInt.own box4_free), .dead, .dead, .dead, .row (flat tAtom.own r_17.1.atoms), .dead, .dead, .dead, .row (flat tInt.own r_17.1.free)]) (Ghost.move 7 10 (by decide) (lb rfl) rfl rfl (lb rfl) (Ghost.weak (WeakL.to 12 (lb rfl) rfl rfl rfl rfl ⟨leR rfl, leR rfl, leR rfl, leR rfl, leR rfl, leR rfl, leR rfl, leR rfl, leR rfl, leR rfl, leR rfl, leR rfl, trivial⟩))) ?_
      refine TA_ghost (E' := [(1, (sl tInt row1)), (2, (.b 0 0)), (4, (.b 1 0)), (6, (.b 4 0)), (7, (intA i7)), (27, (.g [(intA box4_variableCount), (.m [2] 0 box4_atoms.length tAtom.k), (.m [3] 0 box4_free.length tInt.k)])), (32, (intA v_7)), (33, (sl tInt row1)), (34, (intA i7)), (35, (.q (flat tInt.enc row1) (n_14 * tInt.k))), (36, (intA v_12)), (37, (.t [(.g [(intA r_17.1.variableCount), (.m [7] 0 r_17.1.atoms.length tAtom.k), (.m [8] 0 r_17.1.free.length tInt.k)]), (boolA r_17.2)]))]) (σ' := [.dead, .dead, .row (flat tAtom.own box4_atoms), .row (flat tInt.own box4_free), .dead, .dead, .dead, .row (flat tAtom.own r_17.1.atoms), .row (flat tInt.own r_17.1.free), .dead]) (Ghost.move 8 11 (by decide) (lb rfl) rfl rfl (lb rfl) (Ghost.weak (WeakL.to 10 (lb rfl) rfl rfl rfl rfl ⟨leR rfl, leR rfl, leR rfl, leR rfl, leR rfl, leR rfl, leR rfl, leR rfl, leR rfl, leR rfl, leR rfl, leR rfl, trivial⟩))) ?_
      refine pa tb [11, 12, 13] 3 rfl (by kernel_rfl) rfl ?_
      refine t1 14 (by kernel_rfl) rfl rfl (TOp_alloc zero29 rfl rfl ?_)
      refine tae [(1, (sl tInt row1)), (2, (.b 0 0)), (4, (.b 1 0)), (6, (.b 4 0)), (7, (intA i7)), (8, (.b 10 0)), (38, (.g [(intA r_17.1.variableCount), (.m [7] 0 r_17.1.atoms.length tAtom.k), (.m [8] 0 r_17.1.free.length tInt.k)])), (39, (boolA r_17.2))] rfl ?_
      refine TA_st (σ' := [.dead, .dead, .row (flat tAtom.own box4_atoms), .row (flat tInt.own box4_free), .dead, .dead, .dead, .row (flat tAtom.own r_17.1.atoms), .row (flat tInt.own r_17.1.free), .dead, .box [(intA 0), .n, .n]]) rfl ?_
      exact tj hj0_7 rfl (w0 11)
     ·skip
      refine ⟨_, rfl, rfl, (TOp_alloc zero29 rfl rfl ?_)⟩
      refine t1 10 (by kernel_rfl) rfl rfl (TOp_callOG (call_static ent88 rfl) (frz_cons (frzOK_g (frz_cons (frz_loose rfl) (frz_cons (frzT (T := tAtom) rfl) (frz_cons (frzT (T := tInt) rfl) frz_nil))).1 (frz_cons (frz_loose rfl) (frz_cons (frzT (T := tAtom) rfl) (frz_cons (frzT (T := tInt) rfl) frz_nil))).2) (frz_cons (frz_loose rfl) (frz_cons (frz_loose rfl) frz_nil))).1 (frz_cons (frzOK_g (frz_cons (frz_loose rfl) (frz_cons (frzT (T := tAtom) rfl) (frz_cons (frzT (T := tInt) rfl) frz_nil))).1 (frz_cons (frz_loose rfl) (frz_cons (frzT (T := tAtom) rfl) (frz_cons (frzT (T := tInt) rfl) frz_nil))).2) (frz_cons (frz_loose rfl) (frz_cons (frz_loose rfl) frz_nil))).2 (m_impl_BindVariable_own _ _ _ _ h_18) rfl (ownC_of (ownSB_cons (flat_ownR tAtom _) (ownSB_cons (flat_ownR tInt _) ownSB_nil))) rfl rfl rfl ?_)
      refine tae [(1, (sl tInt row1)), (2, (.b 0 0)), (4, (.b 1 0)), (6, (.b 4 0)), (7, (intA i7)), (8, (.b 10 0)), (27, (.g [(intA box4_variableCount), (.m [2] 0 box4_atoms.length tAtom.k), (.m [3] 0 box4_free.length tInt.k)])), (32, (intA v_7)), (33, (sl tInt row1)), (34, (intA i7)), (35, (.q (flat tInt.enc row1) (n_14 * tInt.k))), (36, (intA v_12)), (37, (.t [(.g [(intA r_17.1.variableCount), (.m [11] 0 r_17.1.atoms.length tAtom.k), (.m [12] 0 r_17.1.free.length tInt.k)]), (boolA r_17.2)]))] rfl ?_
      refine TA_st (σ' := [.dead, .dead, .row (flat tAtom.own box4_atoms), .row (flat tInt.own box4_free), .dead, .dead, .dead, .dead, .dead, .dead, .box [(intA 0), .n, .n], .row (flat tAtom.own r_17.1.atoms), .row (flat tInt.own r_17.1.free)]) rfl ?_
      refine TA_ghost (E' := [(1, (sl tInt row1)), (2, (.b 0 0)), (4, (.b 1 0)), (6, (.b 4 0)), (7, (intA i7)), (8, (.b 10 0)), (27, (.g [(intA box4_variableCount), (.m [2] 0 box4_atoms.length tAtom.k), (.m [3] 0 box4_free.length tInt.k)])), (32, (intA v_7)), (33, (sl tInt row1)), (34, (intA i7)), (35, (.q (flat tInt.enc row1) (n_14 * tInt.k))), (36, (intA v_12)), (37, (.t [(.g [(intA r_17.1.variableCount), (.m [7] 0 r_17.1.atoms.length tAtom.k), (.m [12] 0 r_17.1.free.length tInt.k)]), (boolA r_17.2)]))]) (σ' := [.dead, .dead, .row (flat tAtom.own box4_atoms), .row (flat tInt.own box4_free), .dead, .dead, .dead, .row (flat tAtom.own r_17.1.atoms), .dead, .dead, .box [(intA 0), .n, .n], .dead, .row (flat tInt.own r_17.1.free)]) (Ghost.move 7 11 (by decide) (lb rfl) rfl rfl (lb rfl) (Ghost.weak (WeakL.to 13 (lb rfl) rfl rfl rfl rfl ⟨leR rfl, leR rfl, leR rfl, leR rfl, leR rfl, leR rfl, leR rfl, leR rfl, leR rfl, leR rfl, leR rfl, leR rfl, leR rfl, trivial⟩))) ?_
      refine TA_ghost (E' := [(1, (sl tInt row1)), (2, (.b 0 0)), (4, (.b 1 0)), (6, (.b 4 0)), (7, (intA i7)), (8, (.b 10 0)), (27, (.g [(intA box4_variableCount), (.m [2] 0 box4_atoms.length tAtom.k), (.m [3] 0 box4_free.length tInt.k)])), (32, (intA v_7)), (33, (sl tInt row1)), (34, (intA i7)), (35, (.q (flat tInt.enc row1) (n_14 * tInt.k))), (36, (intA v_12)), (37, (.t [(.g [(intA r_17.1.variableCount), (.m [7] 0 r_17.1.atoms.length tAtom.k), (.m [8] 0 r_17.1.free.length tInt.k)]), (boolA r_17.2)]))]) (σ' := [.dead, .dead, .row (flat tAtom.own box4_atoms), .row (flat tInt.own box4_free), .dead, .dead, .dead, .row (flat tAtom.own r_17.1.atoms), .row (flat tInt.own r_17.1.free), .dead, .box [(intA 0), .n, .n]]) (Ghost.move 8 12 (by decide) (lb rfl) rfl rfl (lb rfl) (Ghost.weak (WeakL.to 11 (lb rfl) rfl rfl rfl rfl ⟨leR rfl, leR rfl, leR rfl, leR rfl, leR rfl, leR rfl, leR rfl, leR rfl, leR rfl, leR rfl, leR rfl, leR rfl, leR rfl, trivial⟩))) ?_
      refine pa tb [11, 12, 13] 2 rfl (by kernel_rfl) rfl ?_
      exact tj hj0_7 rfl (w0 11)
    ·rintro _ _
     refine T_seq ?_
     refine sr ?_
     refine pv tb 2 rfl ?_
     refine TO_nil ?_
     refine T_cond (t := (!r_17.2)) rfl (fun c_19 => ?_) (fun c_19 => ?_)
     ·replace H := cond_t c_19 H
      refine sr ?_
      obtain ⟨r_20, h_21, H⟩ := bind_inv H
      refine pv tb 1 rfl ?_
      refine TO_cons rfl (TOp_callO (call_static ent87 rfl) rfl (m_impl_copyQuery_own _ _ h_21) rfl rfl rfl ?_)
      refine toe [(1, (sl tInt row1)), (2, (.b 0 0)), (4, (.b 1 0)), (6, (.b 4 0)), (7, (intA i7)), (8, (.b 10 0)), (41, (boolA (!r_17.2))), (42, (.g (tQuery.enc query0))), (43, (.g [(intA r_20.variableCount), (.m [11] 0 r_20.atoms.length tAtom.k), (.m [12] 0 r_20.free.length tInt.k)]))] rfl ?_
      refine TO_st (σ' := [.box [(intA query0.variableCount), (sl tAtom query0.atoms), (sl tInt query0.free)], .box [(intA 0), .n, .n], .row (flat tAtom.own box4_atoms), .row (flat tInt.own box4_free), .box [(intA box4_variableCount), (.m [2] 0 box4_atoms.length tAtom.k), (.m [3] 0 box4_free.length tInt.k)], .row (flat tAtom.own r_17.1.atoms), .row (flat tInt.own r_17.1.free), .dead, .dead, .dead, .box [(intA r_17.1.variableCount), (.m [5] 0 r_17.1.atoms.length tAtom.k), (.m [6] 0 r_17.1.free.length tInt.k)], .row (flat tAtom.own r_20.atoms), .row (flat tInt.own r_20.free)]) rfl ?_
      refine TO_cons rfl (TOp_storeB sz29 rfl rfl rfl rfl rfl rfl rfl (by decide) (lb rfl) rfl ?_)
      refine TO_st (σ' := [.box [(intA query0.variableCount), (sl tAtom query0.atoms), (sl tInt query0.free)], .box [(intA r_20.variableCount), (.m [11] 0 r_20.atoms.length tAtom.k), (.m [12] 0 r_20.free.length tInt.k)], .row (flat tAtom.own box4_atoms), .row (flat tInt.own box4_free), .box [(intA box4_variableCount), (.m [2] 0 box4_atoms.length tAtom.k), (.m [3] 0 box4_free.length tInt.k)], .row (flat tAtom.own r_17.1.atoms), .row (flat tInt.own r_17.1.free), .dead, .dead, .dead, .box [(intA r_17.1.variableCount), (.m [5] 0 r_17.1.atoms.length tAtom.k), (.m [6] 0 r_17.1.free.length tInt.k)], .row (flat tAtom.own r_20.atoms), .row (flat tInt.own r_20.free)]) rfl ?_
      refine pv tb 1 rfl ?_
      refine TO_nil ?_
      refine T_ret ?_
      refine then_ret ?_
      refine block_ret ?_
      refine then_ret ?_
      refine then_ret ?_
      refine block_ret ?_
      refine then_ret ?_
      obtain rfl := some_inj H
      obtain rfl := some_inj K5_
      replace H := onS_r N5_
      obtain rfl := some_inj H
      exact end_pick (.cellK rfl agg29 rfl (lb rfl) (.tmp .nil)) rfl [11, 12] (by decide) rfl rfl rfl rfl rfl rfl
     ·replace H := cond_f c_19 H
      refine T_skip ?_
      refine T_region ?_
      refine pv tb 1 rfl ?_
      refine TO_cons rfl (TOp_storeB sz29 rfl rfl rfl rfl rfl rfl rfl (by decide) (lb rfl) rfl ?_)
      refine TO_st (σ' := [.box [(intA query0.variableCount), (sl tAtom query0.atoms), (sl tInt query0.free)], .box [(intA 0), .n, .n], .row (flat tAtom.own box4_atoms), .row (flat tInt.own box4_free), .box [(intA r_17.1.variableCount), (.m [5] 0 r_17.1.atoms.length tAtom.k), (.m [6] 0 r_17.1.free.length tInt.k)], .row (flat tAtom.own r_17.1.atoms), .row (flat tInt.own r_17.1.free), .dead, .dead, .dead, .box [(intA r_17.1.variableCount), (.m [5] 0 r_17.1.atoms.length tAtom.k), (.m [6] 0 r_17.1.free.length tInt.k)]]) rfl ?_
      refine TO_nil ?_
      refine T_move' 2 5 (by decide) (lb rfl) rfl rfl (lb rfl) ?_
      refine te [(1, (sl tInt row1)), (2, (.b 0 0)), (4, (.b 1 0)), (6, (.b 4 0)), (7, (intA i7))] rfl ?_
      refine T_st (σ' := [.box [(intA query0.variableCount), (sl tAtom query0.atoms), (sl tInt query0.free)], .box [(intA 0), .n, .n], .row (flat tAtom.own r_17.1.atoms), .row (flat tInt.own box4_free), .box [(intA r_17.1.variableCount), (.m [2] 0 r_17.1.atoms.length tAtom.k), (.m [6] 0 r_17.1.free.length tInt.k)], .dead, .row (flat tInt.own r_17.1.free), .dead, .dead, .dead, .box [(intA r_17.1.variableCount), (.m [2] 0 r_17.1.atoms.length tAtom.k), (.m [6] 0 r_17.1.free.length tInt.k)]]) rfl ?_
      refine T_move' 3 6 (by decide) (lb rfl) rfl rfl (lb rfl) ?_
      refine te [(1, (sl tInt row1)), (2, (.b 0 0)), (4, (.b 1 0)), (6, (.b 4 0)), (7, (intA i7))] rfl ?_
      refine T_st (σ' := [.box [(intA query0.variableCount), (sl tAtom query0.atoms), (sl tInt query0.free)], .box [(intA 0), .n, .n], .row (flat tAtom.own r_17.1.atoms), .row (flat tInt.own r_17.1.free), .box [(intA r_17.1.variableCount), (.m [2] 0 r_17.1.atoms.length tAtom.k), (.m [3] 0 r_17.1.free.length tInt.k)], .dead, .dead, .dead, .dead, .dead, .box [(intA r_17.1.variableCount), (.m [2] 0 r_17.1.atoms.length tAtom.k), (.m [3] 0 r_17.1.free.length tInt.k)]]) rfl ?_
      refine T_region ?_
      refine pv tb 3 rfl ?_
      refine TO_nil ?_
      obtain rfl := some_inj H
      exact again k5 ((w64 (i7 - 1)), r_17.1.variableCount, r_17.1.atoms, r_17.1.free) (Nat.lt_succ_self _) (w0 5) K5_
   ·replace H := cond_f c_6 H
    refine T_exit ?_
    refine then_exit ?_
    refine then_exit ?_
    refine block_exit ?_
    obtain rfl := some_inj H
    obtain rfl := some_inj K5_
    replace H := onS_l N5_
    refine sr ?_
    refine pv tb 1 rfl ?_
    refine TO_cons rfl (TOp_storeB sz29 rfl rfl rfl rfl rfl rfl rfl (by decide) (lb rfl) rfl ?_)
    refine TO_st (σ' := [.box [(intA query0.variableCount), (sl tAtom query0.atoms), (sl tInt query0.free)], .box [(intA box4_variableCount), (.m [2] 0 box4_atoms.length tAtom.k), (.m [3] 0 box4_free.length tInt.k)], .row (flat tAtom.own box4_atoms), .row (flat tInt.own box4_free), .box [(intA box4_variableCount), (.m [2] 0 box4_atoms.length tAtom.k), (.m [3] 0 box4_free.length tInt.k)]]) rfl ?_
    refine pv tb 1 rfl ?_
    refine TO_nil ?_
    refine T_ret ?_
    obtain rfl := some_inj H
    exact end_pick (.cellK rfl agg29 rfl (lb rfl) (.tmp .nil)) rfl [2, 3] (by decide) rfl rfl rfl rfl rfl rfl
theorem m_impl_BindAnswer_ok (u : Nat) (query0 : Query) (row1 : (List Int)) (r : (Query × Bool)) (H : m_impl_BindAnswer u query0 row1 = some r) : FnV prg 19 [(.g (tQuery.enc query0)), (sl tInt row1)] (.t [(.g (tQuery.enc r.1)), (boolA r.2)]) := (m_impl_BindAnswer_own u query0 row1 r H).frz (frzOK_t (frz_cons (frzOK_g (frz_cons (frz_loose rfl) (frz_cons (frzT (T := tAtom) rfl) (frz_cons (frzT (T := tInt) rfl) frz_nil))).1 (frz_cons (frz_loose rfl) (frz_cons (frzT (T := tAtom) rfl) (frz_cons (frzT (T := tInt) rfl) frz_nil))).2) (frz_cons (frz_loose rfl) frz_nil)).1 (frz_cons (frzOK_g (frz_cons (frz_loose rfl) (frz_cons (frzT (T := tAtom) rfl) (frz_cons (frzT (T := tInt) rfl) frz_nil))).1 (frz_cons (frz_loose rfl) (frz_cons (frzT (T := tAtom) rfl) (frz_cons (frzT (T := tInt) rfl) frz_nil))).2) (frz_cons (frz_loose rfl) frz_nil)).2)

set_option maxHeartbeats 1000000 in
theorem m_laws_eqIntS_ok (a0 : (List Int)) (b1 : (List Int)) (r : Bool) (H : m_laws_eqIntS a0 b1 = some r) : FnV prg 21 [(sl tInt a0), (sl tInt b1)] (boolA r) := by
  unfold m_laws_eqIntS at H
  refine fnV_of_T Try.func21 rfl rfl (Nat.le_of_ble_eq_true rfl) ?_
  refine te [(0, (sl tInt a0)), (1, (sl tInt b1))] rfl ?_
  refine sr ?_
  refine pv tb 1 rfl ?_
  refine TO_nil ?_
  refine T_seq ?_
  refine sr ?_
  refine pv tb 1 rfl ?_
  refine Tp rfl rfl (pur_lenT (T := tInt) sl23 rfl rfl) rfl ?_
  refine pv tb 1 rfl ?_
  refine Tp rfl rfl (pur_lenT (T := tInt) sl23 rfl rfl) rfl ?_
  refine pv tb 1 rfl ?_
  refine TO_nil ?_
  refine T_cond (t := decide ((a0.length : Int) ≠ (b1.length : Int))) rfl (fun c_1 => ?_) (fun c_1 => ?_)
  ·replace H := cond_t c_1 H
   refine sr ?_
   refine pv tb 1 rfl ?_
   refine TO_nil ?_
   refine T_ret ?_
   refine then_ret ?_
   obtain rfl := some_inj H
   refine end_ret (.tmp .nil) rfl rfl ⟨?_, rfl⟩
   rfl
  ·replace H := cond_f c_1 H
   refine T_skip ?_
   refine T_seq ?_
   refine sr ?_
   refine pv tb 1 rfl ?_
   refine TO_nil ?_
   obtain ⟨O3_, L3_, N3_⟩ := bind_inv H
   clear H
   obtain ⟨B3_, hb3, L3_⟩ := gen_forL L3_
   refine T_block ?_
   refine T_loopX (fun k => fun (i_2 : Nat) => k = a0.length - i_2 ∧ forL B3_ (a0.drop i_2) (i_2 : Int) () = some O3_) (fun (i_2 : Nat) => [(0, (sl tInt a0)), (1, (sl tInt b1)), (5, (intA (i_2 : Int)))]) (fun (i_2 : Nat) => []) _ (0 : Nat) (w0 0) ⟨rfl, L3_⟩ ?_
   rintro _ i_2 ⟨rfl, L3_⟩
   refine T_fact (len_sl (T := tInt) (.tmp 0) rfl) (fun hl3 => ?_)
   refine T_seq ?_
   refine sr ?_
   refine pv tb 2 rfl ?_
   refine Tp rfl rfl (pur_lenT (T := tInt) sl23 rfl rfl) rfl ?_
   refine pv tb 1 rfl ?_
   refine TO_nil ?_
   refine T_cond (t := decide ((i_2 : Int) < (a0.length : Int))) rfl (fun d3 => ?_) (fun d3 => ?_)
   ·replace d3 := of_decide_eq_true d3
    obtain ⟨x_i_2, hx_i_2⟩ : ∃ v, (a0)[i_2]? = some v := ⟨_, List.getElem?_eq_getElem (by omega)⟩
    obtain ⟨C3_, H, K3_⟩ := forL_step L3_ hx_i_2
    rw [hb3] at H
    refine T_skip ?_
    refine T_seq ?_
    refine T_block ?_
    refine T_seq ?_
    refine T_regionD mixed (by kernel_rfl) ?_
    refine pq tb 2 rfl ?_
    refine TQ_pure rfl (pur_ixT (T := tInt) sl23 rfl rfl rfl hx_i_2 rfl) rfl ?_
    refine TQ_pure rfl (pur_ldT (T := tInt) (i := i_2) (off := 0) rfl one3 rfl rfl hx_i_2 rfl) rfl ?_
    obtain ⟨v_4, h_5, H⟩ := bind_inv H
    obtain ⟨n_6, hz_7, hv_8⟩ := getI_inv h_5
    refine pq tb 2 rfl ?_
    refine TQ_pure rfl (pur_ixT (T := tInt) sl23 rfl rfl hz_7 hv_8 rfl) rfl ?_
    refine TQ_pure rfl (pur_ldT (T := tInt) (i := n_6) (off := 0) rfl one3 rfl rfl hv_8 rfl) rfl ?_
    refine pq tb 1 rfl ?_
    refine TQ_nil ?_
    refine T_cond (t := decide (x_i_2 ≠ v_4)) rfl (fun c_9 => ?_) (fun c_9 => ?_)
    ·replace H := cond_t c_9 H
     refine sr ?_
     refine pv tb 1 rfl ?_
     refine TO_nil ?_
     refine te [(4, (boolA false))] rfl ?_
     refine T_ret ?_
     refine block_ret ?_
     refine then_ret ?_
     refine then_ret ?_
     refine block_ret ?_
     refine then_ret ?_
     obtain rfl := some_inj H
     obtain rfl := some_inj K3_
     replace H := onS_r N3_
     obtain rfl := some_inj H
     refine end_ret (.tmp .nil) rfl rfl ⟨?_, rfl⟩
     rfl
    ·replace H := cond_f c_9 H
     refine T_skip ?_
     refine T_region ?_
     refine pv tb 1 rfl ?_
     refine Tp rfl rfl (pur_add rfl rfl rfl (fits64 (by omega) (by omega))) rfl ?_
     refine pv tb 1 rfl ?_
     refine TO_nil ?_
     obtain rfl := some_inj H
     exact again (a0.length - (i_2 + 1)) (i_2 + 1) (by omega) (w0 0) ⟨rfl, K3_⟩
   ·replace d3 := of_decide_eq_false d3
    obtain rfl := forL_end L3_ (by omega)
    refine T_exit ?_
    refine then_exit ?_
    refine then_exit ?_
    refine block_exit ?_
    replace H := onS_l N3_
    refine sr ?_
    refine pv tb 1 rfl ?_
    refine TO_nil ?_
    refine T_ret ?_
    obtain rfl := some_inj H
    refine end_ret (.tmp .nil) rfl rfl ⟨?_, rfl⟩
    rfl

set_option maxHeartbeats 1000000 in
theorem m_laws_eqAtom_ok (a0 : Atom) (b1 : Atom) (r : Bool) (H : m_laws_eqAtom a0 b1 = some r) : FnV prg 143 [(.g (tAtom.enc a0)), (.g (tAtom.enc b1))] (boolA r) := by
  unfold m_laws_eqAtom at H
  refine fnV_of_T Try.func143 rfl rfl (Nat.le_of_ble_eq_true rfl) ?_
  refine te [(0, (.g (tAtom.enc a0))), (1, (.g (tAtom.enc b1)))] rfl ?_
  refine sr ?_
  refine TO_cons rfl (TOp_box rfl (boxAll rfl) rfl rfl ?_)
  refine TO_cons rfl (TOp_box rfl (boxAll rfl) rfl rfl ?_)
  refine pv tb 1 rfl ?_
  refine TO_nil ?_
  refine T_seq ?_
  refine sr ?_
  refine pv tb 5 rfl ?_
  refine TO_nil ?_
  refine T_cond (t := decide (a0.relation ≠ b1.relation)) rfl (fun c_1 => ?_) (fun c_1 => ?_)
  ·replace H := cond_t c_1 H
   refine sr ?_
   refine pv tb 1 rfl ?_
   refine TO_nil ?_
   refine T_ret ?_
   refine then_ret ?_
   obtain rfl := some_inj H
   refine end_ret (.tmp .nil) rfl rfl ⟨?_, rfl⟩
   rfl
  ·replace H := cond_f c_1 H
   refine T_skip ?_
   refine T_seq ?_
   refine sr ?_
   obtain ⟨r_2, h_3, H⟩ := bind_inv H
   refine pv tb 4 rfl ?_
   refine TO_cons rfl (TOp_callV (call_static ent21 rfl) (m_laws_eqIntS_ok _ _ _ h_3) rfl rfl rfl ?_)
   refine pv tb 1 rfl ?_
   refine TO_nil ?_
   refine te [(15, (boolA (!r_2)))] rfl ?_
   refine T_cond (t := (!r_2)) rfl (fun c_4 => ?_) (fun c_4 => ?_)
   ·replace H := cond_t c_4 H
    refine sr ?_
    refine pv tb 1 rfl ?_
    refine TO_nil ?_
    refine T_ret ?_
    refine then_ret ?_
    obtain rfl := some_inj H
    refine end_ret (.tmp .nil) rfl rfl ⟨?_, rfl⟩
    rfl
   ·replace H := cond_f c_4 H
    refine T_skip ?_
    refine sr ?_
    refine pv tb 1 rfl ?_
    refine TO_nil ?_
    refine T_ret ?_
    obtain rfl := some_inj H
    refine end_ret (.tmp .nil) rfl rfl ⟨?_, rfl⟩
    rfl

set_option maxHeartbeats 1000000 in
theorem m_laws_eqAtomS_ok (a0 : (List Atom)) (b1 : (List Atom)) (r : Bool) (H : m_laws_eqAtomS a0 b1 = some r) : FnV prg 89 [(sl tAtom a0), (sl tAtom b1)] (boolA r) := by
  unfold m_laws_eqAtomS at H
  refine fnV_of_T Try.func89 rfl rfl (Nat.le_of_ble_eq_true rfl) ?_
  refine te [(0, (sl tAtom a0)), (1, (sl tAtom b1))] rfl ?_
  refine sr ?_
  refine pv tb 1 rfl ?_
  refine TO_nil ?_
  refine T_seq ?_
  refine sr ?_
  refine pv tb 1 rfl ?_
  refine Tp rfl rfl (pur_lenT (T := tAtom) sl27 rfl rfl) rfl ?_
  refine pv tb 1 rfl ?_
  refine Tp rfl rfl (pur_lenT (T := tAtom) sl27 rfl rfl) rfl ?_
  refine pv tb 1 rfl ?_
  refine TO_nil ?_
  refine T_cond (t := decide ((a0.length : Int) ≠ (b1.length : Int))) rfl (fun c_1 => ?_) (fun c_1 => ?_)
  ·replace H := cond_t c_1 H
   refine sr ?_
   refine pv tb 1 rfl ?_
   refine TO_nil ?_
   refine T_ret ?_
   refine then_ret ?_
   obtain rfl := some_inj H
   refine end_ret (.tmp .nil) rfl rfl ⟨?_, rfl⟩
   rfl
  ·replace H := cond_f c_1 H
   refine T_skip ?_
   refine T_seq ?_
   refine sr ?_
   refine pv tb 1 rfl ?_
   refine TO_nil ?_
   obtain ⟨O3_, L3_, N3_⟩ := bind_inv H
   clear H
   obtain ⟨B3_, hb3, L3_⟩ := gen_forL L3_
   refine T_block ?_
   refine T_loopX (fun k => fun (i_2 : Nat) => k = a0.length - i_2 ∧ forL B3_ (a0.drop i_2) (i_2 : Int) () = some O3_) (fun (i_2 : Nat) => [(0, (sl tAtom a0)), (1, (sl tAtom b1)), (5, (intA (i_2 : Int)))]) (fun (i_2 : Nat) => []) _ (0 : Nat) (w0 0) ⟨rfl, L3_⟩ ?_
   rintro _ i_2 ⟨rfl, L3_⟩
   refine T_fact (len_sl (T := tAtom) (.tmp 0) rfl) (fun hl3 => ?_)
   refine T_seq ?_
   refine sr ?_
   refine pv tb 2 rfl ?_
   refine Tp rfl rfl (pur_lenT (T := tAtom) sl27 rfl rfl) rfl ?_
   refine pv tb 1 rfl ?_
   refine TO_nil ?_
   refine T_cond (t := decide ((i_2 : Int) < (a0.length : Int))) rfl (fun d3 => ?_) (fun d3 => ?_)
   ·replace d3 := of_decide_eq_true d3
    obtain ⟨x_i_2, hx_i_2⟩ : ∃ v, (a0)[i_2]? = some v := ⟨_, List.getElem?_eq_getElem (by omega)⟩
    obtain ⟨C3_, H, K3_⟩ := forL_step L3_ hx_i_2
    rw [hb3] at H
    refine T_skip ?_
    refine T_seq ?_
    refine T_block ?_
    refine T_seq ?_
    refine T_regionD mixed (by kernel_rfl) ?_
    refine pq tb 2 rfl ?_
    refine TQ_pure rfl (pur_ixT (T := tAtom) sl27 rfl rfl rfl hx_i_2 rfl) rfl ?_
    refine TQ_pure rfl (pur_ldTK (T := tAtom) (i := i_2) (off := 0) rfl agg150 rfl rfl hx_i_2 (by decide) rfl) rfl ?_
    obtain ⟨v_4, h_5, H⟩ := bind_inv H
    obtain ⟨n_6, hz_7, hv_8⟩ := getI_inv h_5
    refine pq tb 2 rfl ?_
    refine TQ_pure rfl (pur_ixT (T := tAtom) sl27 rfl rfl hz_7 hv_8 rfl) rfl ?_
    refine TQ_pure rfl (pur_ldTK (T := tAtom) (i := n_6) (off := 0) rfl agg150 rfl rfl hv_8 (by decide) rfl) rfl ?_
    obtain ⟨r_9, h_10, H⟩ := bind_inv H
    refine TQ_callV rfl (call_static ent143 rfl) (m_laws_eqAtom_ok _ _ _ h_10) rfl rfl ?_
    refine pq tb 1 rfl ?_
    refine TQ_nil ?_
    refine T_cond (t := (!r_9)) rfl (fun c_11 => ?_) (fun c_11 => ?_)
    ·replace H := cond_t c_11 H
     refine sr ?_
     refine pv tb 1 rfl ?_
     refine TO_nil ?_
     refine te [(4, (boolA false))] rfl ?_
     refine T_ret ?_
     refine block_ret ?_
     refine then_ret ?_
     refine then_ret ?_
     refine block_ret ?_
     refine then_ret ?_
     obtain rfl := some_inj H
     obtain rfl := some_inj K3_
     replace H := onS_r N3_
     obtain rfl := some_inj H
     refine end_ret (.tmp .nil) rfl rfl ⟨?_, rfl⟩
     rfl
    ·replace H := cond_f c_11 H
     refine T_skip ?_
     refine T_region ?_
     refine pv tb 1 rfl ?_
     refine Tp rfl rfl (pur_add rfl rfl rfl (fits64 (by omega) (by omega))) rfl ?_
     refine pv tb 1 rfl ?_
     refine TO_nil ?_
     obtain rfl := some_inj H
     exact again (a0.length - (i_2 + 1)) (i_2 + 1) (by omega) (w0 0) ⟨rfl, K3_⟩
   ·replace d3 := of_decide_eq_false d3
    obtain rfl := forL_end L3_ (by omega)
    refine T_exit ?_
    refine then_exit ?_
    refine then_exit ?_
    refine block_exit ?_
    replace H := onS_l N3_
    refine sr ?_
    refine pv tb 1 rfl ?_
    refine TO_nil ?_
    refine T_ret ?_
    obtain rfl := some_inj H
    refine end_ret (.tmp .nil) rfl rfl ⟨?_, rfl⟩
    rfl

set_option maxHeartbeats 1000000 in
theorem m_laws_eqQuery_ok (a0 : Query) (b1 : Query) (r : Bool) (H : m_laws_eqQuery a0 b1 = some r) : FnV prg 20 [(.g (tQuery.enc a0)), (.g (tQuery.enc b1))] (boolA r) := by
  unfold m_laws_eqQuery at H
  refine fnV_of_T Try.func20 rfl rfl (Nat.le_of_ble_eq_true rfl) ?_
  refine te [(0, (.g (tQuery.enc a0))), (1, (.g (tQuery.enc b1)))] rfl ?_
  refine sr ?_
  refine TO_cons rfl (TOp_box rfl (boxAll rfl) rfl rfl ?_)
  refine TO_cons rfl (TOp_box rfl (boxAll rfl) rfl rfl ?_)
  refine pv tb 1 rfl ?_
  refine TO_nil ?_
  refine T_seq ?_
  refine sr ?_
  refine pv tb 5 rfl ?_
  refine TO_nil ?_
  refine T_cond (t := decide (a0.variableCount ≠ b1.variableCount)) rfl (fun c_1 => ?_) (fun c_1 => ?_)
  ·replace H := cond_t c_1 H
   refine sr ?_
   refine pv tb 1 rfl ?_
   refine TO_nil ?_
   refine T_ret ?_
   refine then_ret ?_
   obtain rfl := some_inj H
   refine end_ret (.tmp .nil) rfl rfl ⟨?_, rfl⟩
   rfl
  ·replace H := cond_f c_1 H
   refine T_skip ?_
   refine T_seq ?_
   refine sr ?_
   obtain ⟨r_2, h_3, H⟩ := bind_inv H
   refine pv tb 4 rfl ?_
   refine TO_cons rfl (TOp_callV (call_static ent89 rfl) (m_laws_eqAtomS_ok _ _ _ h_3) rfl rfl rfl ?_)
   refine pv tb 1 rfl ?_
   refine TO_nil ?_
   refine T_cond (t := (!r_2)) rfl (fun c_4 => ?_) (fun c_4 => ?_)
   ·replace H := cond_t c_4 H
    refine sr ?_
    refine pv tb 1 rfl ?_
    refine TO_nil ?_
    refine te [(4, (boolA false))] rfl ?_
    refine T_ret ?_
    refine then_ret ?_
    obtain rfl := some_inj H
    refine end_ret (.tmp .nil) rfl rfl ⟨?_, rfl⟩
    rfl
   ·replace H := cond_f c_4 H
    refine T_skip ?_
    refine T_seq ?_
    refine sr ?_
    obtain ⟨r_5, h_6, H⟩ := bind_inv H
    refine pv tb 4 rfl ?_
    refine TO_cons rfl (TOp_callV (call_static ent21 rfl) (m_laws_eqIntS_ok _ _ _ h_6) rfl rfl rfl ?_)
    refine pv tb 1 rfl ?_
    refine TO_nil ?_
    refine te [(21, (boolA (!r_5)))] rfl ?_
    refine T_cond (t := (!r_5)) rfl (fun c_7 => ?_) (fun c_7 => ?_)
    ·replace H := cond_t c_7 H
     refine sr ?_
     refine pv tb 1 rfl ?_
     refine TO_nil ?_
     refine T_ret ?_
     refine then_ret ?_
     obtain rfl := some_inj H
     refine end_ret (.tmp .nil) rfl rfl ⟨?_, rfl⟩
     rfl
    ·replace H := cond_f c_7 H
     refine T_skip ?_
     refine sr ?_
     refine pv tb 1 rfl ?_
     refine TO_nil ?_
     refine T_ret ?_
     obtain rfl := some_inj H
     refine end_ret (.tmp .nil) rfl rfl ⟨?_, rfl⟩
     rfl

set_option maxHeartbeats 1000000 in
theorem m_laws_markIntS_mut (a0 : (List Int)) (k1 : Int) (r : (Int × (List Int))) (H : m_laws_markIntS a0 k1 = some r) : FnM prg 23 [(.m [0] 0 a0.length tInt.k), (intA k1)] [flat tInt.own a0] (.int .i64 r.1) [flat tInt.own r.2] := by
  unfold m_laws_markIntS at H
  refine fnM_of_T Try.func23 rfl rfl (Nat.le_of_ble_eq_true rfl) ?_
  refine te [(0, (.m [0] 0 a0.length tInt.k)), (1, (intA k1))] rfl ?_
  refine T_st (σ' := [.row (flat tInt.own a0)]) rfl ?_
  refine sr ?_
  refine pv tb 1 rfl ?_
  refine TO_nil ?_
  refine T_seq ?_
  refine sr ?_
  refine pv tb 1 rfl ?_
  refine TO_nil ?_
  obtain ⟨O2_, L2_, N2_⟩ := bind_inv H
  clear H
  obtain ⟨B2_, hb2, L2_⟩ := gen_forM L2_
  refine T_block ?_
  refine T_loopX (fun k => fun (⟨i_1, a0m, k1⟩ : Int × (List Int) × Int) => k = ((a0.length : Int) - i_1).toNat ∧ 0 ≤ i_1 ∧ forM B2_ ((a0.length : Int) - i_1).toNat i_1 (a0m, k1) = some O2_ ∧ a0m.length = a0.length) (fun (⟨i_1, a0m, k1⟩ : Int × (List Int) × Int) => [(0, (.m [0] 0 a0m.length tInt.k)), (1, (intA k1)), (5, (intA (i_1 : Int)))]) (fun (⟨i_1, a0m, k1⟩ : Int × (List Int) × Int) => [.row (flat tInt.own a0m)]) _ (0, (a0, k1)) (w0 1) ⟨rfl, Int.le_refl _, L2_, rfl⟩ ?_
  rintro _ ⟨i_1, a0m, k1⟩ ⟨rfl, hi2, L2_, hq_a0m⟩
  replace hq_a0m : a0m.length = a0.length := hq_a0m
  refine T_fact (len_m (.tmp 0) rfl) (fun hl2 => ?_)
  refine T_seq ?_
  refine sr ?_
  refine pv tb 2 rfl ?_
  refine Tp rfl rfl (pur_len_m sl23 rfl rfl) rfl ?_
  refine pv tb 1 rfl ?_
  refine TO_nil ?_
  refine T_cond (t := decide ((i_1 : Int) < (a0m.length : Int))) rfl (fun d2 => ?_) (fun d2 => ?_)
  ·replace d2 := of_decide_eq_true d2
   replace d2 : (i_1 : Int) < (a0.length : Int) := by omega
   obtain ⟨C2_, H, K2_⟩ := forM_step L2_ d2
   rw [hb2] at H
   refine T_skip ?_
   refine T_seq ?_
   refine T_block ?_
   refine sr ?_
   obtain ⟨v_3, h_4, H⟩ := bind_inv H
   obtain ⟨n_5, hz_6, hv_7⟩ := getI_inv h_4
   refine pv tb 3 rfl ?_
   refine Tp rfl rfl (pur_ixM (T := tInt) sl23 rfl rfl hz_6 hv_7 rfl) rfl ?_
   refine TO_cons rfl (TOp_setT (f := tInt.own) (z := (i_1 : Int)) (y := k1) tInt.lenO tInt.pos hz_6 sz3 rfl rfl rfl rfl rfl hv_7 rfl rfl ?_)
   refine TO_env (E' := [(0, (.m [0] 0 (a0m.set ((i_1 : Int)).toNat k1).length tInt.k)), (1, (intA k1)), (5, (intA (i_1 : Int))), (12, (.m [0] 0 (a0m.set ((i_1 : Int)).toNat k1).length tInt.k)), (13, (intA (i_1 : Int))), (14, (intA k1))]) ⟨(congrArg (fun q => A.m [0] 0 q tInt.k) (List.length_set ..).symm), rfl, rfl, (congrArg (fun q => A.m [0] 0 q tInt.k) (List.length_set ..).symm), rfl, rfl, trivial⟩ ?_
   refine TO_st (σ' := [.row (flat tInt.own (a0m.set ((i_1 : Int)).toNat k1))]) rfl ?_
   refine TO_nil ?_
   refine T_region ?_
   refine pv tb 3 rfl ?_
   refine TO_nil ?_
   refine T_region ?_
   refine pv tb 1 rfl ?_
   refine Tp rfl rfl (pur_add rfl rfl rfl (fits64 (by omega) (by omega))) rfl ?_
   refine pv tb 1 rfl ?_
   refine TO_nil ?_
   obtain rfl := some_inj H
   exact again ((a0.length : Int) - (i_1 + 1)).toNat (i_1 + 1, ((a0m.set ((i_1 : Int)).toNat k1), (w64 (k1 + 1)))) (by omega) (w0 1) ⟨rfl, by omega, K2_, ((List.length_set ..).trans hq_a0m)⟩
  ·replace d2 := of_decide_eq_false d2
   obtain rfl := forM_end L2_ (by omega)
   refine T_exit ?_
   refine then_exit ?_
   refine then_exit ?_
   refine block_exit ?_
   replace H := N2_
   refine sr ?_
   refine pv tb 2 rfl ?_
   refine TO_nil ?_
   refine T_ret ?_
   obtain rfl := some_inj H
   exact end_M (.tmp .nil) rfl rfl (Nat.le_refl _) (sameLens_c (T := tInt) hq_a0m trivial) rfl rfl

set_option maxHeartbeats 1000000 in
theorem m_laws_markAtomS_mut (a0 : (List Atom)) (k1 : Int) (r : (Int × (List Atom))) (H : m_laws_markAtomS a0 k1 = some r) : FnM prg 90 [(.m [0] 0 a0.length tAtom.k), (intA k1)] [flat tAtom.own a0] (.int .i64 r.1) [flat tAtom.own r.2] := by
  unfold m_laws_markAtomS at H
  refine fnM_of_T Try.func90 rfl rfl (Nat.le_of_ble_eq_true rfl) ?_
  refine te [(0, (.m [0] 0 a0.length tAtom.k)), (1, (intA k1))] rfl ?_
  refine T_st (σ' := [.row (flat tAtom.own a0)]) rfl ?_
  refine sr ?_
  refine pv tb 1 rfl ?_
  refine TO_nil ?_
  refine T_seq ?_
  refine sr ?_
  refine pv tb 1 rfl ?_
  refine TO_nil ?_
  obtain ⟨O2_, L2_, N2_⟩ := bind_inv H
  clear H
  obtain ⟨B2_, hb2, L2_⟩ := gen_forM L2_
  refine T_block ?_
  refine T_loopX (fun k => fun (⟨i_1, a0m, k1⟩ : Int × (List Atom) × Int) => k = ((a0.length : Int) - i_1).toNat ∧ 0 ≤ i_1 ∧ forM B2_ ((a0.length : Int) - i_1).toNat i_1 (a0m, k1) = some O2_ ∧ a0m.length = a0.length) (fun (⟨i_1, a0m, k1⟩ : Int × (List Atom) × Int) => [(0, (.m [0] 0 a0m.length tAtom.k)), (1, (intA k1)), (5, (intA (i_1 : Int)))]) (fun (⟨i_1, a0m, k1⟩ : Int × (List Atom) × Int) => [.row (flat tAtom.own a0m)]) _ (0, (a0, k1)) (w0 1) ⟨rfl, Int.le_refl _, L2_, rfl⟩ ?_
  rintro _ ⟨i_1, a0m, k1⟩ ⟨rfl, hi2, L2_, hq_a0m⟩
  replace hq_a0m : a0m.length = a0.length := hq_a0m
  refine T_fact (len_m (.tmp 0) rfl) (fun hl2 => ?_)
  refine T_seq ?_
  refine sr ?_
  refine pv tb 2 rfl ?_
  refine Tp rfl rfl (pur_len_m sl27 rfl rfl) rfl ?_
  refine pv tb 1 rfl ?_
  refine TO_nil ?_
  refine T_cond (t := decide ((i_1 : Int) < (a0m.length : Int))) rfl (fun d2 => ?_) (fun d2 => ?_)
  ·replace d2 := of_decide_eq_true d2
   replace d2 : (i_1 : Int) < (a0.length : Int) := by omega
   obtain ⟨C2_, H, K2_⟩ := forM_step L2_ d2
   rw [hb2] at H
   refine T_skip ?_
   refine T_seq ?_
   refine T_block ?_
   refine sr ?_
   obtain ⟨v_3, h_4, H⟩ := bind_inv H
   obtain ⟨n_5, hz_6, hv_7⟩ := getI_inv h_4
   refine pv tb 3 rfl ?_
   refine Tp rfl rfl (pur_ixM (T := tAtom) sl27 rfl rfl hz_6 hv_7 rfl) rfl ?_
   refine pv tb 1 rfl ?_
   refine TO_cons rfl (TOp_setP (f := tAtom.own) (k := tAtom.k) (off := 0) (z := (i_1 : Int)) tAtom.lenO ({ relation := k1, terms := v_3.terms } : Atom) hz_6 sz3 (by decide) rfl rfl rfl rfl rfl hv_7 rfl rfl (by decide) rfl rfl ?_)
   refine TO_env (E' := [(0, (.m [0] 0 (a0m.set ((i_1 : Int)).toNat ({ relation := k1, terms := v_3.terms } : Atom)).length tAtom.k)), (1, (intA k1)), (5, (intA (i_1 : Int))), (12, (.m [0] 0 (a0m.set ((i_1 : Int)).toNat ({ relation := k1, terms := v_3.terms } : Atom)).length tAtom.k)), (13, (intA (i_1 : Int))), (14, (intA k1))]) ⟨(congrArg (fun q => A.m [0] 0 q tAtom.k) (List.length_set ..).symm), rfl, rfl, (congrArg (fun q => A.m [0] 0 q tAtom.k) (List.length_set ..).symm), rfl, rfl, trivial⟩ ?_
   refine TO_st (σ' := [.row (flat tAtom.own (a0m.set ((i_1 : Int)).toNat ({ relation := k1, terms := v_3.terms } : Atom)))]) rfl ?_
   refine TO_nil ?_
   refine sr ?_
   refine pv tb 3 rfl ?_
   refine TO_nil ?_
   refine T_region ?_
   obtain ⟨v_8, h_9, H⟩ := bind_inv H
   obtain ⟨n_10, hz_11, hv_12⟩ := getI_inv h_9
   refine pv tb 2 rfl ?_
   refine Tp rfl rfl (pur_ixM (T := tAtom) sl27 rfl rfl hz_11 hv_12 rfl) rfl ?_
   refine pv tb 1 rfl ?_
   refine Tp rfl rfl (pur_ldE (f := tAtom.own) (k := tAtom.k) (i := n_10) (off := 1) tAtom.lenO rfl one23 rfl rfl rfl hv_12 rfl cellVal_sl) rfl ?_
   obtain ⟨r_13, h_14, H⟩ := bind_inv H
   refine pv tb 1 rfl ?_
   refine TO_cons rfl (TOp_callG (aa := [(.m [0, n_10 * tAtom.k + 1] 0 v_8.terms.length tInt.k), (intA (w64 (k1 + 1)))]) [[0, n_10 * tAtom.k + 1]] (call_static ent23 rfl) rfl (.cons (rowAt_el (f := tAtom.own) (i := n_10) (off := 1) tAtom.lenO rfl hv_12 rfl) rfl (by simp) .nil) (by simp [namesL, A.names, locP]) (by simp [renPL, A.renP, locF, locP]) (m_laws_markIntS_mut _ _ _ h_14) rfl (fun hl_15 => ?_))
   refine TO_env (E' := [(0, (.m [0] 0 ((a0m.set ((i_1 : Int)).toNat ({ relation := k1, terms := v_3.terms } : Atom)).set ((i_1 : Int)).toNat ({ relation := v_8.relation, terms := r_13.2 } : Atom)).length tAtom.k)), (1, (intA (w64 (k1 + 1)))), (5, (intA (i_1 : Int))), (19, (.m [0] 0 ((a0m.set ((i_1 : Int)).toNat ({ relation := k1, terms := v_3.terms } : Atom)).set ((i_1 : Int)).toNat ({ relation := v_8.relation, terms := r_13.2 } : Atom)).length tAtom.k)), (20, (intA (i_1 : Int))), (24, (intA (w64 (k1 + 1)))), (25, (intA r_13.1))]) ⟨(congrArg (fun q => A.m [0] 0 q tAtom.k) (List.length_set ..).symm), rfl, rfl, (congrArg (fun q => A.m [0] 0 q tAtom.k) (List.length_set ..).symm), rfl, rfl, rfl, trivial⟩ ?_
   refine TO_st (σ' := [.row (flat tAtom.own ((a0m.set ((i_1 : Int)).toNat ({ relation := k1, terms := v_3.terms } : Atom)).set ((i_1 : Int)).toNat ({ relation := v_8.relation, terms := r_13.2 } : Atom)))]) (setRows_T (f := tAtom.own) (i := n_10) (v' := ({ relation := v_8.relation, terms := r_13.2 } : Atom)) tAtom.lenO hz_11 [1] rfl hv_12 (allO_cons ⟨_, _, rfl⟩ allO_nil) rfl) ?_
   refine pv tb 1 rfl ?_
   refine TO_nil ?_
   refine T_region ?_
   refine pv tb 1 rfl ?_
   refine Tp rfl rfl (pur_add rfl rfl rfl (fits64 (by omega) (by omega))) rfl ?_
   refine pv tb 1 rfl ?_
   refine TO_nil ?_
   obtain rfl := some_inj H
   exact again ((a0.length : Int) - (i_1 + 1)).toNat (i_1 + 1, (((a0m.set ((i_1 : Int)).toNat ({ relation := k1, terms := v_3.terms } : Atom)).set ((i_1 : Int)).toNat ({ relation := v_8.relation, terms := r_13.2 } : Atom)), r_13.1)) (by omega) (w0 1) ⟨rfl, by omega, K2_, ((List.length_set ..).trans ((List.length_set ..).trans hq_a0m))⟩
  ·replace d2 := of_decide_eq_false d2
   obtain rfl := forM_end L2_ (by omega)
   refine T_exit ?_
   refine then_exit ?_
   refine then_exit ?_
   refine block_exit ?_
   replace H := N2_
   refine sr ?_
   refine pv tb 2 rfl ?_
   refine TO_nil ?_
   refine T_ret ?_
   obtain rfl := some_inj H
   exact end_M (.tmp .nil) rfl rfl (Nat.le_refl _) (sameLens_c (T := tAtom) hq_a0m trivial) rfl rfl

set_option maxHeartbeats 1000000 in
theorem m_laws_markQuery_mut (a0 : Query) (k1 : Int) (r : (Int × Query)) (H : m_laws_markQuery a0 k1 = some r) : FnM prg 22 [(.g [(intA a0.variableCount), (.m [0] 0 a0.atoms.length tAtom.k), (.m [1] 0 a0.free.length tInt.k)]), (intA k1)] [flat tAtom.own a0.atoms, flat tInt.own a0.free] (.int .i64 r.1) [flat tAtom.own r.2.atoms, flat tInt.own r.2.free] := by
  unfold m_laws_markQuery at H
  refine fnM_of_T Try.func22 rfl rfl (Nat.le_of_ble_eq_true rfl) ?_
  refine te [(0, (.g [(intA a0.variableCount), (.m [0] 0 a0.atoms.length tAtom.k), (.m [1] 0 a0.free.length tInt.k)])), (1, (intA k1))] rfl ?_
  refine T_st (σ' := [.row (flat tAtom.own a0.atoms), .row (flat tInt.own a0.free)]) rfl ?_
  refine sr ?_
  refine TO_cons rfl (TOp_box rfl (boxAll rfl) rfl rfl ?_)
  refine pv tb 1 rfl ?_
  refine TO_nil ?_
  refine sr ?_
  obtain ⟨r_1, h_2, H⟩ := bind_inv H
  refine pv tb 3 rfl ?_
  refine TO_cons rfl (TOp_callG (aa := [(.m [0] 0 a0.atoms.length tAtom.k), (intA k1)]) [[0]] (call_static ent90 rfl) rfl (.cons rfl rfl (by decide) .nil) rfl rfl (m_laws_markAtomS_mut _ _ _ h_2) rfl (fun hl_3 => ?_))
  obtain ⟨hq_4, hl_3⟩ := sameLens_T (T := tAtom) hl_3
  refine TO_env (E' := [(1, (intA k1)), (2, (.b 2 0)), (5, (.b 2 1)), (6, (.m [0] 0 r_1.2.length tAtom.k)), (7, (intA k1)), (8, (intA r_1.1))]) ⟨rfl, rfl, rfl, (congrArg (fun q => A.m [0] 0 q tAtom.k) hq_4.symm), rfl, rfl, trivial⟩ ?_
  refine TO_st (σ' := [.row (flat tAtom.own r_1.2), .row (flat tInt.own a0.free), .box [(intA a0.variableCount), (.m [0] 0 a0.atoms.length tAtom.k), (.m [1] 0 a0.free.length tInt.k)]]) rfl ?_
  refine TO_st (σ' := [.row (flat tAtom.own r_1.2), .row (flat tInt.own a0.free), .box [(intA a0.variableCount), (.m [0] 0 r_1.2.length tAtom.k), (.m [1] 0 a0.free.length tInt.k)]]) (by simp only [hq_4]) ?_
  refine pv tb 1 rfl ?_
  refine TO_nil ?_
  refine sr ?_
  obtain ⟨r_5, h_6, H⟩ := bind_inv H
  refine pv tb 3 rfl ?_
  refine TO_cons rfl (TOp_callG (aa := [(.m [1] 0 a0.free.length tInt.k), (intA r_1.1)]) [[1]] (call_static ent23 rfl) rfl (.cons rfl rfl (by decide) .nil) rfl rfl (m_laws_markIntS_mut _ _ _ h_6) rfl (fun hl_7 => ?_))
  obtain ⟨hq_8, hl_7⟩ := sameLens_T (T := tInt) hl_7
  refine TO_env (E' := [(1, (intA r_1.1)), (2, (.b 2 0)), (9, (.b 2 2)), (10, (.m [1] 0 r_5.2.length tInt.k)), (11, (intA r_1.1)), (12, (intA r_5.1))]) ⟨rfl, rfl, rfl, (congrArg (fun q => A.m [1] 0 q tInt.k) hq_8.symm), rfl, rfl, trivial⟩ ?_
  refine TO_st (σ' := [.row (flat tAtom.own r_1.2), .row (flat tInt.own r_5.2), .box [(intA a0.variableCount), (.m [0] 0 r_1.2.length tAtom.k), (.m [1] 0 a0.free.length tInt.k)]]) rfl ?_
  refine TO_st (σ' := [.row (flat tAtom.own r_1.2), .row (flat tInt.own r_5.2), .box [(intA a0.variableCount), (.m [0] 0 r_1.2.length tAtom.k), (.m [1] 0 r_5.2.length tInt.k)]]) (by simp only [hq_8]) ?_
  refine pv tb 1 rfl ?_
  refine TO_nil ?_
  refine sr ?_
  refine pv tb 2 rfl ?_
  refine TO_nil ?_
  refine T_ret ?_
  obtain rfl := some_inj H
  exact end_M (.tmp .nil) rfl rfl (Nat.le_refl _) (sameLens_c (T := tAtom) hq_4 (sameLens_c (T := tInt) hq_8 trivial)) rfl rfl

set_option maxHeartbeats 1000000 in
theorem m_laws_heldIntS_ok (a0 : (List Int)) (k1 : Int) (r : Int) (H : m_laws_heldIntS a0 k1 = some r) : FnV prg 31 [(sl tInt a0), (intA k1)] (intA r) := by
  unfold m_laws_heldIntS at H
  refine fnV_of_T Try.func31 rfl rfl (Nat.le_of_ble_eq_true rfl) ?_
  refine te [(0, (sl tInt a0)), (1, (intA k1))] rfl ?_
  refine sr ?_
  refine pv tb 1 rfl ?_
  refine TO_nil ?_
  refine T_seq ?_
  refine sr ?_
  refine pv tb 1 rfl ?_
  refine TO_nil ?_
  obtain ⟨O2_, L2_, N2_⟩ := bind_inv H
  clear H
  obtain ⟨B2_, hb2, L2_⟩ := gen_forL L2_
  refine T_block ?_
  refine T_loopX (fun k => fun (⟨i_1, k1⟩ : Nat × Int) => k = a0.length - i_1 ∧ forL B2_ (a0.drop i_1) (i_1 : Int) k1 = some O2_) (fun (⟨i_1, k1⟩ : Nat × Int) => [(0, (sl tInt a0)), (1, (intA k1)), (5, (intA (i_1 : Int)))]) (fun (⟨i_1, k1⟩ : Nat × Int) => []) _ (0, k1) (w0 0) ⟨rfl, L2_⟩ ?_
  rintro _ ⟨i_1, k1⟩ ⟨rfl, L2_⟩
  refine T_fact (len_sl (T := tInt) (.tmp 0) rfl) (fun hl2 => ?_)
  refine T_seq ?_
  refine sr ?_
  refine pv tb 2 rfl ?_
  refine Tp rfl rfl (pur_lenT (T := tInt) sl23 rfl rfl) rfl ?_
  refine pv tb 1 rfl ?_
  refine TO_nil ?_
  refine T_cond (t := decide ((i_1 : Int) < (a0.length : Int))) rfl (fun d2 => ?_) (fun d2 => ?_)
  ·replace d2 := of_decide_eq_true d2
   obtain ⟨x_i_1, hx_i_1⟩ : ∃ v, (a0)[i_1]? = some v := ⟨_, List.getElem?_eq_getElem (by omega)⟩
   obtain ⟨C2_, H, K2_⟩ := forL_step L2_ hx_i_1
   rw [hb2] at H
   refine T_skip ?_
   refine T_seq ?_
   refine T_block ?_
   refine T_seq ?_
   refine sr ?_
   refine pv tb 2 rfl ?_
   refine Tp rfl rfl (pur_ixT (T := tInt) sl23 rfl rfl rfl hx_i_1 rfl) rfl ?_
   refine Tp rfl rfl (pur_ldT (T := tInt) (i := i_1) (off := 0) rfl one3 rfl rfl hx_i_1 rfl) rfl ?_
   refine pv tb 2 rfl ?_
   refine TO_nil ?_
   refine T_cond (t := decide (x_i_1 ≠ k1)) rfl (fun c_3 => ?_) (fun c_3 => ?_)
   ·replace H := cond_t c_3 H
    refine sr ?_
    refine pv tb 1 rfl ?_
    refine TO_nil ?_
    refine T_ret ?_
    refine then_ret ?_
    refine block_ret ?_
    refine then_ret ?_
    refine then_ret ?_
    refine block_ret ?_
    refine then_ret ?_
    obtain rfl := some_inj H
    obtain rfl := some_inj K2_
    replace H := onS_r N2_
    obtain rfl := some_inj H
    refine end_ret (.tmp .nil) rfl rfl ⟨?_, rfl⟩
    rfl
   ·replace H := cond_f c_3 H
    refine T_skip ?_
    refine T_region ?_
    refine pv tb 3 rfl ?_
    refine TO_nil ?_
    refine T_region ?_
    refine pv tb 1 rfl ?_
    refine Tp rfl rfl (pur_add rfl rfl rfl (fits64 (by omega) (by omega))) rfl ?_
    refine pv tb 1 rfl ?_
    refine TO_nil ?_
    obtain rfl := some_inj H
    exact again (a0.length - (i_1 + 1)) (i_1 + 1, (w64 (k1 + 1))) (by omega) (w0 0) ⟨rfl, K2_⟩
  ·replace d2 := of_decide_eq_false d2
   obtain rfl := forL_end L2_ (by omega)
   refine T_exit ?_
   refine then_exit ?_
   refine then_exit ?_
   refine block_exit ?_
   replace H := onS_l N2_
   refine sr ?_
   refine pv tb 2 rfl ?_
   refine TO_nil ?_
   refine T_ret ?_
   obtain rfl := some_inj H
   refine end_ret (.tmp .nil) rfl rfl ⟨?_, rfl⟩
   rfl

set_option maxHeartbeats 1000000 in
theorem m_laws_heldAtomS_ok (a0 : (List Atom)) (k1 : Int) (r : Int) (H : m_laws_heldAtomS a0 k1 = some r) : FnV prg 91 [(sl tAtom a0), (intA k1)] (intA r) := by
  unfold m_laws_heldAtomS at H
  refine fnV_of_T Try.func91 rfl rfl (Nat.le_of_ble_eq_true rfl) ?_
  refine te [(0, (sl tAtom a0)), (1, (intA k1))] rfl ?_
  refine sr ?_
  refine pv tb 1 rfl ?_
  refine TO_nil ?_
  refine T_seq ?_
  refine sr ?_
  refine pv tb 1 rfl ?_
  refine TO_nil ?_
  obtain ⟨O2_, L2_, N2_⟩ := bind_inv H
  clear H
  obtain ⟨B2_, hb2, L2_⟩ := gen_forL L2_
  refine T_block ?_
  refine T_loopX (fun k => fun (⟨i_1, k1⟩ : Nat × Int) => k = a0.length - i_1 ∧ forL B2_ (a0.drop i_1) (i_1 : Int) k1 = some O2_) (fun (⟨i_1, k1⟩ : Nat × Int) => [(0, (sl tAtom a0)), (1, (intA k1)), (5, (intA (i_1 : Int)))]) (fun (⟨i_1, k1⟩ : Nat × Int) => []) _ (0, k1) (w0 0) ⟨rfl, L2_⟩ ?_
  rintro _ ⟨i_1, k1⟩ ⟨rfl, L2_⟩
  refine T_fact (len_sl (T := tAtom) (.tmp 0) rfl) (fun hl2 => ?_)
  refine T_seq ?_
  refine sr ?_
  refine pv tb 2 rfl ?_
  refine Tp rfl rfl (pur_lenT (T := tAtom) sl27 rfl rfl) rfl ?_
  refine pv tb 1 rfl ?_
  refine TO_nil ?_
  refine T_cond (t := decide ((i_1 : Int) < (a0.length : Int))) rfl (fun d2 => ?_) (fun d2 => ?_)
  ·replace d2 := of_decide_eq_true d2
   obtain ⟨x_i_1, hx_i_1⟩ : ∃ v, (a0)[i_1]? = some v := ⟨_, List.getElem?_eq_getElem (by omega)⟩
   obtain ⟨C2_, H, K2_⟩ := forL_step L2_ hx_i_1
   rw [hb2] at H
   refine T_skip ?_
   refine T_seq ?_
   refine T_block ?_
   refine T_seq ?_
   refine sr ?_
   refine pv tb 2 rfl ?_
   refine Tp rfl rfl (pur_ixT (T := tAtom) sl27 rfl rfl rfl hx_i_1 rfl) rfl ?_
   refine pv tb 1 rfl ?_
   refine Tp rfl rfl (pur_ldT (T := tAtom) (i := i_1) (off := 0) rfl one3 rfl rfl hx_i_1 rfl) rfl ?_
   refine pv tb 2 rfl ?_
   refine TO_nil ?_
   refine T_cond (t := decide (x_i_1.relation ≠ k1)) rfl (fun c_3 => ?_) (fun c_3 => ?_)
   ·replace H := cond_t c_3 H
    refine sr ?_
    refine pv tb 1 rfl ?_
    refine TO_nil ?_
    refine T_ret ?_
    refine then_ret ?_
    refine block_ret ?_
    refine then_ret ?_
    refine then_ret ?_
    refine block_ret ?_
    refine then_ret ?_
    obtain rfl := some_inj H
    obtain rfl := some_inj K2_
    replace H := onS_r N2_
    obtain rfl := some_inj H
    refine end_ret (.tmp .nil) rfl rfl ⟨?_, rfl⟩
    rfl
   ·replace H := cond_f c_3 H
    refine T_skip ?_
    refine sr ?_
    refine pv tb 3 rfl ?_
    refine TO_nil ?_
    refine sr ?_
    refine pv tb 2 rfl ?_
    refine Tp rfl rfl (pur_ixT (T := tAtom) sl27 rfl rfl rfl hx_i_1 rfl) rfl ?_
    refine pv tb 1 rfl ?_
    refine Tp rfl rfl (pur_ldT (T := tAtom) (i := i_1) (off := 1) rfl one23 rfl rfl hx_i_1 rfl) rfl ?_
    obtain ⟨r_4, h_5, H⟩ := bind_inv H
    refine pv tb 1 rfl ?_
    refine TO_cons rfl (TOp_callV (call_static ent31 rfl) (m_laws_heldIntS_ok _ _ _ h_5) rfl rfl rfl ?_)
    refine pv tb 1 rfl ?_
    refine TO_nil ?_
    refine te [(0, (sl tAtom a0)), (1, (intA r_4)), (5, (intA (i_1 : Int)))] rfl ?_
    refine sr ?_
    refine pv tb 2 rfl ?_
    refine TO_nil ?_
    refine T_cond (t := decide (r_4 < 0)) rfl (fun c_6 => ?_) (fun c_6 => ?_)
    ·replace H := cond_t c_6 H
     refine sr ?_
     refine pv tb 1 rfl ?_
     refine TO_nil ?_
     refine T_ret ?_
     refine block_ret ?_
     refine then_ret ?_
     refine then_ret ?_
     refine block_ret ?_
     refine then_ret ?_
     obtain rfl := some_inj H
     obtain rfl := some_inj K2_
     replace H := onS_r N2_
     obtain rfl := some_inj H
     refine end_ret (.tmp .nil) rfl rfl ⟨?_, rfl⟩
     rfl
    ·replace H := cond_f c_6 H
     refine T_skip ?_
     refine T_region ?_
     refine pv tb 1 rfl ?_
     refine Tp rfl rfl (pur_add rfl rfl rfl (fits64 (by omega) (by omega))) rfl ?_
     refine pv tb 1 rfl ?_
     refine TO_nil ?_
     obtain rfl := some_inj H
     exact again (a0.length - (i_1 + 1)) (i_1 + 1, r_4) (by omega) (w0 0) ⟨rfl, K2_⟩
  ·replace d2 := of_decide_eq_false d2
   obtain rfl := forL_end L2_ (by omega)
   refine T_exit ?_
   refine then_exit ?_
   refine then_exit ?_
   refine block_exit ?_
   replace H := onS_l N2_
   refine sr ?_
   refine pv tb 2 rfl ?_
   refine TO_nil ?_
   refine T_ret ?_
   obtain rfl := some_inj H
   refine end_ret (.tmp .nil) rfl rfl ⟨?_, rfl⟩
   rfl

set_option maxHeartbeats 1000000 in
theorem m_laws_heldQuery_ok (a0 : Query) (k1 : Int) (r : Int) (H : m_laws_heldQuery a0 k1 = some r) : FnV prg 24 [(.g (tQuery.enc a0)), (intA k1)] (intA r) := by
  unfold m_laws_heldQuery at H
  refine fnV_of_T Try.func24 rfl rfl (Nat.le_of_ble_eq_true rfl) ?_
  refine te [(0, (.g (tQuery.enc a0))), (1, (intA k1))] rfl ?_
  refine sr ?_
  refine TO_cons rfl (TOp_box rfl (boxAll rfl) rfl rfl ?_)
  refine pv tb 1 rfl ?_
  refine TO_nil ?_
  refine sr ?_
  obtain ⟨r_1, h_2, H⟩ := bind_inv H
  refine pv tb 3 rfl ?_
  refine TO_cons rfl (TOp_callV (call_static ent91 rfl) (m_laws_heldAtomS_ok _ _ _ h_2) rfl rfl rfl ?_)
  refine pv tb 1 rfl ?_
  refine TO_nil ?_
  refine T_seq ?_
  refine sr ?_
  refine pv tb 2 rfl ?_
  refine TO_nil ?_
  refine T_cond (t := decide (r_1 < 0)) rfl (fun c_3 => ?_) (fun c_3 => ?_)
  ·replace H := cond_t c_3 H
   refine sr ?_
   refine pv tb 1 rfl ?_
   refine TO_nil ?_
   refine T_ret ?_
   refine then_ret ?_
   obtain rfl := some_inj H
   refine end_ret (.tmp .nil) rfl rfl ⟨?_, rfl⟩
   rfl
  ·replace H := cond_f c_3 H
   refine T_skip ?_
   refine sr ?_
   obtain ⟨r_4, h_5, H⟩ := bind_inv H
   refine pv tb 3 rfl ?_
   refine TO_cons rfl (TOp_callV (call_static ent31 rfl) (m_laws_heldIntS_ok _ _ _ h_5) rfl rfl rfl ?_)
   refine pv tb 1 rfl ?_
   refine TO_nil ?_
   refine T_seq ?_
   refine sr ?_
   refine pv tb 2 rfl ?_
   refine TO_nil ?_
   refine T_cond (t := decide (r_4 < 0)) rfl (fun c_6 => ?_) (fun c_6 => ?_)
   ·replace H := cond_t c_6 H
    refine sr ?_
    refine pv tb 1 rfl ?_
    refine TO_nil ?_
    refine te [(4, (intA (-1)))] rfl ?_
    refine T_ret ?_
    refine then_ret ?_
    obtain rfl := some_inj H
    refine end_ret (.tmp .nil) rfl rfl ⟨?_, rfl⟩
    rfl
   ·replace H := cond_f c_6 H
    refine T_skip ?_
    refine te [(1, (intA r_4))] rfl ?_
    refine sr ?_
    refine pv tb 2 rfl ?_
    refine TO_nil ?_
    refine T_ret ?_
    obtain rfl := some_inj H
    refine end_ret (.tmp .nil) rfl rfl ⟨?_, rfl⟩
    rfl
end Go.Proofs.Ytjdpolnakhmkmaa

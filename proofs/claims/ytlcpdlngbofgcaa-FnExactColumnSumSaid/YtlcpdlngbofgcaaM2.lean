/- Walks. -/
import Derived.Test.YtlcpdlngbofgcaaM1
set_option linter.unusedVariables false
set_option linter.unusedSimpArgs false
set_option maxRecDepth 4000
namespace Go.Proofs.Ytlcpdlngbofgcaa
open Go Go.Proofs Go.Sep
set_option maxHeartbeats 1000000 in
/-- impl.within -/
theorem m_impl_within_ok (n0 : Int) (low1 : Int) (high2 : Int) (r : Bool) (H : m_impl_within n0 low1 high2 = some r) : FnV prg 90 [(intA n0), (intA low1), (intA high2)] (boolA r) := by
  unfold m_impl_within at H
  refine fnV_of_T Try.func90 rfl rfl (Nat.le_of_ble_eq_true rfl) ?_
  refine T_env (E' := [(0, (intA n0)), (1, (intA low1)), (2, (intA high2))]) ⟨rfl, rfl, rfl, trivial⟩ ?_
  refine T_seq ?_
  refine T_region ?_
  refine TO_cons rfl (TOp_pure (pur_assign rfl) rfl ?_)
  refine TO_nil ?_
  refine T_env (E' := [(0, (intA n0)), (1, (intA low1)), (2, (intA high2))]) ⟨rfl, rfl, rfl, trivial⟩ ?_
  refine T_cutX (fun x => ((decide (low1 ≤ n0)) && (decide (n0 ≤ high2))) = x) (fun (t6 : Bool) => [(6, (boolA t6))]) (fun (t6 : Bool) => []) ?_ ?_
  · skip
    refine T_region ?_
    refine TO_cons rfl (TOp_pure (pur_move rfl) rfl ?_)
    refine TO_cons rfl (TOp_pure (pur_move rfl) rfl ?_)
    refine TO_cons rfl (TOp_pure (pur_leq rfl rfl rfl) rfl ?_)
    refine TO_cons rfl (TOp_pure (pur_move rfl) rfl ?_)
    refine TO_split (t := decide (low1 ≤ n0)) 10 rfl (fun g_3 => ?_) (fun g_3 => ?_)
    · skip
      refine TO_on rfl rfl (by decide) rfl rfl (TOp_pure (pur_move rfl) rfl ?_)
      refine TO_on rfl rfl (by decide) rfl rfl (TOp_pure (pur_move rfl) rfl ?_)
      refine TO_on rfl rfl (by decide) rfl rfl (TOp_pure (pur_leq rfl rfl rfl) rfl ?_)
      refine TO_cons rfl (TOp_pure (pur_pick (t := true) rfl rfl rfl) rfl ?_)
      refine TO_cons rfl (TOp_pure (pur_assign rfl) rfl ?_)
      refine TO_nil ?_
      exact joined (decide (n0 ≤ high2)) (WeakL.to 0 (Nat.le_of_ble_eq_true rfl) rfl rfl rfl rfl ⟨leR rfl, trivial⟩) (by first | exact Eq.symm ((and_T g_3 rfl)))
    · skip
      refine TO_off rfl rfl (by decide) rfl rfl rfl ?_
      refine TO_off rfl rfl (by decide) rfl rfl rfl ?_
      refine TO_off rfl rfl (by decide) rfl rfl rfl ?_
      refine TO_cons rfl (TOp_pure (pur_pick (t := false) rfl rfl rfl) rfl ?_)
      refine TO_cons rfl (TOp_pure (pur_assign rfl) rfl ?_)
      refine TO_nil ?_
      exact joined false (WeakL.to 0 (Nat.le_of_ble_eq_true rfl) rfl rfl rfl rfl ⟨leR rfl, trivial⟩) (by first | exact Eq.symm ((and_F g_3 rfl)))
  · rintro _ rfl
    refine T_env (E' := [(6, (boolA ((decide (low1 ≤ n0)) && (decide (n0 ≤ high2)))))]) ⟨rfl, trivial⟩ ?_
    refine T_ret ?_
    obtain rfl := some_inj H
    refine end_ret (.tmp .nil) rfl rfl ⟨?_, rfl⟩
    rfl

set_option maxHeartbeats 1000000 in
/-- impl.IsValidRelation -/
theorem m_impl_IsValidRelation_ok (relation0 : Relation) (r : Bool) (H : m_impl_IsValidRelation relation0 = some r) : FnV prg 130 [(.g (tRelation.enc relation0))] (boolA r) := by
  unfold m_impl_IsValidRelation at H
  refine fnV_of_T Try.func130 rfl rfl (Nat.le_of_ble_eq_true rfl) ?_
  refine T_env (E' := [(0, (.g (tRelation.enc relation0)))]) ⟨rfl, trivial⟩ ?_
  refine T_seq ?_
  refine T_region ?_
  refine TO_cons rfl (TOp_box rfl (boxAll rfl) rfl rfl ?_)
  refine TO_cons rfl (TOp_pure (pur_assign rfl) rfl ?_)
  refine TO_nil ?_
  refine T_env (E' := [(1, (.b 0 0))]) ⟨rfl, trivial⟩ ?_
  obtain ⟨t2, J_1, H_2⟩ := bind_inv H
  refine T_cutX (fun x => t2 = x) (fun (t2 : Bool) => [(2, (boolA t2))]) (fun (t2 : Bool) => []) ?_ ?_
  · replace H := J_1
    refine T_region ?_
    refine TO_cons rfl (TOp_pure (pur_fa_b fld97_0 rfl rfl) rfl ?_)
    refine TO_cons rfl (TOp_pure (pur_ld_b one9 rfl rfl rfl rfl) rfl ?_)
    refine TO_cons rfl (TOp_pure (pur_len_s (by kernel_rfl) rfl rfl) rfl ?_)
    refine TO_cons rfl (TOp_pure (pur_eql rfl rfl rfl) rfl ?_)
    refine TO_cons rfl (TOp_pure (pur_move rfl) rfl ?_)
    refine TO_split (t := decide ((relation0.name.size : Int) = 1)) 7 rfl (fun g_3 => ?_) (fun g_3 => ?_)
    · replace H := cond_t g_3 H
      refine TO_on rfl rfl (by decide) rfl rfl (TOp_pure (pur_fa_b fld97_0 rfl rfl) rfl ?_)
      refine TO_on rfl rfl (by decide) rfl rfl (TOp_pure (pur_ld_b one9 rfl rfl rfl rfl) rfl ?_)
      obtain ⟨b_4, h_5, H⟩ := bind_inv H
      refine TO_on rfl rfl (by decide) rfl rfl (TOp_pure (pur_ixS (by kernel_rfl) rfl rfl h_5 rfl) rfl ?_)
      refine TO_on rfl rfl (by decide) rfl rfl (TOp_pure (pur_geq rfl rfl rfl) rfl ?_)
      refine TO_cons rfl (TOp_pure (pur_pick (t := true) rfl rfl rfl) rfl ?_)
      refine TO_cons rfl (TOp_pure (pur_move rfl) rfl ?_)
      refine TO_split (t := decide (97 ≤ b_4)) 13 rfl (fun g_6 => ?_) (fun g_6 => ?_)
      · replace H := cond_t g_6 H
        refine TO_on rfl rfl (by decide) rfl rfl (TOp_pure (pur_fa_b fld97_0 rfl rfl) rfl ?_)
        refine TO_on rfl rfl (by decide) rfl rfl (TOp_pure (pur_ld_b one9 rfl rfl rfl rfl) rfl ?_)
        obtain ⟨b_7, h_8, H⟩ := bind_inv H
        refine TO_on rfl rfl (by decide) rfl rfl (TOp_pure (pur_ixS (by kernel_rfl) rfl rfl h_8 rfl) rfl ?_)
        refine TO_on rfl rfl (by decide) rfl rfl (TOp_pure (pur_leq rfl rfl rfl) rfl ?_)
        refine TO_cons rfl (TOp_pure (pur_pick (t := true) rfl rfl rfl) rfl ?_)
        refine TO_cons rfl (TOp_pure (pur_move rfl) rfl ?_)
        refine TO_split (t := decide (b_7 ≤ 122)) 19 rfl (fun g_9 => ?_) (fun g_9 => ?_)
        · replace H := cond_t g_9 H
          refine TO_on rfl rfl (by decide) rfl rfl (TOp_pure (pur_fa_b fld97_1 rfl rfl) rfl ?_)
          refine TO_on rfl rfl (by decide) rfl rfl (TOp_pure (pur_ld_b one3 rfl rfl rfl rfl) rfl ?_)
          obtain ⟨r_10, h_11, H⟩ := bind_inv H
          refine TO_on rfl rfl (by decide) rfl rfl (TOp_callV (call_static ent90 rfl) (m_impl_within_ok _ _ _ _ h_11) rfl rfl rfl ?_)
          refine TO_cons rfl (TOp_pure (pur_pick (t := true) rfl rfl rfl) rfl ?_)
          refine TO_cons rfl (TOp_pure (pur_move rfl) rfl ?_)
          refine TO_split (t := r_10) 24 rfl (fun g_12 => ?_) (fun g_12 => ?_)
          · replace H := cond_t g_12 H
            refine TO_on rfl rfl (by decide) rfl rfl (TOp_pure (pur_fa_b fld97_2 rfl rfl) rfl ?_)
            refine TO_on rfl rfl (by decide) rfl rfl (TOp_pure (pur_ld_b one3 rfl rfl rfl rfl) rfl ?_)
            refine TO_on rfl rfl (by decide) rfl rfl (TOp_pure (pur_fa_b fld97_1 rfl rfl) rfl ?_)
            refine TO_on rfl rfl (by decide) rfl rfl (TOp_pure (pur_ld_b one3 rfl rfl rfl rfl) rfl ?_)
            obtain ⟨r_13, h_14, H⟩ := bind_inv H
            refine TO_on rfl rfl (by decide) rfl rfl (TOp_callV (call_static ent90 rfl) (m_impl_within_ok _ _ _ _ h_14) rfl rfl rfl ?_)
            refine TO_cons rfl (TOp_pure (pur_pick (t := true) rfl rfl rfl) rfl ?_)
            refine TO_cons rfl (TOp_pure (pur_assign rfl) rfl ?_)
            refine TO_nil ?_
            exact joined r_13 (WeakL.to 0 (Nat.le_of_ble_eq_true rfl) rfl rfl rfl rfl ⟨leR rfl, trivial⟩) (some_inj H).symm
          · replace H := cond_f g_12 H
            refine TO_off rfl rfl (by decide) rfl rfl rfl ?_
            refine TO_off rfl rfl (by decide) rfl rfl rfl ?_
            refine TO_off rfl rfl (by decide) rfl rfl rfl ?_
            refine TO_off rfl rfl (by decide) rfl rfl rfl ?_
            refine TO_off rfl rfl (by decide) rfl rfl rfl ?_
            refine TO_cons rfl (TOp_pure (pur_pick (t := false) rfl rfl rfl) rfl ?_)
            refine TO_cons rfl (TOp_pure (pur_assign rfl) rfl ?_)
            refine TO_nil ?_
            exact joined false (WeakL.to 0 (Nat.le_of_ble_eq_true rfl) rfl rfl rfl rfl ⟨leR rfl, trivial⟩) (some_inj H).symm
        · replace H := cond_f g_9 H
          refine TO_off rfl rfl (by decide) rfl rfl rfl ?_
          refine TO_off rfl rfl (by decide) rfl rfl rfl ?_
          refine TO_off rfl rfl (by decide) rfl rfl rfl ?_
          refine TO_cons rfl (TOp_pure (pur_pick (t := false) rfl rfl rfl) rfl ?_)
          refine TO_cons rfl (TOp_pure (pur_move rfl) rfl ?_)
          refine TO_off rfl rfl (by decide) rfl rfl rfl ?_
          refine TO_off rfl rfl (by decide) rfl rfl rfl ?_
          refine TO_off rfl rfl (by decide) rfl rfl rfl ?_
          refine TO_env (E' := [(24, (boolA false)), (26, (.v undef)), (27, (.v undef))]) ⟨rfl, rfl, rfl, trivial⟩ ?_
          refine TO_off rfl rfl (by decide) rfl rfl rfl ?_
          refine TO_off rfl rfl (by decide) rfl rfl rfl ?_
          refine TO_cons rfl (TOp_pure (pur_pick (t := false) rfl rfl rfl) rfl ?_)
          refine TO_cons rfl (TOp_pure (pur_assign rfl) rfl ?_)
          refine TO_nil ?_
          exact joined false (WeakL.to 0 (Nat.le_of_ble_eq_true rfl) rfl rfl rfl rfl ⟨leR rfl, trivial⟩) (some_inj H).symm
      · replace H := cond_f g_6 H
        refine TO_off rfl rfl (by decide) rfl rfl rfl ?_
        refine TO_off rfl rfl (by decide) rfl rfl rfl ?_
        refine TO_off rfl rfl (by decide) rfl rfl rfl ?_
        refine TO_off rfl rfl (by decide) rfl rfl rfl ?_
        refine TO_cons rfl (TOp_pure (pur_pick (t := false) rfl rfl rfl) rfl ?_)
        refine TO_cons rfl (TOp_pure (pur_move rfl) rfl ?_)
        refine TO_off rfl rfl (by decide) rfl rfl rfl ?_
        refine TO_off rfl rfl (by decide) rfl rfl rfl ?_
        refine TO_env (E' := [(1, (.b 0 0)), (19, (boolA false)), (21, (.v undef))]) ⟨rfl, rfl, rfl, trivial⟩ ?_
        refine TO_off rfl rfl (by decide) rfl rfl rfl ?_
        refine TO_cons rfl (TOp_pure (pur_pick (t := false) rfl rfl rfl) rfl ?_)
        refine TO_cons rfl (TOp_pure (pur_move rfl) rfl ?_)
        refine TO_off rfl rfl (by decide) rfl rfl rfl ?_
        refine TO_off rfl rfl (by decide) rfl rfl rfl ?_
        refine TO_off rfl rfl (by decide) rfl rfl rfl ?_
        refine TO_off rfl rfl (by decide) rfl rfl rfl ?_
        refine TO_off rfl rfl (by decide) rfl rfl rfl ?_
        refine TO_cons rfl (TOp_pure (pur_pick (t := false) rfl rfl rfl) rfl ?_)
        refine TO_cons rfl (TOp_pure (pur_assign rfl) rfl ?_)
        refine TO_nil ?_
        exact joined false (WeakL.to 0 (Nat.le_of_ble_eq_true rfl) rfl rfl rfl rfl ⟨leR rfl, trivial⟩) (some_inj H).symm
    · replace H := cond_f g_3 H
      refine TO_off rfl rfl (by decide) rfl rfl rfl ?_
      refine TO_off rfl rfl (by decide) rfl rfl rfl ?_
      refine TO_off rfl rfl (by decide) rfl rfl rfl ?_
      refine TO_off rfl rfl (by decide) rfl rfl rfl ?_
      refine TO_cons rfl (TOp_pure (pur_pick (t := false) rfl rfl rfl) rfl ?_)
      refine TO_cons rfl (TOp_pure (pur_move rfl) rfl ?_)
      refine TO_off rfl rfl (by decide) rfl rfl rfl ?_
      refine TO_off rfl rfl (by decide) rfl rfl rfl ?_
      refine TO_env (E' := [(1, (.b 0 0)), (13, (boolA false)), (15, (.v undef))]) ⟨rfl, rfl, rfl, trivial⟩ ?_
      refine TO_off rfl rfl (by decide) rfl rfl rfl ?_
      refine TO_off rfl rfl (by decide) rfl rfl rfl ?_
      refine TO_cons rfl (TOp_pure (pur_pick (t := false) rfl rfl rfl) rfl ?_)
      refine TO_cons rfl (TOp_pure (pur_move rfl) rfl ?_)
      refine TO_off rfl rfl (by decide) rfl rfl rfl ?_
      refine TO_off rfl rfl (by decide) rfl rfl rfl ?_
      refine TO_off rfl rfl (by decide) rfl rfl rfl ?_
      refine TO_cons rfl (TOp_pure (pur_pick (t := false) rfl rfl rfl) rfl ?_)
      refine TO_env (E' := [(1, (.b 0 0)), (23, (boolA false))]) ⟨rfl, rfl, trivial⟩ ?_
      refine TO_cons rfl (TOp_pure (pur_move rfl) rfl ?_)
      refine TO_off rfl rfl (by decide) rfl rfl rfl ?_
      refine TO_off rfl rfl (by decide) rfl rfl rfl ?_
      refine TO_off rfl rfl (by decide) rfl rfl rfl ?_
      refine TO_off rfl rfl (by decide) rfl rfl rfl ?_
      refine TO_off rfl rfl (by decide) rfl rfl rfl ?_
      refine TO_cons rfl (TOp_pure (pur_pick (t := false) rfl rfl rfl) rfl ?_)
      refine TO_cons rfl (TOp_pure (pur_assign rfl) rfl ?_)
      refine TO_nil ?_
      exact joined false (WeakL.to 0 (Nat.le_of_ble_eq_true rfl) rfl rfl rfl rfl ⟨leR rfl, trivial⟩) (some_inj H).symm
  · rintro _ rfl
    replace H := H_2
    refine T_env (E' := [(2, (boolA t2))]) ⟨rfl, trivial⟩ ?_
    refine T_ret ?_
    obtain rfl := some_inj H
    refine end_ret (.tmp .nil) rfl rfl ⟨?_, rfl⟩
    rfl

set_option maxHeartbeats 1000000 in
/-- impl.AreValidRelations -/
theorem m_impl_AreValidRelations_ok (relations0 : (List Relation)) (r : Bool) (H : m_impl_AreValidRelations relations0 = some r) : FnV prg 113 [(sl tRelation relations0)] (boolA r) := by
  unfold m_impl_AreValidRelations at H
  refine fnV_of_T Try.func113 rfl rfl (Nat.le_of_ble_eq_true rfl) ?_
  refine T_env (E' := [(0, (sl tRelation relations0))]) ⟨rfl, trivial⟩ ?_
  refine T_seq ?_
  refine T_region ?_
  refine TO_cons rfl (TOp_pure (pur_assign rfl) rfl ?_)
  refine TO_nil ?_
  refine T_env (E' := [(0, (sl tRelation relations0))]) ⟨rfl, trivial⟩ ?_
  refine T_seq ?_
  refine T_seq ?_
  refine T_region ?_
  refine TO_cons rfl (TOp_pure (pur_move rfl) rfl ?_)
  refine TO_cons rfl (TOp_pure (pur_lenT (T := tRelation) sl29 rfl rfl) rfl ?_)
  refine TO_cons rfl (TOp_pure (pur_move rfl) rfl ?_)
  refine TO_nil ?_
  refine T_env (E' := [(0, (sl tRelation relations0)), (5, (sl tRelation relations0)), (6, (intA (relations0.length : Int))), (7, (intA 0))]) ⟨rfl, rfl, rfl, rfl, trivial⟩ ?_
  obtain ⟨O2_, L2_, N2_⟩ := bind_inv H
  clear H
  obtain ⟨B2_, hb2, L2_⟩ := gen_forL L2_
  refine T_block ?_
  refine T_loopX (fun k => fun (t_1 : Nat) => k = relations0.length - t_1 ∧ forL B2_ (relations0.drop t_1) (t_1 : Int) () = some O2_) (fun (t_1 : Nat) => [(0, (sl tRelation relations0)), (5, (sl tRelation relations0)), (6, (intA (relations0.length : Int))), (7, (intA (t_1 : Int)))]) (fun (t_1 : Nat) => []) _ (0 : Nat) (WeakL.to 0 (Nat.le_of_ble_eq_true rfl) rfl rfl rfl rfl ⟨leR rfl, leR rfl, leR rfl, leR rfl, trivial⟩) ⟨rfl, L2_⟩ ?_
  rintro _ t_1 ⟨rfl, L2_⟩
  refine T_env (E' := [(0, (sl tRelation relations0)), (5, (sl tRelation relations0)), (6, (intA (relations0.length : Int))), (7, (intA (t_1 : Int)))]) ⟨rfl, rfl, rfl, rfl, trivial⟩ ?_
  refine T_st (σ' := []) rfl ?_
  refine T_fact (len_sl (T := tRelation) (.tmp 0) rfl) (fun hl2 => ?_)
  refine T_seq ?_
  refine T_region ?_
  refine TO_cons rfl (TOp_pure (pur_lss rfl rfl rfl) rfl ?_)
  refine TO_nil ?_
  refine T_env (E' := [(0, (sl tRelation relations0)), (5, (sl tRelation relations0)), (6, (intA (relations0.length : Int))), (7, (intA (t_1 : Int))), (8, (boolA (decide ((t_1 : Int) < (relations0.length : Int)))))]) ⟨rfl, rfl, rfl, rfl, rfl, trivial⟩ ?_
  refine T_seq ?_
  refine T_cond (t := decide ((t_1 : Int) < (relations0.length : Int))) rfl (fun d2 => ?_) (fun d2 => ?_)
  · replace d2 := of_decide_eq_true d2
    obtain ⟨x_t_1, hx_t_1⟩ : ∃ v, (relations0)[t_1]? = some v := ⟨_, List.getElem?_eq_getElem (by omega)⟩
    obtain ⟨C2_, H, K2_⟩ := forL_step L2_ hx_t_1
    rw [hb2] at H
    refine T_skip ?_
    refine T_env (E' := [(0, (sl tRelation relations0)), (5, (sl tRelation relations0)), (6, (intA (relations0.length : Int))), (7, (intA (t_1 : Int)))]) ⟨rfl, rfl, rfl, rfl, trivial⟩ ?_
    refine T_seq ?_
    refine T_block ?_
    refine T_seq ?_
    refine T_region ?_
    refine TO_cons rfl (TOp_pure (pur_move rfl) rfl ?_)
    refine TO_cons rfl (TOp_pure (pur_ixT (T := tRelation) sl29 rfl rfl rfl hx_t_1 rfl) rfl ?_)
    refine TO_cons rfl (TOp_pure (pur_ldTK (T := tRelation) (i := t_1) (off := 0) rfl agg97 rfl rfl hx_t_1 (by decide) rfl) rfl ?_)
    refine TO_cons rfl (TOp_alloc zero97 rfl rfl ?_)
    refine TO_cons rfl (TOp_pure (pur_assign rfl) rfl ?_)
    refine TO_cons rfl (TOp_storeB sz97 rfl rfl rfl rfl rfl rfl rfl (by decide) (Nat.le_of_ble_eq_true rfl) rfl ?_)
    refine TO_st (σ' := [.box [(strA x_t_1.name), (intA x_t_1.arity), (intA x_t_1.keyLength)]]) rfl ?_
    refine TO_nil ?_
    refine T_env (E' := [(0, (sl tRelation relations0)), (3, (intA (t_1 : Int))), (4, (.b 0 0)), (5, (sl tRelation relations0)), (6, (intA (relations0.length : Int))), (7, (intA (t_1 : Int)))]) ⟨rfl, rfl, rfl, rfl, rfl, rfl, trivial⟩ ?_
    obtain ⟨t29, J_3, H_4⟩ := bind_inv H
    refine T_cutX (fun x => t29 = x) (fun (t29 : Bool) => [(0, (sl tRelation relations0)), (5, (sl tRelation relations0)), (6, (intA (relations0.length : Int))), (7, (intA (t_1 : Int))), (29, (boolA t29))]) (fun (t29 : Bool) => []) ?_ ?_
    · replace H := J_3
      refine T_regionD mixed (by kernel_rfl) ?_
      refine TQ_pure rfl (pur_ldK_b agg97 rfl rfl (Nat.le_of_ble_eq_true rfl) rfl) rfl ?_
      obtain ⟨r_5, h_6, H⟩ := bind_inv H
      refine TQ_callV rfl (call_static ent130 rfl) (m_impl_IsValidRelation_ok _ _ h_6) rfl rfl ?_
      refine TQ_pure rfl (pur_not rfl rfl) rfl ?_
      refine TQ_pure rfl (pur_move rfl) rfl ?_
      refine TQ_split (t := (!r_5)) 15 rfl (fun g_7 => ?_) (fun g_7 => ?_)
      · replace H := cond_t g_7 H
        refine TQ_off rfl rfl (by decide) rfl rfl rfl ?_
        refine TQ_off rfl rfl (by decide) rfl rfl rfl ?_
        refine TQ_off rfl rfl (by decide) rfl rfl rfl ?_
        refine TQ_off rfl rfl (by decide) rfl rfl rfl ?_
        refine TQ_off rfl rfl (by decide) rfl rfl rfl ?_
        refine TQ_off rfl rfl (by decide) rfl rfl rfl ?_
        refine TQ_off rfl rfl (by decide) rfl rfl rfl ?_
        refine TQ_off rfl rfl (by decide) rfl rfl rfl ?_
        refine TQ_env (E' := [(0, (sl tRelation relations0)), (4, (.b 0 0)), (5, (sl tRelation relations0)), (6, (intA (relations0.length : Int))), (7, (intA (t_1 : Int))), (15, (boolA true)), (18, (.v undef)), (23, (.v undef))]) ⟨rfl, rfl, rfl, rfl, rfl, rfl, rfl, rfl, trivial⟩ ?_
        refine TQ_off rfl rfl (by decide) rfl rfl rfl ?_
        refine TQ_off rfl rfl (by decide) rfl rfl rfl ?_
        refine TQ_off rfl rfl (by decide) rfl rfl rfl ?_
        refine TQ_off rfl rfl (by decide) rfl rfl rfl ?_
        refine TQ_off rfl rfl (by decide) rfl rfl rfl ?_
        refine TQ_pure rfl (pur_pick (t := true) rfl rfl rfl) rfl ?_
        refine TQ_nil ?_
        exact joined true (WeakL.to 0 (Nat.le_of_ble_eq_true rfl) rfl rfl rfl rfl ⟨leR rfl, leR rfl, leR rfl, leR rfl, leR rfl, trivial⟩) (some_inj H).symm
      · replace H := cond_f g_7 H
        refine TQ_on rfl rfl (by decide) rfl (pur_move rfl) rfl ?_
        refine TQ_on rfl rfl (by decide) rfl (pur_gtr rfl rfl rfl) rfl ?_
        refine TQ_on rfl rfl (by decide) rfl (pur_move rfl) rfl ?_
        refine TQ_split (t := decide (0 < (t_1 : Int))) 18 rfl (fun g_8 => ?_) (fun g_8 => ?_)
        · replace H := cond_t g_8 H
          refine TQ_on rfl rfl (by decide) rfl (pur_move rfl) rfl ?_
          refine TQ_on rfl rfl (by decide) rfl (pur_move rfl) rfl ?_
          refine TQ_on rfl rfl (by decide) rfl (pur_sub rfl rfl rfl (fits64 (by omega) (by omega))) rfl ?_
          obtain ⟨v_9, h_10, H⟩ := bind_inv H
          obtain ⟨n_11, hz_12, hv_13⟩ := getI_inv h_10
          refine TQ_on rfl rfl (by decide) rfl (pur_ixT (T := tRelation) sl29 rfl rfl hz_12 hv_13 rfl) rfl ?_
          refine TQ_on rfl rfl (by decide) rfl (pur_fa_q fld97_0 rfl rfl) rfl ?_
          refine TQ_on rfl rfl (by decide) rfl (pur_ldT (T := tRelation) (i := n_11) (off := 0) rfl one9 rfl rfl hv_13 rfl) rfl ?_
          refine TQ_on rfl rfl (by decide) rfl (pur_fa_b fld97_0 rfl rfl) rfl ?_
          refine TQ_on rfl rfl (by decide) rfl (pur_ld_b one9 rfl rfl rfl rfl) rfl ?_
          refine TQ_env (E' := [(0, (sl tRelation relations0)), (5, (sl tRelation relations0)), (6, (intA (relations0.length : Int))), (7, (intA (t_1 : Int))), (15, (boolA false)), (18, (boolA true)), (24, (strA v_9.name)), (26, (strA x_t_1.name))]) ⟨rfl, rfl, rfl, rfl, rfl, rfl, rfl, rfl, trivial⟩ ?_
          refine TQ_on rfl rfl (by decide) rfl (pur_geqS rfl rfl rfl) rfl ?_
          refine TQ_on rfl rfl (by decide) rfl (pur_pick (t := true) rfl rfl rfl) rfl ?_
          refine TQ_pure rfl (pur_pick (t := false) rfl rfl rfl) rfl ?_
          refine TQ_nil ?_
          exact joined (!ltS v_9.name x_t_1.name) (WeakL.to 0 (Nat.le_of_ble_eq_true rfl) rfl rfl rfl rfl ⟨leR rfl, leR rfl, leR rfl, leR rfl, leR rfl, trivial⟩) (some_inj H).symm
        · replace H := cond_f g_8 H
          refine TQ_off rfl rfl (by decide) rfl rfl rfl ?_
          refine TQ_off rfl rfl (by decide) rfl rfl rfl ?_
          refine TQ_off rfl rfl (by decide) rfl rfl rfl ?_
          refine TQ_off rfl rfl (by decide) rfl rfl rfl ?_
          refine TQ_off rfl rfl (by decide) rfl rfl rfl ?_
          refine TQ_off rfl rfl (by decide) rfl rfl rfl ?_
          refine TQ_off rfl rfl (by decide) rfl rfl rfl ?_
          refine TQ_off rfl rfl (by decide) rfl rfl rfl ?_
          refine TQ_env (E' := [(0, (sl tRelation relations0)), (5, (sl tRelation relations0)), (6, (intA (relations0.length : Int))), (7, (intA (t_1 : Int))), (15, (boolA false)), (18, (boolA false)), (24, (.v undef)), (26, (.v undef))]) ⟨rfl, rfl, rfl, rfl, rfl, rfl, rfl, rfl, trivial⟩ ?_
          refine TQ_off rfl rfl (by decide) rfl rfl rfl ?_
          refine TQ_on rfl rfl (by decide) rfl (pur_pick (t := false) rfl rfl rfl) rfl ?_
          refine TQ_pure rfl (pur_pick (t := false) rfl rfl rfl) rfl ?_
          refine TQ_nil ?_
          exact joined false (WeakL.to 0 (Nat.le_of_ble_eq_true rfl) rfl rfl rfl rfl ⟨leR rfl, leR rfl, leR rfl, leR rfl, leR rfl, trivial⟩) (some_inj H).symm
    · rintro _ rfl
      replace H := H_4
      refine T_env (E' := [(0, (sl tRelation relations0)), (5, (sl tRelation relations0)), (6, (intA (relations0.length : Int))), (7, (intA (t_1 : Int))), (29, (boolA t29))]) ⟨rfl, rfl, rfl, rfl, rfl, trivial⟩ ?_
      refine T_cond (t := t29) rfl (fun c_14 => ?_) (fun c_14 => ?_)
      · replace H := cond_t c_14 H
        refine T_seq ?_
        refine T_region ?_
        refine TO_cons rfl (TOp_pure (pur_assign rfl) rfl ?_)
        refine TO_nil ?_
        refine T_env (E' := [(2, (boolA false))]) ⟨rfl, trivial⟩ ?_
        refine T_ret ?_
        refine block_ret ?_
        refine then_ret ?_
        refine then_ret ?_
        refine block_ret ?_
        refine then_ret ?_
        obtain rfl := some_inj H
        obtain rfl := some_inj K2_
        replace H := onS_r N2_
        obtain rfl := some_inj H
        refine end_ret (.tmp .nil) rfl rfl ⟨?_, rfl⟩
        rfl
      · replace H := cond_f c_14 H
        refine T_skip ?_
        refine T_env (E' := [(0, (sl tRelation relations0)), (5, (sl tRelation relations0)), (6, (intA (relations0.length : Int))), (7, (intA (t_1 : Int)))]) ⟨rfl, rfl, rfl, rfl, trivial⟩ ?_
        refine T_region ?_
        refine TO_cons rfl (TOp_pure (pur_add rfl rfl rfl (fits64 (by omega) (by omega))) rfl ?_)
        refine TO_cons rfl (TOp_pure (pur_move rfl) rfl ?_)
        refine TO_nil ?_
        obtain rfl := some_inj H
        exact again (relations0.length - (t_1 + 1)) (t_1 + 1) (by omega) (WeakL.to 0 (Nat.le_of_ble_eq_true rfl) rfl rfl rfl rfl ⟨leR rfl, leR rfl, leR rfl, leR rfl, trivial⟩) ⟨rfl, K2_⟩
  · replace d2 := of_decide_eq_false d2
    obtain rfl := forL_end L2_ (by omega)
    refine T_exit ?_
    refine then_exit ?_
    refine then_exit ?_
    refine block_exit ?_
    replace H := onS_l N2_
    refine T_env (E' := [(0, (sl tRelation relations0))]) ⟨rfl, trivial⟩ ?_
    refine T_seq ?_
    refine T_region ?_
    refine TO_cons rfl (TOp_pure (pur_move rfl) rfl ?_)
    refine TO_cons rfl (TOp_pure (pur_lenT (T := tRelation) sl29 rfl rfl) rfl ?_)
    refine TO_cons rfl (TOp_pure (pur_leq rfl rfl rfl) rfl ?_)
    refine TO_cons rfl (TOp_pure (pur_assign rfl) rfl ?_)
    refine TO_nil ?_
    refine T_env (E' := [(2, (boolA (decide ((relations0.length : Int) ≤ 4))))]) ⟨rfl, trivial⟩ ?_
    refine T_ret ?_
    obtain rfl := some_inj H
    refine end_ret (.tmp .nil) rfl rfl ⟨?_, rfl⟩
    rfl

set_option maxHeartbeats 1000000 in
/-- slices.IndexFunc[[]int,int] -/
theorem m_slices_IndexFunc_Sint_int_ok (s0 : (List Int)) (f1 : (Int → Option Bool)) (f1_g : Nat) (f1_c : List A) (f1_E : EnT prg f1_g) (f1_l : looseL f1_c = true) (f1_H : ∀ (x0 : Int) r, f1 x0 = some r → FnV prg f1_g ([(intA x0)] ++ f1_c) (boolA r)) (r : Int) (H : m_slices_IndexFunc_Sint_int s0 f1 = some r) : FnV prg 159 [(sl tInt s0), (.f f1_g f1_c)] (intA r) := by
  unfold m_slices_IndexFunc_Sint_int at H
  refine fnV_of_T Try.func159 rfl rfl (Nat.le_of_ble_eq_true rfl) ?_
  refine T_env (E' := [(0, (sl tInt s0)), (1, (.f f1_g f1_c))]) ⟨rfl, rfl, trivial⟩ ?_
  refine T_seq ?_
  refine T_region ?_
  refine TO_cons rfl (TOp_pure (pur_assign rfl) rfl ?_)
  refine TO_nil ?_
  refine T_env (E' := [(0, (sl tInt s0)), (1, (.f f1_g f1_c))]) ⟨rfl, rfl, trivial⟩ ?_
  refine T_seq ?_
  refine T_seq ?_
  refine T_region ?_
  refine TO_cons rfl (TOp_pure (pur_move rfl) rfl ?_)
  refine TO_cons rfl (TOp_pure (pur_lenT (T := tInt) sl33 rfl rfl) rfl ?_)
  refine TO_cons rfl (TOp_pure (pur_move rfl) rfl ?_)
  refine TO_nil ?_
  refine T_env (E' := [(0, (sl tInt s0)), (1, (.f f1_g f1_c)), (7, (intA (s0.length : Int))), (8, (intA 0))]) ⟨rfl, rfl, rfl, rfl, trivial⟩ ?_
  obtain ⟨O2_, L2_, N2_⟩ := bind_inv H
  clear H
  obtain ⟨B2_, hb2, L2_⟩ := gen_forL L2_
  refine T_block ?_
  refine T_loopX (fun k => fun (t_1 : Nat) => k = s0.length - t_1 ∧ forL B2_ (s0.drop t_1) (t_1 : Int) () = some O2_) (fun (t_1 : Nat) => [(0, (sl tInt s0)), (1, (.f f1_g f1_c)), (7, (intA (s0.length : Int))), (8, (intA (t_1 : Int)))]) (fun (t_1 : Nat) => []) _ (0 : Nat) (WeakL.to 0 (Nat.le_of_ble_eq_true rfl) rfl rfl (by simp only [namesE, A.names, namesL_enc, Bool.false_or, Bool.or_false, looseL_names f1_l]) rfl ⟨leR rfl, leR rfl, leR rfl, leR rfl, trivial⟩) ⟨rfl, L2_⟩ ?_
  rintro _ t_1 ⟨rfl, L2_⟩
  refine T_env (E' := [(0, (sl tInt s0)), (1, (.f f1_g f1_c)), (7, (intA (s0.length : Int))), (8, (intA (t_1 : Int)))]) ⟨rfl, rfl, rfl, rfl, trivial⟩ ?_
  refine T_st (σ' := []) rfl ?_
  refine T_fact (len_sl (T := tInt) (.tmp 0) rfl) (fun hl2 => ?_)
  refine T_seq ?_
  refine T_region ?_
  refine TO_cons rfl (TOp_pure (pur_lss rfl rfl rfl) rfl ?_)
  refine TO_nil ?_
  refine T_env (E' := [(0, (sl tInt s0)), (1, (.f f1_g f1_c)), (7, (intA (s0.length : Int))), (8, (intA (t_1 : Int))), (9, (boolA (decide ((t_1 : Int) < (s0.length : Int)))))]) ⟨rfl, rfl, rfl, rfl, rfl, trivial⟩ ?_
  refine T_seq ?_
  refine T_cond (t := decide ((t_1 : Int) < (s0.length : Int))) rfl (fun d2 => ?_) (fun d2 => ?_)
  · replace d2 := of_decide_eq_true d2
    obtain ⟨x_t_1, hx_t_1⟩ : ∃ v, (s0)[t_1]? = some v := ⟨_, List.getElem?_eq_getElem (by omega)⟩
    obtain ⟨C2_, H, K2_⟩ := forL_step L2_ hx_t_1
    rw [hb2] at H
    refine T_skip ?_
    refine T_env (E' := [(0, (sl tInt s0)), (1, (.f f1_g f1_c)), (7, (intA (s0.length : Int))), (8, (intA (t_1 : Int)))]) ⟨rfl, rfl, rfl, rfl, trivial⟩ ?_
    refine T_seq ?_
    refine T_block ?_
    refine T_seq ?_
    refine T_region ?_
    refine TO_cons rfl (TOp_pure (pur_move rfl) rfl ?_)
    refine TO_cons rfl (TOp_pure (pur_assign rfl) rfl ?_)
    refine TO_nil ?_
    refine T_env (E' := [(0, (sl tInt s0)), (1, (.f f1_g f1_c)), (5, (intA (t_1 : Int))), (7, (intA (s0.length : Int))), (8, (intA (t_1 : Int)))]) ⟨rfl, rfl, rfl, rfl, rfl, trivial⟩ ?_
    refine T_seq ?_
    refine T_region ?_
    refine TO_cons rfl (TOp_pure (pur_move rfl) rfl ?_)
    refine TO_cons rfl (TOp_pure (pur_move rfl) rfl ?_)
    refine TO_cons rfl (TOp_pure (pur_move rfl) rfl ?_)
    refine TO_cons rfl (TOp_pure (pur_ixT (T := tInt) sl33 rfl rfl rfl hx_t_1 rfl) rfl ?_)
    refine TO_cons rfl (TOp_pure (pur_ldT (T := tInt) (i := t_1) (off := 0) rfl one3 rfl rfl hx_t_1 rfl) rfl ?_)
    obtain ⟨r_3, h_4, H⟩ := bind_inv H
    refine TO_cons rfl (TOp_callV (call_closure f1_E rfl rfl) (f1_H _  _ h_4) (looseL_app rfl f1_l) rfl rfl ?_)
    refine TO_nil ?_
    refine T_env (E' := [(0, (sl tInt s0)), (1, (.f f1_g f1_c)), (5, (intA (t_1 : Int))), (7, (intA (s0.length : Int))), (8, (intA (t_1 : Int))), (16, (boolA r_3))]) ⟨rfl, rfl, rfl, rfl, rfl, rfl, trivial⟩ ?_
    refine T_cond (t := r_3) rfl (fun c_5 => ?_) (fun c_5 => ?_)
    · replace H := cond_t c_5 H
      refine T_seq ?_
      refine T_region ?_
      refine TO_cons rfl (TOp_pure (pur_move rfl) rfl ?_)
      refine TO_cons rfl (TOp_pure (pur_assign rfl) rfl ?_)
      refine TO_nil ?_
      refine T_env (E' := [(4, (intA (t_1 : Int)))]) ⟨rfl, trivial⟩ ?_
      refine T_ret ?_
      refine block_ret ?_
      refine then_ret ?_
      refine then_ret ?_
      refine block_ret ?_
      refine then_ret ?_
      obtain rfl := some_inj H
      obtain rfl := some_inj K2_
      replace H := onS_r N2_
      obtain rfl := some_inj H
      refine end_ret (.tmp .nil) rfl rfl ⟨?_, rfl⟩
      rfl
    · replace H := cond_f c_5 H
      refine T_skip ?_
      refine T_env (E' := [(0, (sl tInt s0)), (1, (.f f1_g f1_c)), (7, (intA (s0.length : Int))), (8, (intA (t_1 : Int)))]) ⟨rfl, rfl, rfl, rfl, trivial⟩ ?_
      refine T_region ?_
      refine TO_cons rfl (TOp_pure (pur_add rfl rfl rfl (fits64 (by omega) (by omega))) rfl ?_)
      refine TO_cons rfl (TOp_pure (pur_move rfl) rfl ?_)
      refine TO_nil ?_
      obtain rfl := some_inj H
      exact again (s0.length - (t_1 + 1)) (t_1 + 1) (by omega) (WeakL.to 0 (Nat.le_of_ble_eq_true rfl) rfl rfl (by simp only [namesE, A.names, namesL_enc, Bool.false_or, Bool.or_false, looseL_names f1_l]) rfl ⟨leR rfl, leR rfl, leR rfl, leR rfl, trivial⟩) ⟨rfl, K2_⟩
  · replace d2 := of_decide_eq_false d2
    obtain rfl := forL_end L2_ (by omega)
    refine T_exit ?_
    refine then_exit ?_
    refine then_exit ?_
    refine block_exit ?_
    replace H := onS_l N2_
    refine T_env (E' := []) trivial ?_
    refine T_seq ?_
    refine T_region ?_
    refine TO_cons rfl (TOp_pure (pur_assign rfl) rfl ?_)
    refine TO_nil ?_
    refine T_env (E' := [(4, (intA (-1)))]) ⟨rfl, trivial⟩ ?_
    refine T_ret ?_
    obtain rfl := some_inj H
    refine end_ret (.tmp .nil) rfl rfl ⟨?_, rfl⟩
    rfl

set_option maxHeartbeats 1000000 in
/-- slices.ContainsFunc[[]int,int] -/
theorem m_slices_ContainsFunc_Sint_int_ok (s0 : (List Int)) (f1 : (Int → Option Bool)) (f1_g : Nat) (f1_c : List A) (f1_E : EnT prg f1_g) (f1_l : looseL f1_c = true) (f1_H : ∀ (x0 : Int) r, f1 x0 = some r → FnV prg f1_g ([(intA x0)] ++ f1_c) (boolA r)) (r : Bool) (H : m_slices_ContainsFunc_Sint_int s0 f1 = some r) : FnV prg 149 [(sl tInt s0), (.f f1_g f1_c)] (boolA r) := by
  unfold m_slices_ContainsFunc_Sint_int at H
  refine fnV_of_T Try.func149 rfl rfl (Nat.le_of_ble_eq_true rfl) ?_
  refine T_env (E' := [(0, (sl tInt s0)), (1, (.f f1_g f1_c))]) ⟨rfl, rfl, trivial⟩ ?_
  refine T_seq ?_
  refine T_region ?_
  refine TO_cons rfl (TOp_pure (pur_assign rfl) rfl ?_)
  refine TO_nil ?_
  refine T_env (E' := [(0, (sl tInt s0)), (1, (.f f1_g f1_c))]) ⟨rfl, rfl, trivial⟩ ?_
  refine T_seq ?_
  refine T_region ?_
  refine TO_cons rfl (TOp_pure (pur_move rfl) rfl ?_)
  refine TO_cons rfl (TOp_pure (pur_move rfl) rfl ?_)
  obtain ⟨r_1, h_2, H⟩ := bind_inv H
  refine TO_cons rfl (TOp_callV (call_static ent159 rfl) (m_slices_IndexFunc_Sint_int_ok _ f1 f1_g f1_c f1_E f1_l f1_H _ h_2) (looseC rfl (looseC f1_l rfl)) rfl rfl ?_)
  refine TO_cons rfl (TOp_pure (pur_geq rfl rfl rfl) rfl ?_)
  refine TO_cons rfl (TOp_pure (pur_assign rfl) rfl ?_)
  refine TO_nil ?_
  refine T_env (E' := [(4, (boolA (decide (0 ≤ r_1))))]) ⟨rfl, trivial⟩ ?_
  refine T_ret ?_
  obtain rfl := some_inj H
  refine end_ret (.tmp .nil) rfl rfl ⟨?_, rfl⟩
  rfl

set_option maxHeartbeats 1000000 in
/-- impl.areValues$1 -/
theorem m_impl_areValues_1_ok (v0 : Int) (r : Bool) (H : m_impl_areValues_1 v0 = some r) : FnV prg 150 [(intA v0)] (boolA r) := by
  unfold m_impl_areValues_1 at H
  refine fnV_of_T Try.func150 rfl rfl (Nat.le_of_ble_eq_true rfl) ?_
  refine T_env (E' := [(0, (intA v0))]) ⟨rfl, trivial⟩ ?_
  refine T_seq ?_
  refine T_region ?_
  refine TO_cons rfl (TOp_pure (pur_assign rfl) rfl ?_)
  refine TO_nil ?_
  refine T_env (E' := [(0, (intA v0))]) ⟨rfl, trivial⟩ ?_
  refine T_seq ?_
  refine T_region ?_
  refine TO_cons rfl (TOp_pure (pur_move rfl) rfl ?_)
  obtain ⟨r_1, h_2, H⟩ := bind_inv H
  refine TO_cons rfl (TOp_callV (call_static ent90 rfl) (m_impl_within_ok _ _ _ _ h_2) rfl rfl rfl ?_)
  refine TO_cons rfl (TOp_pure (pur_not rfl rfl) rfl ?_)
  refine TO_cons rfl (TOp_pure (pur_assign rfl) rfl ?_)
  refine TO_nil ?_
  refine T_env (E' := [(2, (boolA (!r_1)))]) ⟨rfl, trivial⟩ ?_
  refine T_ret ?_
  obtain rfl := some_inj H
  refine end_ret (.tmp .nil) rfl rfl ⟨?_, rfl⟩
  rfl

set_option maxHeartbeats 1000000 in
/-- impl.areValues -/
theorem m_impl_areValues_ok (list0 : (List Int)) (r : Bool) (H : m_impl_areValues list0 = some r) : FnV prg 131 [(sl tInt list0)] (boolA r) := by
  unfold m_impl_areValues at H
  refine fnV_of_T Try.func131 rfl rfl (Nat.le_of_ble_eq_true rfl) ?_
  refine T_env (E' := [(0, (sl tInt list0))]) ⟨rfl, trivial⟩ ?_
  refine T_seq ?_
  refine T_region ?_
  refine TO_cons rfl (TOp_pure (pur_assign rfl) rfl ?_)
  refine TO_nil ?_
  refine T_env (E' := [(0, (sl tInt list0))]) ⟨rfl, trivial⟩ ?_
  refine T_seq ?_
  refine T_region ?_
  refine TO_cons rfl (TOp_pure (pur_move rfl) rfl ?_)
  obtain ⟨r_1, h_2, H⟩ := bind_inv H
  refine TO_cons rfl (TOp_callV (call_static ent149 rfl) (m_slices_ContainsFunc_Sint_int_ok _ (fun x0 => m_impl_areValues_1 x0) 150 [] ent150 rfl (fun x0 r h => m_impl_areValues_1_ok x0  r h) _ h_2) rfl rfl rfl ?_)
  refine TO_cons rfl (TOp_pure (pur_not rfl rfl) rfl ?_)
  refine TO_cons rfl (TOp_pure (pur_assign rfl) rfl ?_)
  refine TO_nil ?_
  refine T_env (E' := [(2, (boolA (!r_1)))]) ⟨rfl, trivial⟩ ?_
  refine T_ret ?_
  obtain rfl := some_inj H
  refine end_ret (.tmp .nil) rfl rfl ⟨?_, rfl⟩
  rfl

set_option maxHeartbeats 1000000 in
/-- impl.isFact -/
theorem m_impl_isFact_ok (relations0 : (List Relation)) (fact1 : Fact) (r : Bool) (H : m_impl_isFact relations0 fact1 = some r) : FnV prg 114 [(sl tRelation relations0), (.g (tFact.enc fact1))] (boolA r) := by
  unfold m_impl_isFact at H
  refine fnV_of_T Try.func114 rfl rfl (Nat.le_of_ble_eq_true rfl) ?_
  refine T_env (E' := [(0, (sl tRelation relations0)), (1, (.g (tFact.enc fact1)))]) ⟨rfl, rfl, trivial⟩ ?_
  refine T_seq ?_
  refine T_region ?_
  refine TO_cons rfl (TOp_box rfl (boxAll rfl) rfl rfl ?_)
  refine TO_cons rfl (TOp_pure (pur_assign rfl) rfl ?_)
  refine TO_nil ?_
  refine T_env (E' := [(0, (sl tRelation relations0)), (3, (.b 0 0))]) ⟨rfl, rfl, trivial⟩ ?_
  obtain ⟨t4, J_1, H_2⟩ := bind_inv H
  refine T_cutX (fun x => t4 = x) (fun (t4 : Bool) => [(4, (boolA t4))]) (fun (t4 : Bool) => []) ?_ ?_
  · replace H := J_1
    refine T_regionD mixed (by kernel_rfl) ?_
    refine TQ_pure rfl (pur_fa_b fld60_0 rfl rfl) rfl ?_
    refine TQ_pure rfl (pur_ld_b one3 rfl rfl rfl rfl) rfl ?_
    refine TQ_pure rfl (pur_move rfl) rfl ?_
    refine TQ_pure rfl (pur_lenT (T := tRelation) sl29 rfl rfl) rfl ?_
    refine TQ_fact (len_sl (T := tRelation) (.tmp 0) rfl) (fun hl_3 => ?_)
    refine TQ_pure rfl (pur_sub rfl rfl rfl (fits64 (by omega) (by omega))) rfl ?_
    obtain ⟨r_4, h_5, H⟩ := bind_inv H
    refine TQ_callV rfl (call_static ent90 rfl) (m_impl_within_ok _ _ _ _ h_5) rfl rfl ?_
    refine TQ_pure rfl (pur_move rfl) rfl ?_
    refine TQ_split (t := r_4) 11 rfl (fun g_6 => ?_) (fun g_6 => ?_)
    · replace H := cond_t g_6 H
      refine TQ_on rfl rfl (by decide) rfl (pur_fa_b fld60_1 rfl rfl) rfl ?_
      refine TQ_on rfl rfl (by decide) rfl (pur_ld_b one33 rfl rfl rfl rfl) rfl ?_
      refine TQ_on rfl rfl (by decide) rfl (pur_lenT (T := tInt) sl33 rfl rfl) rfl ?_
      refine TQ_on rfl rfl (by decide) rfl (pur_move rfl) rfl ?_
      refine TQ_on rfl rfl (by decide) rfl (pur_fa_b fld60_0 rfl rfl) rfl ?_
      refine TQ_on rfl rfl (by decide) rfl (pur_ld_b one3 rfl rfl rfl rfl) rfl ?_
      obtain ⟨v_7, h_8, H⟩ := bind_inv H
      obtain ⟨n_9, hz_10, hv_11⟩ := getI_inv h_8
      refine TQ_on rfl rfl (by decide) rfl (pur_ixT (T := tRelation) sl29 rfl rfl hz_10 hv_11 rfl) rfl ?_
      refine TQ_on rfl rfl (by decide) rfl (pur_fa_q fld97_1 rfl rfl) rfl ?_
      refine TQ_env (E' := [(3, (.b 0 0)), (11, (boolA true)), (14, (intA (fact1.values.length : Int))), (19, (.q (flat tRelation.enc relations0) (n_9 * tRelation.k + 1)))]) ⟨rfl, rfl, rfl, rfl, trivial⟩ ?_
      refine TQ_on rfl rfl (by decide) rfl (pur_ldT (T := tRelation) (i := n_9) (off := 1) rfl one3 rfl rfl hv_11 rfl) rfl ?_
      refine TQ_on rfl rfl (by decide) rfl (pur_eql rfl rfl rfl) rfl ?_
      refine TQ_pure rfl (pur_pick (t := true) rfl rfl rfl) rfl ?_
      refine TQ_pure rfl (pur_move rfl) rfl ?_
      refine TQ_split (t := decide ((fact1.values.length : Int) = v_7.arity)) 23 rfl (fun g_12 => ?_) (fun g_12 => ?_)
      · replace H := cond_t g_12 H
        refine TQ_on rfl rfl (by decide) rfl (pur_fa_b fld60_1 rfl rfl) rfl ?_
        refine TQ_on rfl rfl (by decide) rfl (pur_ld_b one33 rfl rfl rfl rfl) rfl ?_
        obtain ⟨r_13, h_14, H⟩ := bind_inv H
        refine TQ_onV rfl rfl (by decide) rfl (call_static ent131 rfl) (m_impl_areValues_ok _ _ h_14) rfl rfl ?_
        refine TQ_pure rfl (pur_pick (t := true) rfl rfl rfl) rfl ?_
        refine TQ_pure rfl (pur_assign rfl) rfl ?_
        refine TQ_nil ?_
        exact joined r_13 (WeakL.to 0 (Nat.le_of_ble_eq_true rfl) rfl rfl rfl rfl ⟨leR rfl, trivial⟩) (some_inj H).symm
      · replace H := cond_f g_12 H
        refine TQ_off rfl rfl (by decide) rfl rfl rfl ?_
        refine TQ_off rfl rfl (by decide) rfl rfl rfl ?_
        refine TQ_off rfl rfl (by decide) rfl rfl rfl ?_
        refine TQ_pure rfl (pur_pick (t := false) rfl rfl rfl) rfl ?_
        refine TQ_pure rfl (pur_assign rfl) rfl ?_
        refine TQ_nil ?_
        exact joined false (WeakL.to 0 (Nat.le_of_ble_eq_true rfl) rfl rfl rfl rfl ⟨leR rfl, trivial⟩) (some_inj H).symm
    · replace H := cond_f g_6 H
      refine TQ_off rfl rfl (by decide) rfl rfl rfl ?_
      refine TQ_off rfl rfl (by decide) rfl rfl rfl ?_
      refine TQ_off rfl rfl (by decide) rfl rfl rfl ?_
      refine TQ_off rfl rfl (by decide) rfl rfl rfl ?_
      refine TQ_off rfl rfl (by decide) rfl rfl rfl ?_
      refine TQ_off rfl rfl (by decide) rfl rfl rfl ?_
      refine TQ_off rfl rfl (by decide) rfl rfl rfl ?_
      refine TQ_off rfl rfl (by decide) rfl rfl rfl ?_
      refine TQ_env (E' := [(3, (.b 0 0)), (11, (boolA false)), (14, (.v undef)), (19, (.v undef))]) ⟨rfl, rfl, rfl, rfl, trivial⟩ ?_
      refine TQ_off rfl rfl (by decide) rfl rfl rfl ?_
      refine TQ_off rfl rfl (by decide) rfl rfl rfl ?_
      refine TQ_pure rfl (pur_pick (t := false) rfl rfl rfl) rfl ?_
      refine TQ_pure rfl (pur_move rfl) rfl ?_
      refine TQ_off rfl rfl (by decide) rfl rfl rfl ?_
      refine TQ_off rfl rfl (by decide) rfl rfl rfl ?_
      refine TQ_off rfl rfl (by decide) rfl rfl rfl ?_
      refine TQ_pure rfl (pur_pick (t := false) rfl rfl rfl) rfl ?_
      refine TQ_pure rfl (pur_assign rfl) rfl ?_
      refine TQ_nil ?_
      exact joined false (WeakL.to 0 (Nat.le_of_ble_eq_true rfl) rfl rfl rfl rfl ⟨leR rfl, trivial⟩) (some_inj H).symm
  · rintro _ rfl
    replace H := H_2
    refine T_env (E' := [(4, (boolA t4))]) ⟨rfl, trivial⟩ ?_
    refine T_ret ?_
    obtain rfl := some_inj H
    refine end_ret (.tmp .nil) rfl rfl ⟨?_, rfl⟩
    rfl
end Go.Proofs.Ytlcpdlngbofgcaa

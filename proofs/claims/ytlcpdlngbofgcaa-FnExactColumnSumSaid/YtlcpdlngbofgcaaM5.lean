/- Walks. -/
import Derived.Test.YtlcpdlngbofgcaaM1
set_option linter.unusedVariables false
set_option linter.unusedSimpArgs false
set_option maxRecDepth 4000
namespace Go.Proofs.Ytlcpdlngbofgcaa
open Go Go.Proofs Go.Sep
set_option maxHeartbeats 1000000 in
/-- spec.l1In -/
theorem m_spec_l1In_ok (x0 : Int) (low1 : Int) (high2 : Int) (r : Bool) (H : m_spec_l1In x0 low1 high2 = some r) : FnV prg 78 [(intA x0), (intA low1), (intA high2)] (boolA r) := by
  unfold m_spec_l1In at H
  refine fnV_of_T Try.func78 rfl rfl (Nat.le_of_ble_eq_true rfl) ?_
  refine T_env (E' := [(0, (intA x0)), (1, (intA low1)), (2, (intA high2))]) ⟨rfl, rfl, rfl, trivial⟩ ?_
  refine T_seq ?_
  refine T_region ?_
  refine TO_cons rfl (TOp_pure (pur_assign rfl) rfl ?_)
  refine TO_nil ?_
  refine T_env (E' := [(0, (intA x0)), (1, (intA low1)), (2, (intA high2))]) ⟨rfl, rfl, rfl, trivial⟩ ?_
  refine T_cutX (fun x => ((decide (low1 ≤ x0)) && (decide (x0 ≤ high2))) = x) (fun (t6 : Bool) => [(6, (boolA t6))]) (fun (t6 : Bool) => []) ?_ ?_
  · skip
    refine T_region ?_
    refine TO_cons rfl (TOp_pure (pur_move rfl) rfl ?_)
    refine TO_cons rfl (TOp_pure (pur_move rfl) rfl ?_)
    refine TO_cons rfl (TOp_pure (pur_geq rfl rfl rfl) rfl ?_)
    refine TO_cons rfl (TOp_pure (pur_move rfl) rfl ?_)
    refine TO_split (t := decide (low1 ≤ x0)) 10 rfl (fun g_3 => ?_) (fun g_3 => ?_)
    · skip
      refine TO_on rfl rfl (by decide) rfl rfl (TOp_pure (pur_move rfl) rfl ?_)
      refine TO_on rfl rfl (by decide) rfl rfl (TOp_pure (pur_move rfl) rfl ?_)
      refine TO_on rfl rfl (by decide) rfl rfl (TOp_pure (pur_leq rfl rfl rfl) rfl ?_)
      refine TO_cons rfl (TOp_pure (pur_pick (t := true) rfl rfl rfl) rfl ?_)
      refine TO_cons rfl (TOp_pure (pur_assign rfl) rfl ?_)
      refine TO_nil ?_
      exact joined (decide (x0 ≤ high2)) (WeakL.to 0 (Nat.le_of_ble_eq_true rfl) rfl rfl rfl rfl ⟨leR rfl, trivial⟩) (by first | exact Eq.symm ((and_T g_3 rfl)))
    · skip
      refine TO_off rfl rfl (by decide) rfl rfl rfl ?_
      refine TO_off rfl rfl (by decide) rfl rfl rfl ?_
      refine TO_off rfl rfl (by decide) rfl rfl rfl ?_
      refine TO_cons rfl (TOp_pure (pur_pick (t := false) rfl rfl rfl) rfl ?_)
      refine TO_cons rfl (TOp_pure (pur_assign rfl) rfl ?_)
      refine TO_nil ?_
      exact joined false (WeakL.to 0 (Nat.le_of_ble_eq_true rfl) rfl rfl rfl rfl ⟨leR rfl, trivial⟩) (by first | exact Eq.symm ((and_F g_3 rfl)))
  · rintro _ rfl
    refine T_env (E' := [(6, (boolA ((decide (low1 ≤ x0)) && (decide (x0 ≤ high2)))))]) ⟨rfl, trivial⟩ ?_
    refine T_ret ?_
    obtain rfl := some_inj H
    refine end_ret (.tmp .nil) rfl rfl ⟨?_, rfl⟩
    rfl

set_option maxHeartbeats 1000000 in
/-- spec.IsValidRelation -/
theorem m_spec_IsValidRelation_ok (s0 : Relation) (r : Bool) (H : m_spec_IsValidRelation s0 = some r) : FnV prg 121 [(.g (tRelation.enc s0))] (boolA r) := by
  unfold m_spec_IsValidRelation at H
  refine fnV_of_T Try.func121 rfl rfl (Nat.le_of_ble_eq_true rfl) ?_
  refine T_env (E' := [(0, (.g (tRelation.enc s0)))]) ⟨rfl, trivial⟩ ?_
  refine T_seq ?_
  refine T_region ?_
  refine TO_cons rfl (TOp_box rfl (boxAll rfl) rfl rfl ?_)
  refine TO_cons rfl (TOp_pure (pur_assign rfl) rfl ?_)
  refine TO_nil ?_
  refine T_env (E' := [(1, (.b 0 0))]) ⟨rfl, trivial⟩ ?_
  obtain ⟨t2, J_1, H_2⟩ := bind_inv H
  refine T_cutX (fun x => t2 = x) (fun (t2 : Bool) => [(2, (boolA t2))]) (fun (t2 : Bool) => []) ?_ ?_
  · replace H := J_1
    refine T_region ?_
    refine TO_cons rfl (TOp_pure (pur_fa_b fld97_0 rfl rfl) rfl ?_)
    refine TO_cons rfl (TOp_pure (pur_ld_b one9 rfl rfl rfl rfl) rfl ?_)
    refine TO_cons rfl (TOp_pure (pur_len_s (by kernel_rfl) rfl rfl) rfl ?_)
    refine TO_cons rfl (TOp_pure (pur_eql rfl rfl rfl) rfl ?_)
    refine TO_cons rfl (TOp_pure (pur_move rfl) rfl ?_)
    refine TO_split (t := decide ((s0.name.size : Int) = 1)) 7 rfl (fun g_3 => ?_) (fun g_3 => ?_)
    · replace H := cond_t g_3 H
      refine TO_on rfl rfl (by decide) rfl rfl (TOp_pure (pur_fa_b fld97_0 rfl rfl) rfl ?_)
      refine TO_on rfl rfl (by decide) rfl rfl (TOp_pure (pur_ld_b one9 rfl rfl rfl rfl) rfl ?_)
      obtain ⟨b_4, h_5, H⟩ := bind_inv H
      refine TO_on rfl rfl (by decide) rfl rfl (TOp_pure (pur_ixS (by kernel_rfl) rfl rfl h_5 rfl) rfl ?_)
      refine TO_on rfl rfl (by decide) rfl rfl (TOp_pure (pur_geq rfl rfl rfl) rfl ?_)
      refine TO_cons rfl (TOp_pure (pur_pick (t := true) rfl rfl rfl) rfl ?_)
      refine TO_cons rfl (TOp_pure (pur_move rfl) rfl ?_)
      refine TO_split (t := decide (97 ≤ b_4)) 13 rfl (fun g_6 => ?_) (fun g_6 => ?_)
      · replace H := cond_t g_6 H
        refine TO_on rfl rfl (by decide) rfl rfl (TOp_pure (pur_fa_b fld97_0 rfl rfl) rfl ?_)
        refine TO_on rfl rfl (by decide) rfl rfl (TOp_pure (pur_ld_b one9 rfl rfl rfl rfl) rfl ?_)
        obtain ⟨b_7, h_8, H⟩ := bind_inv H
        refine TO_on rfl rfl (by decide) rfl rfl (TOp_pure (pur_ixS (by kernel_rfl) rfl rfl h_8 rfl) rfl ?_)
        refine TO_on rfl rfl (by decide) rfl rfl (TOp_pure (pur_leq rfl rfl rfl) rfl ?_)
        refine TO_cons rfl (TOp_pure (pur_pick (t := true) rfl rfl rfl) rfl ?_)
        refine TO_cons rfl (TOp_pure (pur_move rfl) rfl ?_)
        refine TO_split (t := decide (b_7 ≤ 122)) 19 rfl (fun g_9 => ?_) (fun g_9 => ?_)
        · replace H := cond_t g_9 H
          refine TO_on rfl rfl (by decide) rfl rfl (TOp_pure (pur_fa_b fld97_1 rfl rfl) rfl ?_)
          refine TO_on rfl rfl (by decide) rfl rfl (TOp_pure (pur_ld_b one3 rfl rfl rfl rfl) rfl ?_)
          obtain ⟨r_10, h_11, H⟩ := bind_inv H
          refine TO_on rfl rfl (by decide) rfl rfl (TOp_callV (call_static ent78 rfl) (m_spec_l1In_ok _ _ _ _ h_11) rfl rfl rfl ?_)
          refine TO_cons rfl (TOp_pure (pur_pick (t := true) rfl rfl rfl) rfl ?_)
          refine TO_cons rfl (TOp_pure (pur_move rfl) rfl ?_)
          refine TO_split (t := r_10) 24 rfl (fun g_12 => ?_) (fun g_12 => ?_)
          · replace H := cond_t g_12 H
            refine TO_on rfl rfl (by decide) rfl rfl (TOp_pure (pur_fa_b fld97_2 rfl rfl) rfl ?_)
            refine TO_on rfl rfl (by decide) rfl rfl (TOp_pure (pur_ld_b one3 rfl rfl rfl rfl) rfl ?_)
            refine TO_on rfl rfl (by decide) rfl rfl (TOp_pure (pur_fa_b fld97_1 rfl rfl) rfl ?_)
            refine TO_on rfl rfl (by decide) rfl rfl (TOp_pure (pur_ld_b one3 rfl rfl rfl rfl) rfl ?_)
            obtain ⟨r_13, h_14, H⟩ := bind_inv H
            refine TO_on rfl rfl (by decide) rfl rfl (TOp_callV (call_static ent78 rfl) (m_spec_l1In_ok _ _ _ _ h_14) rfl rfl rfl ?_)
            refine TO_cons rfl (TOp_pure (pur_pick (t := true) rfl rfl rfl) rfl ?_)
            refine TO_cons rfl (TOp_pure (pur_assign rfl) rfl ?_)
            refine TO_nil ?_
            exact joined r_13 (WeakL.to 0 (Nat.le_of_ble_eq_true rfl) rfl rfl rfl rfl ⟨leR rfl, trivial⟩) (some_inj H).symm
          · replace H := cond_f g_12 H
            refine TO_off rfl rfl (by decide) rfl rfl rfl ?_
            refine TO_off rfl rfl (by decide) rfl rfl rfl ?_
            refine TO_off rfl rfl (by decide) rfl rfl rfl ?_
            refine TO_off rfl rfl (by decide) rfl rfl rfl ?_
            refine TO_off rfl rfl (by decide) rfl rfl rfl ?_
            refine TO_cons rfl (TOp_pure (pur_pick (t := false) rfl rfl rfl) rfl ?_)
            refine TO_cons rfl (TOp_pure (pur_assign rfl) rfl ?_)
            refine TO_nil ?_
            exact joined false (WeakL.to 0 (Nat.le_of_ble_eq_true rfl) rfl rfl rfl rfl ⟨leR rfl, trivial⟩) (some_inj H).symm
        · replace H := cond_f g_9 H
          refine TO_off rfl rfl (by decide) rfl rfl rfl ?_
          refine TO_off rfl rfl (by decide) rfl rfl rfl ?_
          refine TO_off rfl rfl (by decide) rfl rfl rfl ?_
          refine TO_cons rfl (TOp_pure (pur_pick (t := false) rfl rfl rfl) rfl ?_)
          refine TO_cons rfl (TOp_pure (pur_move rfl) rfl ?_)
          refine TO_off rfl rfl (by decide) rfl rfl rfl ?_
          refine TO_off rfl rfl (by decide) rfl rfl rfl ?_
          refine TO_off rfl rfl (by decide) rfl rfl rfl ?_
          refine TO_env (E' := [(24, (boolA false)), (26, (.v undef)), (27, (.v undef))]) ⟨rfl, rfl, rfl, trivial⟩ ?_
          refine TO_off rfl rfl (by decide) rfl rfl rfl ?_
          refine TO_off rfl rfl (by decide) rfl rfl rfl ?_
          refine TO_cons rfl (TOp_pure (pur_pick (t := false) rfl rfl rfl) rfl ?_)
          refine TO_cons rfl (TOp_pure (pur_assign rfl) rfl ?_)
          refine TO_nil ?_
          exact joined false (WeakL.to 0 (Nat.le_of_ble_eq_true rfl) rfl rfl rfl rfl ⟨leR rfl, trivial⟩) (some_inj H).symm
      · replace H := cond_f g_6 H
        refine TO_off rfl rfl (by decide) rfl rfl rfl ?_
        refine TO_off rfl rfl (by decide) rfl rfl rfl ?_
        refine TO_off rfl rfl (by decide) rfl rfl rfl ?_
        refine TO_off rfl rfl (by decide) rfl rfl rfl ?_
        refine TO_cons rfl (TOp_pure (pur_pick (t := false) rfl rfl rfl) rfl ?_)
        refine TO_cons rfl (TOp_pure (pur_move rfl) rfl ?_)
        refine TO_off rfl rfl (by decide) rfl rfl rfl ?_
        refine TO_off rfl rfl (by decide) rfl rfl rfl ?_
        refine TO_env (E' := [(1, (.b 0 0)), (19, (boolA false)), (21, (.v undef))]) ⟨rfl, rfl, rfl, trivial⟩ ?_
        refine TO_off rfl rfl (by decide) rfl rfl rfl ?_
        refine TO_cons rfl (TOp_pure (pur_pick (t := false) rfl rfl rfl) rfl ?_)
        refine TO_cons rfl (TOp_pure (pur_move rfl) rfl ?_)
        refine TO_off rfl rfl (by decide) rfl rfl rfl ?_
        refine TO_off rfl rfl (by decide) rfl rfl rfl ?_
        refine TO_off rfl rfl (by decide) rfl rfl rfl ?_
        refine TO_off rfl rfl (by decide) rfl rfl rfl ?_
        refine TO_off rfl rfl (by decide) rfl rfl rfl ?_
        refine TO_cons rfl (TOp_pure (pur_pick (t := false) rfl rfl rfl) rfl ?_)
        refine TO_cons rfl (TOp_pure (pur_assign rfl) rfl ?_)
        refine TO_nil ?_
        exact joined false (WeakL.to 0 (Nat.le_of_ble_eq_true rfl) rfl rfl rfl rfl ⟨leR rfl, trivial⟩) (some_inj H).symm
    · replace H := cond_f g_3 H
      refine TO_off rfl rfl (by decide) rfl rfl rfl ?_
      refine TO_off rfl rfl (by decide) rfl rfl rfl ?_
      refine TO_off rfl rfl (by decide) rfl rfl rfl ?_
      refine TO_off rfl rfl (by decide) rfl rfl rfl ?_
      refine TO_cons rfl (TOp_pure (pur_pick (t := false) rfl rfl rfl) rfl ?_)
      refine TO_cons rfl (TOp_pure (pur_move rfl) rfl ?_)
      refine TO_off rfl rfl (by decide) rfl rfl rfl ?_
      refine TO_off rfl rfl (by decide) rfl rfl rfl ?_
      refine TO_env (E' := [(1, (.b 0 0)), (13, (boolA false)), (15, (.v undef))]) ⟨rfl, rfl, rfl, trivial⟩ ?_
      refine TO_off rfl rfl (by decide) rfl rfl rfl ?_
      refine TO_off rfl rfl (by decide) rfl rfl rfl ?_
      refine TO_cons rfl (TOp_pure (pur_pick (t := false) rfl rfl rfl) rfl ?_)
      refine TO_cons rfl (TOp_pure (pur_move rfl) rfl ?_)
      refine TO_off rfl rfl (by decide) rfl rfl rfl ?_
      refine TO_off rfl rfl (by decide) rfl rfl rfl ?_
      refine TO_off rfl rfl (by decide) rfl rfl rfl ?_
      refine TO_cons rfl (TOp_pure (pur_pick (t := false) rfl rfl rfl) rfl ?_)
      refine TO_env (E' := [(1, (.b 0 0)), (23, (boolA false))]) ⟨rfl, rfl, trivial⟩ ?_
      refine TO_cons rfl (TOp_pure (pur_move rfl) rfl ?_)
      refine TO_off rfl rfl (by decide) rfl rfl rfl ?_
      refine TO_off rfl rfl (by decide) rfl rfl rfl ?_
      refine TO_off rfl rfl (by decide) rfl rfl rfl ?_
      refine TO_off rfl rfl (by decide) rfl rfl rfl ?_
      refine TO_off rfl rfl (by decide) rfl rfl rfl ?_
      refine TO_cons rfl (TOp_pure (pur_pick (t := false) rfl rfl rfl) rfl ?_)
      refine TO_cons rfl (TOp_pure (pur_assign rfl) rfl ?_)
      refine TO_nil ?_
      exact joined false (WeakL.to 0 (Nat.le_of_ble_eq_true rfl) rfl rfl rfl rfl ⟨leR rfl, trivial⟩) (some_inj H).symm
  · rintro _ rfl
    replace H := H_2
    refine T_env (E' := [(2, (boolA t2))]) ⟨rfl, trivial⟩ ?_
    refine T_ret ?_
    obtain rfl := some_inj H
    refine end_ret (.tmp .nil) rfl rfl ⟨?_, rfl⟩
    rfl

set_option maxHeartbeats 1000000 in
/-- spec.AreValidRelations -/
theorem m_spec_AreValidRelations_ok (l0 : (List Relation)) (r : Bool) (H : m_spec_AreValidRelations l0 = some r) : FnV prg 104 [(sl tRelation l0)] (boolA r) := by
  unfold m_spec_AreValidRelations at H
  refine fnV_of_T Try.func104 rfl rfl (Nat.le_of_ble_eq_true rfl) ?_
  refine T_env (E' := [(0, (sl tRelation l0))]) ⟨rfl, trivial⟩ ?_
  refine T_seq ?_
  refine T_region ?_
  refine TO_cons rfl (TOp_pure (pur_assign rfl) rfl ?_)
  refine TO_nil ?_
  refine T_env (E' := [(0, (sl tRelation l0))]) ⟨rfl, trivial⟩ ?_
  refine T_seq ?_
  refine T_seq ?_
  refine T_region ?_
  refine TO_cons rfl (TOp_pure (pur_assign rfl) rfl ?_)
  refine TO_nil ?_
  refine T_env (E' := [(0, (sl tRelation l0)), (3, (intA 0))]) ⟨rfl, rfl, trivial⟩ ?_
  obtain ⟨O2_, L2_, N2_⟩ := bind_inv H
  clear H
  obtain ⟨B2_, hb2, L2_⟩ := gen_forL L2_
  refine T_block ?_
  refine T_loopX (fun k => fun (i_1 : Nat) => k = l0.length - i_1 ∧ forL B2_ (l0.drop i_1) (i_1 : Int) () = some O2_) (fun (i_1 : Nat) => [(0, (sl tRelation l0)), (3, (intA (i_1 : Int)))]) (fun (i_1 : Nat) => []) _ (0 : Nat) (WeakL.to 0 (Nat.le_of_ble_eq_true rfl) rfl rfl rfl rfl ⟨leR rfl, leR rfl, trivial⟩) ⟨rfl, L2_⟩ ?_
  rintro _ i_1 ⟨rfl, L2_⟩
  refine T_env (E' := [(0, (sl tRelation l0)), (3, (intA (i_1 : Int)))]) ⟨rfl, rfl, trivial⟩ ?_
  refine T_st (σ' := []) rfl ?_
  refine T_fact (len_sl (T := tRelation) (.tmp 0) rfl) (fun hl2 => ?_)
  refine T_seq ?_
  refine T_seq ?_
  refine T_region ?_
  refine TO_cons rfl (TOp_pure (pur_move rfl) rfl ?_)
  refine TO_cons rfl (TOp_pure (pur_move rfl) rfl ?_)
  refine TO_cons rfl (TOp_pure (pur_lenT (T := tRelation) sl29 rfl rfl) rfl ?_)
  refine TO_cons rfl (TOp_pure (pur_lss rfl rfl rfl) rfl ?_)
  refine TO_nil ?_
  refine T_env (E' := [(0, (sl tRelation l0)), (3, (intA (i_1 : Int))), (7, (boolA (decide ((i_1 : Int) < (l0.length : Int)))))]) ⟨rfl, rfl, rfl, trivial⟩ ?_
  refine T_cond (t := decide ((i_1 : Int) < (l0.length : Int))) rfl (fun d2 => ?_) (fun d2 => ?_)
  · replace d2 := of_decide_eq_true d2
    obtain ⟨x_i_1, hx_i_1⟩ : ∃ v, (l0)[i_1]? = some v := ⟨_, List.getElem?_eq_getElem (by omega)⟩
    obtain ⟨C2_, H, K2_⟩ := forL_step L2_ hx_i_1
    rw [hb2] at H
    refine T_skip ?_
    refine T_env (E' := [(0, (sl tRelation l0)), (3, (intA (i_1 : Int)))]) ⟨rfl, rfl, trivial⟩ ?_
    refine T_seq ?_
    refine T_block ?_
    obtain ⟨t33, J_3, H_4⟩ := bind_inv H
    refine T_cutX (fun x => t33 = x) (fun (t33 : Bool) => [(0, (sl tRelation l0)), (3, (intA (i_1 : Int))), (33, (boolA t33))]) (fun (t33 : Bool) => []) ?_ ?_
    · replace H := J_3
      refine T_regionD mixed (by kernel_rfl) ?_
      refine TQ_pure rfl (pur_move rfl) rfl ?_
      refine TQ_pure rfl (pur_move rfl) rfl ?_
      refine TQ_pure rfl (pur_ixT (T := tRelation) sl29 rfl rfl rfl hx_i_1 rfl) rfl ?_
      refine TQ_pure rfl (pur_ldTK (T := tRelation) (i := i_1) (off := 0) rfl agg97 rfl rfl hx_i_1 (by decide) rfl) rfl ?_
      obtain ⟨r_5, h_6, H⟩ := bind_inv H
      refine TQ_callV rfl (call_static ent121 rfl) (m_spec_IsValidRelation_ok _ _ h_6) rfl rfl ?_
      refine TQ_pure rfl (pur_not rfl rfl) rfl ?_
      refine TQ_pure rfl (pur_move rfl) rfl ?_
      refine TQ_split (t := (!r_5)) 16 rfl (fun g_7 => ?_) (fun g_7 => ?_)
      · replace H := cond_t g_7 H
        refine TQ_off rfl rfl (by decide) rfl rfl rfl ?_
        refine TQ_off rfl rfl (by decide) rfl rfl rfl ?_
        refine TQ_off rfl rfl (by decide) rfl rfl rfl ?_
        refine TQ_off rfl rfl (by decide) rfl rfl rfl ?_
        refine TQ_off rfl rfl (by decide) rfl rfl rfl ?_
        refine TQ_off rfl rfl (by decide) rfl rfl rfl ?_
        refine TQ_off rfl rfl (by decide) rfl rfl rfl ?_
        refine TQ_off rfl rfl (by decide) rfl rfl rfl ?_
        refine TQ_env (E' := [(0, (sl tRelation l0)), (3, (intA (i_1 : Int))), (16, (boolA true)), (19, (.v undef)), (24, (.v undef))]) ⟨rfl, rfl, rfl, rfl, rfl, trivial⟩ ?_
        refine TQ_off rfl rfl (by decide) rfl rfl rfl ?_
        refine TQ_off rfl rfl (by decide) rfl rfl rfl ?_
        refine TQ_off rfl rfl (by decide) rfl rfl rfl ?_
        refine TQ_off rfl rfl (by decide) rfl rfl rfl ?_
        refine TQ_off rfl rfl (by decide) rfl rfl rfl ?_
        refine TQ_off rfl rfl (by decide) rfl rfl rfl ?_
        refine TQ_off rfl rfl (by decide) rfl rfl rfl ?_
        refine TQ_off rfl rfl (by decide) rfl rfl rfl ?_
        refine TQ_pure rfl (pur_pick (t := true) rfl rfl rfl) rfl ?_
        refine TQ_nil ?_
        exact joined true (WeakL.to 0 (Nat.le_of_ble_eq_true rfl) rfl rfl rfl rfl ⟨leR rfl, leR rfl, leR rfl, trivial⟩) (some_inj H).symm
      · replace H := cond_f g_7 H
        refine TQ_on rfl rfl (by decide) rfl (pur_move rfl) rfl ?_
        refine TQ_on rfl rfl (by decide) rfl (pur_gtr rfl rfl rfl) rfl ?_
        refine TQ_on rfl rfl (by decide) rfl (pur_move rfl) rfl ?_
        refine TQ_split (t := decide (0 < (i_1 : Int))) 19 rfl (fun g_8 => ?_) (fun g_8 => ?_)
        · replace H := cond_t g_8 H
          refine TQ_on rfl rfl (by decide) rfl (pur_move rfl) rfl ?_
          refine TQ_on rfl rfl (by decide) rfl (pur_move rfl) rfl ?_
          refine TQ_on rfl rfl (by decide) rfl (pur_sub rfl rfl rfl (fits64 (by omega) (by omega))) rfl ?_
          obtain ⟨v_9, h_10, H⟩ := bind_inv H
          obtain ⟨n_11, hz_12, hv_13⟩ := getI_inv h_10
          refine TQ_on rfl rfl (by decide) rfl (pur_ixT (T := tRelation) sl29 rfl rfl hz_12 hv_13 rfl) rfl ?_
          refine TQ_on rfl rfl (by decide) rfl (pur_fa_q fld97_0 rfl rfl) rfl ?_
          refine TQ_on rfl rfl (by decide) rfl (pur_ldT (T := tRelation) (i := n_11) (off := 0) rfl one9 rfl rfl hv_13 rfl) rfl ?_
          refine TQ_on rfl rfl (by decide) rfl (pur_move rfl) rfl ?_
          refine TQ_on rfl rfl (by decide) rfl (pur_move rfl) rfl ?_
          refine TQ_env (E' := [(0, (sl tRelation l0)), (3, (intA (i_1 : Int))), (16, (boolA false)), (19, (boolA true)), (25, (strA v_9.name)), (26, (sl tRelation l0)), (27, (intA (i_1 : Int)))]) ⟨rfl, rfl, rfl, rfl, rfl, rfl, rfl, trivial⟩ ?_
          refine TQ_on rfl rfl (by decide) rfl (pur_ixT (T := tRelation) sl29 rfl rfl rfl hx_i_1 rfl) rfl ?_
          refine TQ_on rfl rfl (by decide) rfl (pur_fa_q fld97_0 rfl rfl) rfl ?_
          refine TQ_on rfl rfl (by decide) rfl (pur_ldT (T := tRelation) (i := i_1) (off := 0) rfl one9 rfl rfl hx_i_1 rfl) rfl ?_
          refine TQ_on rfl rfl (by decide) rfl (pur_geqS rfl rfl rfl) rfl ?_
          refine TQ_on rfl rfl (by decide) rfl (pur_pick (t := true) rfl rfl rfl) rfl ?_
          refine TQ_pure rfl (pur_pick (t := false) rfl rfl rfl) rfl ?_
          refine TQ_nil ?_
          exact joined (!ltS v_9.name x_i_1.name) (WeakL.to 0 (Nat.le_of_ble_eq_true rfl) rfl rfl rfl rfl ⟨leR rfl, leR rfl, leR rfl, trivial⟩) (some_inj H).symm
        · replace H := cond_f g_8 H
          refine TQ_off rfl rfl (by decide) rfl rfl rfl ?_
          refine TQ_off rfl rfl (by decide) rfl rfl rfl ?_
          refine TQ_off rfl rfl (by decide) rfl rfl rfl ?_
          refine TQ_off rfl rfl (by decide) rfl rfl rfl ?_
          refine TQ_off rfl rfl (by decide) rfl rfl rfl ?_
          refine TQ_off rfl rfl (by decide) rfl rfl rfl ?_
          refine TQ_off rfl rfl (by decide) rfl rfl rfl ?_
          refine TQ_off rfl rfl (by decide) rfl rfl rfl ?_
          refine TQ_env (E' := [(0, (sl tRelation l0)), (3, (intA (i_1 : Int))), (16, (boolA false)), (19, (boolA false)), (25, (.v undef)), (26, (.v undef)), (27, (.v undef))]) ⟨rfl, rfl, rfl, rfl, rfl, rfl, rfl, trivial⟩ ?_
          refine TQ_off rfl rfl (by decide) rfl rfl rfl ?_
          refine TQ_off rfl rfl (by decide) rfl rfl rfl ?_
          refine TQ_off rfl rfl (by decide) rfl rfl rfl ?_
          refine TQ_off rfl rfl (by decide) rfl rfl rfl ?_
          refine TQ_on rfl rfl (by decide) rfl (pur_pick (t := false) rfl rfl rfl) rfl ?_
          refine TQ_pure rfl (pur_pick (t := false) rfl rfl rfl) rfl ?_
          refine TQ_nil ?_
          exact joined false (WeakL.to 0 (Nat.le_of_ble_eq_true rfl) rfl rfl rfl rfl ⟨leR rfl, leR rfl, leR rfl, trivial⟩) (some_inj H).symm
    · rintro _ rfl
      replace H := H_4
      refine T_env (E' := [(0, (sl tRelation l0)), (3, (intA (i_1 : Int))), (33, (boolA t33))]) ⟨rfl, rfl, rfl, trivial⟩ ?_
      refine T_cond (t := t33) rfl (fun c_14 => ?_) (fun c_14 => ?_)
      · replace H := cond_t c_14 H
        refine T_seq ?_
        refine T_region ?_
        refine TO_cons rfl (TOp_pure (pur_assign rfl) rfl ?_)
        refine TO_nil ?_
        refine T_env (E' := [(2, (boolA false))]) ⟨rfl, trivial⟩ ?_
        refine T_ret ?_
        refine block_ret ?_
        refine then_ret ?_
        refine then_ret ?_
        refine block_ret ?_
        refine then_ret ?_
        obtain rfl := some_inj H
        obtain rfl := some_inj K2_
        replace H := onS_r N2_
        obtain rfl := some_inj H
        refine end_ret (.tmp .nil) rfl rfl ⟨?_, rfl⟩
        rfl
      · replace H := cond_f c_14 H
        refine T_skip ?_
        refine T_env (E' := [(0, (sl tRelation l0)), (3, (intA (i_1 : Int)))]) ⟨rfl, rfl, trivial⟩ ?_
        refine T_region ?_
        refine TO_cons rfl (TOp_pure (pur_move rfl) rfl ?_)
        refine TO_cons rfl (TOp_pure (pur_add rfl rfl rfl (fits64 (by omega) (by omega))) rfl ?_)
        refine TO_cons rfl (TOp_pure (pur_assign rfl) rfl ?_)
        refine TO_nil ?_
        obtain rfl := some_inj H
        exact again (l0.length - (i_1 + 1)) (i_1 + 1) (by omega) (WeakL.to 0 (Nat.le_of_ble_eq_true rfl) rfl rfl rfl rfl ⟨leR rfl, leR rfl, trivial⟩) ⟨rfl, K2_⟩
  · replace d2 := of_decide_eq_false d2
    obtain rfl := forL_end L2_ (by omega)
    refine T_exit ?_
    refine then_exit ?_
    refine then_exit ?_
    refine block_exit ?_
    replace H := onS_l N2_
    refine T_env (E' := [(0, (sl tRelation l0))]) ⟨rfl, trivial⟩ ?_
    refine T_seq ?_
    refine T_region ?_
    refine TO_cons rfl (TOp_pure (pur_move rfl) rfl ?_)
    refine TO_cons rfl (TOp_pure (pur_lenT (T := tRelation) sl29 rfl rfl) rfl ?_)
    refine TO_cons rfl (TOp_pure (pur_leq rfl rfl rfl) rfl ?_)
    refine TO_cons rfl (TOp_pure (pur_assign rfl) rfl ?_)
    refine TO_nil ?_
    refine T_env (E' := [(2, (boolA (decide ((l0.length : Int) ≤ 4))))]) ⟨rfl, trivial⟩ ?_
    refine T_ret ?_
    obtain rfl := some_inj H
    refine end_ret (.tmp .nil) rfl rfl ⟨?_, rfl⟩
    rfl

set_option maxHeartbeats 1000000 in
/-- spec.IsValidFact -/
theorem m_spec_IsValidFact_ok (u : Nat) (l0 : (List Relation)) (f1 : Fact) (r : Bool) (H : m_spec_IsValidFact u l0 f1 = some r) : FnV prg 102 [(sl tRelation l0), (.g (tFact.enc f1))] (boolA r) := by
  unfold m_spec_IsValidFact at H
  refine fnV_of_T Try.func102 rfl rfl (Nat.le_of_ble_eq_true rfl) ?_
  refine T_env (E' := [(0, (sl tRelation l0)), (1, (.g (tFact.enc f1)))]) ⟨rfl, rfl, trivial⟩ ?_
  refine T_seq ?_
  refine T_region ?_
  refine TO_cons rfl (TOp_box rfl (boxAll rfl) rfl rfl ?_)
  refine TO_cons rfl (TOp_pure (pur_assign rfl) rfl ?_)
  refine TO_nil ?_
  refine T_env (E' := [(0, (sl tRelation l0)), (3, (.b 0 0))]) ⟨rfl, rfl, trivial⟩ ?_
  refine T_seq ?_
  obtain ⟨t29, J_1, H_2⟩ := bind_inv H
  refine T_cutX (fun x => t29 = x) (fun (t29 : Bool) => [(3, (.b 0 0)), (29, (boolA t29))]) (fun (t29 : Bool) => [.box [(intA f1.relation), (sl tInt f1.values)]]) ?_ ?_
  · replace H := J_1
    refine T_regionD mixed (by kernel_rfl) ?_
    refine TQ_pure rfl (pur_move rfl) rfl ?_
    obtain ⟨r_3, h_4, H⟩ := bind_inv H
    refine TQ_callV rfl (call_static ent104 rfl) (m_spec_AreValidRelations_ok _ _ h_4) rfl rfl ?_
    refine TQ_pure rfl (pur_not rfl rfl) rfl ?_
    refine TQ_pure rfl (pur_move rfl) rfl ?_
    refine TQ_split (t := (!r_3)) 9 rfl (fun g_5 => ?_) (fun g_5 => ?_)
    · replace H := cond_t g_5 H
      refine TQ_off rfl rfl (by decide) rfl rfl rfl ?_
      refine TQ_off rfl rfl (by decide) rfl rfl rfl ?_
      refine TQ_off rfl rfl (by decide) rfl rfl rfl ?_
      refine TQ_off rfl rfl (by decide) rfl rfl rfl ?_
      refine TQ_off rfl rfl (by decide) rfl rfl rfl ?_
      refine TQ_off rfl rfl (by decide) rfl rfl rfl ?_
      refine TQ_off rfl rfl (by decide) rfl rfl rfl ?_
      refine TQ_pure rfl (pur_pick (t := true) rfl rfl rfl) rfl ?_
      refine TQ_env (E' := [(0, (sl tRelation l0)), (3, (.b 0 0)), (17, (boolA true))]) ⟨rfl, rfl, rfl, trivial⟩ ?_
      refine TQ_pure rfl (pur_move rfl) rfl ?_
      refine TQ_off rfl rfl (by decide) rfl rfl rfl ?_
      refine TQ_off rfl rfl (by decide) rfl rfl rfl ?_
      refine TQ_off rfl rfl (by decide) rfl rfl rfl ?_
      refine TQ_off rfl rfl (by decide) rfl rfl rfl ?_
      refine TQ_off rfl rfl (by decide) rfl rfl rfl ?_
      refine TQ_off rfl rfl (by decide) rfl rfl rfl ?_
      refine TQ_off rfl rfl (by decide) rfl rfl rfl ?_
      refine TQ_env (E' := [(3, (.b 0 0)), (18, (boolA true)), (21, (.v undef)), (25, (.v undef))]) ⟨rfl, rfl, rfl, rfl, trivial⟩ ?_
      refine TQ_off rfl rfl (by decide) rfl rfl rfl ?_
      refine TQ_off rfl rfl (by decide) rfl rfl rfl ?_
      refine TQ_off rfl rfl (by decide) rfl rfl rfl ?_
      refine TQ_pure rfl (pur_pick (t := true) rfl rfl rfl) rfl ?_
      refine TQ_nil ?_
      exact joined true (WeakL.to 1 (Nat.le_of_ble_eq_true rfl) rfl rfl rfl rfl ⟨leR rfl, leR rfl, trivial⟩) (some_inj H).symm
    · replace H := cond_f g_5 H
      refine TQ_on rfl rfl (by decide) rfl (pur_fa_b fld60_0 rfl rfl) rfl ?_
      refine TQ_on rfl rfl (by decide) rfl (pur_ld_b one3 rfl rfl rfl rfl) rfl ?_
      refine TQ_on rfl rfl (by decide) rfl (pur_move rfl) rfl ?_
      refine TQ_on rfl rfl (by decide) rfl (pur_lenT (T := tRelation) sl29 rfl rfl) rfl ?_
      refine TQ_fact (len_sl (T := tRelation) (.tmp 0) rfl) (fun hl_6 => ?_)
      refine TQ_on rfl rfl (by decide) rfl (pur_sub rfl rfl rfl (fits64 (by omega) (by omega))) rfl ?_
      obtain ⟨r_7, h_8, H⟩ := bind_inv H
      refine TQ_onV rfl rfl (by decide) rfl (call_static ent78 rfl) (m_spec_l1In_ok _ _ _ _ h_8) rfl rfl ?_
      refine TQ_on rfl rfl (by decide) rfl (pur_not rfl rfl) rfl ?_
      refine TQ_pure rfl (pur_pick (t := false) rfl rfl rfl) rfl ?_
      refine TQ_env (E' := [(0, (sl tRelation l0)), (3, (.b 0 0)), (17, (boolA (!r_7)))]) ⟨rfl, rfl, rfl, trivial⟩ ?_
      refine TQ_pure rfl (pur_move rfl) rfl ?_
      refine TQ_split (t := (!r_7)) 18 rfl (fun g_9 => ?_) (fun g_9 => ?_)
      · replace H := cond_t g_9 H
        refine TQ_off rfl rfl (by decide) rfl rfl rfl ?_
        refine TQ_off rfl rfl (by decide) rfl rfl rfl ?_
        refine TQ_off rfl rfl (by decide) rfl rfl rfl ?_
        refine TQ_off rfl rfl (by decide) rfl rfl rfl ?_
        refine TQ_off rfl rfl (by decide) rfl rfl rfl ?_
        refine TQ_off rfl rfl (by decide) rfl rfl rfl ?_
        refine TQ_off rfl rfl (by decide) rfl rfl rfl ?_
        refine TQ_off rfl rfl (by decide) rfl rfl rfl ?_
        refine TQ_env (E' := [(3, (.b 0 0)), (18, (boolA true)), (21, (.v undef)), (26, (.v undef))]) ⟨rfl, rfl, rfl, rfl, trivial⟩ ?_
        refine TQ_off rfl rfl (by decide) rfl rfl rfl ?_
        refine TQ_off rfl rfl (by decide) rfl rfl rfl ?_
        refine TQ_pure rfl (pur_pick (t := true) rfl rfl rfl) rfl ?_
        refine TQ_nil ?_
        exact joined true (WeakL.to 1 (Nat.le_of_ble_eq_true rfl) rfl rfl rfl rfl ⟨leR rfl, leR rfl, trivial⟩) (some_inj H).symm
      · replace H := cond_f g_9 H
        refine TQ_on rfl rfl (by decide) rfl (pur_fa_b fld60_1 rfl rfl) rfl ?_
        refine TQ_on rfl rfl (by decide) rfl (pur_ld_b one33 rfl rfl rfl rfl) rfl ?_
        refine TQ_on rfl rfl (by decide) rfl (pur_lenT (T := tInt) sl33 rfl rfl) rfl ?_
        refine TQ_on rfl rfl (by decide) rfl (pur_move rfl) rfl ?_
        refine TQ_on rfl rfl (by decide) rfl (pur_fa_b fld60_0 rfl rfl) rfl ?_
        refine TQ_on rfl rfl (by decide) rfl (pur_ld_b one3 rfl rfl rfl rfl) rfl ?_
        obtain ⟨v_10, h_11, H⟩ := bind_inv H
        obtain ⟨n_12, hz_13, hv_14⟩ := getI_inv h_11
        refine TQ_on rfl rfl (by decide) rfl (pur_ixT (T := tRelation) sl29 rfl rfl hz_13 hv_14 rfl) rfl ?_
        refine TQ_on rfl rfl (by decide) rfl (pur_fa_q fld97_1 rfl rfl) rfl ?_
        refine TQ_env (E' := [(3, (.b 0 0)), (18, (boolA false)), (21, (intA (f1.values.length : Int))), (26, (.q (flat tRelation.enc l0) (n_12 * tRelation.k + 1)))]) ⟨rfl, rfl, rfl, rfl, trivial⟩ ?_
        refine TQ_on rfl rfl (by decide) rfl (pur_ldT (T := tRelation) (i := n_12) (off := 1) rfl one3 rfl rfl hv_14 rfl) rfl ?_
        refine TQ_on rfl rfl (by decide) rfl (pur_neq rfl rfl rfl) rfl ?_
        refine TQ_pure rfl (pur_pick (t := false) rfl rfl rfl) rfl ?_
        refine TQ_nil ?_
        exact joined (decide ((f1.values.length : Int) ≠ v_10.arity)) (WeakL.to 1 (Nat.le_of_ble_eq_true rfl) rfl rfl rfl rfl ⟨leR rfl, leR rfl, trivial⟩) (some_inj H).symm
  · rintro _ rfl
    replace H := H_2
    refine T_env (E' := [(3, (.b 0 0)), (29, (boolA t29))]) ⟨rfl, rfl, trivial⟩ ?_
    refine T_cond (t := t29) rfl (fun c_15 => ?_) (fun c_15 => ?_)
    · replace H := cond_t c_15 H
      refine T_seq ?_
      refine T_region ?_
      refine TO_cons rfl (TOp_pure (pur_assign rfl) rfl ?_)
      refine TO_nil ?_
      refine T_env (E' := [(4, (boolA false))]) ⟨rfl, trivial⟩ ?_
      refine T_ret ?_
      refine then_ret ?_
      obtain rfl := some_inj H
      refine end_ret (.tmp .nil) rfl rfl ⟨?_, rfl⟩
      rfl
    · replace H := cond_f c_15 H
      refine T_skip ?_
      refine T_env (E' := [(3, (.b 0 0))]) ⟨rfl, trivial⟩ ?_
      refine T_seq ?_
      refine T_seq ?_
      refine T_region ?_
      refine TO_cons rfl (TOp_pure (pur_assign rfl) rfl ?_)
      refine TO_nil ?_
      refine T_env (E' := [(3, (.b 0 0)), (5, (intA 0))]) ⟨rfl, rfl, trivial⟩ ?_
      obtain ⟨O16_, L16_, N16_⟩ := bind_inv H
      clear H
      obtain ⟨B16_, hb16, L16_⟩ := gen_whileF L16_
      refine T_block ?_
      refine T_loopX (fun k => fun (i5 : Int) => whileF B16_ k i5 = some O16_) (fun (i5 : Int) => [(3, (.b 0 0)), (5, (intA i5))]) (fun (i5 : Int) => [.box [(intA f1.relation), (sl tInt f1.values)]]) u 0 (WeakL.to 1 (Nat.le_of_ble_eq_true rfl) rfl rfl rfl rfl ⟨leR rfl, leR rfl, trivial⟩) L16_ ?_
      rintro _ i5 L16_
      obtain ⟨k16, rfl, C16_, H, K16_⟩ := while_step L16_
      rw [hb16] at H
      refine T_env (E' := [(3, (.b 0 0)), (5, (intA i5))]) ⟨rfl, rfl, trivial⟩ ?_
      refine T_st (σ' := [.box [(intA f1.relation), (sl tInt f1.values)]]) rfl ?_
      refine T_seq ?_
      refine T_seq ?_
      refine T_region ?_
      refine TO_cons rfl (TOp_pure (pur_move rfl) rfl ?_)
      refine TO_cons rfl (TOp_pure (pur_fa_b fld60_1 rfl rfl) rfl ?_)
      refine TO_cons rfl (TOp_pure (pur_ld_b one33 rfl rfl rfl rfl) rfl ?_)
      refine TO_cons rfl (TOp_pure (pur_lenT (T := tInt) sl33 rfl rfl) rfl ?_)
      refine TO_cons rfl (TOp_pure (pur_lss rfl rfl rfl) rfl ?_)
      refine TO_nil ?_
      refine T_env (E' := [(3, (.b 0 0)), (5, (intA i5)), (34, (boolA (decide (i5 < (f1.values.length : Int)))))]) ⟨rfl, rfl, rfl, trivial⟩ ?_
      refine T_cond (t := decide (i5 < (f1.values.length : Int))) rfl (fun c_17 => ?_) (fun c_17 => ?_)
      · replace H := cond_t c_17 H
        refine T_skip ?_
        refine T_env (E' := [(3, (.b 0 0)), (5, (intA i5))]) ⟨rfl, rfl, trivial⟩ ?_
        refine T_seq ?_
        refine T_block ?_
        refine T_seq ?_
        refine T_region ?_
        refine TO_cons rfl (TOp_pure (pur_fa_b fld60_1 rfl rfl) rfl ?_)
        refine TO_cons rfl (TOp_pure (pur_ld_b one33 rfl rfl rfl rfl) rfl ?_)
        refine TO_cons rfl (TOp_pure (pur_move rfl) rfl ?_)
        obtain ⟨v_18, h_19, H⟩ := bind_inv H
        obtain ⟨n_20, hz_21, hv_22⟩ := getI_inv h_19
        refine TO_cons rfl (TOp_pure (pur_ixT (T := tInt) sl33 rfl rfl hz_21 hv_22 rfl) rfl ?_)
        refine TO_cons rfl (TOp_pure (pur_ldT (T := tInt) (i := n_20) (off := 0) rfl one3 rfl rfl hv_22 rfl) rfl ?_)
        obtain ⟨r_23, h_24, H⟩ := bind_inv H
        refine TO_cons rfl (TOp_callV (call_static ent78 rfl) (m_spec_l1In_ok _ _ _ _ h_24) rfl rfl rfl ?_)
        refine TO_cons rfl (TOp_pure (pur_not rfl rfl) rfl ?_)
        refine TO_nil ?_
        refine T_env (E' := [(3, (.b 0 0)), (5, (intA i5)), (43, (boolA (!r_23)))]) ⟨rfl, rfl, rfl, trivial⟩ ?_
        refine T_cond (t := (!r_23)) rfl (fun c_25 => ?_) (fun c_25 => ?_)
        · replace H := cond_t c_25 H
          refine T_seq ?_
          refine T_region ?_
          refine TO_cons rfl (TOp_pure (pur_assign rfl) rfl ?_)
          refine TO_nil ?_
          refine T_env (E' := [(4, (boolA false))]) ⟨rfl, trivial⟩ ?_
          refine T_ret ?_
          refine block_ret ?_
          refine then_ret ?_
          refine then_ret ?_
          refine block_ret ?_
          refine then_ret ?_
          obtain rfl := some_inj H
          obtain rfl := some_inj K16_
          replace H := onS_r N16_
          obtain rfl := some_inj H
          refine end_ret (.tmp .nil) rfl rfl ⟨?_, rfl⟩
          rfl
        · replace H := cond_f c_25 H
          refine T_skip ?_
          refine T_env (E' := [(3, (.b 0 0)), (5, (intA i5))]) ⟨rfl, rfl, trivial⟩ ?_
          refine T_region ?_
          refine TO_cons rfl (TOp_pure (pur_move rfl) rfl ?_)
          refine TO_cons rfl (TOp_pure (pur_wadd rfl rfl rfl) rfl ?_)
          refine TO_cons rfl (TOp_pure (pur_assign rfl) rfl ?_)
          refine TO_nil ?_
          obtain rfl := some_inj H
          exact again k16 (w64 (i5 + 1)) (Nat.lt_succ_self _) (WeakL.to 1 (Nat.le_of_ble_eq_true rfl) rfl rfl rfl rfl ⟨leR rfl, leR rfl, trivial⟩) K16_
      · replace H := cond_f c_17 H
        refine T_exit ?_
        refine then_exit ?_
        refine then_exit ?_
        refine block_exit ?_
        obtain rfl := some_inj H
        obtain rfl := some_inj K16_
        replace H := onS_l N16_
        refine T_env (E' := []) trivial ?_
        refine T_seq ?_
        refine T_region ?_
        refine TO_cons rfl (TOp_pure (pur_assign rfl) rfl ?_)
        refine TO_nil ?_
        refine T_env (E' := [(4, (boolA true))]) ⟨rfl, trivial⟩ ?_
        refine T_ret ?_
        obtain rfl := some_inj H
        refine end_ret (.tmp .nil) rfl rfl ⟨?_, rfl⟩
        rfl
end Go.Proofs.Ytlcpdlngbofgcaa

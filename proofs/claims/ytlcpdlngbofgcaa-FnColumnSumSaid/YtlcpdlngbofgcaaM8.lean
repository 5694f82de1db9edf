/- Walks. -/
import Derived.Test.YtlcpdlngbofgcaaM1
import Derived.Test.YtlcpdlngbofgcaaM2
import Derived.Test.YtlcpdlngbofgcaaM6
import Derived.Test.YtlcpdlngbofgcaaM7
set_option linter.unusedVariables false
set_option linter.unusedSimpArgs false
set_option maxRecDepth 4000
namespace Go.Proofs.Ytlcpdlngbofgcaa
open Go Go.Proofs Go.Sep
set_option maxHeartbeats 1000000 in
/-- spec.l4Set -/
theorem m_spec_l4Set_ok (d0 : Database) (l1 : (List Int)) (r : Bool) (H : m_spec_l4Set d0 l1 = some r) : FnV prg 60 [(.g (tDatabase.enc d0)), (sl tInt l1)] (boolA r) := by
  unfold m_spec_l4Set at H
  refine fnV_of_T Try.func60 rfl rfl (Nat.le_of_ble_eq_true rfl) ?_
  refine T_env (E' := [(0, (.g (tDatabase.enc d0))), (1, (sl tInt l1))]) ⟨rfl, rfl, trivial⟩ ?_
  refine T_seq ?_
  refine T_region ?_
  refine TO_cons rfl (TOp_box rfl (boxAll rfl) rfl rfl ?_)
  refine TO_cons rfl (TOp_pure (pur_assign rfl) rfl ?_)
  refine TO_nil ?_
  refine T_env (E' := [(1, (sl tInt l1)), (2, (.b 0 0))]) ⟨rfl, rfl, trivial⟩ ?_
  refine T_seq ?_
  refine T_seq ?_
  refine T_region ?_
  refine TO_cons rfl (TOp_pure (pur_assign rfl) rfl ?_)
  refine TO_nil ?_
  refine T_env (E' := [(1, (sl tInt l1)), (2, (.b 0 0)), (5, (intA 0))]) ⟨rfl, rfl, rfl, trivial⟩ ?_
  obtain ⟨O2_, L2_, N2_⟩ := bind_inv H
  clear H
  obtain ⟨B2_, hb2, L2_⟩ := gen_forL L2_
  refine T_block ?_
  refine T_loopX (fun k => fun (i_1 : Nat) => k = l1.length - i_1 ∧ forL B2_ (l1.drop i_1) (i_1 : Int) () = some O2_) (fun (i_1 : Nat) => [(1, (sl tInt l1)), (2, (.b 0 0)), (5, (intA (i_1 : Int)))]) (fun (i_1 : Nat) => [.box [(sl tRelation d0.relations), (sl tFact d0.facts)]]) _ (0 : Nat) (WeakL.to 1 (Nat.le_of_ble_eq_true rfl) rfl rfl rfl rfl ⟨leR rfl, leR rfl, leR rfl, trivial⟩) ⟨rfl, L2_⟩ ?_
  rintro _ i_1 ⟨rfl, L2_⟩
  refine T_env (E' := [(1, (sl tInt l1)), (2, (.b 0 0)), (5, (intA (i_1 : Int)))]) ⟨rfl, rfl, rfl, trivial⟩ ?_
  refine T_st (σ' := [.box [(sl tRelation d0.relations), (sl tFact d0.facts)]]) rfl ?_
  refine T_fact (len_sl (T := tInt) (.tmp 1) rfl) (fun hl2 => ?_)
  refine T_seq ?_
  refine T_seq ?_
  refine T_region ?_
  refine TO_cons rfl (TOp_pure (pur_move rfl) rfl ?_)
  refine TO_cons rfl (TOp_pure (pur_move rfl) rfl ?_)
  refine TO_cons rfl (TOp_pure (pur_lenT (T := tInt) sl33 rfl rfl) rfl ?_)
  refine TO_cons rfl (TOp_pure (pur_lss rfl rfl rfl) rfl ?_)
  refine TO_nil ?_
  refine T_env (E' := [(1, (sl tInt l1)), (2, (.b 0 0)), (5, (intA (i_1 : Int))), (9, (boolA (decide ((i_1 : Int) < (l1.length : Int)))))]) ⟨rfl, rfl, rfl, rfl, trivial⟩ ?_
  refine T_cond (t := decide ((i_1 : Int) < (l1.length : Int))) rfl (fun d2 => ?_) (fun d2 => ?_)
  · replace d2 := of_decide_eq_true d2
    obtain ⟨x_i_1, hx_i_1⟩ : ∃ v, (l1)[i_1]? = some v := ⟨_, List.getElem?_eq_getElem (by omega)⟩
    obtain ⟨C2_, H, K2_⟩ := forL_step L2_ hx_i_1
    rw [hb2] at H
    refine T_skip ?_
    refine T_env (E' := [(1, (sl tInt l1)), (2, (.b 0 0)), (5, (intA (i_1 : Int)))]) ⟨rfl, rfl, rfl, trivial⟩ ?_
    refine T_seq ?_
    refine T_block ?_
    obtain ⟨t37_3, J_3, H_4⟩ := bind_inv H
    refine T_cutX (fun x => t37_3 = x) (fun (t37_3 : Bool) => [(1, (sl tInt l1)), (2, (.b 0 0)), (5, (intA (i_1 : Int))), (37, (boolA t37_3))]) (fun (t37_3 : Bool) => [.box [(sl tRelation d0.relations), (sl tFact d0.facts)]]) ?_ ?_
    · replace H := J_3
      refine T_regionD mixed (by kernel_rfl) ?_
      refine TQ_pure rfl (pur_move rfl) rfl ?_
      refine TQ_pure rfl (pur_move rfl) rfl ?_
      refine TQ_pure rfl (pur_ixT (T := tInt) sl33 rfl rfl rfl hx_i_1 rfl) rfl ?_
      refine TQ_pure rfl (pur_ldT (T := tInt) (i := i_1) (off := 0) rfl one3 rfl rfl hx_i_1 rfl) rfl ?_
      refine TQ_pure rfl (pur_fa_b fld32_1 rfl rfl) rfl ?_
      refine TQ_pure rfl (pur_ld_b one30 rfl rfl rfl rfl) rfl ?_
      refine TQ_pure rfl (pur_lenT (T := tFact) sl30 rfl rfl) rfl ?_
      refine TQ_fact (len_sl (T := tFact) (.tmp 17) rfl) (fun hl_5 => ?_)
      refine TQ_pure rfl (pur_sub rfl rfl rfl (fits64 (by omega) (by omega))) rfl ?_
      refine TQ_env (E' := [(1, (sl tInt l1)), (2, (.b 0 0)), (5, (intA (i_1 : Int))), (15, (intA x_i_1)), (19, (intA ((d0.facts.length : Int) - 1)))]) ⟨rfl, rfl, rfl, rfl, rfl, trivial⟩ ?_
      obtain ⟨r_6, h_7, H⟩ := bind_inv H
      refine TQ_callV rfl (call_static ent78 rfl) (m_spec_l1In_ok _ _ _ _ h_7) rfl rfl ?_
      refine TQ_pure rfl (pur_not rfl rfl) rfl ?_
      refine TQ_pure rfl (pur_move rfl) rfl ?_
      refine TQ_split (t := (!r_6)) 22 rfl (fun g_8 => ?_) (fun g_8 => ?_)
      · replace H := cond_t g_8 H
        refine TQ_off rfl rfl (by decide) rfl rfl rfl ?_
        refine TQ_off rfl rfl (by decide) rfl rfl rfl ?_
        refine TQ_off rfl rfl (by decide) rfl rfl rfl ?_
        refine TQ_off rfl rfl (by decide) rfl rfl rfl ?_
        refine TQ_off rfl rfl (by decide) rfl rfl rfl ?_
        refine TQ_off rfl rfl (by decide) rfl rfl rfl ?_
        refine TQ_off rfl rfl (by decide) rfl rfl rfl ?_
        refine TQ_off rfl rfl (by decide) rfl rfl rfl ?_
        refine TQ_env (E' := [(1, (sl tInt l1)), (2, (.b 0 0)), (5, (intA (i_1 : Int))), (22, (boolA true)), (25, (.v undef)), (29, (.v undef)), (30, (.v undef))]) ⟨rfl, rfl, rfl, rfl, rfl, rfl, rfl, trivial⟩ ?_
        refine TQ_off rfl rfl (by decide) rfl rfl rfl ?_
        refine TQ_off rfl rfl (by decide) rfl rfl rfl ?_
        refine TQ_off rfl rfl (by decide) rfl rfl rfl ?_
        refine TQ_off rfl rfl (by decide) rfl rfl rfl ?_
        refine TQ_off rfl rfl (by decide) rfl rfl rfl ?_
        refine TQ_off rfl rfl (by decide) rfl rfl rfl ?_
        refine TQ_pure rfl (pur_pick (t := true) rfl rfl rfl) rfl ?_
        refine TQ_nil ?_
        exact joined true (WeakL.to 1 (Nat.le_of_ble_eq_true rfl) rfl rfl rfl rfl ⟨leR rfl, leR rfl, leR rfl, leR rfl, trivial⟩) (some_inj H).symm
      · replace H := cond_f g_8 H
        refine TQ_on rfl rfl (by decide) rfl (pur_move rfl) rfl ?_
        refine TQ_on rfl rfl (by decide) rfl (pur_gtr rfl rfl rfl) rfl ?_
        refine TQ_on rfl rfl (by decide) rfl (pur_move rfl) rfl ?_
        refine TQ_split (t := decide (0 < (i_1 : Int))) 25 rfl (fun g_9 => ?_) (fun g_9 => ?_)
        · replace H := cond_t g_9 H
          refine TQ_on rfl rfl (by decide) rfl (pur_move rfl) rfl ?_
          refine TQ_on rfl rfl (by decide) rfl (pur_move rfl) rfl ?_
          refine TQ_on rfl rfl (by decide) rfl (pur_ixT (T := tInt) sl33 rfl rfl rfl hx_i_1 rfl) rfl ?_
          refine TQ_on rfl rfl (by decide) rfl (pur_ldT (T := tInt) (i := i_1) (off := 0) rfl one3 rfl rfl hx_i_1 rfl) rfl ?_
          refine TQ_on rfl rfl (by decide) rfl (pur_move rfl) rfl ?_
          refine TQ_on rfl rfl (by decide) rfl (pur_move rfl) rfl ?_
          refine TQ_on rfl rfl (by decide) rfl (pur_sub rfl rfl rfl (fits64 (by omega) (by omega))) rfl ?_
          obtain ⟨v_10, h_11, H⟩ := bind_inv H
          obtain ⟨n_12, hz_13, hv_14⟩ := getI_inv h_11
          refine TQ_on rfl rfl (by decide) rfl (pur_ixT (T := tInt) sl33 rfl rfl hz_13 hv_14 rfl) rfl ?_
          refine TQ_env (E' := [(1, (sl tInt l1)), (2, (.b 0 0)), (5, (intA (i_1 : Int))), (22, (boolA false)), (25, (boolA true)), (29, (intA x_i_1)), (33, (.q (flat tInt.enc l1) (n_12 * tInt.k)))]) ⟨rfl, rfl, rfl, rfl, rfl, rfl, rfl, trivial⟩ ?_
          refine TQ_on rfl rfl (by decide) rfl (pur_ldT (T := tInt) (i := n_12) (off := 0) rfl one3 rfl rfl hv_14 rfl) rfl ?_
          refine TQ_on rfl rfl (by decide) rfl (pur_leq rfl rfl rfl) rfl ?_
          refine TQ_on rfl rfl (by decide) rfl (pur_pick (t := true) rfl rfl rfl) rfl ?_
          refine TQ_pure rfl (pur_pick (t := false) rfl rfl rfl) rfl ?_
          refine TQ_nil ?_
          exact joined (decide (x_i_1 ≤ v_10)) (WeakL.to 1 (Nat.le_of_ble_eq_true rfl) rfl rfl rfl rfl ⟨leR rfl, leR rfl, leR rfl, leR rfl, trivial⟩) (some_inj H).symm
        · replace H := cond_f g_9 H
          refine TQ_off rfl rfl (by decide) rfl rfl rfl ?_
          refine TQ_off rfl rfl (by decide) rfl rfl rfl ?_
          refine TQ_off rfl rfl (by decide) rfl rfl rfl ?_
          refine TQ_off rfl rfl (by decide) rfl rfl rfl ?_
          refine TQ_off rfl rfl (by decide) rfl rfl rfl ?_
          refine TQ_off rfl rfl (by decide) rfl rfl rfl ?_
          refine TQ_off rfl rfl (by decide) rfl rfl rfl ?_
          refine TQ_off rfl rfl (by decide) rfl rfl rfl ?_
          refine TQ_env (E' := [(1, (sl tInt l1)), (2, (.b 0 0)), (5, (intA (i_1 : Int))), (22, (boolA false)), (25, (boolA false)), (29, (.v undef)), (33, (.v undef))]) ⟨rfl, rfl, rfl, rfl, rfl, rfl, rfl, trivial⟩ ?_
          refine TQ_off rfl rfl (by decide) rfl rfl rfl ?_
          refine TQ_off rfl rfl (by decide) rfl rfl rfl ?_
          refine TQ_on rfl rfl (by decide) rfl (pur_pick (t := false) rfl rfl rfl) rfl ?_
          refine TQ_pure rfl (pur_pick (t := false) rfl rfl rfl) rfl ?_
          refine TQ_nil ?_
          exact joined false (WeakL.to 1 (Nat.le_of_ble_eq_true rfl) rfl rfl rfl rfl ⟨leR rfl, leR rfl, leR rfl, leR rfl, trivial⟩) (some_inj H).symm
    · rintro _ rfl
      replace H := H_4
      refine T_env (E' := [(1, (sl tInt l1)), (2, (.b 0 0)), (5, (intA (i_1 : Int))), (37, (boolA t37_3))]) ⟨rfl, rfl, rfl, rfl, trivial⟩ ?_
      refine T_cond (t := t37_3) rfl (fun c_15 => ?_) (fun c_15 => ?_)
      · replace H := cond_t c_15 H
        refine T_seq ?_
        refine T_region ?_
        refine TO_cons rfl (TOp_pure (pur_assign rfl) rfl ?_)
        refine TO_nil ?_
        refine T_env (E' := [(4, (boolA false))]) ⟨rfl, trivial⟩ ?_
        refine T_ret ?_
        refine block_ret ?_
        refine then_ret ?_
        refine then_ret ?_
        refine block_ret ?_
        refine then_ret ?_
        obtain rfl := some_inj H
        obtain rfl := some_inj K2_
        replace H := onS_r N2_
        obtain rfl := some_inj H
        refine end_ret (.tmp .nil) rfl rfl ⟨?_, rfl⟩
        rfl
      · replace H := cond_f c_15 H
        refine T_skip ?_
        refine T_env (E' := [(1, (sl tInt l1)), (2, (.b 0 0)), (5, (intA (i_1 : Int)))]) ⟨rfl, rfl, rfl, trivial⟩ ?_
        refine T_region ?_
        refine TO_cons rfl (TOp_pure (pur_move rfl) rfl ?_)
        refine TO_cons rfl (TOp_pure (pur_add rfl rfl rfl (fits64 (by omega) (by omega))) rfl ?_)
        refine TO_cons rfl (TOp_pure (pur_assign rfl) rfl ?_)
        refine TO_nil ?_
        obtain rfl := some_inj H
        exact again (l1.length - (i_1 + 1)) (i_1 + 1) (by omega) (WeakL.to 1 (Nat.le_of_ble_eq_true rfl) rfl rfl rfl rfl ⟨leR rfl, leR rfl, leR rfl, trivial⟩) ⟨rfl, K2_⟩
  · replace d2 := of_decide_eq_false d2
    obtain rfl := forL_end L2_ (by omega)
    refine T_exit ?_
    refine then_exit ?_
    refine then_exit ?_
    refine block_exit ?_
    replace H := onS_l N2_
    refine T_env (E' := []) trivial ?_
    refine T_seq ?_
    refine T_region ?_
    refine TO_cons rfl (TOp_pure (pur_assign rfl) rfl ?_)
    refine TO_nil ?_
    refine T_env (E' := [(4, (boolA true))]) ⟨rfl, trivial⟩ ?_
    refine T_ret ?_
    obtain rfl := some_inj H
    refine end_ret (.tmp .nil) rfl rfl ⟨?_, rfl⟩
    rfl

set_option maxHeartbeats 1000000 in
/-- spec.ColumnSum -/
theorem m_spec_ColumnSum_ok (u : Nat) (d0 : Database) (l1 : (List Int)) (r2 : Int) (col3 : Int) (r : Int) (H : m_spec_ColumnSum u d0 l1 r2 col3 = some r) : FnV prg 24 [(.g (tDatabase.enc d0)), (sl tInt l1), (intA r2), (intA col3)] (intA r) := by
  unfold m_spec_ColumnSum at H
  refine fnV_of_T Try.func24 rfl rfl (Nat.le_of_ble_eq_true rfl) ?_
  refine T_env (E' := [(0, (.g (tDatabase.enc d0))), (1, (sl tInt l1)), (2, (intA r2)), (3, (intA col3))]) ⟨rfl, rfl, rfl, rfl, trivial⟩ ?_
  refine T_seq ?_
  refine T_region ?_
  refine TO_cons rfl (TOp_box rfl (boxAll rfl) rfl rfl ?_)
  refine TO_cons rfl (TOp_pure (pur_assign rfl) rfl ?_)
  refine TO_nil ?_
  refine T_env (E' := [(1, (sl tInt l1)), (2, (intA r2)), (3, (intA col3)), (4, (.b 0 0))]) ⟨rfl, rfl, rfl, rfl, trivial⟩ ?_
  refine T_seq ?_
  refine T_region ?_
  refine TO_cons rfl (TOp_pure (pur_assign rfl) rfl ?_)
  refine TO_nil ?_
  refine T_env (E' := [(1, (sl tInt l1)), (2, (intA r2)), (3, (intA col3)), (4, (.b 0 0)), (9, (intA 0))]) ⟨rfl, rfl, rfl, rfl, rfl, trivial⟩ ?_
  refine T_seq ?_
  refine T_seq ?_
  refine T_region ?_
  refine TO_cons rfl (TOp_pure (pur_assign rfl) rfl ?_)
  refine TO_nil ?_
  refine T_env (E' := [(1, (sl tInt l1)), (2, (intA r2)), (3, (intA col3)), (4, (.b 0 0)), (9, (intA 0)), (10, (intA 0))]) ⟨rfl, rfl, rfl, rfl, rfl, rfl, trivial⟩ ?_
  obtain ⟨O1_, L1_, N1_⟩ := bind_inv H
  clear H
  obtain ⟨B1_, hb1, L1_⟩ := gen_whileF L1_
  refine T_block ?_
  refine T_loopX (fun k => fun (x_ : Int × Int) => whileF B1_ k (x_.1, x_.2) = some O1_) (fun (x_ : Int × Int) => [(1, (sl tInt l1)), (2, (intA r2)), (3, (intA col3)), (4, (.b 0 0)), (9, (intA x_.1)), (10, (intA x_.2))]) (fun (x_ : Int × Int) => [.box [(sl tRelation d0.relations), (sl tFact d0.facts)]]) u (0, 0) (WeakL.to 1 (Nat.le_of_ble_eq_true rfl) rfl rfl rfl rfl ⟨leR rfl, leR rfl, leR rfl, leR rfl, leR rfl, leR rfl, trivial⟩) L1_ ?_
  rintro _ ⟨n9, i10⟩ L1_
  obtain ⟨k1, rfl, C1_, H, K1_⟩ := while_step L1_
  rw [hb1] at H
  refine T_env (E' := [(1, (sl tInt l1)), (2, (intA r2)), (3, (intA col3)), (4, (.b 0 0)), (9, (intA n9)), (10, (intA i10))]) ⟨rfl, rfl, rfl, rfl, rfl, rfl, trivial⟩ ?_
  refine T_st (σ' := [.box [(sl tRelation d0.relations), (sl tFact d0.facts)]]) rfl ?_
  refine T_seq ?_
  obtain ⟨t25_2, J_2, H_3⟩ := bind_inv H
  refine T_cutX (fun x => t25_2 = x) (fun (t25_2 : Bool) => [(1, (sl tInt l1)), (2, (intA r2)), (3, (intA col3)), (4, (.b 0 0)), (9, (intA n9)), (10, (intA i10)), (25, (boolA t25_2))]) (fun (t25_2 : Bool) => [.box [(sl tRelation d0.relations), (sl tFact d0.facts)]]) ?_ ?_
  · replace H := J_2
    refine T_region ?_
    refine TO_cons rfl (TOp_pure (pur_move rfl) rfl ?_)
    refine TO_cons rfl (TOp_pure (pur_move rfl) rfl ?_)
    refine TO_cons rfl (TOp_pure (pur_lenT (T := tInt) sl33 rfl rfl) rfl ?_)
    refine TO_cons rfl (TOp_pure (pur_lss rfl rfl rfl) rfl ?_)
    refine TO_cons rfl (TOp_pure (pur_move rfl) rfl ?_)
    refine TO_split (t := decide (i10 < (l1.length : Int))) 15 rfl (fun g_4 => ?_) (fun g_4 => ?_)
    · replace H := cond_t g_4 H
      refine TO_on rfl rfl (by decide) rfl rfl (TOp_pure (pur_ldK_b agg32 rfl rfl (Nat.le_of_ble_eq_true rfl) rfl) rfl ?_)
      refine TO_on rfl rfl (by decide) rfl rfl (TOp_pure (pur_move rfl) rfl ?_)
      refine TO_on rfl rfl (by decide) rfl rfl (TOp_pure (pur_move rfl) rfl ?_)
      obtain ⟨r_5, h_6, H⟩ := bind_inv H
      refine TO_on rfl rfl (by decide) rfl rfl (TOp_callV (call_static ent59 rfl) (m_spec_l27Ok_ok u _ _ _ _ h_6) rfl rfl rfl ?_)
      refine TO_cons rfl (TOp_pure (pur_pick (t := true) rfl rfl rfl) rfl ?_)
      refine TO_cons rfl (TOp_pure (pur_move rfl) rfl ?_)
      refine TO_split (t := r_5) 21 rfl (fun g_7 => ?_) (fun g_7 => ?_)
      · replace H := cond_t g_7 H
        refine TO_on rfl rfl (by decide) rfl rfl (TOp_pure (pur_ldK_b agg32 rfl rfl (Nat.le_of_ble_eq_true rfl) rfl) rfl ?_)
        refine TO_on rfl rfl (by decide) rfl rfl (TOp_pure (pur_move rfl) rfl ?_)
        obtain ⟨r_8, h_9, H⟩ := bind_inv H
        refine TO_on rfl rfl (by decide) rfl rfl (TOp_callV (call_static ent60 rfl) (m_spec_l4Set_ok _ _ _ h_9) rfl rfl rfl ?_)
        refine TO_cons rfl (TOp_pure (pur_pick (t := true) rfl rfl rfl) rfl ?_)
        refine TO_nil ?_
        exact joined r_8 (WeakL.to 1 (Nat.le_of_ble_eq_true rfl) rfl rfl rfl rfl ⟨leR rfl, leR rfl, leR rfl, leR rfl, leR rfl, leR rfl, leR rfl, trivial⟩) (some_inj H).symm
      · replace H := cond_f g_7 H
        refine TO_off rfl rfl (by decide) rfl rfl rfl ?_
        refine TO_off rfl rfl (by decide) rfl rfl rfl ?_
        refine TO_off rfl rfl (by decide) rfl rfl rfl ?_
        refine TO_cons rfl (TOp_pure (pur_pick (t := false) rfl rfl rfl) rfl ?_)
        refine TO_nil ?_
        exact joined false (WeakL.to 1 (Nat.le_of_ble_eq_true rfl) rfl rfl rfl rfl ⟨leR rfl, leR rfl, leR rfl, leR rfl, leR rfl, leR rfl, leR rfl, trivial⟩) (some_inj H).symm
    · replace H := cond_f g_4 H
      refine TO_off rfl rfl (by decide) rfl rfl rfl ?_
      refine TO_off rfl rfl (by decide) rfl rfl rfl ?_
      refine TO_off rfl rfl (by decide) rfl rfl rfl ?_
      refine TO_off rfl rfl (by decide) rfl rfl rfl ?_
      refine TO_cons rfl (TOp_pure (pur_pick (t := false) rfl rfl rfl) rfl ?_)
      refine TO_cons rfl (TOp_pure (pur_move rfl) rfl ?_)
      refine TO_off rfl rfl (by decide) rfl rfl rfl ?_
      refine TO_off rfl rfl (by decide) rfl rfl rfl ?_
      refine TO_off rfl rfl (by decide) rfl rfl rfl ?_
      refine TO_cons rfl (TOp_pure (pur_pick (t := false) rfl rfl rfl) rfl ?_)
      refine TO_nil ?_
      exact joined false (WeakL.to 1 (Nat.le_of_ble_eq_true rfl) rfl rfl rfl rfl ⟨leR rfl, leR rfl, leR rfl, leR rfl, leR rfl, leR rfl, leR rfl, trivial⟩) (some_inj H).symm
  · rintro _ rfl
    replace H := H_3
    refine T_env (E' := [(1, (sl tInt l1)), (2, (intA r2)), (3, (intA col3)), (4, (.b 0 0)), (9, (intA n9)), (10, (intA i10)), (25, (boolA t25_2))]) ⟨rfl, rfl, rfl, rfl, rfl, rfl, rfl, trivial⟩ ?_
    refine T_cond (t := t25_2) rfl (fun c_10 => ?_) (fun c_10 => ?_)
    · replace H := cond_t c_10 H
      refine T_skip ?_
      refine T_env (E' := [(1, (sl tInt l1)), (2, (intA r2)), (3, (intA col3)), (4, (.b 0 0)), (9, (intA n9)), (10, (intA i10))]) ⟨rfl, rfl, rfl, rfl, rfl, rfl, trivial⟩ ?_
      refine T_seq ?_
      refine T_block ?_
      refine T_seq ?_
      refine T_regionD mixed (by kernel_rfl) ?_
      refine TQ_pure rfl (pur_fa_b fld32_1 rfl rfl) rfl ?_
      refine TQ_pure rfl (pur_ld_b one30 rfl rfl rfl rfl) rfl ?_
      refine TQ_pure rfl (pur_move rfl) rfl ?_
      refine TQ_pure rfl (pur_move rfl) rfl ?_
      obtain ⟨v_11, h_12, H⟩ := bind_inv H
      obtain ⟨n_13, hz_14, hv_15⟩ := getI_inv h_12
      refine TQ_pure rfl (pur_ixT (T := tInt) sl33 rfl rfl hz_14 hv_15 rfl) rfl ?_
      refine TQ_pure rfl (pur_ldT (T := tInt) (i := n_13) (off := 0) rfl one3 rfl rfl hv_15 rfl) rfl ?_
      obtain ⟨v_16, h_17, H⟩ := bind_inv H
      obtain ⟨n_18, hz_19, hv_20⟩ := getI_inv h_17
      refine TQ_pure rfl (pur_ixT (T := tFact) sl30 rfl rfl hz_19 hv_20 rfl) rfl ?_
      refine TQ_pure rfl (pur_fa_q fld60_0 rfl rfl) rfl ?_
      refine TQ_env (E' := [(1, (sl tInt l1)), (2, (intA r2)), (3, (intA col3)), (4, (.b 0 0)), (9, (intA n9)), (10, (intA i10)), (35, (.q (flat tFact.enc d0.facts) (n_18 * tFact.k + 0)))]) ⟨rfl, rfl, rfl, rfl, rfl, rfl, rfl, trivial⟩ ?_
      refine TQ_pure rfl (pur_ldT (T := tFact) (i := n_18) (off := 0) rfl one3 rfl rfl hv_20 rfl) rfl ?_
      refine TQ_pure rfl (pur_move rfl) rfl ?_
      refine TQ_pure rfl (pur_eql rfl rfl rfl) rfl ?_
      refine TQ_nil ?_
      refine T_env (E' := [(1, (sl tInt l1)), (2, (intA r2)), (3, (intA col3)), (4, (.b 0 0)), (9, (intA n9)), (10, (intA i10)), (38, (boolA (decide (v_16.relation = r2))))]) ⟨rfl, rfl, rfl, rfl, rfl, rfl, rfl, trivial⟩ ?_
      refine T_cond (t := decide (v_16.relation = r2)) rfl (fun c_21 => ?_) (fun c_21 => ?_)
      · replace H := cond_t c_21 H
        refine T_regionD mixed (by kernel_rfl) ?_
        refine TQ_pure rfl (pur_move rfl) rfl ?_
        refine TQ_pure rfl (pur_fa_b fld32_1 rfl rfl) rfl ?_
        refine TQ_pure rfl (pur_ld_b one30 rfl rfl rfl rfl) rfl ?_
        refine TQ_pure rfl (pur_move rfl) rfl ?_
        refine TQ_pure rfl (pur_move rfl) rfl ?_
        refine TQ_pure rfl (pur_ixT (T := tInt) sl33 rfl rfl hz_14 hv_15 rfl) rfl ?_
        refine TQ_pure rfl (pur_ldT (T := tInt) (i := n_13) (off := 0) rfl one3 rfl rfl hv_15 rfl) rfl ?_
        refine TQ_pure rfl (pur_ixT (T := tFact) sl30 rfl rfl hz_19 hv_20 rfl) rfl ?_
        refine TQ_env (E' := [(1, (sl tInt l1)), (2, (intA r2)), (3, (intA col3)), (4, (.b 0 0)), (9, (intA n9)), (10, (intA i10)), (39, (intA n9)), (46, (.q (flat tFact.enc d0.facts) (n_18 * tFact.k)))]) ⟨rfl, rfl, rfl, rfl, rfl, rfl, rfl, rfl, trivial⟩ ?_
        refine TQ_pure rfl (pur_fa_q fld60_1 rfl rfl) rfl ?_
        refine TQ_pure rfl (pur_ldT (T := tFact) (i := n_18) (off := 1) rfl one33 rfl rfl hv_20 rfl) rfl ?_
        refine TQ_pure rfl (pur_move rfl) rfl ?_
        obtain ⟨v_22, h_23, H⟩ := bind_inv H
        obtain ⟨n_24, hz_25, hv_26⟩ := getI_inv h_23
        refine TQ_pure rfl (pur_ixT (T := tInt) sl33 rfl rfl hz_25 hv_26 rfl) rfl ?_
        refine TQ_pure rfl (pur_ldT (T := tInt) (i := n_24) (off := 0) rfl one3 rfl rfl hv_26 rfl) rfl ?_
        refine TQ_pure rfl (pur_wadd rfl rfl rfl) rfl ?_
        refine TQ_pure rfl (pur_assign rfl) rfl ?_
        refine TQ_nil ?_
        refine T_env (E' := [(1, (sl tInt l1)), (2, (intA r2)), (3, (intA col3)), (4, (.b 0 0)), (9, (intA (w64 (n9 + v_22)))), (10, (intA i10))]) ⟨rfl, rfl, rfl, rfl, rfl, rfl, trivial⟩ ?_
        refine T_region ?_
        refine TO_cons rfl (TOp_pure (pur_move rfl) rfl ?_)
        refine TO_cons rfl (TOp_pure (pur_wadd rfl rfl rfl) rfl ?_)
        refine TO_cons rfl (TOp_pure (pur_assign rfl) rfl ?_)
        refine TO_nil ?_
        obtain rfl := some_inj H
        exact again k1 ((w64 (n9 + v_22)), (w64 (i10 + 1))) (Nat.lt_succ_self _) (WeakL.to 1 (Nat.le_of_ble_eq_true rfl) rfl rfl rfl rfl ⟨leR rfl, leR rfl, leR rfl, leR rfl, leR rfl, leR rfl, trivial⟩) K1_
      · replace H := cond_f c_21 H
        refine T_skip ?_
        refine T_env (E' := [(1, (sl tInt l1)), (2, (intA r2)), (3, (intA col3)), (4, (.b 0 0)), (9, (intA n9)), (10, (intA i10))]) ⟨rfl, rfl, rfl, rfl, rfl, rfl, trivial⟩ ?_
        refine T_region ?_
        refine TO_cons rfl (TOp_pure (pur_move rfl) rfl ?_)
        refine TO_cons rfl (TOp_pure (pur_wadd rfl rfl rfl) rfl ?_)
        refine TO_cons rfl (TOp_pure (pur_assign rfl) rfl ?_)
        refine TO_nil ?_
        obtain rfl := some_inj H
        exact again k1 (n9, (w64 (i10 + 1))) (Nat.lt_succ_self _) (WeakL.to 1 (Nat.le_of_ble_eq_true rfl) rfl rfl rfl rfl ⟨leR rfl, leR rfl, leR rfl, leR rfl, leR rfl, leR rfl, trivial⟩) K1_
    · replace H := cond_f c_10 H
      refine T_exit ?_
      refine then_exit ?_
      refine then_exit ?_
      refine block_exit ?_
      obtain rfl := some_inj H
      obtain rfl := some_inj K1_
      replace H := onS_l N1_
      refine T_env (E' := [(9, (intA n9))]) ⟨rfl, trivial⟩ ?_
      refine T_seq ?_
      refine T_region ?_
      refine TO_cons rfl (TOp_pure (pur_move rfl) rfl ?_)
      refine TO_cons rfl (TOp_pure (pur_assign rfl) rfl ?_)
      refine TO_nil ?_
      refine T_env (E' := [(8, (intA n9))]) ⟨rfl, trivial⟩ ?_
      refine T_ret ?_
      obtain rfl := some_inj H
      refine end_ret (.tmp .nil) rfl rfl ⟨?_, rfl⟩
      rfl

set_option maxHeartbeats 1000000 in
/-- laws.at -/
theorem m_laws_at_ok (code0 : (List Int)) (i1 : Int) (r : Int) (H : m_laws_at code0 i1 = some r) : FnV prg 61 [(sl (tI .u8) code0), (intA i1)] (intA r) := by
  unfold m_laws_at at H
  refine fnV_of_T Try.func61 rfl rfl (Nat.le_of_ble_eq_true rfl) ?_
  refine T_env (E' := [(0, (sl (tI .u8) code0)), (1, (intA i1))]) ⟨rfl, rfl, trivial⟩ ?_
  refine T_seq ?_
  refine T_region ?_
  refine TO_cons rfl (TOp_pure (pur_assign rfl) rfl ?_)
  refine TO_nil ?_
  refine T_env (E' := [(0, (sl (tI .u8) code0)), (1, (intA i1))]) ⟨rfl, rfl, trivial⟩ ?_
  refine T_seq ?_
  refine T_seq ?_
  refine T_region ?_
  refine TO_cons rfl (TOp_pure (pur_move rfl) rfl ?_)
  refine TO_cons rfl (TOp_pure (pur_move rfl) rfl ?_)
  refine TO_cons rfl (TOp_pure (pur_lenT (T := (tI .u8)) sl27 rfl rfl) rfl ?_)
  refine TO_cons rfl (TOp_pure (pur_lss rfl rfl rfl) rfl ?_)
  refine TO_nil ?_
  refine T_env (E' := [(0, (sl (tI .u8) code0)), (1, (intA i1)), (8, (boolA (decide (i1 < (code0.length : Int)))))]) ⟨rfl, rfl, rfl, trivial⟩ ?_
  refine T_cond (t := decide (i1 < (code0.length : Int))) rfl (fun c_1 => ?_) (fun c_1 => ?_)
  · replace H := cond_t c_1 H
    refine T_seq ?_
    refine T_region ?_
    refine TO_cons rfl (TOp_pure (pur_move rfl) rfl ?_)
    refine TO_cons rfl (TOp_pure (pur_move rfl) rfl ?_)
    obtain ⟨v_2, h_3, H⟩ := bind_inv H
    obtain ⟨n_4, hz_5, hv_6⟩ := getI_inv h_3
    refine TO_cons rfl (TOp_pure (pur_ixT (T := (tI .u8)) sl27 rfl rfl hz_5 hv_6 rfl) rfl ?_)
    refine TO_cons rfl (TOp_pure (pur_ldT (T := (tI .u8)) (i := n_4) (off := 0) rfl one5 rfl rfl hv_6 rfl) rfl ?_)
    refine TO_cons rfl (TOp_pure (pur_convI (k := .i64) (k' := .u8) ⟨_, Try.underlying5⟩ Try.underlying3 rfl rfl) rfl ?_)
    refine TO_cons rfl (TOp_pure (pur_assign rfl) rfl ?_)
    refine TO_nil ?_
    refine T_env (E' := [(4, (intA (w64 v_2)))]) ⟨rfl, trivial⟩ ?_
    refine T_ret ?_
    refine then_ret ?_
    obtain rfl := some_inj H
    refine end_ret (.tmp .nil) rfl rfl ⟨?_, rfl⟩
    rfl
  · replace H := cond_f c_1 H
    refine T_skip ?_
    refine T_env (E' := [(0, (sl (tI .u8) code0)), (1, (intA i1))]) ⟨rfl, rfl, trivial⟩ ?_
    refine T_seq ?_
    refine T_region ?_
    refine TO_cons rfl (TOp_pure (pur_move rfl) rfl ?_)
    refine TO_cons rfl (TOp_pure (pur_wmul rfl rfl rfl) rfl ?_)
    refine TO_cons rfl (TOp_pure (pur_move rfl) rfl ?_)
    refine TO_cons rfl (TOp_pure (pur_lenT (T := (tI .u8)) sl27 rfl rfl) rfl ?_)
    refine TO_cons rfl (TOp_pure (pur_wmul rfl rfl rfl) rfl ?_)
    refine TO_cons rfl (TOp_pure (pur_wadd rfl rfl rfl) rfl ?_)
    refine TO_cons rfl (TOp_pure (pur_rem rfl rfl rfl (by decide)) rfl ?_)
    refine TO_cons rfl (TOp_pure (pur_assign rfl) rfl ?_)
    refine TO_nil ?_
    refine T_env (E' := [(4, (intA ((w64 ((w64 (i1 * 37)) + (w64 ((code0.length : Int) * 11)))).tmod 256)))]) ⟨rfl, trivial⟩ ?_
    refine T_ret ?_
    obtain rfl := some_inj H
    refine end_ret (.tmp .nil) rfl rfl ⟨?_, rfl⟩
    rfl

set_option maxHeartbeats 1000000 in
/-- laws.cutAt -/
theorem m_laws_cutAt_ok (code0 : (List Int)) (i1 : Int) (n2 : Int) (r : Int) (H : m_laws_cutAt code0 i1 n2 = some r) : FnV prg 25 [(sl (tI .u8) code0), (intA i1), (intA n2)] (intA r) := by
  unfold m_laws_cutAt at H
  refine fnV_of_T Try.func25 rfl rfl (Nat.le_of_ble_eq_true rfl) ?_
  refine T_env (E' := [(0, (sl (tI .u8) code0)), (1, (intA i1)), (2, (intA n2))]) ⟨rfl, rfl, rfl, trivial⟩ ?_
  refine T_seq ?_
  refine T_region ?_
  refine TO_cons rfl (TOp_pure (pur_assign rfl) rfl ?_)
  refine TO_nil ?_
  refine T_env (E' := [(0, (sl (tI .u8) code0)), (1, (intA i1)), (2, (intA n2))]) ⟨rfl, rfl, rfl, trivial⟩ ?_
  refine T_seq ?_
  refine T_region ?_
  refine TO_cons rfl (TOp_pure (pur_move rfl) rfl ?_)
  refine TO_cons rfl (TOp_pure (pur_move rfl) rfl ?_)
  obtain ⟨r_1, h_2, H⟩ := bind_inv H
  refine TO_cons rfl (TOp_callV (call_static ent61 rfl) (m_laws_at_ok _ _ _ h_2) rfl rfl rfl ?_)
  refine TO_cons rfl (TOp_pure (pur_move rfl) rfl ?_)
  refine TO_cons rfl (TOp_pure (pur_wadd rfl rfl rfl) rfl ?_)
  refine TO_cons rfl (TOp_pure (pur_wmul rfl rfl rfl) rfl ?_)
  refine TO_cons rfl (TOp_pure (pur_wquo rfl rfl rfl (by decide)) rfl ?_)
  refine TO_cons rfl (TOp_pure (pur_assign rfl) rfl ?_)
  refine TO_nil ?_
  refine T_env (E' := [(6, (intA (w64 ((w64 (r_1 * (w64 (n2 + 1)))).tdiv 256))))]) ⟨rfl, trivial⟩ ?_
  refine T_ret ?_
  obtain rfl := some_inj H
  refine end_ret (.tmp .nil) rfl rfl ⟨?_, rfl⟩
  rfl

set_option maxHeartbeats 1000000 in
/-- laws.FnColumnSum -/
theorem m_laws_FnColumnSum_ok (u : Nat) (code0 : (List Int)) (r : Bool) (H : m_laws_FnColumnSum u code0 = some r) : FnV prg 4 [(sl (tI .u8) code0)] (boolA r) := by
  unfold m_laws_FnColumnSum at H
  refine fnV_of_T Try.func4 rfl rfl (Nat.le_of_ble_eq_true rfl) ?_
  refine T_env (E' := [(0, (sl (tI .u8) code0))]) ⟨rfl, trivial⟩ ?_
  refine T_seq ?_
  refine T_region ?_
  refine TO_cons rfl (TOp_pure (pur_assign rfl) rfl ?_)
  refine TO_nil ?_
  refine T_env (E' := [(0, (sl (tI .u8) code0))]) ⟨rfl, trivial⟩ ?_
  refine T_seq ?_
  refine T_seq ?_
  refine T_region ?_
  refine TO_cons rfl (TOp_pure (pur_move rfl) rfl ?_)
  obtain ⟨r_1, h_2, H⟩ := bind_inv H
  refine TO_cons rfl (TOp_callV (call_static ent21 rfl) (m_laws_big_ok _ _ h_2) rfl rfl rfl ?_)
  refine TO_nil ?_
  refine T_env (E' := [(0, (sl (tI .u8) code0)), (10, (boolA r_1))]) ⟨rfl, rfl, trivial⟩ ?_
  refine T_cond (t := r_1) rfl (fun c_3 => ?_) (fun c_3 => ?_)
  · replace H := cond_t c_3 H
    refine T_seq ?_
    refine T_region ?_
    refine TO_cons rfl (TOp_pure (pur_assign rfl) rfl ?_)
    refine TO_nil ?_
    refine T_env (E' := [(2, (boolA true))]) ⟨rfl, trivial⟩ ?_
    refine T_ret ?_
    refine then_ret ?_
    obtain rfl := some_inj H
    refine end_ret (.tmp .nil) rfl rfl ⟨?_, rfl⟩
    rfl
  · replace H := cond_f c_3 H
    refine T_skip ?_
    refine T_env (E' := [(0, (sl (tI .u8) code0))]) ⟨rfl, trivial⟩ ?_
    refine T_seq ?_
    refine T_region ?_
    refine TO_cons rfl (TOp_pure (pur_move rfl) rfl ?_)
    obtain ⟨r_4, h_5, H⟩ := bind_inv H
    refine TO_cons rfl (TOp_callV (call_static ent22 rfl) (m_spec_DrawColumnSum_ok u _ _ h_5) rfl rfl rfl ?_)
    refine TO_cons rfl (TOp_pure (pur_move rfl) rfl ?_)
    refine TO_cons rfl (TOp_pure (pur_extract rfl rfl rfl) rfl ?_)
    refine TO_cons rfl (TOp_pure (pur_extract rfl rfl rfl) rfl ?_)
    refine TO_cons rfl (TOp_pure (pur_extract rfl rfl rfl) rfl ?_)
    refine TO_cons rfl (TOp_pure (pur_extract rfl rfl rfl) rfl ?_)
    refine TO_cons rfl (TOp_alloc zero32 rfl rfl ?_)
    refine TO_env (E' := [(0, (sl (tI .u8) code0)), (3, (.b 0 0)), (14, (.g (tDatabase.enc r_4.1))), (15, (sl tInt r_4.2.1)), (16, (intA r_4.2.2.1)), (17, (intA r_4.2.2.2))]) ⟨rfl, rfl, rfl, rfl, rfl, rfl, trivial⟩ ?_
    refine TO_cons rfl (TOp_storeB sz32 rfl rfl rfl rfl rfl rfl rfl (by decide) (Nat.le_of_ble_eq_true rfl) rfl ?_)
    refine TO_st (σ' := [.box [(sl tRelation r_4.1.relations), (sl tFact r_4.1.facts)]]) rfl ?_
    refine TO_cons rfl (TOp_pure (pur_assign rfl) rfl ?_)
    refine TO_cons rfl (TOp_pure (pur_assign rfl) rfl ?_)
    refine TO_cons rfl (TOp_pure (pur_assign rfl) rfl ?_)
    refine TO_nil ?_
    refine T_env (E' := [(0, (sl (tI .u8) code0)), (3, (.b 0 0)), (4, (sl tInt r_4.2.1)), (5, (intA r_4.2.2.1)), (6, (intA r_4.2.2.2))]) ⟨rfl, rfl, rfl, rfl, rfl, trivial⟩ ?_
    refine T_seq ?_
    refine T_region ?_
    refine TO_cons rfl (TOp_pure (pur_ldK_b agg32 rfl rfl (Nat.le_of_ble_eq_true rfl) rfl) rfl ?_)
    refine TO_cons rfl (TOp_pure (pur_move rfl) rfl ?_)
    refine TO_cons rfl (TOp_pure (pur_move rfl) rfl ?_)
    refine TO_cons rfl (TOp_pure (pur_move rfl) rfl ?_)
    obtain ⟨r_6, h_7, H⟩ := bind_inv H
    refine TO_cons rfl (TOp_callV (call_static ent23 rfl) (m_impl_ColumnSum_ok _ _ _ _ _ h_7) rfl rfl rfl ?_)
    refine TO_cons rfl (TOp_pure (pur_assign rfl) rfl ?_)
    refine TO_nil ?_
    refine T_env (E' := [(0, (sl (tI .u8) code0)), (3, (.b 0 0)), (4, (sl tInt r_4.2.1)), (5, (intA r_4.2.2.1)), (6, (intA r_4.2.2.2)), (7, (intA r_6))]) ⟨rfl, rfl, rfl, rfl, rfl, rfl, trivial⟩ ?_
    refine T_seq ?_
    refine T_seq ?_
    refine T_region ?_
    refine TO_cons rfl (TOp_pure (pur_move rfl) rfl ?_)
    refine TO_cons rfl (TOp_pure (pur_ldK_b agg32 rfl rfl (Nat.le_of_ble_eq_true rfl) rfl) rfl ?_)
    refine TO_cons rfl (TOp_pure (pur_move rfl) rfl ?_)
    refine TO_cons rfl (TOp_pure (pur_move rfl) rfl ?_)
    refine TO_cons rfl (TOp_pure (pur_move rfl) rfl ?_)
    obtain ⟨r_8, h_9, H⟩ := bind_inv H
    refine TO_cons rfl (TOp_callV (call_static ent24 rfl) (m_spec_ColumnSum_ok u _ _ _ _ _ h_9) rfl rfl rfl ?_)
    refine TO_cons rfl (TOp_pure (pur_neq rfl rfl rfl) rfl ?_)
    refine TO_nil ?_
    refine T_env (E' := [(0, (sl (tI .u8) code0)), (3, (.b 0 0)), (4, (sl tInt r_4.2.1)), (5, (intA r_4.2.2.1)), (6, (intA r_4.2.2.2)), (7, (intA r_6)), (29, (boolA (decide (r_6 ≠ r_8))))]) ⟨rfl, rfl, rfl, rfl, rfl, rfl, rfl, trivial⟩ ?_
    refine T_cond (t := decide (r_6 ≠ r_8)) rfl (fun c_10 => ?_) (fun c_10 => ?_)
    · replace H := cond_t c_10 H
      refine T_seq ?_
      refine T_region ?_
      refine TO_cons rfl (TOp_pure (pur_assign rfl) rfl ?_)
      refine TO_nil ?_
      refine T_env (E' := [(2, (boolA false))]) ⟨rfl, trivial⟩ ?_
      refine T_ret ?_
      refine then_ret ?_
      obtain rfl := some_inj H
      refine end_ret (.tmp .nil) rfl rfl ⟨?_, rfl⟩
      rfl
    · replace H := cond_f c_10 H
      refine T_skip ?_
      refine T_env (E' := [(0, (sl (tI .u8) code0)), (3, (.b 0 0)), (4, (sl tInt r_4.2.1)), (5, (intA r_4.2.2.1)), (6, (intA r_4.2.2.2)), (7, (intA r_6))]) ⟨rfl, rfl, rfl, rfl, rfl, rfl, trivial⟩ ?_
      refine T_seq ?_
      refine T_region ?_
      refine TO_cons rfl (TOp_pure (pur_move rfl) rfl ?_)
      refine TO_cons rfl (TOp_pure (pur_move rfl) rfl ?_)
      refine TO_cons rfl (TOp_pure (pur_lenT (T := tInt) sl33 rfl rfl) rfl ?_)
      obtain ⟨r_11, h_12, H⟩ := bind_inv H
      refine TO_cons rfl (TOp_callV (call_static ent25 rfl) (m_laws_cutAt_ok _ _ _ _ h_12) rfl rfl rfl ?_)
      refine TO_cons rfl (TOp_pure (pur_assign rfl) rfl ?_)
      refine TO_nil ?_
      refine T_env (E' := [(3, (.b 0 0)), (4, (sl tInt r_4.2.1)), (5, (intA r_4.2.2.1)), (6, (intA r_4.2.2.2)), (7, (intA r_6)), (8, (intA r_11))]) ⟨rfl, rfl, rfl, rfl, rfl, rfl, trivial⟩ ?_
      obtain ⟨t2_13, J_13, H_14⟩ := bind_inv H
      refine T_cutX (fun x => t2_13 = x) (fun (t2_13 : Bool) => [(2, (boolA t2_13))]) (fun (t2_13 : Bool) => []) ?_ ?_
      · replace H := J_13
        refine T_regionD mixed (by kernel_rfl) ?_
        refine TQ_pure rfl (pur_move rfl) rfl ?_
        refine TQ_pure rfl (pur_ldK_b agg32 rfl rfl (Nat.le_of_ble_eq_true rfl) rfl) rfl ?_
        refine TQ_pure rfl (pur_move rfl) rfl ?_
        refine TQ_pure rfl (pur_move rfl) rfl ?_
        obtain ⟨ys_15, h_16, H⟩ := bind_inv H
        refine TQ_pure rfl (pur_cutT (T := tInt) (lo := none) (hi := (some (.tmp 37))) sl33 rfl rfl ⟨_, rfl⟩ h_16 rfl) rfl ?_
        refine TQ_pure rfl (pur_move rfl) rfl ?_
        refine TQ_pure rfl (pur_move rfl) rfl ?_
        obtain ⟨r_17, h_18, H⟩ := bind_inv H
        refine TQ_callV rfl (call_static ent23 rfl) (m_impl_ColumnSum_ok _ _ _ _ _ h_18) rfl rfl ?_
        refine TQ_env (E' := [(3, (.b 0 0)), (4, (sl tInt r_4.2.1)), (5, (intA r_4.2.2.1)), (6, (intA r_4.2.2.2)), (7, (intA r_6)), (8, (intA r_11)), (34, (intA r_6)), (41, (intA r_17))]) ⟨rfl, rfl, rfl, rfl, rfl, rfl, rfl, rfl, trivial⟩ ?_
        refine TQ_pure rfl (pur_ldK_b agg32 rfl rfl (Nat.le_of_ble_eq_true rfl) rfl) rfl ?_
        refine TQ_pure rfl (pur_move rfl) rfl ?_
        refine TQ_pure rfl (pur_move rfl) rfl ?_
        obtain ⟨ys_19, h_20, H⟩ := bind_inv H
        refine TQ_pure rfl (pur_cutT (T := tInt) (lo := (some (.tmp 44))) (hi := none) sl33 rfl ⟨_, rfl⟩ rfl h_20 rfl) rfl ?_
        refine TQ_pure rfl (pur_move rfl) rfl ?_
        refine TQ_pure rfl (pur_move rfl) rfl ?_
        obtain ⟨r_21, h_22, H⟩ := bind_inv H
        refine TQ_callV rfl (call_static ent23 rfl) (m_impl_ColumnSum_ok _ _ _ _ _ h_22) rfl rfl ?_
        refine TQ_pure rfl (pur_wadd rfl rfl rfl) rfl ?_
        refine TQ_env (E' := [(7, (intA r_6)), (34, (intA r_6)), (49, (intA (w64 (r_17 + r_21))))]) ⟨rfl, rfl, rfl, trivial⟩ ?_
        refine TQ_pure rfl (pur_eql rfl rfl rfl) rfl ?_
        refine TQ_pure rfl (pur_move rfl) rfl ?_
        refine TQ_split (t := decide (r_6 = (w64 (r_17 + r_21)))) 51 rfl (fun g_23 => ?_) (fun g_23 => ?_)
        · replace H := cond_t g_23 H
          refine TQ_off rfl rfl (by decide) rfl rfl rfl ?_
          refine TQ_off rfl rfl (by decide) rfl rfl rfl ?_
          refine TQ_pure rfl (pur_pick (t := true) rfl rfl rfl) rfl ?_
          refine TQ_pure rfl (pur_assign rfl) rfl ?_
          refine TQ_nil ?_
          exact joined true (WeakL.to 0 (Nat.le_of_ble_eq_true rfl) rfl rfl rfl rfl ⟨leR rfl, trivial⟩) (some_inj H).symm
        · replace H := cond_f g_23 H
          refine TQ_on rfl rfl (by decide) rfl (pur_move rfl) rfl ?_
          refine TQ_on rfl rfl (by decide) rfl (pur_eql rfl rfl rfl) rfl ?_
          refine TQ_pure rfl (pur_pick (t := false) rfl rfl rfl) rfl ?_
          refine TQ_pure rfl (pur_assign rfl) rfl ?_
          refine TQ_nil ?_
          exact joined (decide (r_6 = 0)) (WeakL.to 0 (Nat.le_of_ble_eq_true rfl) rfl rfl rfl rfl ⟨leR rfl, trivial⟩) (some_inj H).symm
      · rintro _ rfl
        replace H := H_14
        refine T_env (E' := [(2, (boolA t2_13))]) ⟨rfl, trivial⟩ ?_
        refine T_ret ?_
        obtain rfl := some_inj H
        refine end_ret (.tmp .nil) rfl rfl ⟨?_, rfl⟩
        rfl
end Go.Proofs.Ytlcpdlngbofgcaa

/- Walks. -/
import Derived.Test.YtjdpolnakhmkmaaM1
import Derived.Test.YtjdpolnakhmkmaaM2
import Derived.Test.YtjdpolnakhmkmaaM3
set_option linter.unusedVariables false
set_option linter.unusedSimpArgs false
set_option maxRecDepth 4000
namespace Go.Proofs.Ytjdpolnakhmkmaa
open Go Go.Proofs Go.Sep
set_option maxHeartbeats 1000000 in
/-- impl.EqualQueries -/
theorem m_impl_EqualQueries_ok (a0 : Query) (b1 : Query) (r : Bool) (H : m_impl_EqualQueries a0 b1 = some r) : FnV prg 101 [(.g (tQuery.enc a0)), (.g (tQuery.enc b1))] (boolA r) := by
  unfold m_impl_EqualQueries at H
  refine fnV_of_T Try.func101 rfl rfl (Nat.le_of_ble_eq_true rfl) ?_
  refine T_env (E' := [(0, (.g (tQuery.enc a0))), (1, (.g (tQuery.enc b1)))]) ⟨rfl, rfl, trivial⟩ ?_
  refine sr ?_
  refine TO_cons rfl (TOp_box rfl (boxAll rfl) rfl rfl ?_)
  refine TO_cons rfl (TOp_box rfl (boxAll rfl) rfl rfl ?_)
  refine Tp rfl rfl (pur_assign rfl) rfl ?_
  refine TO_nil ?_
  refine T_env (E' := [(2, (.b 0 0)), (3, (.b 1 0))]) ⟨rfl, rfl, trivial⟩ ?_
  obtain ⟨t4_1, J_1, H_2⟩ := bind_inv H
  refine T_cutX (fun x => t4_1 = x) (fun (t4_1 : Bool) => [(4, (boolA t4_1))]) (fun (t4_1 : Bool) => []) ?_ ?_
  · replace H := J_1
    refine T_region ?_
    refine Tp rfl rfl (pur_fa_b fld29_0 rfl rfl) rfl ?_
    refine Tp rfl rfl (pur_ld_b one3 rfl rfl rfl rfl) rfl ?_
    refine Tp rfl rfl (pur_fa_b fld29_0 rfl rfl) rfl ?_
    refine Tp rfl rfl (pur_ld_b one3 rfl rfl rfl rfl) rfl ?_
    refine Tp rfl rfl (pur_eql rfl rfl rfl) rfl ?_
    refine Tp rfl rfl (pur_move rfl) rfl ?_
    refine TO_split (t := decide (a0.variableCount = b1.variableCount)) 10 rfl (fun g_3 => ?_) (fun g_3 => ?_)
    · replace H := cond_t g_3 H
      refine TO_on rfl rfl (by decide) rfl rfl (TOp_pure (pur_fa_b fld29_1 rfl rfl) rfl ?_)
      refine TO_on rfl rfl (by decide) rfl rfl (TOp_pure (pur_ld_b one27 rfl rfl rfl rfl) rfl ?_)
      refine TO_on rfl rfl (by decide) rfl rfl (TOp_pure (pur_fa_b fld29_1 rfl rfl) rfl ?_)
      refine TO_on rfl rfl (by decide) rfl rfl (TOp_pure (pur_ld_b one27 rfl rfl rfl rfl) rfl ?_)
      obtain ⟨r_4, h_5, H⟩ := bind_inv H
      refine TO_on rfl rfl (by decide) rfl rfl (TOp_callV (call_static ent153 rfl) (m_slices_EqualFunc_Simpl_Atom_Simpl_Atom_impl_Atom_impl_Atom_ok _ _ (fun x0 x1 => m_impl_equalAtoms x0 x1) 154 [] ent154 rfl ⟨rfl, rfl⟩ (fun x0 x1 r h => m_impl_equalAtoms_ok x0 x1  r h) _ h_5) rfl rfl rfl ?_)
      refine Tp rfl rfl (pur_pick (t := true) rfl rfl rfl) rfl ?_
      refine Tp rfl rfl (pur_move rfl) rfl ?_
      refine TO_split (t := r_4) 17 rfl (fun g_6 => ?_) (fun g_6 => ?_)
      · replace H := cond_t g_6 H
        refine TO_on rfl rfl (by decide) rfl rfl (TOp_pure (pur_fa_b fld29_2 rfl rfl) rfl ?_)
        refine TO_on rfl rfl (by decide) rfl rfl (TOp_pure (pur_ld_b one23 rfl rfl rfl rfl) rfl ?_)
        refine TO_on rfl rfl (by decide) rfl rfl (TOp_pure (pur_fa_b fld29_2 rfl rfl) rfl ?_)
        refine TO_on rfl rfl (by decide) rfl rfl (TOp_pure (pur_ld_b one23 rfl rfl rfl rfl) rfl ?_)
        obtain ⟨r_7, h_8, H⟩ := bind_inv H
        refine TO_on rfl rfl (by decide) rfl rfl (TOp_callV (call_static ent155 rfl) (m_slices_Equal_Sint_int_ok _ _ _ h_8) rfl rfl rfl ?_)
        refine Tp rfl rfl (pur_pick (t := true) rfl rfl rfl) rfl ?_
        refine Tp rfl rfl (pur_assign rfl) rfl ?_
        refine TO_nil ?_
        exact joined r_7 (wp 0 (lb rfl) rfl rfl rfl rfl ⟨rfl, trivial⟩) (some_inj H).symm
      · replace H := cond_f g_6 H
        refine TO_off rfl rfl (by decide) rfl rfl rfl ?_
        refine TO_off rfl rfl (by decide) rfl rfl rfl ?_
        refine TO_off rfl rfl (by decide) rfl rfl rfl ?_
        refine TO_off rfl rfl (by decide) rfl rfl rfl ?_
        refine TO_off rfl rfl (by decide) rfl rfl rfl ?_
        refine Tp rfl rfl (pur_pick (t := false) rfl rfl rfl) rfl ?_
        refine Tp rfl rfl (pur_assign rfl) rfl ?_
        refine TO_nil ?_
        exact joined false (wp 0 (lb rfl) rfl rfl rfl rfl ⟨rfl, trivial⟩) (some_inj H).symm
    · replace H := cond_f g_3 H
      refine TO_off rfl rfl (by decide) rfl rfl rfl ?_
      refine TO_off rfl rfl (by decide) rfl rfl rfl ?_
      refine TO_off rfl rfl (by decide) rfl rfl rfl ?_
      refine TO_off rfl rfl (by decide) rfl rfl rfl ?_
      refine TO_off rfl rfl (by decide) rfl rfl rfl ?_
      refine Tp rfl rfl (pur_pick (t := false) rfl rfl rfl) rfl ?_
      refine Tp rfl rfl (pur_move rfl) rfl ?_
      refine TO_off rfl rfl (by decide) rfl rfl rfl ?_
      refine TO_env (E' := [(3, (.b 1 0)), (17, (boolA false)), (18, (.v undef))]) ⟨rfl, rfl, rfl, trivial⟩ ?_
      refine TO_off rfl rfl (by decide) rfl rfl rfl ?_
      refine TO_off rfl rfl (by decide) rfl rfl rfl ?_
      refine TO_off rfl rfl (by decide) rfl rfl rfl ?_
      refine TO_off rfl rfl (by decide) rfl rfl rfl ?_
      refine Tp rfl rfl (pur_pick (t := false) rfl rfl rfl) rfl ?_
      refine Tp rfl rfl (pur_assign rfl) rfl ?_
      refine TO_nil ?_
      exact joined false (wp 0 (lb rfl) rfl rfl rfl rfl ⟨rfl, trivial⟩) (some_inj H).symm
  · rintro _ rfl
    replace H := H_2
    refine T_env (E' := [(4, (boolA t4_1))]) ⟨rfl, trivial⟩ ?_
    refine T_ret ?_
    obtain rfl := some_inj H
    refine end_ret (.tmp .nil) rfl rfl ⟨?_, rfl⟩
    rfl

set_option maxHeartbeats 1000000 in
/-- slices.EqualFunc[[][]int,[][]int,[]int,[]int] -/
theorem m_slices_EqualFunc_SSint_SSint_Sint_Sint_ok (s10 : (List (List Int))) (s21 : (List (List Int))) (eq2 : ((List Int) → (List Int) → Option Bool)) (eq2_g : Nat) (eq2_c : List A) (eq2_E : EnT prg eq2_g) (eq2_l : looseL eq2_c = true) (eq2_m : firmL eq2_c = true ∧ fzL eq2_c = eq2_c) (eq2_H : ∀ (x0 : (List Int)) (x1 : (List Int)) r, eq2 x0 x1 = some r → FnV prg eq2_g ([(sl tInt x0), (sl tInt x1)] ++ eq2_c) (boolA r)) (r : Bool) (H : m_slices_EqualFunc_SSint_SSint_Sint_Sint s10 s21 eq2 = some r) : FnV prg 156 [(sl (tSl tInt) s10), (sl (tSl tInt) s21), (.f eq2_g eq2_c)] (boolA r) := by
  unfold m_slices_EqualFunc_SSint_SSint_Sint_Sint at H
  refine fnV_of_T Try.func156 rfl rfl (Nat.le_of_ble_eq_true rfl) ?_
  refine T_env (E' := [(0, (sl (tSl tInt) s10)), (1, (sl (tSl tInt) s21)), (2, (.f eq2_g eq2_c))]) ⟨rfl, rfl, rfl, trivial⟩ ?_
  refine sr ?_
  refine Tp rfl rfl (pur_assign rfl) rfl ?_
  refine TO_nil ?_
  refine T_env (E' := [(0, (sl (tSl tInt) s10)), (1, (sl (tSl tInt) s21)), (2, (.f eq2_g eq2_c))]) ⟨rfl, rfl, rfl, trivial⟩ ?_
  refine T_seq ?_
  refine sr ?_
  refine Tp rfl rfl (pur_move rfl) rfl ?_
  refine Tp rfl rfl (pur_lenT (T := (tSl tInt)) sl53 rfl rfl) rfl ?_
  refine Tp rfl rfl (pur_move rfl) rfl ?_
  refine Tp rfl rfl (pur_lenT (T := (tSl tInt)) sl53 rfl rfl) rfl ?_
  refine Tp rfl rfl (pur_neq rfl rfl rfl) rfl ?_
  refine TO_nil ?_
  refine T_env (E' := [(0, (sl (tSl tInt) s10)), (1, (sl (tSl tInt) s21)), (2, (.f eq2_g eq2_c)), (14, (boolA (decide ((s10.length : Int) ≠ (s21.length : Int)))))]) ⟨rfl, rfl, rfl, rfl, trivial⟩ ?_
  refine T_cond (t := decide ((s10.length : Int) ≠ (s21.length : Int))) rfl (fun c_1 => ?_) (fun c_1 => ?_)
  · replace H := cond_t c_1 H
    refine sr ?_
    refine Tp rfl rfl (pur_assign rfl) rfl ?_
    refine TO_nil ?_
    refine T_env (E' := [(6, (boolA false))]) ⟨rfl, trivial⟩ ?_
    refine T_ret ?_
    refine then_ret ?_
    obtain rfl := some_inj H
    refine end_ret (.tmp .nil) rfl rfl ⟨?_, rfl⟩
    rfl
  · replace H := cond_f c_1 H
    refine T_skip ?_
    refine T_env (E' := [(0, (sl (tSl tInt) s10)), (1, (sl (tSl tInt) s21)), (2, (.f eq2_g eq2_c))]) ⟨rfl, rfl, rfl, trivial⟩ ?_
    refine T_seq ?_
    refine sr ?_
    refine Tp rfl rfl (pur_move rfl) rfl ?_
    refine Tp rfl rfl (pur_lenT (T := (tSl tInt)) sl53 rfl rfl) rfl ?_
    refine Tp rfl rfl (pur_move rfl) rfl ?_
    refine TO_nil ?_
    refine T_env (E' := [(1, (sl (tSl tInt) s21)), (2, (.f eq2_g eq2_c)), (15, (sl (tSl tInt) s10)), (16, (intA (s10.length : Int))), (17, (intA 0))]) ⟨rfl, rfl, rfl, rfl, rfl, trivial⟩ ?_
    obtain ⟨O3_, L3_, N3_⟩ := bind_inv H
    clear H
    obtain ⟨B3_, hb3, L3_⟩ := gen_forL L3_
    refine T_block ?_
    refine T_loopX (fun k => fun (t_2 : Nat) => k = s10.length - t_2 ∧ forL B3_ (s10.drop t_2) (t_2 : Int) () = some O3_) (fun (t_2 : Nat) => [(1, (sl (tSl tInt) s21)), (2, (.f eq2_g eq2_c)), (15, (sl (tSl tInt) s10)), (16, (intA (s10.length : Int))), (17, (intA (t_2 : Int)))]) (fun (t_2 : Nat) => []) _ (0 : Nat) (wp 0 (lb rfl) rfl rfl (by simp only [namesE, A.names, namesL_enc, Bool.false_or, Bool.or_false, looseL_names eq2_l]) rfl ⟨rfl, rfl, rfl, rfl, rfl, trivial⟩) ⟨rfl, L3_⟩ ?_
    rintro _ t_2 ⟨rfl, L3_⟩
    refine T_env (E' := [(1, (sl (tSl tInt) s21)), (2, (.f eq2_g eq2_c)), (15, (sl (tSl tInt) s10)), (16, (intA (s10.length : Int))), (17, (intA (t_2 : Int)))]) ⟨rfl, rfl, rfl, rfl, rfl, trivial⟩ ?_
    refine T_st (σ' := []) rfl ?_
    refine T_fact (len_sl (T := (tSl tInt)) (.tmp 15) rfl) (fun hl3 => ?_)
    refine sr ?_
    refine Tp rfl rfl (pur_lss rfl rfl rfl) rfl ?_
    refine TO_nil ?_
    refine T_env (E' := [(1, (sl (tSl tInt) s21)), (2, (.f eq2_g eq2_c)), (15, (sl (tSl tInt) s10)), (16, (intA (s10.length : Int))), (17, (intA (t_2 : Int))), (18, (boolA (decide ((t_2 : Int) < (s10.length : Int)))))]) ⟨rfl, rfl, rfl, rfl, rfl, rfl, trivial⟩ ?_
    refine T_seq ?_
    refine T_cond (t := decide ((t_2 : Int) < (s10.length : Int))) rfl (fun d3 => ?_) (fun d3 => ?_)
    · replace d3 := of_decide_eq_true d3
      obtain ⟨x_t_2, hx_t_2⟩ : ∃ v, (s10)[t_2]? = some v := ⟨_, List.getElem?_eq_getElem (by omega)⟩
      obtain ⟨C3_, H, K3_⟩ := forL_step L3_ hx_t_2
      rw [hb3] at H
      refine T_skip ?_
      refine T_env (E' := [(1, (sl (tSl tInt) s21)), (2, (.f eq2_g eq2_c)), (15, (sl (tSl tInt) s10)), (16, (intA (s10.length : Int))), (17, (intA (t_2 : Int)))]) ⟨rfl, rfl, rfl, rfl, rfl, trivial⟩ ?_
      refine T_seq ?_
      refine T_block ?_
      refine sr ?_
      refine Tp rfl rfl (pur_move rfl) rfl ?_
      refine Tp rfl rfl (pur_ixT (T := (tSl tInt)) sl53 rfl rfl rfl hx_t_2 rfl) rfl ?_
      refine Tp rfl rfl (pur_ldT (T := (tSl tInt)) (i := t_2) (off := 0) rfl one23 rfl rfl hx_t_2 rfl) rfl ?_
      refine Tp rfl rfl (pur_assign rfl) rfl ?_
      refine Tp rfl rfl (pur_assign rfl) rfl ?_
      refine TO_nil ?_
      refine T_env (E' := [(1, (sl (tSl tInt) s21)), (2, (.f eq2_g eq2_c)), (7, (intA (t_2 : Int))), (8, (sl tInt x_t_2)), (15, (sl (tSl tInt) s10)), (16, (intA (s10.length : Int))), (17, (intA (t_2 : Int)))]) ⟨rfl, rfl, rfl, rfl, rfl, rfl, rfl, trivial⟩ ?_
      refine sr ?_
      refine Tp rfl rfl (pur_move rfl) rfl ?_
      refine Tp rfl rfl (pur_move rfl) rfl ?_
      obtain ⟨v_4, h_5, H⟩ := bind_inv H
      obtain ⟨n_6, hz_7, hv_8⟩ := getI_inv h_5
      refine Tp rfl rfl (pur_ixT (T := (tSl tInt)) sl53 rfl rfl hz_7 hv_8 rfl) rfl ?_
      refine Tp rfl rfl (pur_ldT (T := (tSl tInt)) (i := n_6) (off := 0) rfl one23 rfl rfl hv_8 rfl) rfl ?_
      refine Tp rfl rfl (pur_assign rfl) rfl ?_
      refine TO_nil ?_
      refine T_env (E' := [(1, (sl (tSl tInt) s21)), (2, (.f eq2_g eq2_c)), (8, (sl tInt x_t_2)), (9, (sl tInt v_4)), (15, (sl (tSl tInt) s10)), (16, (intA (s10.length : Int))), (17, (intA (t_2 : Int)))]) ⟨rfl, rfl, rfl, rfl, rfl, rfl, rfl, trivial⟩ ?_
      refine sr ?_
      refine Tp rfl rfl (pur_move rfl) rfl ?_
      refine Tp rfl rfl (pur_move rfl) rfl ?_
      refine Tp rfl rfl (pur_move rfl) rfl ?_
      obtain ⟨r_9, h_10, H⟩ := bind_inv H
      refine TO_cons rfl (TOp_callV (call_closure eq2_E rfl rfl) (eq2_H _ _  _ h_10) (looseL_app rfl eq2_l) rfl rfl ?_)
      refine Tp rfl rfl (pur_not rfl rfl) rfl ?_
      refine TO_nil ?_
      refine T_env (E' := [(1, (sl (tSl tInt) s21)), (2, (.f eq2_g eq2_c)), (15, (sl (tSl tInt) s10)), (16, (intA (s10.length : Int))), (17, (intA (t_2 : Int))), (30, (boolA (!r_9)))]) ⟨rfl, rfl, rfl, rfl, rfl, rfl, trivial⟩ ?_
      refine T_cond (t := (!r_9)) rfl (fun c_11 => ?_) (fun c_11 => ?_)
      · replace H := cond_t c_11 H
        refine sr ?_
        refine Tp rfl rfl (pur_assign rfl) rfl ?_
        refine TO_nil ?_
        refine T_env (E' := [(6, (boolA false))]) ⟨rfl, trivial⟩ ?_
        refine T_ret ?_
        refine block_ret ?_
        refine then_ret ?_
        refine then_ret ?_
        refine block_ret ?_
        refine then_ret ?_
        obtain rfl := some_inj H
        obtain rfl := some_inj K3_
        replace H := onS_r N3_
        obtain rfl := some_inj H
        refine end_ret (.tmp .nil) rfl rfl ⟨?_, rfl⟩
        rfl
      · replace H := cond_f c_11 H
        refine T_skip ?_
        refine T_env (E' := [(1, (sl (tSl tInt) s21)), (2, (.f eq2_g eq2_c)), (15, (sl (tSl tInt) s10)), (16, (intA (s10.length : Int))), (17, (intA (t_2 : Int)))]) ⟨rfl, rfl, rfl, rfl, rfl, trivial⟩ ?_
        refine T_region ?_
        refine Tp rfl rfl (pur_add rfl rfl rfl (fits64 (by omega) (by omega))) rfl ?_
        refine Tp rfl rfl (pur_move rfl) rfl ?_
        refine TO_nil ?_
        obtain rfl := some_inj H
        exact again (s10.length - (t_2 + 1)) (t_2 + 1) (by omega) (wp 0 (lb rfl) rfl rfl (by simp only [namesE, A.names, namesL_enc, Bool.false_or, Bool.or_false, looseL_names eq2_l]) rfl ⟨rfl, rfl, rfl, rfl, rfl, trivial⟩) ⟨rfl, K3_⟩
    · replace d3 := of_decide_eq_false d3
      obtain rfl := forL_end L3_ (by omega)
      refine T_exit ?_
      refine then_exit ?_
      refine then_exit ?_
      refine block_exit ?_
      replace H := onS_l N3_
      refine T_env (E' := []) trivial ?_
      refine sr ?_
      refine Tp rfl rfl (pur_assign rfl) rfl ?_
      refine TO_nil ?_
      refine T_env (E' := [(6, (boolA true))]) ⟨rfl, trivial⟩ ?_
      refine T_ret ?_
      obtain rfl := some_inj H
      refine end_ret (.tmp .nil) rfl rfl ⟨?_, rfl⟩
      rfl

set_option maxHeartbeats 1000000 in
/-- impl.equalRows -/
theorem m_impl_equalRows_ok (a0 : (List (List Int))) (b1 : (List (List Int))) (r : Bool) (H : m_impl_equalRows a0 b1 = some r) : FnV prg 102 [(sl (tSl tInt) a0), (sl (tSl tInt) b1)] (boolA r) := by
  unfold m_impl_equalRows at H
  refine fnV_of_T Try.func102 rfl rfl (Nat.le_of_ble_eq_true rfl) ?_
  refine T_env (E' := [(0, (sl (tSl tInt) a0)), (1, (sl (tSl tInt) b1))]) ⟨rfl, rfl, trivial⟩ ?_
  refine sr ?_
  refine Tp rfl rfl (pur_assign rfl) rfl ?_
  refine TO_nil ?_
  refine T_env (E' := [(0, (sl (tSl tInt) a0)), (1, (sl (tSl tInt) b1))]) ⟨rfl, rfl, trivial⟩ ?_
  refine sr ?_
  refine Tp rfl rfl (pur_move rfl) rfl ?_
  refine Tp rfl rfl (pur_move rfl) rfl ?_
  obtain ⟨r_1, h_2, H⟩ := bind_inv H
  refine TO_cons rfl (TOp_callV (call_static ent156 rfl) (m_slices_EqualFunc_SSint_SSint_Sint_Sint_ok _ _ (fun x0 x1 => m_slices_Equal_Sint_int x0 x1) 155 [] ent155 rfl ⟨rfl, rfl⟩ (fun x0 x1 r h => m_slices_Equal_Sint_int_ok x0 x1  r h) _ h_2) rfl rfl rfl ?_)
  refine Tp rfl rfl (pur_assign rfl) rfl ?_
  refine TO_nil ?_
  refine T_env (E' := [(4, (boolA r_1))]) ⟨rfl, trivial⟩ ?_
  refine T_ret ?_
  obtain rfl := some_inj H
  refine end_ret (.tmp .nil) rfl rfl ⟨?_, rfl⟩
  rfl

set_option maxHeartbeats 1000000 in
/-- impl.EqualViews -/
theorem m_impl_EqualViews_ok (a0 : View) (b1 : View) (r : Bool) (H : m_impl_EqualViews a0 b1 = some r) : FnV prg 35 [(.g (tView.enc a0)), (.g (tView.enc b1))] (boolA r) := by
  unfold m_impl_EqualViews at H
  refine fnV_of_T Try.func35 rfl rfl (Nat.le_of_ble_eq_true rfl) ?_
  refine T_env (E' := [(0, (.g (tView.enc a0))), (1, (.g (tView.enc b1)))]) ⟨rfl, rfl, trivial⟩ ?_
  refine sr ?_
  refine TO_cons rfl (TOp_box rfl (boxAll rfl) rfl rfl ?_)
  refine TO_cons rfl (TOp_box rfl (boxAll rfl) rfl rfl ?_)
  refine Tp rfl rfl (pur_assign rfl) rfl ?_
  refine TO_nil ?_
  refine T_env (E' := [(2, (.b 0 0)), (3, (.b 1 0))]) ⟨rfl, rfl, trivial⟩ ?_
  obtain ⟨t4_1, J_1, H_2⟩ := bind_inv H
  refine T_cutX (fun x => t4_1 = x) (fun (t4_1 : Bool) => [(4, (boolA t4_1))]) (fun (t4_1 : Bool) => []) ?_ ?_
  · replace H := J_1
    refine T_region ?_
    refine Tp rfl rfl (pur_fa_b fld59_0 rfl rfl) rfl ?_
    refine Tp rfl rfl (pur_ldK_b agg48 rfl rfl (lb rfl) rfl) rfl ?_
    refine Tp rfl rfl (pur_fa_b fld59_0 rfl rfl) rfl ?_
    refine Tp rfl rfl (pur_ldK_b agg48 rfl rfl (lb rfl) rfl) rfl ?_
    obtain ⟨r_3, h_4, H⟩ := bind_inv H
    refine TO_cons rfl (TOp_callV (call_static ent100 rfl) (m_impl_EqualDatabases_ok _ _ _ h_4) rfl rfl rfl ?_)
    refine Tp rfl rfl (pur_move rfl) rfl ?_
    refine TO_split (t := r_3) 10 rfl (fun g_5 => ?_) (fun g_5 => ?_)
    · replace H := cond_t g_5 H
      refine TO_on rfl rfl (by decide) rfl rfl (TOp_pure (pur_fa_b fld59_1 rfl rfl) rfl ?_)
      refine TO_on rfl rfl (by decide) rfl rfl (TOp_pure (pur_ldK_b agg29 rfl rfl (lb rfl) rfl) rfl ?_)
      refine TO_on rfl rfl (by decide) rfl rfl (TOp_pure (pur_fa_b fld59_1 rfl rfl) rfl ?_)
      refine TO_on rfl rfl (by decide) rfl rfl (TOp_pure (pur_ldK_b agg29 rfl rfl (lb rfl) rfl) rfl ?_)
      obtain ⟨r_6, h_7, H⟩ := bind_inv H
      refine TO_on rfl rfl (by decide) rfl rfl (TOp_callV (call_static ent101 rfl) (m_impl_EqualQueries_ok _ _ _ h_7) rfl rfl rfl ?_)
      refine Tp rfl rfl (pur_pick (t := true) rfl rfl rfl) rfl ?_
      refine Tp rfl rfl (pur_move rfl) rfl ?_
      refine TO_split (t := r_6) 17 rfl (fun g_8 => ?_) (fun g_8 => ?_)
      · replace H := cond_t g_8 H
        refine TO_on rfl rfl (by decide) rfl rfl (TOp_pure (pur_fa_b fld59_2 rfl rfl) rfl ?_)
        refine TO_on rfl rfl (by decide) rfl rfl (TOp_pure (pur_ld_b one53 rfl rfl rfl rfl) rfl ?_)
        refine TO_on rfl rfl (by decide) rfl rfl (TOp_pure (pur_fa_b fld59_2 rfl rfl) rfl ?_)
        refine TO_on rfl rfl (by decide) rfl rfl (TOp_pure (pur_ld_b one53 rfl rfl rfl rfl) rfl ?_)
        obtain ⟨r_9, h_10, H⟩ := bind_inv H
        refine TO_on rfl rfl (by decide) rfl rfl (TOp_callV (call_static ent102 rfl) (m_impl_equalRows_ok _ _ _ h_10) rfl rfl rfl ?_)
        refine Tp rfl rfl (pur_pick (t := true) rfl rfl rfl) rfl ?_
        refine Tp rfl rfl (pur_move rfl) rfl ?_
        refine TO_split (t := r_9) 24 rfl (fun g_11 => ?_) (fun g_11 => ?_)
        · replace H := cond_t g_11 H
          refine TO_on rfl rfl (by decide) rfl rfl (TOp_pure (pur_fa_b fld59_3 rfl rfl) rfl ?_)
          refine TO_on rfl rfl (by decide) rfl rfl (TOp_pure (pur_ld_b one53 rfl rfl rfl rfl) rfl ?_)
          refine TO_on rfl rfl (by decide) rfl rfl (TOp_pure (pur_fa_b fld59_3 rfl rfl) rfl ?_)
          refine TO_on rfl rfl (by decide) rfl rfl (TOp_pure (pur_ld_b one53 rfl rfl rfl rfl) rfl ?_)
          obtain ⟨r_12, h_13, H⟩ := bind_inv H
          refine TO_on rfl rfl (by decide) rfl rfl (TOp_callV (call_static ent102 rfl) (m_impl_equalRows_ok _ _ _ h_13) rfl rfl rfl ?_)
          refine Tp rfl rfl (pur_pick (t := true) rfl rfl rfl) rfl ?_
          refine Tp rfl rfl (pur_assign rfl) rfl ?_
          refine TO_nil ?_
          exact joined r_12 (wp 0 (lb rfl) rfl rfl rfl rfl ⟨rfl, trivial⟩) (some_inj H).symm
        · replace H := cond_f g_11 H
          refine TO_off rfl rfl (by decide) rfl rfl rfl ?_
          refine TO_off rfl rfl (by decide) rfl rfl rfl ?_
          refine TO_off rfl rfl (by decide) rfl rfl rfl ?_
          refine TO_off rfl rfl (by decide) rfl rfl rfl ?_
          refine TO_off rfl rfl (by decide) rfl rfl rfl ?_
          refine Tp rfl rfl (pur_pick (t := false) rfl rfl rfl) rfl ?_
          refine Tp rfl rfl (pur_assign rfl) rfl ?_
          refine TO_nil ?_
          exact joined false (wp 0 (lb rfl) rfl rfl rfl rfl ⟨rfl, trivial⟩) (some_inj H).symm
      · replace H := cond_f g_8 H
        refine TO_off rfl rfl (by decide) rfl rfl rfl ?_
        refine TO_off rfl rfl (by decide) rfl rfl rfl ?_
        refine TO_off rfl rfl (by decide) rfl rfl rfl ?_
        refine TO_off rfl rfl (by decide) rfl rfl rfl ?_
        refine TO_off rfl rfl (by decide) rfl rfl rfl ?_
        refine Tp rfl rfl (pur_pick (t := false) rfl rfl rfl) rfl ?_
        refine Tp rfl rfl (pur_move rfl) rfl ?_
        refine TO_off rfl rfl (by decide) rfl rfl rfl ?_
        refine TO_env (E' := [(3, (.b 1 0)), (24, (boolA false)), (25, (.v undef))]) ⟨rfl, rfl, rfl, trivial⟩ ?_
        refine TO_off rfl rfl (by decide) rfl rfl rfl ?_
        refine TO_off rfl rfl (by decide) rfl rfl rfl ?_
        refine TO_off rfl rfl (by decide) rfl rfl rfl ?_
        refine TO_off rfl rfl (by decide) rfl rfl rfl ?_
        refine Tp rfl rfl (pur_pick (t := false) rfl rfl rfl) rfl ?_
        refine Tp rfl rfl (pur_assign rfl) rfl ?_
        refine TO_nil ?_
        exact joined false (wp 0 (lb rfl) rfl rfl rfl rfl ⟨rfl, trivial⟩) (some_inj H).symm
    · replace H := cond_f g_5 H
      refine TO_off rfl rfl (by decide) rfl rfl rfl ?_
      refine TO_off rfl rfl (by decide) rfl rfl rfl ?_
      refine TO_off rfl rfl (by decide) rfl rfl rfl ?_
      refine TO_off rfl rfl (by decide) rfl rfl rfl ?_
      refine TO_off rfl rfl (by decide) rfl rfl rfl ?_
      refine Tp rfl rfl (pur_pick (t := false) rfl rfl rfl) rfl ?_
      refine Tp rfl rfl (pur_move rfl) rfl ?_
      refine TO_off rfl rfl (by decide) rfl rfl rfl ?_
      refine TO_env (E' := [(2, (.b 0 0)), (3, (.b 1 0)), (17, (boolA false)), (18, (.v undef))]) ⟨rfl, rfl, rfl, rfl, trivial⟩ ?_
      refine TO_off rfl rfl (by decide) rfl rfl rfl ?_
      refine TO_off rfl rfl (by decide) rfl rfl rfl ?_
      refine TO_off rfl rfl (by decide) rfl rfl rfl ?_
      refine TO_off rfl rfl (by decide) rfl rfl rfl ?_
      refine Tp rfl rfl (pur_pick (t := false) rfl rfl rfl) rfl ?_
      refine Tp rfl rfl (pur_move rfl) rfl ?_
      refine TO_off rfl rfl (by decide) rfl rfl rfl ?_
      refine TO_off rfl rfl (by decide) rfl rfl rfl ?_
      refine TO_env (E' := [(3, (.b 1 0)), (24, (boolA false)), (26, (.v undef))]) ⟨rfl, rfl, rfl, trivial⟩ ?_
      refine TO_off rfl rfl (by decide) rfl rfl rfl ?_
      refine TO_off rfl rfl (by decide) rfl rfl rfl ?_
      refine TO_off rfl rfl (by decide) rfl rfl rfl ?_
      refine Tp rfl rfl (pur_pick (t := false) rfl rfl rfl) rfl ?_
      refine Tp rfl rfl (pur_assign rfl) rfl ?_
      refine TO_nil ?_
      exact joined false (wp 0 (lb rfl) rfl rfl rfl rfl ⟨rfl, trivial⟩) (some_inj H).symm
  · rintro _ rfl
    replace H := H_2
    refine T_env (E' := [(4, (boolA t4_1))]) ⟨rfl, trivial⟩ ?_
    refine T_ret ?_
    obtain rfl := some_inj H
    refine end_ret (.tmp .nil) rfl rfl ⟨?_, rfl⟩
    rfl

set_option maxHeartbeats 1000000 in
/-- laws.eqIntS -/
theorem m_laws_eqIntS_ok (a0 : (List Int)) (b1 : (List Int)) (r : Bool) (H : m_laws_eqIntS a0 b1 = some r) : FnV prg 21 [(sl tInt a0), (sl tInt b1)] (boolA r) := by
  unfold m_laws_eqIntS at H
  refine fnV_of_T Try.func21 rfl rfl (Nat.le_of_ble_eq_true rfl) ?_
  refine T_env (E' := [(0, (sl tInt a0)), (1, (sl tInt b1))]) ⟨rfl, rfl, trivial⟩ ?_
  refine sr ?_
  refine Tp rfl rfl (pur_assign rfl) rfl ?_
  refine TO_nil ?_
  refine T_env (E' := [(0, (sl tInt a0)), (1, (sl tInt b1))]) ⟨rfl, rfl, trivial⟩ ?_
  refine T_seq ?_
  refine sr ?_
  refine Tp rfl rfl (pur_move rfl) rfl ?_
  refine Tp rfl rfl (pur_lenT (T := tInt) sl23 rfl rfl) rfl ?_
  refine Tp rfl rfl (pur_move rfl) rfl ?_
  refine Tp rfl rfl (pur_lenT (T := tInt) sl23 rfl rfl) rfl ?_
  refine Tp rfl rfl (pur_neq rfl rfl rfl) rfl ?_
  refine TO_nil ?_
  refine T_env (E' := [(0, (sl tInt a0)), (1, (sl tInt b1)), (10, (boolA (decide ((a0.length : Int) ≠ (b1.length : Int)))))]) ⟨rfl, rfl, rfl, trivial⟩ ?_
  refine T_cond (t := decide ((a0.length : Int) ≠ (b1.length : Int))) rfl (fun c_1 => ?_) (fun c_1 => ?_)
  · replace H := cond_t c_1 H
    refine sr ?_
    refine Tp rfl rfl (pur_assign rfl) rfl ?_
    refine TO_nil ?_
    refine T_env (E' := [(4, (boolA false))]) ⟨rfl, trivial⟩ ?_
    refine T_ret ?_
    refine then_ret ?_
    obtain rfl := some_inj H
    refine end_ret (.tmp .nil) rfl rfl ⟨?_, rfl⟩
    rfl
  · replace H := cond_f c_1 H
    refine T_skip ?_
    refine T_env (E' := [(0, (sl tInt a0)), (1, (sl tInt b1))]) ⟨rfl, rfl, trivial⟩ ?_
    refine T_seq ?_
    refine sr ?_
    refine Tp rfl rfl (pur_assign rfl) rfl ?_
    refine TO_nil ?_
    refine T_env (E' := [(0, (sl tInt a0)), (1, (sl tInt b1)), (5, (intA 0))]) ⟨rfl, rfl, rfl, trivial⟩ ?_
    obtain ⟨O3_, L3_, N3_⟩ := bind_inv H
    clear H
    obtain ⟨B3_, hb3, L3_⟩ := gen_forL L3_
    refine T_block ?_
    refine T_loopX (fun k => fun (i_2 : Nat) => k = a0.length - i_2 ∧ forL B3_ (a0.drop i_2) (i_2 : Int) () = some O3_) (fun (i_2 : Nat) => [(0, (sl tInt a0)), (1, (sl tInt b1)), (5, (intA (i_2 : Int)))]) (fun (i_2 : Nat) => []) _ (0 : Nat) (wp 0 (lb rfl) rfl rfl rfl rfl ⟨rfl, rfl, rfl, trivial⟩) ⟨rfl, L3_⟩ ?_
    rintro _ i_2 ⟨rfl, L3_⟩
    refine T_env (E' := [(0, (sl tInt a0)), (1, (sl tInt b1)), (5, (intA (i_2 : Int)))]) ⟨rfl, rfl, rfl, trivial⟩ ?_
    refine T_st (σ' := []) rfl ?_
    refine T_fact (len_sl (T := tInt) (.tmp 0) rfl) (fun hl3 => ?_)
    refine T_seq ?_
    refine sr ?_
    refine Tp rfl rfl (pur_move rfl) rfl ?_
    refine Tp rfl rfl (pur_move rfl) rfl ?_
    refine Tp rfl rfl (pur_lenT (T := tInt) sl23 rfl rfl) rfl ?_
    refine Tp rfl rfl (pur_lss rfl rfl rfl) rfl ?_
    refine TO_nil ?_
    refine T_env (E' := [(0, (sl tInt a0)), (1, (sl tInt b1)), (5, (intA (i_2 : Int))), (14, (boolA (decide ((i_2 : Int) < (a0.length : Int)))))]) ⟨rfl, rfl, rfl, rfl, trivial⟩ ?_
    refine T_cond (t := decide ((i_2 : Int) < (a0.length : Int))) rfl (fun d3 => ?_) (fun d3 => ?_)
    · replace d3 := of_decide_eq_true d3
      obtain ⟨x_i_2, hx_i_2⟩ : ∃ v, (a0)[i_2]? = some v := ⟨_, List.getElem?_eq_getElem (by omega)⟩
      obtain ⟨C3_, H, K3_⟩ := forL_step L3_ hx_i_2
      rw [hb3] at H
      refine T_skip ?_
      refine T_env (E' := [(0, (sl tInt a0)), (1, (sl tInt b1)), (5, (intA (i_2 : Int)))]) ⟨rfl, rfl, rfl, trivial⟩ ?_
      refine T_seq ?_
      refine T_block ?_
      refine T_seq ?_
      refine T_regionD mixed (by kernel_rfl) ?_
      refine TQ_pure rfl (pur_move rfl) rfl ?_
      refine TQ_pure rfl (pur_move rfl) rfl ?_
      refine TQ_pure rfl (pur_ixT (T := tInt) sl23 rfl rfl rfl hx_i_2 rfl) rfl ?_
      refine TQ_pure rfl (pur_ldT (T := tInt) (i := i_2) (off := 0) rfl one3 rfl rfl hx_i_2 rfl) rfl ?_
      refine TQ_pure rfl (pur_move rfl) rfl ?_
      refine TQ_pure rfl (pur_move rfl) rfl ?_
      obtain ⟨v_4, h_5, H⟩ := bind_inv H
      obtain ⟨n_6, hz_7, hv_8⟩ := getI_inv h_5
      refine TQ_pure rfl (pur_ixT (T := tInt) sl23 rfl rfl hz_7 hv_8 rfl) rfl ?_
      refine TQ_pure rfl (pur_ldT (T := tInt) (i := n_6) (off := 0) rfl one3 rfl rfl hv_8 rfl) rfl ?_
      refine TQ_pure rfl (pur_neq rfl rfl rfl) rfl ?_
      refine TQ_nil ?_
      refine T_env (E' := [(0, (sl tInt a0)), (1, (sl tInt b1)), (5, (intA (i_2 : Int))), (25, (boolA (decide (x_i_2 ≠ v_4))))]) ⟨rfl, rfl, rfl, rfl, trivial⟩ ?_
      refine T_cond (t := decide (x_i_2 ≠ v_4)) rfl (fun c_9 => ?_) (fun c_9 => ?_)
      · replace H := cond_t c_9 H
        refine sr ?_
        refine Tp rfl rfl (pur_assign rfl) rfl ?_
        refine TO_nil ?_
        refine T_env (E' := [(4, (boolA false))]) ⟨rfl, trivial⟩ ?_
        refine T_ret ?_
        refine block_ret ?_
        refine then_ret ?_
        refine then_ret ?_
        refine block_ret ?_
        refine then_ret ?_
        obtain rfl := some_inj H
        obtain rfl := some_inj K3_
        replace H := onS_r N3_
        obtain rfl := some_inj H
        refine end_ret (.tmp .nil) rfl rfl ⟨?_, rfl⟩
        rfl
      · replace H := cond_f c_9 H
        refine T_skip ?_
        refine T_env (E' := [(0, (sl tInt a0)), (1, (sl tInt b1)), (5, (intA (i_2 : Int)))]) ⟨rfl, rfl, rfl, trivial⟩ ?_
        refine T_region ?_
        refine Tp rfl rfl (pur_move rfl) rfl ?_
        refine Tp rfl rfl (pur_add rfl rfl rfl (fits64 (by omega) (by omega))) rfl ?_
        refine Tp rfl rfl (pur_assign rfl) rfl ?_
        refine TO_nil ?_
        obtain rfl := some_inj H
        exact again (a0.length - (i_2 + 1)) (i_2 + 1) (by omega) (wp 0 (lb rfl) rfl rfl rfl rfl ⟨rfl, rfl, rfl, trivial⟩) ⟨rfl, K3_⟩
    · replace d3 := of_decide_eq_false d3
      obtain rfl := forL_end L3_ (by omega)
      refine T_exit ?_
      refine then_exit ?_
      refine then_exit ?_
      refine block_exit ?_
      replace H := onS_l N3_
      refine T_env (E' := []) trivial ?_
      refine sr ?_
      refine Tp rfl rfl (pur_assign rfl) rfl ?_
      refine TO_nil ?_
      refine T_env (E' := [(4, (boolA true))]) ⟨rfl, trivial⟩ ?_
      refine T_ret ?_
      obtain rfl := some_inj H
      refine end_ret (.tmp .nil) rfl rfl ⟨?_, rfl⟩
      rfl

set_option maxHeartbeats 1000000 in
/-- laws.eqAtom -/
theorem m_laws_eqAtom_ok (a0 : Atom) (b1 : Atom) (r : Bool) (H : m_laws_eqAtom a0 b1 = some r) : FnV prg 143 [(.g (tAtom.enc a0)), (.g (tAtom.enc b1))] (boolA r) := by
  unfold m_laws_eqAtom at H
  refine fnV_of_T Try.func143 rfl rfl (Nat.le_of_ble_eq_true rfl) ?_
  refine T_env (E' := [(0, (.g (tAtom.enc a0))), (1, (.g (tAtom.enc b1)))]) ⟨rfl, rfl, trivial⟩ ?_
  refine sr ?_
  refine TO_cons rfl (TOp_box rfl (boxAll rfl) rfl rfl ?_)
  refine TO_cons rfl (TOp_box rfl (boxAll rfl) rfl rfl ?_)
  refine Tp rfl rfl (pur_assign rfl) rfl ?_
  refine TO_nil ?_
  refine T_env (E' := [(2, (.b 0 0)), (3, (.b 1 0))]) ⟨rfl, rfl, trivial⟩ ?_
  refine T_seq ?_
  refine sr ?_
  refine Tp rfl rfl (pur_fa_b fld150_0 rfl rfl) rfl ?_
  refine Tp rfl rfl (pur_ld_b one3 rfl rfl rfl rfl) rfl ?_
  refine Tp rfl rfl (pur_fa_b fld150_0 rfl rfl) rfl ?_
  refine Tp rfl rfl (pur_ld_b one3 rfl rfl rfl rfl) rfl ?_
  refine Tp rfl rfl (pur_neq rfl rfl rfl) rfl ?_
  refine TO_nil ?_
  refine T_env (E' := [(2, (.b 0 0)), (3, (.b 1 0)), (9, (boolA (decide (a0.relation ≠ b1.relation))))]) ⟨rfl, rfl, rfl, trivial⟩ ?_
  refine T_cond (t := decide (a0.relation ≠ b1.relation)) rfl (fun c_1 => ?_) (fun c_1 => ?_)
  · replace H := cond_t c_1 H
    refine sr ?_
    refine Tp rfl rfl (pur_assign rfl) rfl ?_
    refine TO_nil ?_
    refine T_env (E' := [(4, (boolA false))]) ⟨rfl, trivial⟩ ?_
    refine T_ret ?_
    refine then_ret ?_
    obtain rfl := some_inj H
    refine end_ret (.tmp .nil) rfl rfl ⟨?_, rfl⟩
    rfl
  · replace H := cond_f c_1 H
    refine T_skip ?_
    refine T_env (E' := [(2, (.b 0 0)), (3, (.b 1 0))]) ⟨rfl, rfl, trivial⟩ ?_
    refine T_seq ?_
    refine sr ?_
    refine Tp rfl rfl (pur_fa_b fld150_1 rfl rfl) rfl ?_
    refine Tp rfl rfl (pur_ld_b one23 rfl rfl rfl rfl) rfl ?_
    refine Tp rfl rfl (pur_fa_b fld150_1 rfl rfl) rfl ?_
    refine Tp rfl rfl (pur_ld_b one23 rfl rfl rfl rfl) rfl ?_
    obtain ⟨r_2, h_3, H⟩ := bind_inv H
    refine TO_cons rfl (TOp_callV (call_static ent21 rfl) (m_laws_eqIntS_ok _ _ _ h_3) rfl rfl rfl ?_)
    refine Tp rfl rfl (pur_not rfl rfl) rfl ?_
    refine TO_nil ?_
    refine T_env (E' := [(15, (boolA (!r_2)))]) ⟨rfl, trivial⟩ ?_
    refine T_cond (t := (!r_2)) rfl (fun c_4 => ?_) (fun c_4 => ?_)
    · replace H := cond_t c_4 H
      refine sr ?_
      refine Tp rfl rfl (pur_assign rfl) rfl ?_
      refine TO_nil ?_
      refine T_env (E' := [(4, (boolA false))]) ⟨rfl, trivial⟩ ?_
      refine T_ret ?_
      refine then_ret ?_
      obtain rfl := some_inj H
      refine end_ret (.tmp .nil) rfl rfl ⟨?_, rfl⟩
      rfl
    · replace H := cond_f c_4 H
      refine T_skip ?_
      refine T_env (E' := []) trivial ?_
      refine sr ?_
      refine Tp rfl rfl (pur_assign rfl) rfl ?_
      refine TO_nil ?_
      refine T_env (E' := [(4, (boolA true))]) ⟨rfl, trivial⟩ ?_
      refine T_ret ?_
      obtain rfl := some_inj H
      refine end_ret (.tmp .nil) rfl rfl ⟨?_, rfl⟩
      rfl

set_option maxHeartbeats 1000000 in
/-- laws.eqAtomS -/
theorem m_laws_eqAtomS_ok (a0 : (List Atom)) (b1 : (List Atom)) (r : Bool) (H : m_laws_eqAtomS a0 b1 = some r) : FnV prg 89 [(sl tAtom a0), (sl tAtom b1)] (boolA r) := by
  unfold m_laws_eqAtomS at H
  refine fnV_of_T Try.func89 rfl rfl (Nat.le_of_ble_eq_true rfl) ?_
  refine T_env (E' := [(0, (sl tAtom a0)), (1, (sl tAtom b1))]) ⟨rfl, rfl, trivial⟩ ?_
  refine sr ?_
  refine Tp rfl rfl (pur_assign rfl) rfl ?_
  refine TO_nil ?_
  refine T_env (E' := [(0, (sl tAtom a0)), (1, (sl tAtom b1))]) ⟨rfl, rfl, trivial⟩ ?_
  refine T_seq ?_
  refine sr ?_
  refine Tp rfl rfl (pur_move rfl) rfl ?_
  refine Tp rfl rfl (pur_lenT (T := tAtom) sl27 rfl rfl) rfl ?_
  refine Tp rfl rfl (pur_move rfl) rfl ?_
  refine Tp rfl rfl (pur_lenT (T := tAtom) sl27 rfl rfl) rfl ?_
  refine Tp rfl rfl (pur_neq rfl rfl rfl) rfl ?_
  refine TO_nil ?_
  refine T_env (E' := [(0, (sl tAtom a0)), (1, (sl tAtom b1)), (10, (boolA (decide ((a0.length : Int) ≠ (b1.length : Int)))))]) ⟨rfl, rfl, rfl, trivial⟩ ?_
  refine T_cond (t := decide ((a0.length : Int) ≠ (b1.length : Int))) rfl (fun c_1 => ?_) (fun c_1 => ?_)
  · replace H := cond_t c_1 H
    refine sr ?_
    refine Tp rfl rfl (pur_assign rfl) rfl ?_
    refine TO_nil ?_
    refine T_env (E' := [(4, (boolA false))]) ⟨rfl, trivial⟩ ?_
    refine T_ret ?_
    refine then_ret ?_
    obtain rfl := some_inj H
    refine end_ret (.tmp .nil) rfl rfl ⟨?_, rfl⟩
    rfl
  · replace H := cond_f c_1 H
    refine T_skip ?_
    refine T_env (E' := [(0, (sl tAtom a0)), (1, (sl tAtom b1))]) ⟨rfl, rfl, trivial⟩ ?_
    refine T_seq ?_
    refine sr ?_
    refine Tp rfl rfl (pur_assign rfl) rfl ?_
    refine TO_nil ?_
    refine T_env (E' := [(0, (sl tAtom a0)), (1, (sl tAtom b1)), (5, (intA 0))]) ⟨rfl, rfl, rfl, trivial⟩ ?_
    obtain ⟨O3_, L3_, N3_⟩ := bind_inv H
    clear H
    obtain ⟨B3_, hb3, L3_⟩ := gen_forL L3_
    refine T_block ?_
    refine T_loopX (fun k => fun (i_2 : Nat) => k = a0.length - i_2 ∧ forL B3_ (a0.drop i_2) (i_2 : Int) () = some O3_) (fun (i_2 : Nat) => [(0, (sl tAtom a0)), (1, (sl tAtom b1)), (5, (intA (i_2 : Int)))]) (fun (i_2 : Nat) => []) _ (0 : Nat) (wp 0 (lb rfl) rfl rfl rfl rfl ⟨rfl, rfl, rfl, trivial⟩) ⟨rfl, L3_⟩ ?_
    rintro _ i_2 ⟨rfl, L3_⟩
    refine T_env (E' := [(0, (sl tAtom a0)), (1, (sl tAtom b1)), (5, (intA (i_2 : Int)))]) ⟨rfl, rfl, rfl, trivial⟩ ?_
    refine T_st (σ' := []) rfl ?_
    refine T_fact (len_sl (T := tAtom) (.tmp 0) rfl) (fun hl3 => ?_)
    refine T_seq ?_
    refine sr ?_
    refine Tp rfl rfl (pur_move rfl) rfl ?_
    refine Tp rfl rfl (pur_move rfl) rfl ?_
    refine Tp rfl rfl (pur_lenT (T := tAtom) sl27 rfl rfl) rfl ?_
    refine Tp rfl rfl (pur_lss rfl rfl rfl) rfl ?_
    refine TO_nil ?_
    refine T_env (E' := [(0, (sl tAtom a0)), (1, (sl tAtom b1)), (5, (intA (i_2 : Int))), (14, (boolA (decide ((i_2 : Int) < (a0.length : Int)))))]) ⟨rfl, rfl, rfl, rfl, trivial⟩ ?_
    refine T_cond (t := decide ((i_2 : Int) < (a0.length : Int))) rfl (fun d3 => ?_) (fun d3 => ?_)
    · replace d3 := of_decide_eq_true d3
      obtain ⟨x_i_2, hx_i_2⟩ : ∃ v, (a0)[i_2]? = some v := ⟨_, List.getElem?_eq_getElem (by omega)⟩
      obtain ⟨C3_, H, K3_⟩ := forL_step L3_ hx_i_2
      rw [hb3] at H
      refine T_skip ?_
      refine T_env (E' := [(0, (sl tAtom a0)), (1, (sl tAtom b1)), (5, (intA (i_2 : Int)))]) ⟨rfl, rfl, rfl, trivial⟩ ?_
      refine T_seq ?_
      refine T_block ?_
      refine T_seq ?_
      refine T_regionD mixed (by kernel_rfl) ?_
      refine TQ_pure rfl (pur_move rfl) rfl ?_
      refine TQ_pure rfl (pur_move rfl) rfl ?_
      refine TQ_pure rfl (pur_ixT (T := tAtom) sl27 rfl rfl rfl hx_i_2 rfl) rfl ?_
      refine TQ_pure rfl (pur_ldTK (T := tAtom) (i := i_2) (off := 0) rfl agg150 rfl rfl hx_i_2 (by decide) rfl) rfl ?_
      refine TQ_pure rfl (pur_move rfl) rfl ?_
      refine TQ_pure rfl (pur_move rfl) rfl ?_
      obtain ⟨v_4, h_5, H⟩ := bind_inv H
      obtain ⟨n_6, hz_7, hv_8⟩ := getI_inv h_5
      refine TQ_pure rfl (pur_ixT (T := tAtom) sl27 rfl rfl hz_7 hv_8 rfl) rfl ?_
      refine TQ_pure rfl (pur_ldTK (T := tAtom) (i := n_6) (off := 0) rfl agg150 rfl rfl hv_8 (by decide) rfl) rfl ?_
      obtain ⟨r_9, h_10, H⟩ := bind_inv H
      refine TQ_callV rfl (call_static ent143 rfl) (m_laws_eqAtom_ok _ _ _ h_10) rfl rfl ?_
      refine TQ_pure rfl (pur_not rfl rfl) rfl ?_
      refine TQ_nil ?_
      refine T_env (E' := [(0, (sl tAtom a0)), (1, (sl tAtom b1)), (5, (intA (i_2 : Int))), (26, (boolA (!r_9)))]) ⟨rfl, rfl, rfl, rfl, trivial⟩ ?_
      refine T_cond (t := (!r_9)) rfl (fun c_11 => ?_) (fun c_11 => ?_)
      · replace H := cond_t c_11 H
        refine sr ?_
        refine Tp rfl rfl (pur_assign rfl) rfl ?_
        refine TO_nil ?_
        refine T_env (E' := [(4, (boolA false))]) ⟨rfl, trivial⟩ ?_
        refine T_ret ?_
        refine block_ret ?_
        refine then_ret ?_
        refine then_ret ?_
        refine block_ret ?_
        refine then_ret ?_
        obtain rfl := some_inj H
        obtain rfl := some_inj K3_
        replace H := onS_r N3_
        obtain rfl := some_inj H
        refine end_ret (.tmp .nil) rfl rfl ⟨?_, rfl⟩
        rfl
      · replace H := cond_f c_11 H
        refine T_skip ?_
        refine T_env (E' := [(0, (sl tAtom a0)), (1, (sl tAtom b1)), (5, (intA (i_2 : Int)))]) ⟨rfl, rfl, rfl, trivial⟩ ?_
        refine T_region ?_
        refine Tp rfl rfl (pur_move rfl) rfl ?_
        refine Tp rfl rfl (pur_add rfl rfl rfl (fits64 (by omega) (by omega))) rfl ?_
        refine Tp rfl rfl (pur_assign rfl) rfl ?_
        refine TO_nil ?_
        obtain rfl := some_inj H
        exact again (a0.length - (i_2 + 1)) (i_2 + 1) (by omega) (wp 0 (lb rfl) rfl rfl rfl rfl ⟨rfl, rfl, rfl, trivial⟩) ⟨rfl, K3_⟩
    · replace d3 := of_decide_eq_false d3
      obtain rfl := forL_end L3_ (by omega)
      refine T_exit ?_
      refine then_exit ?_
      refine then_exit ?_
      refine block_exit ?_
      replace H := onS_l N3_
      refine T_env (E' := []) trivial ?_
      refine sr ?_
      refine Tp rfl rfl (pur_assign rfl) rfl ?_
      refine TO_nil ?_
      refine T_env (E' := [(4, (boolA true))]) ⟨rfl, trivial⟩ ?_
      refine T_ret ?_
      obtain rfl := some_inj H
      refine end_ret (.tmp .nil) rfl rfl ⟨?_, rfl⟩
      rfl

set_option maxHeartbeats 1000000 in
/-- laws.eqQuery -/
theorem m_laws_eqQuery_ok (a0 : Query) (b1 : Query) (r : Bool) (H : m_laws_eqQuery a0 b1 = some r) : FnV prg 20 [(.g (tQuery.enc a0)), (.g (tQuery.enc b1))] (boolA r) := by
  unfold m_laws_eqQuery at H
  refine fnV_of_T Try.func20 rfl rfl (Nat.le_of_ble_eq_true rfl) ?_
  refine T_env (E' := [(0, (.g (tQuery.enc a0))), (1, (.g (tQuery.enc b1)))]) ⟨rfl, rfl, trivial⟩ ?_
  refine sr ?_
  refine TO_cons rfl (TOp_box rfl (boxAll rfl) rfl rfl ?_)
  refine TO_cons rfl (TOp_box rfl (boxAll rfl) rfl rfl ?_)
  refine Tp rfl rfl (pur_assign rfl) rfl ?_
  refine TO_nil ?_
  refine T_env (E' := [(2, (.b 0 0)), (3, (.b 1 0))]) ⟨rfl, rfl, trivial⟩ ?_
  refine T_seq ?_
  refine sr ?_
  refine Tp rfl rfl (pur_fa_b fld29_0 rfl rfl) rfl ?_
  refine Tp rfl rfl (pur_ld_b one3 rfl rfl rfl rfl) rfl ?_
  refine Tp rfl rfl (pur_fa_b fld29_0 rfl rfl) rfl ?_
  refine Tp rfl rfl (pur_ld_b one3 rfl rfl rfl rfl) rfl ?_
  refine Tp rfl rfl (pur_neq rfl rfl rfl) rfl ?_
  refine TO_nil ?_
  refine T_env (E' := [(2, (.b 0 0)), (3, (.b 1 0)), (9, (boolA (decide (a0.variableCount ≠ b1.variableCount))))]) ⟨rfl, rfl, rfl, trivial⟩ ?_
  refine T_cond (t := decide (a0.variableCount ≠ b1.variableCount)) rfl (fun c_1 => ?_) (fun c_1 => ?_)
  · replace H := cond_t c_1 H
    refine sr ?_
    refine Tp rfl rfl (pur_assign rfl) rfl ?_
    refine TO_nil ?_
    refine T_env (E' := [(4, (boolA false))]) ⟨rfl, trivial⟩ ?_
    refine T_ret ?_
    refine then_ret ?_
    obtain rfl := some_inj H
    refine end_ret (.tmp .nil) rfl rfl ⟨?_, rfl⟩
    rfl
  · replace H := cond_f c_1 H
    refine T_skip ?_
    refine T_env (E' := [(2, (.b 0 0)), (3, (.b 1 0))]) ⟨rfl, rfl, trivial⟩ ?_
    refine T_seq ?_
    refine sr ?_
    refine Tp rfl rfl (pur_fa_b fld29_1 rfl rfl) rfl ?_
    refine Tp rfl rfl (pur_ld_b one27 rfl rfl rfl rfl) rfl ?_
    refine Tp rfl rfl (pur_fa_b fld29_1 rfl rfl) rfl ?_
    refine Tp rfl rfl (pur_ld_b one27 rfl rfl rfl rfl) rfl ?_
    obtain ⟨r_2, h_3, H⟩ := bind_inv H
    refine TO_cons rfl (TOp_callV (call_static ent89 rfl) (m_laws_eqAtomS_ok _ _ _ h_3) rfl rfl rfl ?_)
    refine Tp rfl rfl (pur_not rfl rfl) rfl ?_
    refine TO_nil ?_
    refine T_env (E' := [(2, (.b 0 0)), (3, (.b 1 0)), (15, (boolA (!r_2)))]) ⟨rfl, rfl, rfl, trivial⟩ ?_
    refine T_cond (t := (!r_2)) rfl (fun c_4 => ?_) (fun c_4 => ?_)
    · replace H := cond_t c_4 H
      refine sr ?_
      refine Tp rfl rfl (pur_assign rfl) rfl ?_
      refine TO_nil ?_
      refine T_env (E' := [(4, (boolA false))]) ⟨rfl, trivial⟩ ?_
      refine T_ret ?_
      refine then_ret ?_
      obtain rfl := some_inj H
      refine end_ret (.tmp .nil) rfl rfl ⟨?_, rfl⟩
      rfl
    · replace H := cond_f c_4 H
      refine T_skip ?_
      refine T_env (E' := [(2, (.b 0 0)), (3, (.b 1 0))]) ⟨rfl, rfl, trivial⟩ ?_
      refine T_seq ?_
      refine sr ?_
      refine Tp rfl rfl (pur_fa_b fld29_2 rfl rfl) rfl ?_
      refine Tp rfl rfl (pur_ld_b one23 rfl rfl rfl rfl) rfl ?_
      refine Tp rfl rfl (pur_fa_b fld29_2 rfl rfl) rfl ?_
      refine Tp rfl rfl (pur_ld_b one23 rfl rfl rfl rfl) rfl ?_
      obtain ⟨r_5, h_6, H⟩ := bind_inv H
      refine TO_cons rfl (TOp_callV (call_static ent21 rfl) (m_laws_eqIntS_ok _ _ _ h_6) rfl rfl rfl ?_)
      refine Tp rfl rfl (pur_not rfl rfl) rfl ?_
      refine TO_nil ?_
      refine T_env (E' := [(21, (boolA (!r_5)))]) ⟨rfl, trivial⟩ ?_
      refine T_cond (t := (!r_5)) rfl (fun c_7 => ?_) (fun c_7 => ?_)
      · replace H := cond_t c_7 H
        refine sr ?_
        refine Tp rfl rfl (pur_assign rfl) rfl ?_
        refine TO_nil ?_
        refine T_env (E' := [(4, (boolA false))]) ⟨rfl, trivial⟩ ?_
        refine T_ret ?_
        refine then_ret ?_
        obtain rfl := some_inj H
        refine end_ret (.tmp .nil) rfl rfl ⟨?_, rfl⟩
        rfl
      · replace H := cond_f c_7 H
        refine T_skip ?_
        refine T_env (E' := []) trivial ?_
        refine sr ?_
        refine Tp rfl rfl (pur_assign rfl) rfl ?_
        refine TO_nil ?_
        refine T_env (E' := [(4, (boolA true))]) ⟨rfl, trivial⟩ ?_
        refine T_ret ?_
        obtain rfl := some_inj H
        refine end_ret (.tmp .nil) rfl rfl ⟨?_, rfl⟩
        rfl

set_option maxHeartbeats 1000000 in
/-- laws.eqFact -/
theorem m_laws_eqFact_ok (a0 : Fact) (b1 : Fact) (r : Bool) (H : m_laws_eqFact a0 b1 = some r) : FnV prg 56 [(.g (tFact.enc a0)), (.g (tFact.enc b1))] (boolA r) := by
  unfold m_laws_eqFact at H
  refine fnV_of_T Try.func56 rfl rfl (Nat.le_of_ble_eq_true rfl) ?_
  refine T_env (E' := [(0, (.g (tFact.enc a0))), (1, (.g (tFact.enc b1)))]) ⟨rfl, rfl, trivial⟩ ?_
  refine sr ?_
  refine TO_cons rfl (TOp_box rfl (boxAll rfl) rfl rfl ?_)
  refine TO_cons rfl (TOp_box rfl (boxAll rfl) rfl rfl ?_)
  refine Tp rfl rfl (pur_assign rfl) rfl ?_
  refine TO_nil ?_
  refine T_env (E' := [(2, (.b 0 0)), (3, (.b 1 0))]) ⟨rfl, rfl, trivial⟩ ?_
  refine T_seq ?_
  refine sr ?_
  refine Tp rfl rfl (pur_fa_b fld65_0 rfl rfl) rfl ?_
  refine Tp rfl rfl (pur_ld_b one3 rfl rfl rfl rfl) rfl ?_
  refine Tp rfl rfl (pur_fa_b fld65_0 rfl rfl) rfl ?_
  refine Tp rfl rfl (pur_ld_b one3 rfl rfl rfl rfl) rfl ?_
  refine Tp rfl rfl (pur_neq rfl rfl rfl) rfl ?_
  refine TO_nil ?_
  refine T_env (E' := [(2, (.b 0 0)), (3, (.b 1 0)), (9, (boolA (decide (a0.relation ≠ b1.relation))))]) ⟨rfl, rfl, rfl, trivial⟩ ?_
  refine T_cond (t := decide (a0.relation ≠ b1.relation)) rfl (fun c_1 => ?_) (fun c_1 => ?_)
  · replace H := cond_t c_1 H
    refine sr ?_
    refine Tp rfl rfl (pur_assign rfl) rfl ?_
    refine TO_nil ?_
    refine T_env (E' := [(4, (boolA false))]) ⟨rfl, trivial⟩ ?_
    refine T_ret ?_
    refine then_ret ?_
    obtain rfl := some_inj H
    refine end_ret (.tmp .nil) rfl rfl ⟨?_, rfl⟩
    rfl
  · replace H := cond_f c_1 H
    refine T_skip ?_
    refine T_env (E' := [(2, (.b 0 0)), (3, (.b 1 0))]) ⟨rfl, rfl, trivial⟩ ?_
    refine T_seq ?_
    refine sr ?_
    refine Tp rfl rfl (pur_fa_b fld65_1 rfl rfl) rfl ?_
    refine Tp rfl rfl (pur_ld_b one23 rfl rfl rfl rfl) rfl ?_
    refine Tp rfl rfl (pur_fa_b fld65_1 rfl rfl) rfl ?_
    refine Tp rfl rfl (pur_ld_b one23 rfl rfl rfl rfl) rfl ?_
    obtain ⟨r_2, h_3, H⟩ := bind_inv H
    refine TO_cons rfl (TOp_callV (call_static ent21 rfl) (m_laws_eqIntS_ok _ _ _ h_3) rfl rfl rfl ?_)
    refine Tp rfl rfl (pur_not rfl rfl) rfl ?_
    refine TO_nil ?_
    refine T_env (E' := [(15, (boolA (!r_2)))]) ⟨rfl, trivial⟩ ?_
    refine T_cond (t := (!r_2)) rfl (fun c_4 => ?_) (fun c_4 => ?_)
    · replace H := cond_t c_4 H
      refine sr ?_
      refine Tp rfl rfl (pur_assign rfl) rfl ?_
      refine TO_nil ?_
      refine T_env (E' := [(4, (boolA false))]) ⟨rfl, trivial⟩ ?_
      refine T_ret ?_
      refine then_ret ?_
      obtain rfl := some_inj H
      refine end_ret (.tmp .nil) rfl rfl ⟨?_, rfl⟩
      rfl
    · replace H := cond_f c_4 H
      refine T_skip ?_
      refine T_env (E' := []) trivial ?_
      refine sr ?_
      refine Tp rfl rfl (pur_assign rfl) rfl ?_
      refine TO_nil ?_
      refine T_env (E' := [(4, (boolA true))]) ⟨rfl, trivial⟩ ?_
      refine T_ret ?_
      obtain rfl := some_inj H
      refine end_ret (.tmp .nil) rfl rfl ⟨?_, rfl⟩
      rfl

set_option maxHeartbeats 1000000 in
/-- laws.eqFactS -/
theorem m_laws_eqFactS_ok (a0 : (List Fact)) (b1 : (List Fact)) (r : Bool) (H : m_laws_eqFactS a0 b1 = some r) : FnV prg 63 [(sl tFact a0), (sl tFact b1)] (boolA r) := by
  unfold m_laws_eqFactS at H
  refine fnV_of_T Try.func63 rfl rfl (Nat.le_of_ble_eq_true rfl) ?_
  refine T_env (E' := [(0, (sl tFact a0)), (1, (sl tFact b1))]) ⟨rfl, rfl, trivial⟩ ?_
  refine sr ?_
  refine Tp rfl rfl (pur_assign rfl) rfl ?_
  refine TO_nil ?_
  refine T_env (E' := [(0, (sl tFact a0)), (1, (sl tFact b1))]) ⟨rfl, rfl, trivial⟩ ?_
  refine T_seq ?_
  refine sr ?_
  refine Tp rfl rfl (pur_move rfl) rfl ?_
  refine Tp rfl rfl (pur_lenT (T := tFact) sl46 rfl rfl) rfl ?_
  refine Tp rfl rfl (pur_move rfl) rfl ?_
  refine Tp rfl rfl (pur_lenT (T := tFact) sl46 rfl rfl) rfl ?_
  refine Tp rfl rfl (pur_neq rfl rfl rfl) rfl ?_
  refine TO_nil ?_
  refine T_env (E' := [(0, (sl tFact a0)), (1, (sl tFact b1)), (10, (boolA (decide ((a0.length : Int) ≠ (b1.length : Int)))))]) ⟨rfl, rfl, rfl, trivial⟩ ?_
  refine T_cond (t := decide ((a0.length : Int) ≠ (b1.length : Int))) rfl (fun c_1 => ?_) (fun c_1 => ?_)
  · replace H := cond_t c_1 H
    refine sr ?_
    refine Tp rfl rfl (pur_assign rfl) rfl ?_
    refine TO_nil ?_
    refine T_env (E' := [(4, (boolA false))]) ⟨rfl, trivial⟩ ?_
    refine T_ret ?_
    refine then_ret ?_
    obtain rfl := some_inj H
    refine end_ret (.tmp .nil) rfl rfl ⟨?_, rfl⟩
    rfl
  · replace H := cond_f c_1 H
    refine T_skip ?_
    refine T_env (E' := [(0, (sl tFact a0)), (1, (sl tFact b1))]) ⟨rfl, rfl, trivial⟩ ?_
    refine T_seq ?_
    refine sr ?_
    refine Tp rfl rfl (pur_assign rfl) rfl ?_
    refine TO_nil ?_
    refine T_env (E' := [(0, (sl tFact a0)), (1, (sl tFact b1)), (5, (intA 0))]) ⟨rfl, rfl, rfl, trivial⟩ ?_
    obtain ⟨O3_, L3_, N3_⟩ := bind_inv H
    clear H
    obtain ⟨B3_, hb3, L3_⟩ := gen_forL L3_
    refine T_block ?_
    refine T_loopX (fun k => fun (i_2 : Nat) => k = a0.length - i_2 ∧ forL B3_ (a0.drop i_2) (i_2 : Int) () = some O3_) (fun (i_2 : Nat) => [(0, (sl tFact a0)), (1, (sl tFact b1)), (5, (intA (i_2 : Int)))]) (fun (i_2 : Nat) => []) _ (0 : Nat) (wp 0 (lb rfl) rfl rfl rfl rfl ⟨rfl, rfl, rfl, trivial⟩) ⟨rfl, L3_⟩ ?_
    rintro _ i_2 ⟨rfl, L3_⟩
    refine T_env (E' := [(0, (sl tFact a0)), (1, (sl tFact b1)), (5, (intA (i_2 : Int)))]) ⟨rfl, rfl, rfl, trivial⟩ ?_
    refine T_st (σ' := []) rfl ?_
    refine T_fact (len_sl (T := tFact) (.tmp 0) rfl) (fun hl3 => ?_)
    refine T_seq ?_
    refine sr ?_
    refine Tp rfl rfl (pur_move rfl) rfl ?_
    refine Tp rfl rfl (pur_move rfl) rfl ?_
    refine Tp rfl rfl (pur_lenT (T := tFact) sl46 rfl rfl) rfl ?_
    refine Tp rfl rfl (pur_lss rfl rfl rfl) rfl ?_
    refine TO_nil ?_
    refine T_env (E' := [(0, (sl tFact a0)), (1, (sl tFact b1)), (5, (intA (i_2 : Int))), (14, (boolA (decide ((i_2 : Int) < (a0.length : Int)))))]) ⟨rfl, rfl, rfl, rfl, trivial⟩ ?_
    refine T_cond (t := decide ((i_2 : Int) < (a0.length : Int))) rfl (fun d3 => ?_) (fun d3 => ?_)
    · replace d3 := of_decide_eq_true d3
      obtain ⟨x_i_2, hx_i_2⟩ : ∃ v, (a0)[i_2]? = some v := ⟨_, List.getElem?_eq_getElem (by omega)⟩
      obtain ⟨C3_, H, K3_⟩ := forL_step L3_ hx_i_2
      rw [hb3] at H
      refine T_skip ?_
      refine T_env (E' := [(0, (sl tFact a0)), (1, (sl tFact b1)), (5, (intA (i_2 : Int)))]) ⟨rfl, rfl, rfl, trivial⟩ ?_
      refine T_seq ?_
      refine T_block ?_
      refine T_seq ?_
      refine T_regionD mixed (by kernel_rfl) ?_
      refine TQ_pure rfl (pur_move rfl) rfl ?_
      refine TQ_pure rfl (pur_move rfl) rfl ?_
      refine TQ_pure rfl (pur_ixT (T := tFact) sl46 rfl rfl rfl hx_i_2 rfl) rfl ?_
      refine TQ_pure rfl (pur_ldTK (T := tFact) (i := i_2) (off := 0) rfl agg65 rfl rfl hx_i_2 (by decide) rfl) rfl ?_
      refine TQ_pure rfl (pur_move rfl) rfl ?_
      refine TQ_pure rfl (pur_move rfl) rfl ?_
      obtain ⟨v_4, h_5, H⟩ := bind_inv H
      obtain ⟨n_6, hz_7, hv_8⟩ := getI_inv h_5
      refine TQ_pure rfl (pur_ixT (T := tFact) sl46 rfl rfl hz_7 hv_8 rfl) rfl ?_
      refine TQ_pure rfl (pur_ldTK (T := tFact) (i := n_6) (off := 0) rfl agg65 rfl rfl hv_8 (by decide) rfl) rfl ?_
      obtain ⟨r_9, h_10, H⟩ := bind_inv H
      refine TQ_callV rfl (call_static ent56 rfl) (m_laws_eqFact_ok _ _ _ h_10) rfl rfl ?_
      refine TQ_pure rfl (pur_not rfl rfl) rfl ?_
      refine TQ_nil ?_
      refine T_env (E' := [(0, (sl tFact a0)), (1, (sl tFact b1)), (5, (intA (i_2 : Int))), (26, (boolA (!r_9)))]) ⟨rfl, rfl, rfl, rfl, trivial⟩ ?_
      refine T_cond (t := (!r_9)) rfl (fun c_11 => ?_) (fun c_11 => ?_)
      · replace H := cond_t c_11 H
        refine sr ?_
        refine Tp rfl rfl (pur_assign rfl) rfl ?_
        refine TO_nil ?_
        refine T_env (E' := [(4, (boolA false))]) ⟨rfl, trivial⟩ ?_
        refine T_ret ?_
        refine block_ret ?_
        refine then_ret ?_
        refine then_ret ?_
        refine block_ret ?_
        refine then_ret ?_
        obtain rfl := some_inj H
        obtain rfl := some_inj K3_
        replace H := onS_r N3_
        obtain rfl := some_inj H
        refine end_ret (.tmp .nil) rfl rfl ⟨?_, rfl⟩
        rfl
      · replace H := cond_f c_11 H
        refine T_skip ?_
        refine T_env (E' := [(0, (sl tFact a0)), (1, (sl tFact b1)), (5, (intA (i_2 : Int)))]) ⟨rfl, rfl, rfl, trivial⟩ ?_
        refine T_region ?_
        refine Tp rfl rfl (pur_move rfl) rfl ?_
        refine Tp rfl rfl (pur_add rfl rfl rfl (fits64 (by omega) (by omega))) rfl ?_
        refine Tp rfl rfl (pur_assign rfl) rfl ?_
        refine TO_nil ?_
        obtain rfl := some_inj H
        exact again (a0.length - (i_2 + 1)) (i_2 + 1) (by omega) (wp 0 (lb rfl) rfl rfl rfl rfl ⟨rfl, rfl, rfl, trivial⟩) ⟨rfl, K3_⟩
    · replace d3 := of_decide_eq_false d3
      obtain rfl := forL_end L3_ (by omega)
      refine T_exit ?_
      refine then_exit ?_
      refine then_exit ?_
      refine block_exit ?_
      replace H := onS_l N3_
      refine T_env (E' := []) trivial ?_
      refine sr ?_
      refine Tp rfl rfl (pur_assign rfl) rfl ?_
      refine TO_nil ?_
      refine T_env (E' := [(4, (boolA true))]) ⟨rfl, trivial⟩ ?_
      refine T_ret ?_
      obtain rfl := some_inj H
      refine end_ret (.tmp .nil) rfl rfl ⟨?_, rfl⟩
      rfl

set_option maxHeartbeats 1000000 in
/-- laws.eqRelation -/
theorem m_laws_eqRelation_ok (a0 : Relation) (b1 : Relation) (r : Bool) (H : m_laws_eqRelation a0 b1 = some r) : FnV prg 146 [(.g (tRelation.enc a0)), (.g (tRelation.enc b1))] (boolA r) := by
  unfold m_laws_eqRelation at H
  refine fnV_of_T Try.func146 rfl rfl (Nat.le_of_ble_eq_true rfl) ?_
  refine T_env (E' := [(0, (.g (tRelation.enc a0))), (1, (.g (tRelation.enc b1)))]) ⟨rfl, rfl, trivial⟩ ?_
  refine sr ?_
  refine TO_cons rfl (TOp_box rfl (boxAll rfl) rfl rfl ?_)
  refine TO_cons rfl (TOp_box rfl (boxAll rfl) rfl rfl ?_)
  refine Tp rfl rfl (pur_assign rfl) rfl ?_
  refine TO_nil ?_
  refine T_env (E' := [(2, (.b 0 0)), (3, (.b 1 0))]) ⟨rfl, rfl, trivial⟩ ?_
  refine T_seq ?_
  refine sr ?_
  refine Tp rfl rfl (pur_fa_b fld130_0 rfl rfl) rfl ?_
  refine Tp rfl rfl (pur_ld_b one9 rfl rfl rfl rfl) rfl ?_
  refine Tp rfl rfl (pur_fa_b fld130_0 rfl rfl) rfl ?_
  refine Tp rfl rfl (pur_ld_b one9 rfl rfl rfl rfl) rfl ?_
  refine Tp rfl rfl (pur_neqS rfl rfl rfl) rfl ?_
  refine TO_nil ?_
  refine T_env (E' := [(2, (.b 0 0)), (3, (.b 1 0)), (9, (boolA (decide (a0.name ≠ b1.name))))]) ⟨rfl, rfl, rfl, trivial⟩ ?_
  refine T_cond (t := decide (a0.name ≠ b1.name)) rfl (fun c_1 => ?_) (fun c_1 => ?_)
  · replace H := cond_t c_1 H
    refine sr ?_
    refine Tp rfl rfl (pur_assign rfl) rfl ?_
    refine TO_nil ?_
    refine T_env (E' := [(4, (boolA false))]) ⟨rfl, trivial⟩ ?_
    refine T_ret ?_
    refine then_ret ?_
    obtain rfl := some_inj H
    refine end_ret (.tmp .nil) rfl rfl ⟨?_, rfl⟩
    rfl
  · replace H := cond_f c_1 H
    refine T_skip ?_
    refine T_env (E' := [(2, (.b 0 0)), (3, (.b 1 0))]) ⟨rfl, rfl, trivial⟩ ?_
    refine T_seq ?_
    refine sr ?_
    refine Tp rfl rfl (pur_fa_b fld130_1 rfl rfl) rfl ?_
    refine Tp rfl rfl (pur_ld_b one3 rfl rfl rfl rfl) rfl ?_
    refine Tp rfl rfl (pur_fa_b fld130_1 rfl rfl) rfl ?_
    refine Tp rfl rfl (pur_ld_b one3 rfl rfl rfl rfl) rfl ?_
    refine Tp rfl rfl (pur_neq rfl rfl rfl) rfl ?_
    refine TO_nil ?_
    refine T_env (E' := [(2, (.b 0 0)), (3, (.b 1 0)), (14, (boolA (decide (a0.arity ≠ b1.arity))))]) ⟨rfl, rfl, rfl, trivial⟩ ?_
    refine T_cond (t := decide (a0.arity ≠ b1.arity)) rfl (fun c_2 => ?_) (fun c_2 => ?_)
    · replace H := cond_t c_2 H
      refine sr ?_
      refine Tp rfl rfl (pur_assign rfl) rfl ?_
      refine TO_nil ?_
      refine T_env (E' := [(4, (boolA false))]) ⟨rfl, trivial⟩ ?_
      refine T_ret ?_
      refine then_ret ?_
      obtain rfl := some_inj H
      refine end_ret (.tmp .nil) rfl rfl ⟨?_, rfl⟩
      rfl
    · replace H := cond_f c_2 H
      refine T_skip ?_
      refine T_env (E' := [(2, (.b 0 0)), (3, (.b 1 0))]) ⟨rfl, rfl, trivial⟩ ?_
      refine T_seq ?_
      refine sr ?_
      refine Tp rfl rfl (pur_fa_b fld130_2 rfl rfl) rfl ?_
      refine Tp rfl rfl (pur_ld_b one3 rfl rfl rfl rfl) rfl ?_
      refine Tp rfl rfl (pur_fa_b fld130_2 rfl rfl) rfl ?_
      refine Tp rfl rfl (pur_ld_b one3 rfl rfl rfl rfl) rfl ?_
      refine Tp rfl rfl (pur_neq rfl rfl rfl) rfl ?_
      refine TO_nil ?_
      refine T_env (E' := [(19, (boolA (decide (a0.keyLength ≠ b1.keyLength))))]) ⟨rfl, trivial⟩ ?_
      refine T_cond (t := decide (a0.keyLength ≠ b1.keyLength)) rfl (fun c_3 => ?_) (fun c_3 => ?_)
      · replace H := cond_t c_3 H
        refine sr ?_
        refine Tp rfl rfl (pur_assign rfl) rfl ?_
        refine TO_nil ?_
        refine T_env (E' := [(4, (boolA false))]) ⟨rfl, trivial⟩ ?_
        refine T_ret ?_
        refine then_ret ?_
        obtain rfl := some_inj H
        refine end_ret (.tmp .nil) rfl rfl ⟨?_, rfl⟩
        rfl
      · replace H := cond_f c_3 H
        refine T_skip ?_
        refine T_env (E' := []) trivial ?_
        refine sr ?_
        refine Tp rfl rfl (pur_assign rfl) rfl ?_
        refine TO_nil ?_
        refine T_env (E' := [(4, (boolA true))]) ⟨rfl, trivial⟩ ?_
        refine T_ret ?_
        obtain rfl := some_inj H
        refine end_ret (.tmp .nil) rfl rfl ⟨?_, rfl⟩
        rfl

set_option maxHeartbeats 1000000 in
/-- laws.eqRelationS -/
theorem m_laws_eqRelationS_ok (a0 : (List Relation)) (b1 : (List Relation)) (r : Bool) (H : m_laws_eqRelationS a0 b1 = some r) : FnV prg 94 [(sl tRelation a0), (sl tRelation b1)] (boolA r) := by
  unfold m_laws_eqRelationS at H
  refine fnV_of_T Try.func94 rfl rfl (Nat.le_of_ble_eq_true rfl) ?_
  refine T_env (E' := [(0, (sl tRelation a0)), (1, (sl tRelation b1))]) ⟨rfl, rfl, trivial⟩ ?_
  refine sr ?_
  refine Tp rfl rfl (pur_assign rfl) rfl ?_
  refine TO_nil ?_
  refine T_env (E' := [(0, (sl tRelation a0)), (1, (sl tRelation b1))]) ⟨rfl, rfl, trivial⟩ ?_
  refine T_seq ?_
  refine sr ?_
  refine Tp rfl rfl (pur_move rfl) rfl ?_
  refine Tp rfl rfl (pur_lenT (T := tRelation) sl45 rfl rfl) rfl ?_
  refine Tp rfl rfl (pur_move rfl) rfl ?_
  refine Tp rfl rfl (pur_lenT (T := tRelation) sl45 rfl rfl) rfl ?_
  refine Tp rfl rfl (pur_neq rfl rfl rfl) rfl ?_
  refine TO_nil ?_
  refine T_env (E' := [(0, (sl tRelation a0)), (1, (sl tRelation b1)), (10, (boolA (decide ((a0.length : Int) ≠ (b1.length : Int)))))]) ⟨rfl, rfl, rfl, trivial⟩ ?_
  refine T_cond (t := decide ((a0.length : Int) ≠ (b1.length : Int))) rfl (fun c_1 => ?_) (fun c_1 => ?_)
  · replace H := cond_t c_1 H
    refine sr ?_
    refine Tp rfl rfl (pur_assign rfl) rfl ?_
    refine TO_nil ?_
    refine T_env (E' := [(4, (boolA false))]) ⟨rfl, trivial⟩ ?_
    refine T_ret ?_
    refine then_ret ?_
    obtain rfl := some_inj H
    refine end_ret (.tmp .nil) rfl rfl ⟨?_, rfl⟩
    rfl
  · replace H := cond_f c_1 H
    refine T_skip ?_
    refine T_env (E' := [(0, (sl tRelation a0)), (1, (sl tRelation b1))]) ⟨rfl, rfl, trivial⟩ ?_
    refine T_seq ?_
    refine sr ?_
    refine Tp rfl rfl (pur_assign rfl) rfl ?_
    refine TO_nil ?_
    refine T_env (E' := [(0, (sl tRelation a0)), (1, (sl tRelation b1)), (5, (intA 0))]) ⟨rfl, rfl, rfl, trivial⟩ ?_
    obtain ⟨O3_, L3_, N3_⟩ := bind_inv H
    clear H
    obtain ⟨B3_, hb3, L3_⟩ := gen_forL L3_
    refine T_block ?_
    refine T_loopX (fun k => fun (i_2 : Nat) => k = a0.length - i_2 ∧ forL B3_ (a0.drop i_2) (i_2 : Int) () = some O3_) (fun (i_2 : Nat) => [(0, (sl tRelation a0)), (1, (sl tRelation b1)), (5, (intA (i_2 : Int)))]) (fun (i_2 : Nat) => []) _ (0 : Nat) (wp 0 (lb rfl) rfl rfl rfl rfl ⟨rfl, rfl, rfl, trivial⟩) ⟨rfl, L3_⟩ ?_
    rintro _ i_2 ⟨rfl, L3_⟩
    refine T_env (E' := [(0, (sl tRelation a0)), (1, (sl tRelation b1)), (5, (intA (i_2 : Int)))]) ⟨rfl, rfl, rfl, trivial⟩ ?_
    refine T_st (σ' := []) rfl ?_
    refine T_fact (len_sl (T := tRelation) (.tmp 0) rfl) (fun hl3 => ?_)
    refine T_seq ?_
    refine sr ?_
    refine Tp rfl rfl (pur_move rfl) rfl ?_
    refine Tp rfl rfl (pur_move rfl) rfl ?_
    refine Tp rfl rfl (pur_lenT (T := tRelation) sl45 rfl rfl) rfl ?_
    refine Tp rfl rfl (pur_lss rfl rfl rfl) rfl ?_
    refine TO_nil ?_
    refine T_env (E' := [(0, (sl tRelation a0)), (1, (sl tRelation b1)), (5, (intA (i_2 : Int))), (14, (boolA (decide ((i_2 : Int) < (a0.length : Int)))))]) ⟨rfl, rfl, rfl, rfl, trivial⟩ ?_
    refine T_cond (t := decide ((i_2 : Int) < (a0.length : Int))) rfl (fun d3 => ?_) (fun d3 => ?_)
    · replace d3 := of_decide_eq_true d3
      obtain ⟨x_i_2, hx_i_2⟩ : ∃ v, (a0)[i_2]? = some v := ⟨_, List.getElem?_eq_getElem (by omega)⟩
      obtain ⟨C3_, H, K3_⟩ := forL_step L3_ hx_i_2
      rw [hb3] at H
      refine T_skip ?_
      refine T_env (E' := [(0, (sl tRelation a0)), (1, (sl tRelation b1)), (5, (intA (i_2 : Int)))]) ⟨rfl, rfl, rfl, trivial⟩ ?_
      refine T_seq ?_
      refine T_block ?_
      refine T_seq ?_
      refine T_regionD mixed (by kernel_rfl) ?_
      refine TQ_pure rfl (pur_move rfl) rfl ?_
      refine TQ_pure rfl (pur_move rfl) rfl ?_
      refine TQ_pure rfl (pur_ixT (T := tRelation) sl45 rfl rfl rfl hx_i_2 rfl) rfl ?_
      refine TQ_pure rfl (pur_ldTK (T := tRelation) (i := i_2) (off := 0) rfl agg130 rfl rfl hx_i_2 (by decide) rfl) rfl ?_
      refine TQ_pure rfl (pur_move rfl) rfl ?_
      refine TQ_pure rfl (pur_move rfl) rfl ?_
      obtain ⟨v_4, h_5, H⟩ := bind_inv H
      obtain ⟨n_6, hz_7, hv_8⟩ := getI_inv h_5
      refine TQ_pure rfl (pur_ixT (T := tRelation) sl45 rfl rfl hz_7 hv_8 rfl) rfl ?_
      refine TQ_pure rfl (pur_ldTK (T := tRelation) (i := n_6) (off := 0) rfl agg130 rfl rfl hv_8 (by decide) rfl) rfl ?_
      obtain ⟨r_9, h_10, H⟩ := bind_inv H
      refine TQ_callV rfl (call_static ent146 rfl) (m_laws_eqRelation_ok _ _ _ h_10) rfl rfl ?_
      refine TQ_pure rfl (pur_not rfl rfl) rfl ?_
      refine TQ_nil ?_
      refine T_env (E' := [(0, (sl tRelation a0)), (1, (sl tRelation b1)), (5, (intA (i_2 : Int))), (26, (boolA (!r_9)))]) ⟨rfl, rfl, rfl, rfl, trivial⟩ ?_
      refine T_cond (t := (!r_9)) rfl (fun c_11 => ?_) (fun c_11 => ?_)
      · replace H := cond_t c_11 H
        refine sr ?_
        refine Tp rfl rfl (pur_assign rfl) rfl ?_
        refine TO_nil ?_
        refine T_env (E' := [(4, (boolA false))]) ⟨rfl, trivial⟩ ?_
        refine T_ret ?_
        refine block_ret ?_
        refine then_ret ?_
        refine then_ret ?_
        refine block_ret ?_
        refine then_ret ?_
        obtain rfl := some_inj H
        obtain rfl := some_inj K3_
        replace H := onS_r N3_
        obtain rfl := some_inj H
        refine end_ret (.tmp .nil) rfl rfl ⟨?_, rfl⟩
        rfl
      · replace H := cond_f c_11 H
        refine T_skip ?_
        refine T_env (E' := [(0, (sl tRelation a0)), (1, (sl tRelation b1)), (5, (intA (i_2 : Int)))]) ⟨rfl, rfl, rfl, trivial⟩ ?_
        refine T_region ?_
        refine Tp rfl rfl (pur_move rfl) rfl ?_
        refine Tp rfl rfl (pur_add rfl rfl rfl (fits64 (by omega) (by omega))) rfl ?_
        refine Tp rfl rfl (pur_assign rfl) rfl ?_
        refine TO_nil ?_
        obtain rfl := some_inj H
        exact again (a0.length - (i_2 + 1)) (i_2 + 1) (by omega) (wp 0 (lb rfl) rfl rfl rfl rfl ⟨rfl, rfl, rfl, trivial⟩) ⟨rfl, K3_⟩
    · replace d3 := of_decide_eq_false d3
      obtain rfl := forL_end L3_ (by omega)
      refine T_exit ?_
      refine then_exit ?_
      refine then_exit ?_
      refine block_exit ?_
      replace H := onS_l N3_
      refine T_env (E' := []) trivial ?_
      refine sr ?_
      refine Tp rfl rfl (pur_assign rfl) rfl ?_
      refine TO_nil ?_
      refine T_env (E' := [(4, (boolA true))]) ⟨rfl, trivial⟩ ?_
      refine T_ret ?_
      obtain rfl := some_inj H
      refine end_ret (.tmp .nil) rfl rfl ⟨?_, rfl⟩
      rfl

set_option maxHeartbeats 1000000 in
/-- laws.eqDatabase -/
theorem m_laws_eqDatabase_ok (a0 : Database) (b1 : Database) (r : Bool) (H : m_laws_eqDatabase a0 b1 = some r) : FnV prg 29 [(.g (tDatabase.enc a0)), (.g (tDatabase.enc b1))] (boolA r) := by
  unfold m_laws_eqDatabase at H
  refine fnV_of_T Try.func29 rfl rfl (Nat.le_of_ble_eq_true rfl) ?_
  refine T_env (E' := [(0, (.g (tDatabase.enc a0))), (1, (.g (tDatabase.enc b1)))]) ⟨rfl, rfl, trivial⟩ ?_
  refine sr ?_
  refine TO_cons rfl (TOp_box rfl (boxAll rfl) rfl rfl ?_)
  refine TO_cons rfl (TOp_box rfl (boxAll rfl) rfl rfl ?_)
  refine Tp rfl rfl (pur_assign rfl) rfl ?_
  refine TO_nil ?_
  refine T_env (E' := [(2, (.b 0 0)), (3, (.b 1 0))]) ⟨rfl, rfl, trivial⟩ ?_
  refine T_seq ?_
  refine sr ?_
  refine Tp rfl rfl (pur_fa_b fld48_0 rfl rfl) rfl ?_
  refine Tp rfl rfl (pur_ld_b one45 rfl rfl rfl rfl) rfl ?_
  refine Tp rfl rfl (pur_fa_b fld48_0 rfl rfl) rfl ?_
  refine Tp rfl rfl (pur_ld_b one45 rfl rfl rfl rfl) rfl ?_
  obtain ⟨r_1, h_2, H⟩ := bind_inv H
  refine TO_cons rfl (TOp_callV (call_static ent94 rfl) (m_laws_eqRelationS_ok _ _ _ h_2) rfl rfl rfl ?_)
  refine Tp rfl rfl (pur_not rfl rfl) rfl ?_
  refine TO_nil ?_
  refine T_env (E' := [(2, (.b 0 0)), (3, (.b 1 0)), (10, (boolA (!r_1)))]) ⟨rfl, rfl, rfl, trivial⟩ ?_
  refine T_cond (t := (!r_1)) rfl (fun c_3 => ?_) (fun c_3 => ?_)
  · replace H := cond_t c_3 H
    refine sr ?_
    refine Tp rfl rfl (pur_assign rfl) rfl ?_
    refine TO_nil ?_
    refine T_env (E' := [(4, (boolA false))]) ⟨rfl, trivial⟩ ?_
    refine T_ret ?_
    refine then_ret ?_
    obtain rfl := some_inj H
    refine end_ret (.tmp .nil) rfl rfl ⟨?_, rfl⟩
    rfl
  · replace H := cond_f c_3 H
    refine T_skip ?_
    refine T_env (E' := [(2, (.b 0 0)), (3, (.b 1 0))]) ⟨rfl, rfl, trivial⟩ ?_
    refine T_seq ?_
    refine sr ?_
    refine Tp rfl rfl (pur_fa_b fld48_1 rfl rfl) rfl ?_
    refine Tp rfl rfl (pur_ld_b one46 rfl rfl rfl rfl) rfl ?_
    refine Tp rfl rfl (pur_fa_b fld48_1 rfl rfl) rfl ?_
    refine Tp rfl rfl (pur_ld_b one46 rfl rfl rfl rfl) rfl ?_
    obtain ⟨r_4, h_5, H⟩ := bind_inv H
    refine TO_cons rfl (TOp_callV (call_static ent63 rfl) (m_laws_eqFactS_ok _ _ _ h_5) rfl rfl rfl ?_)
    refine Tp rfl rfl (pur_not rfl rfl) rfl ?_
    refine TO_nil ?_
    refine T_env (E' := [(16, (boolA (!r_4)))]) ⟨rfl, trivial⟩ ?_
    refine T_cond (t := (!r_4)) rfl (fun c_6 => ?_) (fun c_6 => ?_)
    · replace H := cond_t c_6 H
      refine sr ?_
      refine Tp rfl rfl (pur_assign rfl) rfl ?_
      refine TO_nil ?_
      refine T_env (E' := [(4, (boolA false))]) ⟨rfl, trivial⟩ ?_
      refine T_ret ?_
      refine then_ret ?_
      obtain rfl := some_inj H
      refine end_ret (.tmp .nil) rfl rfl ⟨?_, rfl⟩
      rfl
    · replace H := cond_f c_6 H
      refine T_skip ?_
      refine T_env (E' := []) trivial ?_
      refine sr ?_
      refine Tp rfl rfl (pur_assign rfl) rfl ?_
      refine TO_nil ?_
      refine T_env (E' := [(4, (boolA true))]) ⟨rfl, trivial⟩ ?_
      refine T_ret ?_
      obtain rfl := some_inj H
      refine end_ret (.tmp .nil) rfl rfl ⟨?_, rfl⟩
      rfl

set_option maxHeartbeats 1000000 in
/-- laws.eqIntSS -/
theorem m_laws_eqIntSS_ok (a0 : (List (List Int))) (b1 : (List (List Int))) (r : Bool) (H : m_laws_eqIntSS a0 b1 = some r) : FnV prg 103 [(sl (tSl tInt) a0), (sl (tSl tInt) b1)] (boolA r) := by
  unfold m_laws_eqIntSS at H
  refine fnV_of_T Try.func103 rfl rfl (Nat.le_of_ble_eq_true rfl) ?_
  refine T_env (E' := [(0, (sl (tSl tInt) a0)), (1, (sl (tSl tInt) b1))]) ⟨rfl, rfl, trivial⟩ ?_
  refine sr ?_
  refine Tp rfl rfl (pur_assign rfl) rfl ?_
  refine TO_nil ?_
  refine T_env (E' := [(0, (sl (tSl tInt) a0)), (1, (sl (tSl tInt) b1))]) ⟨rfl, rfl, trivial⟩ ?_
  refine T_seq ?_
  refine sr ?_
  refine Tp rfl rfl (pur_move rfl) rfl ?_
  refine Tp rfl rfl (pur_lenT (T := (tSl tInt)) sl53 rfl rfl) rfl ?_
  refine Tp rfl rfl (pur_move rfl) rfl ?_
  refine Tp rfl rfl (pur_lenT (T := (tSl tInt)) sl53 rfl rfl) rfl ?_
  refine Tp rfl rfl (pur_neq rfl rfl rfl) rfl ?_
  refine TO_nil ?_
  refine T_env (E' := [(0, (sl (tSl tInt) a0)), (1, (sl (tSl tInt) b1)), (10, (boolA (decide ((a0.length : Int) ≠ (b1.length : Int)))))]) ⟨rfl, rfl, rfl, trivial⟩ ?_
  refine T_cond (t := decide ((a0.length : Int) ≠ (b1.length : Int))) rfl (fun c_1 => ?_) (fun c_1 => ?_)
  · replace H := cond_t c_1 H
    refine sr ?_
    refine Tp rfl rfl (pur_assign rfl) rfl ?_
    refine TO_nil ?_
    refine T_env (E' := [(4, (boolA false))]) ⟨rfl, trivial⟩ ?_
    refine T_ret ?_
    refine then_ret ?_
    obtain rfl := some_inj H
    refine end_ret (.tmp .nil) rfl rfl ⟨?_, rfl⟩
    rfl
  · replace H := cond_f c_1 H
    refine T_skip ?_
    refine T_env (E' := [(0, (sl (tSl tInt) a0)), (1, (sl (tSl tInt) b1))]) ⟨rfl, rfl, trivial⟩ ?_
    refine T_seq ?_
    refine sr ?_
    refine Tp rfl rfl (pur_assign rfl) rfl ?_
    refine TO_nil ?_
    refine T_env (E' := [(0, (sl (tSl tInt) a0)), (1, (sl (tSl tInt) b1)), (5, (intA 0))]) ⟨rfl, rfl, rfl, trivial⟩ ?_
    obtain ⟨O3_, L3_, N3_⟩ := bind_inv H
    clear H
    obtain ⟨B3_, hb3, L3_⟩ := gen_forL L3_
    refine T_block ?_
    refine T_loopX (fun k => fun (i_2 : Nat) => k = a0.length - i_2 ∧ forL B3_ (a0.drop i_2) (i_2 : Int) () = some O3_) (fun (i_2 : Nat) => [(0, (sl (tSl tInt) a0)), (1, (sl (tSl tInt) b1)), (5, (intA (i_2 : Int)))]) (fun (i_2 : Nat) => []) _ (0 : Nat) (wp 0 (lb rfl) rfl rfl rfl rfl ⟨rfl, rfl, rfl, trivial⟩) ⟨rfl, L3_⟩ ?_
    rintro _ i_2 ⟨rfl, L3_⟩
    refine T_env (E' := [(0, (sl (tSl tInt) a0)), (1, (sl (tSl tInt) b1)), (5, (intA (i_2 : Int)))]) ⟨rfl, rfl, rfl, trivial⟩ ?_
    refine T_st (σ' := []) rfl ?_
    refine T_fact (len_sl (T := (tSl tInt)) (.tmp 0) rfl) (fun hl3 => ?_)
    refine T_seq ?_
    refine sr ?_
    refine Tp rfl rfl (pur_move rfl) rfl ?_
    refine Tp rfl rfl (pur_move rfl) rfl ?_
    refine Tp rfl rfl (pur_lenT (T := (tSl tInt)) sl53 rfl rfl) rfl ?_
    refine Tp rfl rfl (pur_lss rfl rfl rfl) rfl ?_
    refine TO_nil ?_
    refine T_env (E' := [(0, (sl (tSl tInt) a0)), (1, (sl (tSl tInt) b1)), (5, (intA (i_2 : Int))), (14, (boolA (decide ((i_2 : Int) < (a0.length : Int)))))]) ⟨rfl, rfl, rfl, rfl, trivial⟩ ?_
    refine T_cond (t := decide ((i_2 : Int) < (a0.length : Int))) rfl (fun d3 => ?_) (fun d3 => ?_)
    · replace d3 := of_decide_eq_true d3
      obtain ⟨x_i_2, hx_i_2⟩ : ∃ v, (a0)[i_2]? = some v := ⟨_, List.getElem?_eq_getElem (by omega)⟩
      obtain ⟨C3_, H, K3_⟩ := forL_step L3_ hx_i_2
      rw [hb3] at H
      refine T_skip ?_
      refine T_env (E' := [(0, (sl (tSl tInt) a0)), (1, (sl (tSl tInt) b1)), (5, (intA (i_2 : Int)))]) ⟨rfl, rfl, rfl, trivial⟩ ?_
      refine T_seq ?_
      refine T_block ?_
      refine T_seq ?_
      refine T_regionD mixed (by kernel_rfl) ?_
      refine TQ_pure rfl (pur_move rfl) rfl ?_
      refine TQ_pure rfl (pur_move rfl) rfl ?_
      refine TQ_pure rfl (pur_ixT (T := (tSl tInt)) sl53 rfl rfl rfl hx_i_2 rfl) rfl ?_
      refine TQ_pure rfl (pur_ldT (T := (tSl tInt)) (i := i_2) (off := 0) rfl one23 rfl rfl hx_i_2 rfl) rfl ?_
      refine TQ_pure rfl (pur_move rfl) rfl ?_
      refine TQ_pure rfl (pur_move rfl) rfl ?_
      obtain ⟨v_4, h_5, H⟩ := bind_inv H
      obtain ⟨n_6, hz_7, hv_8⟩ := getI_inv h_5
      refine TQ_pure rfl (pur_ixT (T := (tSl tInt)) sl53 rfl rfl hz_7 hv_8 rfl) rfl ?_
      refine TQ_pure rfl (pur_ldT (T := (tSl tInt)) (i := n_6) (off := 0) rfl one23 rfl rfl hv_8 rfl) rfl ?_
      obtain ⟨r_9, h_10, H⟩ := bind_inv H
      refine TQ_callV rfl (call_static ent21 rfl) (m_laws_eqIntS_ok _ _ _ h_10) rfl rfl ?_
      refine TQ_pure rfl (pur_not rfl rfl) rfl ?_
      refine TQ_nil ?_
      refine T_env (E' := [(0, (sl (tSl tInt) a0)), (1, (sl (tSl tInt) b1)), (5, (intA (i_2 : Int))), (26, (boolA (!r_9)))]) ⟨rfl, rfl, rfl, rfl, trivial⟩ ?_
      refine T_cond (t := (!r_9)) rfl (fun c_11 => ?_) (fun c_11 => ?_)
      · replace H := cond_t c_11 H
        refine sr ?_
        refine Tp rfl rfl (pur_assign rfl) rfl ?_
        refine TO_nil ?_
        refine T_env (E' := [(4, (boolA false))]) ⟨rfl, trivial⟩ ?_
        refine T_ret ?_
        refine block_ret ?_
        refine then_ret ?_
        refine then_ret ?_
        refine block_ret ?_
        refine then_ret ?_
        obtain rfl := some_inj H
        obtain rfl := some_inj K3_
        replace H := onS_r N3_
        obtain rfl := some_inj H
        refine end_ret (.tmp .nil) rfl rfl ⟨?_, rfl⟩
        rfl
      · replace H := cond_f c_11 H
        refine T_skip ?_
        refine T_env (E' := [(0, (sl (tSl tInt) a0)), (1, (sl (tSl tInt) b1)), (5, (intA (i_2 : Int)))]) ⟨rfl, rfl, rfl, trivial⟩ ?_
        refine T_region ?_
        refine Tp rfl rfl (pur_move rfl) rfl ?_
        refine Tp rfl rfl (pur_add rfl rfl rfl (fits64 (by omega) (by omega))) rfl ?_
        refine Tp rfl rfl (pur_assign rfl) rfl ?_
        refine TO_nil ?_
        obtain rfl := some_inj H
        exact again (a0.length - (i_2 + 1)) (i_2 + 1) (by omega) (wp 0 (lb rfl) rfl rfl rfl rfl ⟨rfl, rfl, rfl, trivial⟩) ⟨rfl, K3_⟩
    · replace d3 := of_decide_eq_false d3
      obtain rfl := forL_end L3_ (by omega)
      refine T_exit ?_
      refine then_exit ?_
      refine then_exit ?_
      refine block_exit ?_
      replace H := onS_l N3_
      refine T_env (E' := []) trivial ?_
      refine sr ?_
      refine Tp rfl rfl (pur_assign rfl) rfl ?_
      refine TO_nil ?_
      refine T_env (E' := [(4, (boolA true))]) ⟨rfl, trivial⟩ ?_
      refine T_ret ?_
      obtain rfl := some_inj H
      refine end_ret (.tmp .nil) rfl rfl ⟨?_, rfl⟩
      rfl

set_option maxHeartbeats 1000000 in
/-- laws.eqView -/
theorem m_laws_eqView_ok (a0 : View) (b1 : View) (r : Bool) (H : m_laws_eqView a0 b1 = some r) : FnV prg 36 [(.g (tView.enc a0)), (.g (tView.enc b1))] (boolA r) := by
  unfold m_laws_eqView at H
  refine fnV_of_T Try.func36 rfl rfl (Nat.le_of_ble_eq_true rfl) ?_
  refine T_env (E' := [(0, (.g (tView.enc a0))), (1, (.g (tView.enc b1)))]) ⟨rfl, rfl, trivial⟩ ?_
  refine sr ?_
  refine TO_cons rfl (TOp_box rfl (boxAll rfl) rfl rfl ?_)
  refine TO_cons rfl (TOp_box rfl (boxAll rfl) rfl rfl ?_)
  refine Tp rfl rfl (pur_assign rfl) rfl ?_
  refine TO_nil ?_
  refine T_env (E' := [(2, (.b 0 0)), (3, (.b 1 0))]) ⟨rfl, rfl, trivial⟩ ?_
  refine T_seq ?_
  refine sr ?_
  refine Tp rfl rfl (pur_fa_b fld59_0 rfl rfl) rfl ?_
  refine Tp rfl rfl (pur_ldK_b agg48 rfl rfl (lb rfl) rfl) rfl ?_
  refine Tp rfl rfl (pur_fa_b fld59_0 rfl rfl) rfl ?_
  refine Tp rfl rfl (pur_ldK_b agg48 rfl rfl (lb rfl) rfl) rfl ?_
  obtain ⟨r_1, h_2, H⟩ := bind_inv H
  refine TO_cons rfl (TOp_callV (call_static ent29 rfl) (m_laws_eqDatabase_ok _ _ _ h_2) rfl rfl rfl ?_)
  refine Tp rfl rfl (pur_not rfl rfl) rfl ?_
  refine TO_nil ?_
  refine T_env (E' := [(2, (.b 0 0)), (3, (.b 1 0)), (10, (boolA (!r_1)))]) ⟨rfl, rfl, rfl, trivial⟩ ?_
  refine T_cond (t := (!r_1)) rfl (fun c_3 => ?_) (fun c_3 => ?_)
  · replace H := cond_t c_3 H
    refine sr ?_
    refine Tp rfl rfl (pur_assign rfl) rfl ?_
    refine TO_nil ?_
    refine T_env (E' := [(4, (boolA false))]) ⟨rfl, trivial⟩ ?_
    refine T_ret ?_
    refine then_ret ?_
    obtain rfl := some_inj H
    refine end_ret (.tmp .nil) rfl rfl ⟨?_, rfl⟩
    rfl
  · replace H := cond_f c_3 H
    refine T_skip ?_
    refine T_env (E' := [(2, (.b 0 0)), (3, (.b 1 0))]) ⟨rfl, rfl, trivial⟩ ?_
    refine T_seq ?_
    refine sr ?_
    refine Tp rfl rfl (pur_fa_b fld59_1 rfl rfl) rfl ?_
    refine Tp rfl rfl (pur_ldK_b agg29 rfl rfl (lb rfl) rfl) rfl ?_
    refine Tp rfl rfl (pur_fa_b fld59_1 rfl rfl) rfl ?_
    refine Tp rfl rfl (pur_ldK_b agg29 rfl rfl (lb rfl) rfl) rfl ?_
    obtain ⟨r_4, h_5, H⟩ := bind_inv H
    refine TO_cons rfl (TOp_callV (call_static ent20 rfl) (m_laws_eqQuery_ok _ _ _ h_5) rfl rfl rfl ?_)
    refine Tp rfl rfl (pur_not rfl rfl) rfl ?_
    refine TO_nil ?_
    refine T_env (E' := [(2, (.b 0 0)), (3, (.b 1 0)), (16, (boolA (!r_4)))]) ⟨rfl, rfl, rfl, trivial⟩ ?_
    refine T_cond (t := (!r_4)) rfl (fun c_6 => ?_) (fun c_6 => ?_)
    · replace H := cond_t c_6 H
      refine sr ?_
      refine Tp rfl rfl (pur_assign rfl) rfl ?_
      refine TO_nil ?_
      refine T_env (E' := [(4, (boolA false))]) ⟨rfl, trivial⟩ ?_
      refine T_ret ?_
      refine then_ret ?_
      obtain rfl := some_inj H
      refine end_ret (.tmp .nil) rfl rfl ⟨?_, rfl⟩
      rfl
    · replace H := cond_f c_6 H
      refine T_skip ?_
      refine T_env (E' := [(2, (.b 0 0)), (3, (.b 1 0))]) ⟨rfl, rfl, trivial⟩ ?_
      refine T_seq ?_
      refine sr ?_
      refine Tp rfl rfl (pur_fa_b fld59_2 rfl rfl) rfl ?_
      refine Tp rfl rfl (pur_ld_b one53 rfl rfl rfl rfl) rfl ?_
      refine Tp rfl rfl (pur_fa_b fld59_2 rfl rfl) rfl ?_
      refine Tp rfl rfl (pur_ld_b one53 rfl rfl rfl rfl) rfl ?_
      obtain ⟨r_7, h_8, H⟩ := bind_inv H
      refine TO_cons rfl (TOp_callV (call_static ent103 rfl) (m_laws_eqIntSS_ok _ _ _ h_8) rfl rfl rfl ?_)
      refine Tp rfl rfl (pur_not rfl rfl) rfl ?_
      refine TO_nil ?_
      refine T_env (E' := [(2, (.b 0 0)), (3, (.b 1 0)), (22, (boolA (!r_7)))]) ⟨rfl, rfl, rfl, trivial⟩ ?_
      refine T_cond (t := (!r_7)) rfl (fun c_9 => ?_) (fun c_9 => ?_)
      · replace H := cond_t c_9 H
        refine sr ?_
        refine Tp rfl rfl (pur_assign rfl) rfl ?_
        refine TO_nil ?_
        refine T_env (E' := [(4, (boolA false))]) ⟨rfl, trivial⟩ ?_
        refine T_ret ?_
        refine then_ret ?_
        obtain rfl := some_inj H
        refine end_ret (.tmp .nil) rfl rfl ⟨?_, rfl⟩
        rfl
      · replace H := cond_f c_9 H
        refine T_skip ?_
        refine T_env (E' := [(2, (.b 0 0)), (3, (.b 1 0))]) ⟨rfl, rfl, trivial⟩ ?_
        refine T_seq ?_
        refine sr ?_
        refine Tp rfl rfl (pur_fa_b fld59_3 rfl rfl) rfl ?_
        refine Tp rfl rfl (pur_ld_b one53 rfl rfl rfl rfl) rfl ?_
        refine Tp rfl rfl (pur_fa_b fld59_3 rfl rfl) rfl ?_
        refine Tp rfl rfl (pur_ld_b one53 rfl rfl rfl rfl) rfl ?_
        obtain ⟨r_10, h_11, H⟩ := bind_inv H
        refine TO_cons rfl (TOp_callV (call_static ent103 rfl) (m_laws_eqIntSS_ok _ _ _ h_11) rfl rfl rfl ?_)
        refine Tp rfl rfl (pur_not rfl rfl) rfl ?_
        refine TO_nil ?_
        refine T_env (E' := [(28, (boolA (!r_10)))]) ⟨rfl, trivial⟩ ?_
        refine T_cond (t := (!r_10)) rfl (fun c_12 => ?_) (fun c_12 => ?_)
        · replace H := cond_t c_12 H
          refine sr ?_
          refine Tp rfl rfl (pur_assign rfl) rfl ?_
          refine TO_nil ?_
          refine T_env (E' := [(4, (boolA false))]) ⟨rfl, trivial⟩ ?_
          refine T_ret ?_
          refine then_ret ?_
          obtain rfl := some_inj H
          refine end_ret (.tmp .nil) rfl rfl ⟨?_, rfl⟩
          rfl
        · replace H := cond_f c_12 H
          refine T_skip ?_
          refine T_env (E' := []) trivial ?_
          refine sr ?_
          refine Tp rfl rfl (pur_assign rfl) rfl ?_
          refine TO_nil ?_
          refine T_env (E' := [(4, (boolA true))]) ⟨rfl, trivial⟩ ?_
          refine T_ret ?_
          obtain rfl := some_inj H
          refine end_ret (.tmp .nil) rfl rfl ⟨?_, rfl⟩
          rfl

set_option maxHeartbeats 1000000 in
/-- laws.FnExactEqualViews -/
theorem m_laws_FnExactEqualViews_ok (u : Nat) (aA0 : View) (aB1 : View) (r : Bool) (H : m_laws_FnExactEqualViews u aA0 aB1 = some r) : FnV prg 5 [(.g (tView.enc aA0)), (.g (tView.enc aB1))] (boolA r) := by
  unfold m_laws_FnExactEqualViews at H
  refine fnV_of_T Try.func5 rfl rfl (Nat.le_of_ble_eq_true rfl) ?_
  refine T_env (E' := [(0, (.g (tView.enc aA0))), (1, (.g (tView.enc aB1)))]) ⟨rfl, rfl, trivial⟩ ?_
  refine sr ?_
  refine TO_cons rfl (TOp_box rfl (boxAll rfl) rfl rfl ?_)
  refine TO_cons rfl (TOp_box rfl (boxAll rfl) rfl rfl ?_)
  refine Tp rfl rfl (pur_assign rfl) rfl ?_
  refine TO_nil ?_
  refine T_env (E' := [(2, (.b 0 0)), (3, (.b 1 0))]) ⟨rfl, rfl, trivial⟩ ?_
  refine sr ?_
  refine Tp rfl rfl (pur_assign rfl) rfl ?_
  refine TO_nil ?_
  refine T_env (E' := [(2, (.b 0 0)), (3, (.b 1 0)), (5, (intA 1048576))]) ⟨rfl, rfl, rfl, trivial⟩ ?_
  refine sr ?_
  refine Tp rfl rfl (pur_ldK_b agg55 rfl rfl (lb rfl) rfl) rfl ?_
  refine Tp rfl rfl (pur_move rfl) rfl ?_
  obtain ⟨r_1, h_2, H⟩ := bind_inv H
  refine TO_cons rfl (TOp_callV (call_static ent32 rfl) (m_laws_szView_ok _ _ _ h_2) rfl rfl rfl ?_)
  refine Tp rfl rfl (pur_assign rfl) rfl ?_
  refine TO_nil ?_
  refine T_env (E' := [(2, (.b 0 0)), (3, (.b 1 0)), (5, (intA r_1))]) ⟨rfl, rfl, rfl, trivial⟩ ?_
  refine T_seq ?_
  refine sr ?_
  refine Tp rfl rfl (pur_move rfl) rfl ?_
  refine Tp rfl rfl (pur_lss rfl rfl rfl) rfl ?_
  refine TO_nil ?_
  refine T_env (E' := [(2, (.b 0 0)), (3, (.b 1 0)), (5, (intA r_1)), (14, (boolA (decide (r_1 < 0))))]) ⟨rfl, rfl, rfl, rfl, trivial⟩ ?_
  refine T_cond (t := decide (r_1 < 0)) rfl (fun c_3 => ?_) (fun c_3 => ?_)
  · replace H := cond_t c_3 H
    refine sr ?_
    refine Tp rfl rfl (pur_assign rfl) rfl ?_
    refine TO_nil ?_
    refine T_env (E' := [(4, (boolA true))]) ⟨rfl, trivial⟩ ?_
    refine T_ret ?_
    refine then_ret ?_
    obtain rfl := some_inj H
    refine end_ret (.tmp .nil) rfl rfl ⟨?_, rfl⟩
    rfl
  · replace H := cond_f c_3 H
    refine T_skip ?_
    refine T_env (E' := [(2, (.b 0 0)), (3, (.b 1 0)), (5, (intA r_1))]) ⟨rfl, rfl, rfl, trivial⟩ ?_
    refine sr ?_
    refine Tp rfl rfl (pur_ldK_b agg55 rfl rfl (lb rfl) rfl) rfl ?_
    refine Tp rfl rfl (pur_move rfl) rfl ?_
    obtain ⟨r_4, h_5, H⟩ := bind_inv H
    refine TO_cons rfl (TOp_callV (call_static ent32 rfl) (m_laws_szView_ok _ _ _ h_5) rfl rfl rfl ?_)
    refine Tp rfl rfl (pur_assign rfl) rfl ?_
    refine TO_nil ?_
    refine T_env (E' := [(2, (.b 0 0)), (3, (.b 1 0)), (5, (intA r_4))]) ⟨rfl, rfl, rfl, trivial⟩ ?_
    refine T_seq ?_
    refine sr ?_
    refine Tp rfl rfl (pur_move rfl) rfl ?_
    refine Tp rfl rfl (pur_lss rfl rfl rfl) rfl ?_
    refine TO_nil ?_
    refine T_env (E' := [(2, (.b 0 0)), (3, (.b 1 0)), (19, (boolA (decide (r_4 < 0))))]) ⟨rfl, rfl, rfl, trivial⟩ ?_
    refine T_cond (t := decide (r_4 < 0)) rfl (fun c_6 => ?_) (fun c_6 => ?_)
    · replace H := cond_t c_6 H
      refine sr ?_
      refine Tp rfl rfl (pur_assign rfl) rfl ?_
      refine TO_nil ?_
      refine T_env (E' := [(4, (boolA true))]) ⟨rfl, trivial⟩ ?_
      refine T_ret ?_
      refine then_ret ?_
      obtain rfl := some_inj H
      refine end_ret (.tmp .nil) rfl rfl ⟨?_, rfl⟩
      rfl
    · replace H := cond_f c_6 H
      refine T_skip ?_
      refine T_env (E' := [(2, (.b 0 0)), (3, (.b 1 0))]) ⟨rfl, rfl, trivial⟩ ?_
      obtain ⟨r_7, h_8, H⟩ := bind_inv H
      obtain ⟨r_9, h_10, H⟩ := bind_inv H
      obtain ⟨r_11, h_12, H⟩ := bind_inv H
      refine T_cutX (fun (_ : Unit) => True) (fun _ => [(2, (.b 0 0)), (3, (.b 1 0)), (6, (boolA r_11))]) (fun _ => [.box [(sl tRelation aA0.database.relations), (sl tFact aA0.database.facts), (intA aA0.query.variableCount), (sl tAtom aA0.query.atoms), (sl tInt aA0.query.free), (sl (tSl tInt) aA0.certainRows), (sl (tSl tInt) aA0.uncertainRows)], .box [(sl tRelation aB1.database.relations), (sl tFact aB1.database.facts), (intA aB1.query.variableCount), (sl tAtom aB1.query.atoms), (sl tInt aB1.query.free), (sl (tSl tInt) aB1.certainRows), (sl (tSl tInt) aB1.uncertainRows)]]) ?_ ?_
      · skip
        refine T_regionP mixed ?_
        refine TA_have 3 #[true, true, true, false, false, false] [(2, (.b 0 0)), (3, (.b 1 0)), (21, (.g (tView.enc r_7))), (22, (.g (tView.enc aB1)))] [.box [(sl tRelation aA0.database.relations), (sl tFact aA0.database.facts), (intA aA0.query.variableCount), (sl tAtom aA0.query.atoms), (sl tInt aA0.query.free), (sl (tSl tInt) aA0.certainRows), (sl (tSl tInt) aA0.uncertainRows)], .box [(sl tRelation aB1.database.relations), (sl tFact aB1.database.facts), (intA aB1.query.variableCount), (sl tAtom aB1.query.atoms), (sl tInt aB1.query.free), (sl (tSl tInt) aB1.certainRows), (sl (tSl tInt) aB1.uncertainRows)]] ?_ (fun hj0_8 => ?_)
        · skip
          refine t1 3 (by kernel_rfl) rfl rfl (TOp_callV (call_static ent34 rfl) (m_laws_toView_ok _ _ h_10) rfl rfl rfl ?_)
          refine t1 4 (by kernel_rfl) rfl rfl (TOp_callV (call_static ent33 rfl) (m_spec_EqualViews_ok u _ _ _ h_12) rfl rfl rfl ?_)
          refine tf 5 rfl (purI_assign rfl) rfl rfl (by kernel_rfl) ?_
          exact TA_nil (by kernel_rfl) (joined () (wp 2 (lb rfl) rfl rfl rfl rfl ⟨rfl, rfl, rfl, trivial⟩) trivial)
        refine TA_have 4 #[true, false, true, false, false, false] [(2, (.b 0 0)), (3, (.b 1 0)), (20, (.g (tView.enc aA0))), (22, (.g (tView.enc aB1)))] [.box [(sl tRelation aA0.database.relations), (sl tFact aA0.database.facts), (intA aA0.query.variableCount), (sl tAtom aA0.query.atoms), (sl tInt aA0.query.free), (sl (tSl tInt) aA0.certainRows), (sl (tSl tInt) aA0.uncertainRows)], .box [(sl tRelation aB1.database.relations), (sl tFact aB1.database.facts), (intA aB1.query.variableCount), (sl tAtom aB1.query.atoms), (sl tInt aB1.query.free), (sl (tSl tInt) aB1.certainRows), (sl (tSl tInt) aB1.uncertainRows)]] ?_ (fun hj1_8 => ?_)
        · skip
          refine t1 1 (by kernel_rfl) rfl rfl (TOp_callV (call_static ent34 rfl) (m_laws_toView_ok _ _ h_8) rfl rfl rfl ?_)
          exact tj hj0_8 rfl (wp 2 (lb rfl) rfl rfl rfl rfl ⟨rfl, rfl, rfl, rfl, trivial⟩)
        refine TA_all [0, 2] (by kernel_rfl) (by decide) ⟨?_, ?_, trivial⟩
        · skip
          refine ⟨_, rfl, rfl, (TOp_pure (pur_ldK_b agg55 rfl rfl (lb rfl) rfl) rfl ?_)⟩
          refine TA_all [1, 2] (by kernel_rfl) (by decide) ⟨?_, ?_, trivial⟩
          · skip
            refine ⟨_, rfl, rfl, (TOp_callV (call_static ent34 rfl) (m_laws_toView_ok _ _ h_8) rfl rfl rfl ?_)⟩
            refine t1 2 (by kernel_rfl) rfl rfl (TOp_pure (pur_ldK_b agg55 rfl rfl (lb rfl) rfl) rfl ?_)
            exact tj hj0_8 rfl (wp 2 (lb rfl) rfl rfl rfl rfl ⟨rfl, rfl, rfl, rfl, trivial⟩)
          · skip
            refine ⟨_, rfl, rfl, (TOp_pure (pur_ldK_b agg55 rfl rfl (lb rfl) rfl) rfl ?_)⟩
            exact tj hj1_8 rfl (wp 2 (lb rfl) rfl rfl rfl rfl ⟨rfl, rfl, rfl, rfl, trivial⟩)
        · skip
          refine ⟨_, rfl, rfl, (TOp_pure (pur_ldK_b agg55 rfl rfl (lb rfl) rfl) rfl ?_)⟩
          refine t1 0 (by kernel_rfl) rfl rfl (TOp_pure (pur_ldK_b agg55 rfl rfl (lb rfl) rfl) rfl ?_)
          exact tj hj1_8 rfl (wp 2 (lb rfl) rfl rfl rfl rfl ⟨rfl, rfl, rfl, rfl, trivial⟩)
      · rintro _ _
        refine T_env (E' := [(2, (.b 0 0)), (3, (.b 1 0)), (6, (boolA r_11))]) ⟨rfl, rfl, rfl, trivial⟩ ?_
        refine sr ?_
        refine Tp rfl rfl (pur_ldK_b agg55 rfl rfl (lb rfl) rfl) rfl ?_
        obtain ⟨r_13, h_14, H⟩ := bind_inv H
        refine TO_cons rfl (TOp_callV (call_static ent34 rfl) (m_laws_toView_ok _ _ h_14) rfl rfl rfl ?_)
        refine TO_cons rfl (TOp_alloc zero59 rfl rfl ?_)
        refine TO_cons rfl (TOp_storeB sz59 rfl rfl rfl rfl rfl rfl rfl (by decide) (lb rfl) rfl ?_)
        refine TO_st (σ' := [.box [(sl tRelation aA0.database.relations), (sl tFact aA0.database.facts), (intA aA0.query.variableCount), (sl tAtom aA0.query.atoms), (sl tInt aA0.query.free), (sl (tSl tInt) aA0.certainRows), (sl (tSl tInt) aA0.uncertainRows)], .box [(sl tRelation aB1.database.relations), (sl tFact aB1.database.facts), (intA aB1.query.variableCount), (sl tAtom aB1.query.atoms), (sl tInt aB1.query.free), (sl (tSl tInt) aB1.certainRows), (sl (tSl tInt) aB1.uncertainRows)], .box [(sl tRelation r_13.database.relations), (sl tFact r_13.database.facts), (intA r_13.query.variableCount), (sl tAtom r_13.query.atoms), (sl tInt r_13.query.free), (sl (tSl tInt) r_13.certainRows), (sl (tSl tInt) r_13.uncertainRows)]]) rfl ?_
        refine TO_nil ?_
        refine T_env (E' := [(2, (.b 0 0)), (3, (.b 1 0)), (6, (boolA r_11)), (7, (.b 2 0))]) ⟨rfl, rfl, rfl, rfl, trivial⟩ ?_
        refine sr ?_
        refine Tp rfl rfl (pur_ldK_b agg55 rfl rfl (lb rfl) rfl) rfl ?_
        obtain ⟨r_15, h_16, H⟩ := bind_inv H
        refine TO_cons rfl (TOp_callV (call_static ent34 rfl) (m_laws_toView_ok _ _ h_16) rfl rfl rfl ?_)
        refine TO_cons rfl (TOp_alloc zero59 rfl rfl ?_)
        refine TO_cons rfl (TOp_storeB sz59 rfl rfl rfl rfl rfl rfl rfl (by decide) (lb rfl) rfl ?_)
        refine TO_st (σ' := [.box [(sl tRelation aA0.database.relations), (sl tFact aA0.database.facts), (intA aA0.query.variableCount), (sl tAtom aA0.query.atoms), (sl tInt aA0.query.free), (sl (tSl tInt) aA0.certainRows), (sl (tSl tInt) aA0.uncertainRows)], .box [(sl tRelation aB1.database.relations), (sl tFact aB1.database.facts), (intA aB1.query.variableCount), (sl tAtom aB1.query.atoms), (sl tInt aB1.query.free), (sl (tSl tInt) aB1.certainRows), (sl (tSl tInt) aB1.uncertainRows)], .box [(sl tRelation r_13.database.relations), (sl tFact r_13.database.facts), (intA r_13.query.variableCount), (sl tAtom r_13.query.atoms), (sl tInt r_13.query.free), (sl (tSl tInt) r_13.certainRows), (sl (tSl tInt) r_13.uncertainRows)], .box [(sl tRelation r_15.database.relations), (sl tFact r_15.database.facts), (intA r_15.query.variableCount), (sl tAtom r_15.query.atoms), (sl tInt r_15.query.free), (sl (tSl tInt) r_15.certainRows), (sl (tSl tInt) r_15.uncertainRows)]]) rfl ?_
        refine TO_nil ?_
        refine T_env (E' := [(2, (.b 0 0)), (3, (.b 1 0)), (6, (boolA r_11)), (7, (.b 2 0)), (8, (.b 3 0))]) ⟨rfl, rfl, rfl, rfl, rfl, trivial⟩ ?_
        refine sr ?_
        refine Tp rfl rfl (pur_ldK_b agg59 rfl rfl (lb rfl) rfl) rfl ?_
        refine Tp rfl rfl (pur_ldK_b agg59 rfl rfl (lb rfl) rfl) rfl ?_
        obtain ⟨r_17, h_18, H⟩ := bind_inv H
        refine TO_cons rfl (TOp_callV (call_static ent35 rfl) (m_impl_EqualViews_ok _ _ _ h_18) rfl rfl rfl ?_)
        refine Tp rfl rfl (pur_assign rfl) rfl ?_
        refine TO_nil ?_
        refine T_env (E' := [(2, (.b 0 0)), (3, (.b 1 0)), (6, (boolA r_11)), (7, (.b 2 0)), (8, (.b 3 0)), (9, (boolA r_17))]) ⟨rfl, rfl, rfl, rfl, rfl, rfl, trivial⟩ ?_
        refine T_seq ?_
        refine sr ?_
        refine Tp rfl rfl (pur_move rfl) rfl ?_
        refine Tp rfl rfl (pur_move rfl) rfl ?_
        refine Tp rfl rfl (pur_neqB (by kernel_rfl) rfl rfl rfl) rfl ?_
        refine TO_nil ?_
        refine T_env (E' := [(2, (.b 0 0)), (3, (.b 1 0)), (7, (.b 2 0)), (8, (.b 3 0)), (34, (boolA (r_17 != r_11)))]) ⟨rfl, rfl, rfl, rfl, rfl, trivial⟩ ?_
        refine T_cond (t := (r_17 != r_11)) rfl (fun c_19 => ?_) (fun c_19 => ?_)
        · replace H := cond_t c_19 H
          refine sr ?_
          refine Tp rfl rfl (pur_assign rfl) rfl ?_
          refine TO_nil ?_
          refine T_env (E' := [(4, (boolA false))]) ⟨rfl, trivial⟩ ?_
          refine T_ret ?_
          refine then_ret ?_
          obtain rfl := some_inj H
          refine end_ret (.tmp .nil) rfl rfl ⟨?_, rfl⟩
          rfl
        · replace H := cond_f c_19 H
          refine T_skip ?_
          refine T_env (E' := [(2, (.b 0 0)), (3, (.b 1 0)), (7, (.b 2 0)), (8, (.b 3 0))]) ⟨rfl, rfl, rfl, rfl, trivial⟩ ?_
          refine T_seq ?_
          obtain ⟨r_20, h_21, H⟩ := bind_inv H
          obtain ⟨r_22, h_23, H⟩ := bind_inv H
          refine T_cutX (fun (_ : Unit) => True) (fun _ => [(3, (.b 1 0)), (8, (.b 3 0)), (39, (boolA (!r_22)))]) (fun _ => [.box [(sl tRelation aA0.database.relations), (sl tFact aA0.database.facts), (intA aA0.query.variableCount), (sl tAtom aA0.query.atoms), (sl tInt aA0.query.free), (sl (tSl tInt) aA0.certainRows), (sl (tSl tInt) aA0.uncertainRows)], .box [(sl tRelation aB1.database.relations), (sl tFact aB1.database.facts), (intA aB1.query.variableCount), (sl tAtom aB1.query.atoms), (sl tInt aB1.query.free), (sl (tSl tInt) aB1.certainRows), (sl (tSl tInt) aB1.uncertainRows)], .box [(sl tRelation r_13.database.relations), (sl tFact r_13.database.facts), (intA r_13.query.variableCount), (sl tAtom r_13.query.atoms), (sl tInt r_13.query.free), (sl (tSl tInt) r_13.certainRows), (sl (tSl tInt) r_13.uncertainRows)], .box [(sl tRelation r_15.database.relations), (sl tFact r_15.database.facts), (intA r_15.query.variableCount), (sl tAtom r_15.query.atoms), (sl tInt r_15.query.free), (sl (tSl tInt) r_15.certainRows), (sl (tSl tInt) r_15.uncertainRows)]]) ?_ ?_
          · skip
            refine T_regionP mixed ?_
            refine TA_have 2 #[true, true, true, false, false] [(3, (.b 1 0)), (8, (.b 3 0)), (35, (.g (tView.enc r_13))), (37, (.g (tView.enc r_20)))] [.box [(sl tRelation aA0.database.relations), (sl tFact aA0.database.facts), (intA aA0.query.variableCount), (sl tAtom aA0.query.atoms), (sl tInt aA0.query.free), (sl (tSl tInt) aA0.certainRows), (sl (tSl tInt) aA0.uncertainRows)], .box [(sl tRelation aB1.database.relations), (sl tFact aB1.database.facts), (intA aB1.query.variableCount), (sl tAtom aB1.query.atoms), (sl tInt aB1.query.free), (sl (tSl tInt) aB1.certainRows), (sl (tSl tInt) aB1.uncertainRows)], .box [(sl tRelation r_13.database.relations), (sl tFact r_13.database.facts), (intA r_13.query.variableCount), (sl tAtom r_13.query.atoms), (sl tInt r_13.query.free), (sl (tSl tInt) r_13.certainRows), (sl (tSl tInt) r_13.uncertainRows)], .box [(sl tRelation r_15.database.relations), (sl tFact r_15.database.facts), (intA r_15.query.variableCount), (sl tAtom r_15.query.atoms), (sl tInt r_15.query.free), (sl (tSl tInt) r_15.certainRows), (sl (tSl tInt) r_15.uncertainRows)]] ?_ (fun hj0_14 => ?_)
            · skip
              refine t1 3 (by kernel_rfl) rfl rfl (TOp_callV (call_static ent36 rfl) (m_laws_eqView_ok _ _ _ h_23) rfl rfl rfl ?_)
              refine tf 4 rfl (purI_not rfl rfl) rfl rfl (by kernel_rfl) ?_
              exact TA_nil (by kernel_rfl) (joined () (wp 4 (lb rfl) rfl rfl rfl rfl ⟨rfl, rfl, rfl, trivial⟩) trivial)
            refine TA_have 3 #[true, true, false, false, false] [(3, (.b 1 0)), (8, (.b 3 0)), (35, (.g (tView.enc r_13))), (36, (.g (tView.enc aA0)))] [.box [(sl tRelation aA0.database.relations), (sl tFact aA0.database.facts), (intA aA0.query.variableCount), (sl tAtom aA0.query.atoms), (sl tInt aA0.query.free), (sl (tSl tInt) aA0.certainRows), (sl (tSl tInt) aA0.uncertainRows)], .box [(sl tRelation aB1.database.relations), (sl tFact aB1.database.facts), (intA aB1.query.variableCount), (sl tAtom aB1.query.atoms), (sl tInt aB1.query.free), (sl (tSl tInt) aB1.certainRows), (sl (tSl tInt) aB1.uncertainRows)], .box [(sl tRelation r_13.database.relations), (sl tFact r_13.database.facts), (intA r_13.query.variableCount), (sl tAtom r_13.query.atoms), (sl tInt r_13.query.free), (sl (tSl tInt) r_13.certainRows), (sl (tSl tInt) r_13.uncertainRows)], .box [(sl tRelation r_15.database.relations), (sl tFact r_15.database.facts), (intA r_15.query.variableCount), (sl tAtom r_15.query.atoms), (sl tInt r_15.query.free), (sl (tSl tInt) r_15.certainRows), (sl (tSl tInt) r_15.uncertainRows)]] ?_ (fun hj1_14 => ?_)
            · skip
              refine t1 2 (by kernel_rfl) rfl rfl (TOp_callV (call_static ent34 rfl) (m_laws_toView_ok _ _ h_21) rfl rfl rfl ?_)
              exact tj hj0_14 rfl (wp 4 (lb rfl) rfl rfl rfl rfl ⟨rfl, rfl, rfl, rfl, trivial⟩)
            refine TA_all [0, 1] (by kernel_rfl) (by decide) ⟨?_, ?_, trivial⟩
            · skip
              refine ⟨_, rfl, rfl, (TOp_pure (pur_ldK_b agg59 rfl rfl (lb rfl) rfl) rfl ?_)⟩
              refine t1 1 (by kernel_rfl) rfl rfl (TOp_pure (pur_ldK_b agg55 rfl rfl (lb rfl) rfl) rfl ?_)
              exact tj hj1_14 rfl (wp 4 (lb rfl) rfl rfl rfl rfl ⟨rfl, rfl, rfl, rfl, trivial⟩)
            · skip
              refine ⟨_, rfl, rfl, (TOp_pure (pur_ldK_b agg55 rfl rfl (lb rfl) rfl) rfl ?_)⟩
              refine TA_all [0, 2] (by kernel_rfl) (by decide) ⟨?_, ?_, trivial⟩
              · skip
                refine ⟨_, rfl, rfl, (TOp_pure (pur_ldK_b agg59 rfl rfl (lb rfl) rfl) rfl ?_)⟩
                exact tj hj1_14 rfl (wp 4 (lb rfl) rfl rfl rfl rfl ⟨rfl, rfl, rfl, rfl, trivial⟩)
              · skip
                refine ⟨_, rfl, rfl, (TOp_callV (call_static ent34 rfl) (m_laws_toView_ok _ _ h_21) rfl rfl rfl ?_)⟩
                refine t1 0 (by kernel_rfl) rfl rfl (TOp_pure (pur_ldK_b agg59 rfl rfl (lb rfl) rfl) rfl ?_)
                exact tj hj0_14 rfl (wp 4 (lb rfl) rfl rfl rfl rfl ⟨rfl, rfl, rfl, rfl, trivial⟩)
          · rintro _ _
            refine T_env (E' := [(3, (.b 1 0)), (8, (.b 3 0)), (39, (boolA (!r_22)))]) ⟨rfl, rfl, rfl, trivial⟩ ?_
            refine T_cond (t := (!r_22)) rfl (fun c_24 => ?_) (fun c_24 => ?_)
            · replace H := cond_t c_24 H
              refine sr ?_
              refine Tp rfl rfl (pur_assign rfl) rfl ?_
              refine TO_nil ?_
              refine T_env (E' := [(4, (boolA false))]) ⟨rfl, trivial⟩ ?_
              refine T_ret ?_
              refine then_ret ?_
              obtain rfl := some_inj H
              refine end_ret (.tmp .nil) rfl rfl ⟨?_, rfl⟩
              rfl
            · replace H := cond_f c_24 H
              refine T_skip ?_
              refine T_env (E' := [(3, (.b 1 0)), (8, (.b 3 0))]) ⟨rfl, rfl, trivial⟩ ?_
              refine T_seq ?_
              obtain ⟨r_25, h_26, H⟩ := bind_inv H
              obtain ⟨r_27, h_28, H⟩ := bind_inv H
              refine T_cutX (fun (_ : Unit) => True) (fun _ => [(44, (boolA (!r_27)))]) (fun _ => [.box [(sl tRelation aA0.database.relations), (sl tFact aA0.database.facts), (intA aA0.query.variableCount), (sl tAtom aA0.query.atoms), (sl tInt aA0.query.free), (sl (tSl tInt) aA0.certainRows), (sl (tSl tInt) aA0.uncertainRows)], .box [(sl tRelation aB1.database.relations), (sl tFact aB1.database.facts), (intA aB1.query.variableCount), (sl tAtom aB1.query.atoms), (sl tInt aB1.query.free), (sl (tSl tInt) aB1.certainRows), (sl (tSl tInt) aB1.uncertainRows)], .box [(sl tRelation r_13.database.relations), (sl tFact r_13.database.facts), (intA r_13.query.variableCount), (sl tAtom r_13.query.atoms), (sl tInt r_13.query.free), (sl (tSl tInt) r_13.certainRows), (sl (tSl tInt) r_13.uncertainRows)], .box [(sl tRelation r_15.database.relations), (sl tFact r_15.database.facts), (intA r_15.query.variableCount), (sl tAtom r_15.query.atoms), (sl tInt r_15.query.free), (sl (tSl tInt) r_15.certainRows), (sl (tSl tInt) r_15.uncertainRows)]]) ?_ ?_
              · skip
                refine T_regionP mixed ?_
                refine TA_have 2 #[true, true, true, false, false] [(40, (.g (tView.enc r_15))), (42, (.g (tView.enc r_25)))] [.box [(sl tRelation aA0.database.relations), (sl tFact aA0.database.facts), (intA aA0.query.variableCount), (sl tAtom aA0.query.atoms), (sl tInt aA0.query.free), (sl (tSl tInt) aA0.certainRows), (sl (tSl tInt) aA0.uncertainRows)], .box [(sl tRelation aB1.database.relations), (sl tFact aB1.database.facts), (intA aB1.query.variableCount), (sl tAtom aB1.query.atoms), (sl tInt aB1.query.free), (sl (tSl tInt) aB1.certainRows), (sl (tSl tInt) aB1.uncertainRows)], .box [(sl tRelation r_13.database.relations), (sl tFact r_13.database.facts), (intA r_13.query.variableCount), (sl tAtom r_13.query.atoms), (sl tInt r_13.query.free), (sl (tSl tInt) r_13.certainRows), (sl (tSl tInt) r_13.uncertainRows)], .box [(sl tRelation r_15.database.relations), (sl tFact r_15.database.facts), (intA r_15.query.variableCount), (sl tAtom r_15.query.atoms), (sl tInt r_15.query.free), (sl (tSl tInt) r_15.certainRows), (sl (tSl tInt) r_15.uncertainRows)]] ?_ (fun hj0_16 => ?_)
                · skip
                  refine t1 3 (by kernel_rfl) rfl rfl (TOp_callV (call_static ent36 rfl) (m_laws_eqView_ok _ _ _ h_28) rfl rfl rfl ?_)
                  refine tf 4 rfl (purI_not rfl rfl) rfl rfl (by kernel_rfl) ?_
                  exact TA_nil (by kernel_rfl) (joined () (wp 4 (lb rfl) rfl rfl rfl rfl ⟨rfl, trivial⟩) trivial)
                refine TA_have 3 #[true, true, false, false, false] [(40, (.g (tView.enc r_15))), (41, (.g (tView.enc aB1)))] [.box [(sl tRelation aA0.database.relations), (sl tFact aA0.database.facts), (intA aA0.query.variableCount), (sl tAtom aA0.query.atoms), (sl tInt aA0.query.free), (sl (tSl tInt) aA0.certainRows), (sl (tSl tInt) aA0.uncertainRows)], .box [(sl tRelation aB1.database.relations), (sl tFact aB1.database.facts), (intA aB1.query.variableCount), (sl tAtom aB1.query.atoms), (sl tInt aB1.query.free), (sl (tSl tInt) aB1.certainRows), (sl (tSl tInt) aB1.uncertainRows)], .box [(sl tRelation r_13.database.relations), (sl tFact r_13.database.facts), (intA r_13.query.variableCount), (sl tAtom r_13.query.atoms), (sl tInt r_13.query.free), (sl (tSl tInt) r_13.certainRows), (sl (tSl tInt) r_13.uncertainRows)], .box [(sl tRelation r_15.database.relations), (sl tFact r_15.database.facts), (intA r_15.query.variableCount), (sl tAtom r_15.query.atoms), (sl tInt r_15.query.free), (sl (tSl tInt) r_15.certainRows), (sl (tSl tInt) r_15.uncertainRows)]] ?_ (fun hj1_16 => ?_)
                · skip
                  refine t1 2 (by kernel_rfl) rfl rfl (TOp_callV (call_static ent34 rfl) (m_laws_toView_ok _ _ h_26) rfl rfl rfl ?_)
                  exact tj hj0_16 rfl (wp 4 (lb rfl) rfl rfl rfl rfl ⟨rfl, rfl, trivial⟩)
                refine TA_all [0, 1] (by kernel_rfl) (by decide) ⟨?_, ?_, trivial⟩
                · skip
                  refine ⟨_, rfl, rfl, (TOp_pure (pur_ldK_b agg59 rfl rfl (lb rfl) rfl) rfl ?_)⟩
                  refine t1 1 (by kernel_rfl) rfl rfl (TOp_pure (pur_ldK_b agg55 rfl rfl (lb rfl) rfl) rfl ?_)
                  exact tj hj1_16 rfl (wp 4 (lb rfl) rfl rfl rfl rfl ⟨rfl, rfl, trivial⟩)
                · skip
                  refine ⟨_, rfl, rfl, (TOp_pure (pur_ldK_b agg55 rfl rfl (lb rfl) rfl) rfl ?_)⟩
                  refine TA_all [0, 2] (by kernel_rfl) (by decide) ⟨?_, ?_, trivial⟩
                  · skip
                    refine ⟨_, rfl, rfl, (TOp_pure (pur_ldK_b agg59 rfl rfl (lb rfl) rfl) rfl ?_)⟩
                    exact tj hj1_16 rfl (wp 4 (lb rfl) rfl rfl rfl rfl ⟨rfl, rfl, trivial⟩)
                  · skip
                    refine ⟨_, rfl, rfl, (TOp_callV (call_static ent34 rfl) (m_laws_toView_ok _ _ h_26) rfl rfl rfl ?_)⟩
                    refine t1 0 (by kernel_rfl) rfl rfl (TOp_pure (pur_ldK_b agg59 rfl rfl (lb rfl) rfl) rfl ?_)
                    exact tj hj0_16 rfl (wp 4 (lb rfl) rfl rfl rfl rfl ⟨rfl, rfl, trivial⟩)
              · rintro _ _
                refine T_env (E' := [(44, (boolA (!r_27)))]) ⟨rfl, trivial⟩ ?_
                refine T_cond (t := (!r_27)) rfl (fun c_29 => ?_) (fun c_29 => ?_)
                · replace H := cond_t c_29 H
                  refine sr ?_
                  refine Tp rfl rfl (pur_assign rfl) rfl ?_
                  refine TO_nil ?_
                  refine T_env (E' := [(4, (boolA false))]) ⟨rfl, trivial⟩ ?_
                  refine T_ret ?_
                  refine then_ret ?_
                  obtain rfl := some_inj H
                  refine end_ret (.tmp .nil) rfl rfl ⟨?_, rfl⟩
                  rfl
                · replace H := cond_f c_29 H
                  refine T_skip ?_
                  refine T_env (E' := []) trivial ?_
                  refine sr ?_
                  refine Tp rfl rfl (pur_assign rfl) rfl ?_
                  refine TO_nil ?_
                  refine T_env (E' := [(4, (boolA true))]) ⟨rfl, trivial⟩ ?_
                  refine T_ret ?_
                  obtain rfl := some_inj H
                  refine end_ret (.tmp .nil) rfl rfl ⟨?_, rfl⟩
                  rfl
end Go.Proofs.Ytjdpolnakhmkmaa

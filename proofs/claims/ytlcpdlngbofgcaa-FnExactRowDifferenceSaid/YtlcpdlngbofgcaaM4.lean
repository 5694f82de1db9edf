/- Walks. -/
import Derived.Test.YtlcpdlngbofgcaaM1
import Derived.Test.YtlcpdlngbofgcaaM3
set_option linter.unusedVariables false
set_option linter.unusedSimpArgs false
set_option maxRecDepth 4000
namespace Go.Proofs.Ytlcpdlngbofgcaa
open Go Go.Proofs Go.Sep
set_option maxHeartbeats 1000000 in
/-- impl.RowDifference -/
theorem m_impl_RowDifference_own (a0 : (List (List Int))) (b1 : (List (List Int))) (r : (List (List Int))) (H : m_impl_RowDifference a0 b1 = some r) : FnO prg 17 [(sl (tSl tInt) a0), (sl (tSl tInt) b1)] (.m [0] 0 r.length (tSl tInt).k) [.row (flat (tSl tInt).own r)] := by
  unfold m_impl_RowDifference at H
  refine fnO_of_T Try.func17 rfl rfl (Nat.le_of_ble_eq_true rfl) ?_
  refine T_env (E' := [(0, (sl (tSl tInt) a0)), (1, (sl (tSl tInt) b1))]) ⟨rfl, rfl, trivial⟩ ?_
  refine T_seq ?_
  refine T_region ?_
  refine TO_cons rfl (TOp_pure (pur_assign rfl) rfl ?_)
  refine TO_nil ?_
  refine T_env (E' := [(0, (sl (tSl tInt) a0)), (1, (sl (tSl tInt) b1))]) ⟨rfl, rfl, trivial⟩ ?_
  refine T_seq ?_
  refine T_region ?_
  refine TO_cons rfl (TOp_lit (nn := 0) (k := 1) sl22 zero33 rfl rfl rfl rfl (by decide) ?_)
  refine TO_st (σ' := [.row (flat (tSl tInt).own ([] : (List (List Int))))]) rfl ?_
  refine TO_cons rfl (TOp_pure (pur_assign rfl) rfl ?_)
  refine TO_nil ?_
  refine T_env (E' := [(0, (sl (tSl tInt) a0)), (1, (sl (tSl tInt) b1)), (5, (.m [0] 0 ([] : (List (List Int))).length (tSl tInt).k))]) ⟨rfl, rfl, rfl, trivial⟩ ?_
  refine T_seq ?_
  refine T_seq ?_
  refine T_region ?_
  refine TO_cons rfl (TOp_pure (pur_move rfl) rfl ?_)
  refine TO_cons rfl (TOp_pure (pur_lenT (T := (tSl tInt)) sl22 rfl rfl) rfl ?_)
  refine TO_cons rfl (TOp_pure (pur_move rfl) rfl ?_)
  refine TO_nil ?_
  refine T_env (E' := [(1, (sl (tSl tInt) b1)), (5, (.m [0] 0 ([] : (List (List Int))).length (tSl tInt).k)), (9, (sl (tSl tInt) a0)), (10, (intA (a0.length : Int))), (11, (intA 0))]) ⟨rfl, rfl, rfl, rfl, rfl, trivial⟩ ?_
  obtain ⟨O2_, L2_, N2_⟩ := bind_inv H
  clear H
  obtain ⟨B2_, hb2, L2_⟩ := gen_forS L2_
  refine T_block ?_
  refine T_loopX (fun k => fun (x_ : Nat × (List (List Int))) => k = a0.length - x_.1 ∧ forS B2_ (a0.drop x_.1) (x_.1 : Int) x_.2 = some O2_) (fun (x_ : Nat × (List (List Int))) => [(1, (sl (tSl tInt) b1)), (5, (.m [0] 0 x_.2.length (tSl tInt).k)), (9, (sl (tSl tInt) a0)), (10, (intA (a0.length : Int))), (11, (intA (x_.1 : Int)))]) (fun (x_ : Nat × (List (List Int))) => [.row (flat (tSl tInt).own x_.2)]) _ (0, ([] : (List (List Int)))) (WeakL.to 1 (Nat.le_of_ble_eq_true rfl) rfl rfl rfl rfl ⟨leR rfl, leR rfl, leR rfl, leR rfl, leR rfl, trivial⟩) ⟨rfl, L2_⟩ ?_
  rintro _ ⟨t_1, out5⟩ ⟨rfl, L2_⟩
  refine T_env (E' := [(1, (sl (tSl tInt) b1)), (5, (.m [0] 0 out5.length (tSl tInt).k)), (9, (sl (tSl tInt) a0)), (10, (intA (a0.length : Int))), (11, (intA (t_1 : Int)))]) ⟨rfl, rfl, rfl, rfl, rfl, trivial⟩ ?_
  refine T_st (σ' := [.row (flat (tSl tInt).own out5)]) rfl ?_
  refine T_fact (len_sl (T := (tSl tInt)) (.tmp 9) rfl) (fun hl2 => ?_)
  refine T_seq ?_
  refine T_region ?_
  refine TO_cons rfl (TOp_pure (pur_lss rfl rfl rfl) rfl ?_)
  refine TO_nil ?_
  refine T_env (E' := [(1, (sl (tSl tInt) b1)), (5, (.m [0] 0 out5.length (tSl tInt).k)), (9, (sl (tSl tInt) a0)), (10, (intA (a0.length : Int))), (11, (intA (t_1 : Int))), (12, (boolA (decide ((t_1 : Int) < (a0.length : Int)))))]) ⟨rfl, rfl, rfl, rfl, rfl, rfl, trivial⟩ ?_
  refine T_seq ?_
  refine T_cond (t := decide ((t_1 : Int) < (a0.length : Int))) rfl (fun d2 => ?_) (fun d2 => ?_)
  · replace d2 := of_decide_eq_true d2
    obtain ⟨x_t_1, hx_t_1⟩ : ∃ v, (a0)[t_1]? = some v := ⟨_, List.getElem?_eq_getElem (by omega)⟩
    obtain ⟨C2_, H, K2_⟩ := forS_step L2_ hx_t_1
    rw [hb2] at H
    refine T_skip ?_
    refine T_env (E' := [(1, (sl (tSl tInt) b1)), (5, (.m [0] 0 out5.length (tSl tInt).k)), (9, (sl (tSl tInt) a0)), (10, (intA (a0.length : Int))), (11, (intA (t_1 : Int)))]) ⟨rfl, rfl, rfl, rfl, rfl, trivial⟩ ?_
    refine T_seq ?_
    refine T_block ?_
    refine T_seq ?_
    refine T_region ?_
    refine TO_cons rfl (TOp_pure (pur_ixT (T := (tSl tInt)) sl22 rfl rfl rfl hx_t_1 rfl) rfl ?_)
    refine TO_cons rfl (TOp_pure (pur_ldT (T := (tSl tInt)) (i := t_1) (off := 0) rfl one33 rfl rfl hx_t_1 rfl) rfl ?_)
    refine TO_cons rfl (TOp_alloc zero33 rfl rfl ?_)
    refine TO_cons rfl (TOp_storeB sz33 rfl rfl rfl rfl rfl rfl rfl (by decide) (Nat.le_of_ble_eq_true rfl) rfl ?_)
    refine TO_st (σ' := [.row (flat (tSl tInt).own out5), .box [(sl tInt x_t_1)]]) rfl ?_
    refine TO_nil ?_
    refine T_env (E' := [(1, (sl (tSl tInt) b1)), (5, (.m [0] 0 out5.length (tSl tInt).k)), (7, (.b 1 0)), (9, (sl (tSl tInt) a0)), (10, (intA (a0.length : Int))), (11, (intA (t_1 : Int)))]) ⟨rfl, rfl, rfl, rfl, rfl, rfl, trivial⟩ ?_
    refine T_seq ?_
    refine T_region ?_
    refine TO_cons rfl (TOp_pure (pur_move rfl) rfl ?_)
    refine TO_cons rfl (TOp_pure (pur_makeFunc rfl) rfl ?_)
    obtain ⟨r_3, h_4, H⟩ := bind_inv H
    refine TO_cons rfl (TOp_callB (call_static ent48 rfl) (frz_cons (frz_loose rfl) (frz_cons (frzOK_f (frz_cons (frzOK_b (xs := [(sl tInt x_t_1)]) (ys := [(sl tInt x_t_1)]) rfl rfl rfl) frz_nil).1 (frz_cons (frzOK_b (xs := [(sl tInt x_t_1)]) (ys := [(sl tInt x_t_1)]) rfl rfl rfl) frz_nil).2) frz_nil)).1 (frz_cons (frz_loose rfl) (frz_cons (frzOK_f (frz_cons (frzOK_b (xs := [(sl tInt x_t_1)]) (ys := [(sl tInt x_t_1)]) rfl rfl rfl) frz_nil).1 (frz_cons (frzOK_b (xs := [(sl tInt x_t_1)]) (ys := [(sl tInt x_t_1)]) rfl rfl rfl) frz_nil).2) frz_nil)).2 (m_slices_ContainsFunc_int_int_ok _ (fun x0 => m_impl_RowDifference_1 x0 x_t_1) 49 [(.q [(sl tInt x_t_1)] 0)] ent49 rfl (fun x0 r h => m_impl_RowDifference_1_ok x0 x_t_1 r h) _ h_4) rfl ?_)
    refine TO_cons rfl (TOp_pure (pur_not rfl rfl) rfl ?_)
    refine TO_nil ?_
    refine T_env (E' := [(1, (sl (tSl tInt) b1)), (5, (.m [0] 0 out5.length (tSl tInt).k)), (7, (.b 1 0)), (9, (sl (tSl tInt) a0)), (10, (intA (a0.length : Int))), (11, (intA (t_1 : Int))), (18, (boolA (!r_3)))]) ⟨rfl, rfl, rfl, rfl, rfl, rfl, rfl, trivial⟩ ?_
    refine T_cond (t := (!r_3)) rfl (fun c_5 => ?_) (fun c_5 => ?_)
    · replace H := cond_t c_5 H
      refine T_region ?_
      refine TO_cons rfl (TOp_pure (pur_move rfl) rfl ?_)
      refine TO_cons rfl (TOp_lit (nn := 0) (k := 1) sl33 zero3 rfl rfl rfl rfl (by decide) ?_)
      refine TO_st (σ' := [.row (flat (tSl tInt).own out5), .box [(sl tInt x_t_1)], .row (flat tInt.enc ([] : (List Int)))]) rfl ?_
      refine TO_cons rfl (TOp_pure (pur_ld_b one33 rfl rfl rfl rfl) rfl ?_)
      obtain ⟨us_6, h_7, H⟩ := bind_inv H
      refine TO_cons rfl (TOp_appZ (T := tInt) (f := tInt.enc) (xs := ([] : (List Int))) (ys := x_t_1) tInt.len sl33 zero3 rfl bytes3 (by decide) rfl rfl rfl rfl (src_T (T := tInt) rfl) (flat_cell tInt _) h_7 (Nat.le_of_ble_eq_true rfl) ?_)
      refine TO_env (E' := [(1, (sl (tSl tInt) b1)), (5, (.m [0] 0 out5.length (tSl tInt).k)), (7, (.b 1 0)), (9, (sl (tSl tInt) a0)), (10, (intA (a0.length : Int))), (11, (intA (t_1 : Int))), (18, (boolA (!r_3))), (19, (.m [0] 0 out5.length (tSl tInt).k)), (21, (sl tInt x_t_1)), (22, (.m [2] 0 us_6.length tInt.k))]) ⟨rfl, rfl, rfl, rfl, rfl, rfl, rfl, rfl, rfl, rfl, trivial⟩ ?_
      refine TO_st (σ' := [.row (flat (tSl tInt).own out5), .box [(sl tInt x_t_1)], .row (flat tInt.enc us_6), .dead]) rfl ?_
      refine TO_cons rfl (TOp_litB (nn := 1) (k := 1) sl22 zero33 rfl rfl rfl rfl (by decide) ?_)
      refine TO_st (σ' := [.row (flat (tSl tInt).own out5), .box [(sl tInt x_t_1)], .row (flat tInt.enc us_6), .dead, .box [(.m [2] 0 us_6.length tInt.k)]]) rfl ?_
      refine TO_boxify 0 rfl (Nat.le_of_ble_eq_true rfl) ?_
      obtain ⟨us_8, h_9, H⟩ := bind_inv H
      refine TO_cons rfl (TOp_appB (T := (tSl tInt)) (xs := out5) (v := us_6) sl22 zero33 rfl bytes33 (by decide) rfl rfl rfl rfl rfl rfl rfl rfl h_9 (Nat.le_of_ble_eq_true rfl) ?_)
      refine TO_env (E' := [(1, (sl (tSl tInt) b1)), (7, (.b 1 0)), (9, (sl (tSl tInt) a0)), (10, (intA (a0.length : Int))), (11, (intA (t_1 : Int))), (18, (boolA (!r_3))), (21, (sl tInt x_t_1)), (24, .m [5] 0 (out5.length + 1) (tSl tInt).k)]) ⟨rfl, rfl, rfl, rfl, rfl, rfl, rfl, rfl, trivial⟩ ?_
      refine TO_st (σ' := [.dead, .box [(sl tInt x_t_1)], .row (flat tInt.enc us_6), .dead, .box [(.m [2] 0 us_6.length tInt.k)], .box (flat (tSl tInt).own out5 ++ [(.m [2] 0 us_6.length tInt.k)])]) rfl ?_
      refine TO_absorbA (pr := flat (tSl tInt).own out5) 5 0 2 rfl rfl rfl (by decide) tInt.pos (flat_len tInt.len _) (Nat.le_of_ble_eq_true rfl) (Nat.le_of_ble_eq_true rfl) rfl (nms_dead (nms_box rfl (nms_row (nms_dead (nms_box rfl (nms_box (namesA namesL_own rfl) nms_nil)))))) ?_
      refine TO_st (σ' := [.dead, .box [(sl tInt x_t_1)], .dead, .dead, .box [(.m [2] 0 us_6.length tInt.k)], .box (flat (tSl tInt).own out5 ++ [.o tInt.k (flat tInt.enc us_6)])]) rfl ?_
      refine TO_rowifyT (T := (tSl tInt)) (xs := out5) (v := us_6) 5 rfl rfl h_9 (Nat.le_of_ble_eq_true rfl) ?_
      refine TO_st (σ' := [.dead, .box [(sl tInt x_t_1)], .dead, .dead, .box [(.m [2] 0 us_6.length tInt.k)], .row (flat (tSl tInt).own us_8)]) rfl ?_
      refine TO_move 0 5 (by decide) (Nat.le_of_ble_eq_true rfl) rfl rfl (Nat.le_of_ble_eq_true rfl) ?_
      refine TO_env (E' := [(1, (sl (tSl tInt) b1)), (7, (.b 1 0)), (9, (sl (tSl tInt) a0)), (10, (intA (a0.length : Int))), (11, (intA (t_1 : Int))), (18, (boolA (!r_3))), (21, (sl tInt x_t_1)), (24, (.m [0] 0 us_8.length (tSl tInt).k))]) ⟨rfl, rfl, rfl, rfl, rfl, rfl, rfl, (congrArg (fun q => A.m [0] 0 q (tSl tInt).k) (app_len h_9)), trivial⟩ ?_
      refine TO_kill 4 (Nat.le_of_ble_eq_true rfl) ?_
      refine TO_st (σ' := [.row (flat (tSl tInt).own us_8), .box [(sl tInt x_t_1)], .dead, .dead, .dead, .dead]) rfl ?_
      refine TO_cons rfl (TOp_pure (pur_assign rfl) rfl ?_)
      refine TO_nil ?_
      refine T_env (E' := [(1, (sl (tSl tInt) b1)), (5, (.m [0] 0 us_8.length (tSl tInt).k)), (9, (sl (tSl tInt) a0)), (10, (intA (a0.length : Int))), (11, (intA (t_1 : Int)))]) ⟨rfl, rfl, rfl, rfl, rfl, trivial⟩ ?_
      refine T_region ?_
      refine TO_cons rfl (TOp_pure (pur_add rfl rfl rfl (fits64 (by omega) (by omega))) rfl ?_)
      refine TO_cons rfl (TOp_pure (pur_move rfl) rfl ?_)
      refine TO_nil ?_
      obtain rfl := some_inj H
      exact again (a0.length - (t_1 + 1)) (t_1 + 1, us_8) (by omega) (WeakL.to 1 (Nat.le_of_ble_eq_true rfl) rfl rfl rfl rfl ⟨leR rfl, leR rfl, leR rfl, leR rfl, leR rfl, trivial⟩) ⟨rfl, K2_⟩
    · replace H := cond_f c_5 H
      refine T_skip ?_
      refine T_env (E' := [(1, (sl (tSl tInt) b1)), (5, (.m [0] 0 out5.length (tSl tInt).k)), (9, (sl (tSl tInt) a0)), (10, (intA (a0.length : Int))), (11, (intA (t_1 : Int)))]) ⟨rfl, rfl, rfl, rfl, rfl, trivial⟩ ?_
      refine T_region ?_
      refine TO_cons rfl (TOp_pure (pur_add rfl rfl rfl (fits64 (by omega) (by omega))) rfl ?_)
      refine TO_cons rfl (TOp_pure (pur_move rfl) rfl ?_)
      refine TO_nil ?_
      obtain rfl := some_inj H
      exact again (a0.length - (t_1 + 1)) (t_1 + 1, out5) (by omega) (WeakL.to 1 (Nat.le_of_ble_eq_true rfl) rfl rfl rfl rfl ⟨leR rfl, leR rfl, leR rfl, leR rfl, leR rfl, trivial⟩) ⟨rfl, K2_⟩
  · replace d2 := of_decide_eq_false d2
    obtain rfl := forS_end L2_ (by omega)
    refine T_exit ?_
    refine then_exit ?_
    refine then_exit ?_
    refine block_exit ?_
    replace H := N2_
    refine T_env (E' := [(5, (.m [0] 0 out5.length (tSl tInt).k))]) ⟨rfl, trivial⟩ ?_
    refine T_seq ?_
    refine T_region ?_
    refine TO_cons rfl (TOp_pure (pur_move rfl) rfl ?_)
    refine TO_cons rfl (TOp_pure (pur_assign rfl) rfl ?_)
    refine TO_nil ?_
    refine T_env (E' := [(4, (.m [0] 0 out5.length (tSl tInt).k))]) ⟨rfl, trivial⟩ ?_
    refine T_ret ?_
    obtain rfl := some_inj H
    exact end_pick (.tmp .nil) rfl [0] (by decide) rfl rfl rfl rfl rfl rfl
theorem m_impl_RowDifference_ok (a0 : (List (List Int))) (b1 : (List (List Int))) (r : (List (List Int))) (H : m_impl_RowDifference a0 b1 = some r) : FnV prg 17 [(sl (tSl tInt) a0), (sl (tSl tInt) b1)] (sl (tSl tInt) r) := (m_impl_RowDifference_own a0 b1 r H).frz (frzT (T := (tSl tInt)) rfl)

set_option maxHeartbeats 1000000 in
/-- laws.eqIntS -/
theorem m_laws_eqIntS_ok (a0 : (List Int)) (b1 : (List Int)) (r : Bool) (H : m_laws_eqIntS a0 b1 = some r) : FnV prg 30 [(sl tInt a0), (sl tInt b1)] (boolA r) := by
  unfold m_laws_eqIntS at H
  refine fnV_of_T Try.func30 rfl rfl (Nat.le_of_ble_eq_true rfl) ?_
  refine T_env (E' := [(0, (sl tInt a0)), (1, (sl tInt b1))]) ⟨rfl, rfl, trivial⟩ ?_
  refine T_seq ?_
  refine T_region ?_
  refine TO_cons rfl (TOp_pure (pur_assign rfl) rfl ?_)
  refine TO_nil ?_
  refine T_env (E' := [(0, (sl tInt a0)), (1, (sl tInt b1))]) ⟨rfl, rfl, trivial⟩ ?_
  refine T_seq ?_
  refine T_seq ?_
  refine T_region ?_
  refine TO_cons rfl (TOp_pure (pur_move rfl) rfl ?_)
  refine TO_cons rfl (TOp_pure (pur_lenT (T := tInt) sl33 rfl rfl) rfl ?_)
  refine TO_cons rfl (TOp_pure (pur_move rfl) rfl ?_)
  refine TO_cons rfl (TOp_pure (pur_lenT (T := tInt) sl33 rfl rfl) rfl ?_)
  refine TO_cons rfl (TOp_pure (pur_neq rfl rfl rfl) rfl ?_)
  refine TO_nil ?_
  refine T_env (E' := [(0, (sl tInt a0)), (1, (sl tInt b1)), (10, (boolA (decide ((a0.length : Int) ≠ (b1.length : Int)))))]) ⟨rfl, rfl, rfl, trivial⟩ ?_
  refine T_cond (t := decide ((a0.length : Int) ≠ (b1.length : Int))) rfl (fun c_1 => ?_) (fun c_1 => ?_)
  · replace H := cond_t c_1 H
    refine T_seq ?_
    refine T_region ?_
    refine TO_cons rfl (TOp_pure (pur_assign rfl) rfl ?_)
    refine TO_nil ?_
    refine T_env (E' := [(4, (boolA false))]) ⟨rfl, trivial⟩ ?_
    refine T_ret ?_
    refine then_ret ?_
    obtain rfl := some_inj H
    refine end_ret (.tmp .nil) rfl rfl ⟨?_, rfl⟩
    rfl
  · replace H := cond_f c_1 H
    refine T_skip ?_
    refine T_env (E' := [(0, (sl tInt a0)), (1, (sl tInt b1))]) ⟨rfl, rfl, trivial⟩ ?_
    refine T_seq ?_
    refine T_seq ?_
    refine T_region ?_
    refine TO_cons rfl (TOp_pure (pur_assign rfl) rfl ?_)
    refine TO_nil ?_
    refine T_env (E' := [(0, (sl tInt a0)), (1, (sl tInt b1)), (5, (intA 0))]) ⟨rfl, rfl, rfl, trivial⟩ ?_
    obtain ⟨O3_, L3_, N3_⟩ := bind_inv H
    clear H
    obtain ⟨B3_, hb3, L3_⟩ := gen_forL L3_
    refine T_block ?_
    refine T_loopX (fun k => fun (i_2 : Nat) => k = a0.length - i_2 ∧ forL B3_ (a0.drop i_2) (i_2 : Int) () = some O3_) (fun (i_2 : Nat) => [(0, (sl tInt a0)), (1, (sl tInt b1)), (5, (intA (i_2 : Int)))]) (fun (i_2 : Nat) => []) _ (0 : Nat) (WeakL.to 0 (Nat.le_of_ble_eq_true rfl) rfl rfl rfl rfl ⟨leR rfl, leR rfl, leR rfl, trivial⟩) ⟨rfl, L3_⟩ ?_
    rintro _ i_2 ⟨rfl, L3_⟩
    refine T_env (E' := [(0, (sl tInt a0)), (1, (sl tInt b1)), (5, (intA (i_2 : Int)))]) ⟨rfl, rfl, rfl, trivial⟩ ?_
    refine T_st (σ' := []) rfl ?_
    refine T_fact (len_sl (T := tInt) (.tmp 0) rfl) (fun hl3 => ?_)
    refine T_seq ?_
    refine T_seq ?_
    refine T_region ?_
    refine TO_cons rfl (TOp_pure (pur_move rfl) rfl ?_)
    refine TO_cons rfl (TOp_pure (pur_move rfl) rfl ?_)
    refine TO_cons rfl (TOp_pure (pur_lenT (T := tInt) sl33 rfl rfl) rfl ?_)
    refine TO_cons rfl (TOp_pure (pur_lss rfl rfl rfl) rfl ?_)
    refine TO_nil ?_
    refine T_env (E' := [(0, (sl tInt a0)), (1, (sl tInt b1)), (5, (intA (i_2 : Int))), (14, (boolA (decide ((i_2 : Int) < (a0.length : Int)))))]) ⟨rfl, rfl, rfl, rfl, trivial⟩ ?_
    refine T_cond (t := decide ((i_2 : Int) < (a0.length : Int))) rfl (fun d3 => ?_) (fun d3 => ?_)
    · replace d3 := of_decide_eq_true d3
      obtain ⟨x_i_2, hx_i_2⟩ : ∃ v, (a0)[i_2]? = some v := ⟨_, List.getElem?_eq_getElem (by omega)⟩
      obtain ⟨C3_, H, K3_⟩ := forL_step L3_ hx_i_2
      rw [hb3] at H
      refine T_skip ?_
      refine T_env (E' := [(0, (sl tInt a0)), (1, (sl tInt b1)), (5, (intA (i_2 : Int)))]) ⟨rfl, rfl, rfl, trivial⟩ ?_
      refine T_seq ?_
      refine T_block ?_
      refine T_seq ?_
      refine T_regionD mixed (by kernel_rfl) ?_
      refine TQ_pure rfl (pur_move rfl) rfl ?_
      refine TQ_pure rfl (pur_move rfl) rfl ?_
      refine TQ_pure rfl (pur_ixT (T := tInt) sl33 rfl rfl rfl hx_i_2 rfl) rfl ?_
      refine TQ_pure rfl (pur_ldT (T := tInt) (i := i_2) (off := 0) rfl one3 rfl rfl hx_i_2 rfl) rfl ?_
      refine TQ_pure rfl (pur_move rfl) rfl ?_
      refine TQ_pure rfl (pur_move rfl) rfl ?_
      obtain ⟨v_4, h_5, H⟩ := bind_inv H
      obtain ⟨n_6, hz_7, hv_8⟩ := getI_inv h_5
      refine TQ_pure rfl (pur_ixT (T := tInt) sl33 rfl rfl hz_7 hv_8 rfl) rfl ?_
      refine TQ_pure rfl (pur_ldT (T := tInt) (i := n_6) (off := 0) rfl one3 rfl rfl hv_8 rfl) rfl ?_
      refine TQ_pure rfl (pur_neq rfl rfl rfl) rfl ?_
      refine TQ_nil ?_
      refine T_env (E' := [(0, (sl tInt a0)), (1, (sl tInt b1)), (5, (intA (i_2 : Int))), (25, (boolA (decide (x_i_2 ≠ v_4))))]) ⟨rfl, rfl, rfl, rfl, trivial⟩ ?_
      refine T_cond (t := decide (x_i_2 ≠ v_4)) rfl (fun c_9 => ?_) (fun c_9 => ?_)
      · replace H := cond_t c_9 H
        refine T_seq ?_
        refine T_region ?_
        refine TO_cons rfl (TOp_pure (pur_assign rfl) rfl ?_)
        refine TO_nil ?_
        refine T_env (E' := [(4, (boolA false))]) ⟨rfl, trivial⟩ ?_
        refine T_ret ?_
        refine block_ret ?_
        refine then_ret ?_
        refine then_ret ?_
        refine block_ret ?_
        refine then_ret ?_
        obtain rfl := some_inj H
        obtain rfl := some_inj K3_
        replace H := onS_r N3_
        obtain rfl := some_inj H
        refine end_ret (.tmp .nil) rfl rfl ⟨?_, rfl⟩
        rfl
      · replace H := cond_f c_9 H
        refine T_skip ?_
        refine T_env (E' := [(0, (sl tInt a0)), (1, (sl tInt b1)), (5, (intA (i_2 : Int)))]) ⟨rfl, rfl, rfl, trivial⟩ ?_
        refine T_region ?_
        refine TO_cons rfl (TOp_pure (pur_move rfl) rfl ?_)
        refine TO_cons rfl (TOp_pure (pur_add rfl rfl rfl (fits64 (by omega) (by omega))) rfl ?_)
        refine TO_cons rfl (TOp_pure (pur_assign rfl) rfl ?_)
        refine TO_nil ?_
        obtain rfl := some_inj H
        exact again (a0.length - (i_2 + 1)) (i_2 + 1) (by omega) (WeakL.to 0 (Nat.le_of_ble_eq_true rfl) rfl rfl rfl rfl ⟨leR rfl, leR rfl, leR rfl, trivial⟩) ⟨rfl, K3_⟩
    · replace d3 := of_decide_eq_false d3
      obtain rfl := forL_end L3_ (by omega)
      refine T_exit ?_
      refine then_exit ?_
      refine then_exit ?_
      refine block_exit ?_
      replace H := onS_l N3_
      refine T_env (E' := []) trivial ?_
      refine T_seq ?_
      refine T_region ?_
      refine TO_cons rfl (TOp_pure (pur_assign rfl) rfl ?_)
      refine TO_nil ?_
      refine T_env (E' := [(4, (boolA true))]) ⟨rfl, trivial⟩ ?_
      refine T_ret ?_
      obtain rfl := some_inj H
      refine end_ret (.tmp .nil) rfl rfl ⟨?_, rfl⟩
      rfl

set_option maxHeartbeats 1000000 in
/-- laws.eqIntSS -/
theorem m_laws_eqIntSS_ok (a0 : (List (List Int))) (b1 : (List (List Int))) (r : Bool) (H : m_laws_eqIntSS a0 b1 = some r) : FnV prg 18 [(sl (tSl tInt) a0), (sl (tSl tInt) b1)] (boolA r) := by
  unfold m_laws_eqIntSS at H
  refine fnV_of_T Try.func18 rfl rfl (Nat.le_of_ble_eq_true rfl) ?_
  refine T_env (E' := [(0, (sl (tSl tInt) a0)), (1, (sl (tSl tInt) b1))]) ⟨rfl, rfl, trivial⟩ ?_
  refine T_seq ?_
  refine T_region ?_
  refine TO_cons rfl (TOp_pure (pur_assign rfl) rfl ?_)
  refine TO_nil ?_
  refine T_env (E' := [(0, (sl (tSl tInt) a0)), (1, (sl (tSl tInt) b1))]) ⟨rfl, rfl, trivial⟩ ?_
  refine T_seq ?_
  refine T_seq ?_
  refine T_region ?_
  refine TO_cons rfl (TOp_pure (pur_move rfl) rfl ?_)
  refine TO_cons rfl (TOp_pure (pur_lenT (T := (tSl tInt)) sl22 rfl rfl) rfl ?_)
  refine TO_cons rfl (TOp_pure (pur_move rfl) rfl ?_)
  refine TO_cons rfl (TOp_pure (pur_lenT (T := (tSl tInt)) sl22 rfl rfl) rfl ?_)
  refine TO_cons rfl (TOp_pure (pur_neq rfl rfl rfl) rfl ?_)
  refine TO_nil ?_
  refine T_env (E' := [(0, (sl (tSl tInt) a0)), (1, (sl (tSl tInt) b1)), (10, (boolA (decide ((a0.length : Int) ≠ (b1.length : Int)))))]) ⟨rfl, rfl, rfl, trivial⟩ ?_
  refine T_cond (t := decide ((a0.length : Int) ≠ (b1.length : Int))) rfl (fun c_1 => ?_) (fun c_1 => ?_)
  · replace H := cond_t c_1 H
    refine T_seq ?_
    refine T_region ?_
    refine TO_cons rfl (TOp_pure (pur_assign rfl) rfl ?_)
    refine TO_nil ?_
    refine T_env (E' := [(4, (boolA false))]) ⟨rfl, trivial⟩ ?_
    refine T_ret ?_
    refine then_ret ?_
    obtain rfl := some_inj H
    refine end_ret (.tmp .nil) rfl rfl ⟨?_, rfl⟩
    rfl
  · replace H := cond_f c_1 H
    refine T_skip ?_
    refine T_env (E' := [(0, (sl (tSl tInt) a0)), (1, (sl (tSl tInt) b1))]) ⟨rfl, rfl, trivial⟩ ?_
    refine T_seq ?_
    refine T_seq ?_
    refine T_region ?_
    refine TO_cons rfl (TOp_pure (pur_assign rfl) rfl ?_)
    refine TO_nil ?_
    refine T_env (E' := [(0, (sl (tSl tInt) a0)), (1, (sl (tSl tInt) b1)), (5, (intA 0))]) ⟨rfl, rfl, rfl, trivial⟩ ?_
    obtain ⟨O3_, L3_, N3_⟩ := bind_inv H
    clear H
    obtain ⟨B3_, hb3, L3_⟩ := gen_forL L3_
    refine T_block ?_
    refine T_loopX (fun k => fun (i_2 : Nat) => k = a0.length - i_2 ∧ forL B3_ (a0.drop i_2) (i_2 : Int) () = some O3_) (fun (i_2 : Nat) => [(0, (sl (tSl tInt) a0)), (1, (sl (tSl tInt) b1)), (5, (intA (i_2 : Int)))]) (fun (i_2 : Nat) => []) _ (0 : Nat) (WeakL.to 0 (Nat.le_of_ble_eq_true rfl) rfl rfl rfl rfl ⟨leR rfl, leR rfl, leR rfl, trivial⟩) ⟨rfl, L3_⟩ ?_
    rintro _ i_2 ⟨rfl, L3_⟩
    refine T_env (E' := [(0, (sl (tSl tInt) a0)), (1, (sl (tSl tInt) b1)), (5, (intA (i_2 : Int)))]) ⟨rfl, rfl, rfl, trivial⟩ ?_
    refine T_st (σ' := []) rfl ?_
    refine T_fact (len_sl (T := (tSl tInt)) (.tmp 0) rfl) (fun hl3 => ?_)
    refine T_seq ?_
    refine T_seq ?_
    refine T_region ?_
    refine TO_cons rfl (TOp_pure (pur_move rfl) rfl ?_)
    refine TO_cons rfl (TOp_pure (pur_move rfl) rfl ?_)
    refine TO_cons rfl (TOp_pure (pur_lenT (T := (tSl tInt)) sl22 rfl rfl) rfl ?_)
    refine TO_cons rfl (TOp_pure (pur_lss rfl rfl rfl) rfl ?_)
    refine TO_nil ?_
    refine T_env (E' := [(0, (sl (tSl tInt) a0)), (1, (sl (tSl tInt) b1)), (5, (intA (i_2 : Int))), (14, (boolA (decide ((i_2 : Int) < (a0.length : Int)))))]) ⟨rfl, rfl, rfl, rfl, trivial⟩ ?_
    refine T_cond (t := decide ((i_2 : Int) < (a0.length : Int))) rfl (fun d3 => ?_) (fun d3 => ?_)
    · replace d3 := of_decide_eq_true d3
      obtain ⟨x_i_2, hx_i_2⟩ : ∃ v, (a0)[i_2]? = some v := ⟨_, List.getElem?_eq_getElem (by omega)⟩
      obtain ⟨C3_, H, K3_⟩ := forL_step L3_ hx_i_2
      rw [hb3] at H
      refine T_skip ?_
      refine T_env (E' := [(0, (sl (tSl tInt) a0)), (1, (sl (tSl tInt) b1)), (5, (intA (i_2 : Int)))]) ⟨rfl, rfl, rfl, trivial⟩ ?_
      refine T_seq ?_
      refine T_block ?_
      refine T_seq ?_
      refine T_regionD mixed (by kernel_rfl) ?_
      refine TQ_pure rfl (pur_move rfl) rfl ?_
      refine TQ_pure rfl (pur_move rfl) rfl ?_
      refine TQ_pure rfl (pur_ixT (T := (tSl tInt)) sl22 rfl rfl rfl hx_i_2 rfl) rfl ?_
      refine TQ_pure rfl (pur_ldT (T := (tSl tInt)) (i := i_2) (off := 0) rfl one33 rfl rfl hx_i_2 rfl) rfl ?_
      refine TQ_pure rfl (pur_move rfl) rfl ?_
      refine TQ_pure rfl (pur_move rfl) rfl ?_
      obtain ⟨v_4, h_5, H⟩ := bind_inv H
      obtain ⟨n_6, hz_7, hv_8⟩ := getI_inv h_5
      refine TQ_pure rfl (pur_ixT (T := (tSl tInt)) sl22 rfl rfl hz_7 hv_8 rfl) rfl ?_
      refine TQ_pure rfl (pur_ldT (T := (tSl tInt)) (i := n_6) (off := 0) rfl one33 rfl rfl hv_8 rfl) rfl ?_
      obtain ⟨r_9, h_10, H⟩ := bind_inv H
      refine TQ_callV rfl (call_static ent30 rfl) (m_laws_eqIntS_ok _ _ _ h_10) rfl rfl ?_
      refine TQ_pure rfl (pur_not rfl rfl) rfl ?_
      refine TQ_nil ?_
      refine T_env (E' := [(0, (sl (tSl tInt) a0)), (1, (sl (tSl tInt) b1)), (5, (intA (i_2 : Int))), (26, (boolA (!r_9)))]) ⟨rfl, rfl, rfl, rfl, trivial⟩ ?_
      refine T_cond (t := (!r_9)) rfl (fun c_11 => ?_) (fun c_11 => ?_)
      · replace H := cond_t c_11 H
        refine T_seq ?_
        refine T_region ?_
        refine TO_cons rfl (TOp_pure (pur_assign rfl) rfl ?_)
        refine TO_nil ?_
        refine T_env (E' := [(4, (boolA false))]) ⟨rfl, trivial⟩ ?_
        refine T_ret ?_
        refine block_ret ?_
        refine then_ret ?_
        refine then_ret ?_
        refine block_ret ?_
        refine then_ret ?_
        obtain rfl := some_inj H
        obtain rfl := some_inj K3_
        replace H := onS_r N3_
        obtain rfl := some_inj H
        refine end_ret (.tmp .nil) rfl rfl ⟨?_, rfl⟩
        rfl
      · replace H := cond_f c_11 H
        refine T_skip ?_
        refine T_env (E' := [(0, (sl (tSl tInt) a0)), (1, (sl (tSl tInt) b1)), (5, (intA (i_2 : Int)))]) ⟨rfl, rfl, rfl, trivial⟩ ?_
        refine T_region ?_
        refine TO_cons rfl (TOp_pure (pur_move rfl) rfl ?_)
        refine TO_cons rfl (TOp_pure (pur_add rfl rfl rfl (fits64 (by omega) (by omega))) rfl ?_)
        refine TO_cons rfl (TOp_pure (pur_assign rfl) rfl ?_)
        refine TO_nil ?_
        obtain rfl := some_inj H
        exact again (a0.length - (i_2 + 1)) (i_2 + 1) (by omega) (WeakL.to 0 (Nat.le_of_ble_eq_true rfl) rfl rfl rfl rfl ⟨leR rfl, leR rfl, leR rfl, trivial⟩) ⟨rfl, K3_⟩
    · replace d3 := of_decide_eq_false d3
      obtain rfl := forL_end L3_ (by omega)
      refine T_exit ?_
      refine then_exit ?_
      refine then_exit ?_
      refine block_exit ?_
      replace H := onS_l N3_
      refine T_env (E' := []) trivial ?_
      refine T_seq ?_
      refine T_region ?_
      refine TO_cons rfl (TOp_pure (pur_assign rfl) rfl ?_)
      refine TO_nil ?_
      refine T_env (E' := [(4, (boolA true))]) ⟨rfl, trivial⟩ ?_
      refine T_ret ?_
      obtain rfl := some_inj H
      refine end_ret (.tmp .nil) rfl rfl ⟨?_, rfl⟩
      rfl

set_option maxHeartbeats 1000000 in
/-- laws.markIntS -/
theorem m_laws_markIntS_mut (a0 : (List Int)) (k1 : Int) (r : (Int × (List Int))) (H : m_laws_markIntS a0 k1 = some r) : FnM prg 51 [(.m [0] 0 a0.length tInt.k), (intA k1)] [flat tInt.own a0] (.int .i64 r.1) [flat tInt.own r.2] := by
  unfold m_laws_markIntS at H
  refine fnM_of_T Try.func51 rfl rfl (Nat.le_of_ble_eq_true rfl) ?_
  refine T_env (E' := [(0, (.m [0] 0 a0.length tInt.k)), (1, (intA k1))]) ⟨rfl, rfl, trivial⟩ ?_
  refine T_st (σ' := [.row (flat tInt.own a0)]) rfl ?_
  refine T_seq ?_
  refine T_region ?_
  refine TO_cons rfl (TOp_pure (pur_assign rfl) rfl ?_)
  refine TO_nil ?_
  refine T_env (E' := [(0, (.m [0] 0 a0.length tInt.k)), (1, (intA k1))]) ⟨rfl, rfl, trivial⟩ ?_
  refine T_seq ?_
  refine T_seq ?_
  refine T_region ?_
  refine TO_cons rfl (TOp_pure (pur_assign rfl) rfl ?_)
  refine TO_nil ?_
  refine T_env (E' := [(0, (.m [0] 0 a0.length tInt.k)), (1, (intA k1)), (5, (intA 0))]) ⟨rfl, rfl, rfl, trivial⟩ ?_
  obtain ⟨O2_, L2_, N2_⟩ := bind_inv H
  clear H
  obtain ⟨B2_, hb2, L2_⟩ := gen_forM L2_
  refine T_block ?_
  refine T_loopX (fun k => fun (x_ : Int × (List Int) × Int) => k = ((a0.length : Int) - x_.1).toNat ∧ 0 ≤ x_.1 ∧ forM B2_ ((a0.length : Int) - x_.1).toNat x_.1 (x_.2.1, x_.2.2) = some O2_ ∧ x_.2.1.length = a0.length) (fun (x_ : Int × (List Int) × Int) => [(0, (.m [0] 0 x_.2.1.length tInt.k)), (1, (intA x_.2.2)), (5, (intA (x_.1 : Int)))]) (fun (x_ : Int × (List Int) × Int) => [.row (flat tInt.own x_.2.1)]) _ (0, (a0, k1)) (WeakL.to 1 (Nat.le_of_ble_eq_true rfl) rfl rfl rfl rfl ⟨leR rfl, leR rfl, leR rfl, trivial⟩) ⟨rfl, Int.le_refl _, L2_, rfl⟩ ?_
  rintro _ ⟨i_1, a0m, k1⟩ ⟨rfl, hi2, L2_, hq_a0m⟩
  replace hq_a0m : a0m.length = a0.length := hq_a0m
  refine T_env (E' := [(0, (.m [0] 0 a0m.length tInt.k)), (1, (intA k1)), (5, (intA (i_1 : Int)))]) ⟨rfl, rfl, rfl, trivial⟩ ?_
  refine T_st (σ' := [.row (flat tInt.own a0m)]) rfl ?_
  refine T_fact (len_m (.tmp 0) rfl) (fun hl2 => ?_)
  refine T_seq ?_
  refine T_seq ?_
  refine T_region ?_
  refine TO_cons rfl (TOp_pure (pur_move rfl) rfl ?_)
  refine TO_cons rfl (TOp_pure (pur_move rfl) rfl ?_)
  refine TO_cons rfl (TOp_pure (pur_len_m sl33 rfl rfl) rfl ?_)
  refine TO_cons rfl (TOp_pure (pur_lss rfl rfl rfl) rfl ?_)
  refine TO_nil ?_
  refine T_env (E' := [(0, (.m [0] 0 a0m.length tInt.k)), (1, (intA k1)), (5, (intA (i_1 : Int))), (9, (boolA (decide ((i_1 : Int) < (a0m.length : Int)))))]) ⟨rfl, rfl, rfl, rfl, trivial⟩ ?_
  refine T_cond (t := decide ((i_1 : Int) < (a0m.length : Int))) rfl (fun d2 => ?_) (fun d2 => ?_)
  · replace d2 := of_decide_eq_true d2
    replace d2 : (i_1 : Int) < (a0.length : Int) := by omega
    obtain ⟨C2_, H, K2_⟩ := forM_step L2_ d2
    rw [hb2] at H
    refine T_skip ?_
    refine T_env (E' := [(0, (.m [0] 0 a0m.length tInt.k)), (1, (intA k1)), (5, (intA (i_1 : Int)))]) ⟨rfl, rfl, rfl, trivial⟩ ?_
    refine T_seq ?_
    refine T_block ?_
    refine T_seq ?_
    refine T_region ?_
    refine TO_cons rfl (TOp_pure (pur_move rfl) rfl ?_)
    refine TO_cons rfl (TOp_pure (pur_move rfl) rfl ?_)
    refine TO_cons rfl (TOp_pure (pur_move rfl) rfl ?_)
    obtain ⟨v_3, h_4, H⟩ := bind_inv H
    obtain ⟨n_5, hz_6, hv_7⟩ := getI_inv h_4
    refine TO_cons rfl (TOp_pure (pur_ixM (T := tInt) sl33 rfl rfl hz_6 hv_7 rfl) rfl ?_)
    refine TO_cons rfl (TOp_setT (f := tInt.own) (z := (i_1 : Int)) (y := k1) tInt.lenO tInt.pos hz_6 sz3 rfl rfl rfl rfl rfl hv_7 rfl rfl ?_)
    refine TO_env (E' := [(0, (.m [0] 0 (a0m.set ((i_1 : Int)).toNat k1).length tInt.k)), (1, (intA k1)), (5, (intA (i_1 : Int))), (12, (.m [0] 0 (a0m.set ((i_1 : Int)).toNat k1).length tInt.k)), (13, (intA (i_1 : Int))), (14, (intA k1))]) ⟨(congrArg (fun q => A.m [0] 0 q tInt.k) (List.length_set ..).symm), rfl, rfl, (congrArg (fun q => A.m [0] 0 q tInt.k) (List.length_set ..).symm), rfl, rfl, trivial⟩ ?_
    refine TO_st (σ' := [.row (flat tInt.own (a0m.set ((i_1 : Int)).toNat k1))]) rfl ?_
    refine TO_nil ?_
    refine T_env (E' := [(0, (.m [0] 0 (a0m.set ((i_1 : Int)).toNat k1).length tInt.k)), (1, (intA k1)), (5, (intA (i_1 : Int)))]) ⟨rfl, rfl, rfl, trivial⟩ ?_
    refine T_region ?_
    refine TO_cons rfl (TOp_pure (pur_move rfl) rfl ?_)
    refine TO_cons rfl (TOp_pure (pur_wadd rfl rfl rfl) rfl ?_)
    refine TO_cons rfl (TOp_pure (pur_assign rfl) rfl ?_)
    refine TO_nil ?_
    refine T_env (E' := [(0, (.m [0] 0 (a0m.set ((i_1 : Int)).toNat k1).length tInt.k)), (1, (intA (w64 (k1 + 1)))), (5, (intA (i_1 : Int)))]) ⟨rfl, rfl, rfl, trivial⟩ ?_
    refine T_region ?_
    refine TO_cons rfl (TOp_pure (pur_move rfl) rfl ?_)
    refine TO_cons rfl (TOp_pure (pur_add rfl rfl rfl (fits64 (by omega) (by omega))) rfl ?_)
    refine TO_cons rfl (TOp_pure (pur_assign rfl) rfl ?_)
    refine TO_nil ?_
    obtain rfl := some_inj H
    exact again ((a0.length : Int) - (i_1 + 1)).toNat (i_1 + 1, ((a0m.set ((i_1 : Int)).toNat k1), (w64 (k1 + 1)))) (by omega) (WeakL.to 1 (Nat.le_of_ble_eq_true rfl) rfl rfl rfl rfl ⟨leR rfl, leR rfl, leR rfl, trivial⟩) ⟨rfl, by omega, K2_, ((List.length_set ..).trans hq_a0m)⟩
  · replace d2 := of_decide_eq_false d2
    obtain rfl := forM_end L2_ (by omega)
    refine T_exit ?_
    refine then_exit ?_
    refine then_exit ?_
    refine block_exit ?_
    replace H := N2_
    refine T_env (E' := [(1, (intA k1))]) ⟨rfl, trivial⟩ ?_
    refine T_seq ?_
    refine T_region ?_
    refine TO_cons rfl (TOp_pure (pur_move rfl) rfl ?_)
    refine TO_cons rfl (TOp_pure (pur_assign rfl) rfl ?_)
    refine TO_nil ?_
    refine T_env (E' := [(4, (intA k1))]) ⟨rfl, trivial⟩ ?_
    refine T_ret ?_
    obtain rfl := some_inj H
    exact end_M (.tmp .nil) rfl rfl (Nat.le_refl _) (sameLens_c (T := tInt) hq_a0m trivial) rfl rfl

set_option maxHeartbeats 1000000 in
/-- laws.markIntSS -/
theorem m_laws_markIntSS_mut (a0 : (List (List Int))) (k1 : Int) (r : (Int × (List (List Int)))) (H : m_laws_markIntSS a0 k1 = some r) : FnM prg 19 [(.m [0] 0 a0.length (tSl tInt).k), (intA k1)] [flat (tSl tInt).own a0] (.int .i64 r.1) [flat (tSl tInt).own r.2] := by
  unfold m_laws_markIntSS at H
  refine fnM_of_T Try.func19 rfl rfl (Nat.le_of_ble_eq_true rfl) ?_
  refine T_env (E' := [(0, (.m [0] 0 a0.length (tSl tInt).k)), (1, (intA k1))]) ⟨rfl, rfl, trivial⟩ ?_
  refine T_st (σ' := [.row (flat (tSl tInt).own a0)]) rfl ?_
  refine T_seq ?_
  refine T_region ?_
  refine TO_cons rfl (TOp_pure (pur_assign rfl) rfl ?_)
  refine TO_nil ?_
  refine T_env (E' := [(0, (.m [0] 0 a0.length (tSl tInt).k)), (1, (intA k1))]) ⟨rfl, rfl, trivial⟩ ?_
  refine T_seq ?_
  refine T_seq ?_
  refine T_region ?_
  refine TO_cons rfl (TOp_pure (pur_assign rfl) rfl ?_)
  refine TO_nil ?_
  refine T_env (E' := [(0, (.m [0] 0 a0.length (tSl tInt).k)), (1, (intA k1)), (5, (intA 0))]) ⟨rfl, rfl, rfl, trivial⟩ ?_
  obtain ⟨O2_, L2_, N2_⟩ := bind_inv H
  clear H
  obtain ⟨B2_, hb2, L2_⟩ := gen_forM L2_
  refine T_block ?_
  refine T_loopX (fun k => fun (x_ : Int × (List (List Int)) × Int) => k = ((a0.length : Int) - x_.1).toNat ∧ 0 ≤ x_.1 ∧ forM B2_ ((a0.length : Int) - x_.1).toNat x_.1 (x_.2.1, x_.2.2) = some O2_ ∧ x_.2.1.length = a0.length) (fun (x_ : Int × (List (List Int)) × Int) => [(0, (.m [0] 0 x_.2.1.length (tSl tInt).k)), (1, (intA x_.2.2)), (5, (intA (x_.1 : Int)))]) (fun (x_ : Int × (List (List Int)) × Int) => [.row (flat (tSl tInt).own x_.2.1)]) _ (0, (a0, k1)) (WeakL.to 1 (Nat.le_of_ble_eq_true rfl) rfl rfl rfl rfl ⟨leR rfl, leR rfl, leR rfl, trivial⟩) ⟨rfl, Int.le_refl _, L2_, rfl⟩ ?_
  rintro _ ⟨i_1, a0m, k1⟩ ⟨rfl, hi2, L2_, hq_a0m⟩
  replace hq_a0m : a0m.length = a0.length := hq_a0m
  refine T_env (E' := [(0, (.m [0] 0 a0m.length (tSl tInt).k)), (1, (intA k1)), (5, (intA (i_1 : Int)))]) ⟨rfl, rfl, rfl, trivial⟩ ?_
  refine T_st (σ' := [.row (flat (tSl tInt).own a0m)]) rfl ?_
  refine T_fact (len_m (.tmp 0) rfl) (fun hl2 => ?_)
  refine T_seq ?_
  refine T_seq ?_
  refine T_region ?_
  refine TO_cons rfl (TOp_pure (pur_move rfl) rfl ?_)
  refine TO_cons rfl (TOp_pure (pur_move rfl) rfl ?_)
  refine TO_cons rfl (TOp_pure (pur_len_m sl22 rfl rfl) rfl ?_)
  refine TO_cons rfl (TOp_pure (pur_lss rfl rfl rfl) rfl ?_)
  refine TO_nil ?_
  refine T_env (E' := [(0, (.m [0] 0 a0m.length (tSl tInt).k)), (1, (intA k1)), (5, (intA (i_1 : Int))), (9, (boolA (decide ((i_1 : Int) < (a0m.length : Int)))))]) ⟨rfl, rfl, rfl, rfl, trivial⟩ ?_
  refine T_cond (t := decide ((i_1 : Int) < (a0m.length : Int))) rfl (fun d2 => ?_) (fun d2 => ?_)
  · replace d2 := of_decide_eq_true d2
    replace d2 : (i_1 : Int) < (a0.length : Int) := by omega
    obtain ⟨C2_, H, K2_⟩ := forM_step L2_ d2
    rw [hb2] at H
    refine T_skip ?_
    refine T_env (E' := [(0, (.m [0] 0 a0m.length (tSl tInt).k)), (1, (intA k1)), (5, (intA (i_1 : Int)))]) ⟨rfl, rfl, rfl, trivial⟩ ?_
    refine T_seq ?_
    refine T_block ?_
    refine T_region ?_
    refine TO_cons rfl (TOp_pure (pur_move rfl) rfl ?_)
    refine TO_cons rfl (TOp_pure (pur_move rfl) rfl ?_)
    obtain ⟨v_3, h_4, H⟩ := bind_inv H
    obtain ⟨n_5, hz_6, hv_7⟩ := getI_inv h_4
    refine TO_cons rfl (TOp_pure (pur_ixM (T := (tSl tInt)) sl22 rfl rfl hz_6 hv_7 rfl) rfl ?_)
    refine TO_cons rfl (TOp_pure (pur_ldE (f := (tSl tInt).own) (k := (tSl tInt).k) (i := n_5) (off := 0) (tSl tInt).lenO rfl one33 rfl rfl rfl hv_7 rfl cellVal_sl) rfl ?_)
    refine TO_cons rfl (TOp_pure (pur_move rfl) rfl ?_)
    obtain ⟨r_8, h_9, H⟩ := bind_inv H
    refine TO_cons rfl (TOp_callG (aa := [(.m [0, n_5 * (tSl tInt).k] 0 v_3.length tInt.k), (intA k1)]) [[0, n_5 * (tSl tInt).k]] (call_static ent51 rfl) rfl (.cons (rowAt_el (f := (tSl tInt).own) (i := n_5) (off := 0) (tSl tInt).lenO rfl hv_7 rfl) rfl (by simp) .nil) (by simp [namesL, A.names, locP]) (by simp [renPL, A.renP, locF, locP]) (m_laws_markIntS_mut _ _ _ h_9) rfl (fun hl_10 => ?_))
    refine TO_env (E' := [(0, (.m [0] 0 (a0m.set ((i_1 : Int)).toNat r_8.2).length (tSl tInt).k)), (1, (intA k1)), (5, (intA (i_1 : Int))), (12, (.m [0] 0 (a0m.set ((i_1 : Int)).toNat r_8.2).length (tSl tInt).k)), (13, (intA (i_1 : Int))), (16, (intA k1)), (17, (intA r_8.1))]) ⟨(congrArg (fun q => A.m [0] 0 q (tSl tInt).k) (List.length_set ..).symm), rfl, rfl, (congrArg (fun q => A.m [0] 0 q (tSl tInt).k) (List.length_set ..).symm), rfl, rfl, rfl, trivial⟩ ?_
    refine TO_st (σ' := [.row (flat (tSl tInt).own (a0m.set ((i_1 : Int)).toNat r_8.2))]) (setRows_T (f := (tSl tInt).own) (i := n_5) (v' := r_8.2) (tSl tInt).lenO hz_6 [0] rfl hv_7 (allO_cons ⟨_, _, rfl⟩ allO_nil) rfl) ?_
    refine TO_cons rfl (TOp_pure (pur_assign rfl) rfl ?_)
    refine TO_nil ?_
    refine T_env (E' := [(0, (.m [0] 0 (a0m.set ((i_1 : Int)).toNat r_8.2).length (tSl tInt).k)), (1, (intA r_8.1)), (5, (intA (i_1 : Int)))]) ⟨rfl, rfl, rfl, trivial⟩ ?_
    refine T_region ?_
    refine TO_cons rfl (TOp_pure (pur_move rfl) rfl ?_)
    refine TO_cons rfl (TOp_pure (pur_add rfl rfl rfl (fits64 (by omega) (by omega))) rfl ?_)
    refine TO_cons rfl (TOp_pure (pur_assign rfl) rfl ?_)
    refine TO_nil ?_
    obtain rfl := some_inj H
    exact again ((a0.length : Int) - (i_1 + 1)).toNat (i_1 + 1, ((a0m.set ((i_1 : Int)).toNat r_8.2), r_8.1)) (by omega) (WeakL.to 1 (Nat.le_of_ble_eq_true rfl) rfl rfl rfl rfl ⟨leR rfl, leR rfl, leR rfl, trivial⟩) ⟨rfl, by omega, K2_, ((List.length_set ..).trans hq_a0m)⟩
  · replace d2 := of_decide_eq_false d2
    obtain rfl := forM_end L2_ (by omega)
    refine T_exit ?_
    refine then_exit ?_
    refine then_exit ?_
    refine block_exit ?_
    replace H := N2_
    refine T_env (E' := [(1, (intA k1))]) ⟨rfl, trivial⟩ ?_
    refine T_seq ?_
    refine T_region ?_
    refine TO_cons rfl (TOp_pure (pur_move rfl) rfl ?_)
    refine TO_cons rfl (TOp_pure (pur_assign rfl) rfl ?_)
    refine TO_nil ?_
    refine T_env (E' := [(4, (intA k1))]) ⟨rfl, trivial⟩ ?_
    refine T_ret ?_
    obtain rfl := some_inj H
    exact end_M (.tmp .nil) rfl rfl (Nat.le_refl _) (sameLens_c (T := (tSl tInt)) hq_a0m trivial) rfl rfl
end Go.Proofs.Ytlcpdlngbofgcaa

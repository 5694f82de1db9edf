import Derived.Test.YtmecnecfkgneoaaGreatM1
import Derived.Test.YtmecnecfkgneoaaGreatM2
set_option linter.unusedVariables false
set_option linter.unusedSimpArgs false
set_option maxRecDepth 4000
namespace Go.Proofs.YtmecnecfkgneoaaGreat
open Go Go.Proofs Go.Sep
set_option maxHeartbeats 1000000 in
theorem m_slices_Grow_Sint_int_n0_own (n1 : Int) (r : (List Int)) (H : m_slices_Grow_Sint_int_n0 n1 = some r) : FnO prg 76 [.n, (intA n1)] (.m [0] 0 r.length tInt.k) [.row (flat tInt.own r)] := by
  unfold m_slices_Grow_Sint_int_n0 at H
  refine fnO_of_T Tryz.func76 rfl rfl (Nat.le_of_ble_eq_true rfl) ?_
  refine te [(0, .n), (1, (intA n1))] rfl ?_
  refine sr ?_
  refine pv tb 1 rfl ?_
  refine TO_nil ?_
  refine T_seq ?_
  refine sr ?_
  refine pv tb 2 rfl ?_
  refine TO_nil ?_
  refine T_cond (t := decide (n1 < 0)) rfl (fun c_1 => ?_) (fun c_1 => ?_)
  ·replace H := cond_t c_1 H
   cases H
  ·replace H := cond_f c_1 H
   refine T_skip ?_
   refine T_seq ?_
   refine sr ?_
   refine pv tb 2 rfl ?_
   refine Tp rfl rfl (pur_cap_n sl31 rfl rfl) rfl ?_
   refine pv tb 1 rfl ?_
   refine Tp rfl rfl (pur_len_n sl31 rfl rfl) rfl ?_
   refine pv tb 3 rfl ?_
   refine TO_nil ?_
   refine sr ?_
   refine pv tb 2 rfl ?_
   refine TO_nil ?_
   refine T_cond (t := decide (0 < (w64 (n1 - (w64 (((0 : Nat) : Int) - ((0 : Nat) : Int))))))) rfl (fun c_2 => ?_) (fun c_2 => ?_)
   ·replace H := cond_t c_2 H
    refine T_region ?_
    refine pv tb 2 rfl ?_
    refine Tp rfl rfl (pur_cap_n sl31 rfl rfl) rfl ?_
    refine Tp rfl rfl (pur_cutN (lo := none) (hi := (some (.tmp 19))) sl31 rfl rfl ⟨_, rfl⟩ (by omega) (by omega) rfl) rfl ?_
    obtain ⟨us_3, h_4, H⟩ := bind_inv H
    refine pv tb 1 rfl ?_
    refine TO_cons rfl (TOp_appNZ (T := tInt) (z := (0 : Int)) rfl sl31 Tryz.underlying3 zero3 rfl bytes3 (by decide) rfl rfl rfl rfl h_4 ?_)
    refine TO_st (σ' := [.row (flat tInt.enc us_3)]) rfl ?_
    refine pv tb 1 rfl ?_
    refine Tp rfl rfl (pur_len_n sl31 rfl rfl) rfl ?_
    obtain ⟨ys_5, h_6, H⟩ := bind_inv H
    obtain ⟨i_7, j_8, hi_9, hj_10, hij_11, hjl_12, hys_13, _⟩ := cutI_inv h_6
    refine Tp rfl rfl (pur_cutM (lo := none) (hi := (some (.tmp 24))) sl31 rfl hi_9.symm ⟨_, congrArg (fun z => A.v (.int .i64 z)) hj_10⟩ hij_11 hjl_12 rfl) rfl ?_
    refine pv tb 1 rfl ?_
    refine TO_nil ?_
    refine te [(0, (.m [0] (i_7 * tInt.k) (j_8 - i_7) tInt.k))] rfl ?_
    refine sr ?_
    refine pv tb 2 rfl ?_
    refine TO_nil ?_
    refine T_env (E' := [(4, (.m [0] 0 ys_5.length tInt.k))]) ⟨(trunc_A (l := 0) (k := tInt.k) (by omega) hjl_12 hys_13), trivial⟩ ?_
    refine T_gh (Ghost.truncT (f := tInt.enc) (s := 0) (i := i_7) (j := j_8) (ys := ys_5) tInt.len rfl (by omega) hys_13 (by exact lb rfl)) ?_
    refine T_st (σ' := [.row (flat tInt.enc ys_5)]) rfl ?_
    refine T_ret ?_
    obtain rfl := some_inj H
    exact end_pick (.tmp .nil) rfl [0] (by decide) rfl rfl rfl rfl rfl rfl
   ·replace H := cond_f c_2 H
    refine T_skip ?_
    refine sr ?_
    refine pv tb 2 rfl ?_
    refine TO_nil ?_
    refine te [(4, .n)] rfl ?_
    refine T_row0 ?_
    refine T_envL (E' := [(4, (.m [0] 0 ([] : (List Int)).length tInt.k))]) ⟨leM, trivial⟩ ?_
    refine T_st (σ' := [.row (flat tInt.own ([] : (List Int)))]) rfl ?_
    refine T_ret ?_
    obtain rfl := some_inj H
    exact end_pick (.tmp .nil) rfl [0] (by decide) rfl rfl rfl rfl rfl rfl
theorem m_slices_Grow_Sint_int_n0_ok (n1 : Int) (r : (List Int)) (H : m_slices_Grow_Sint_int_n0 n1 = some r) : FnV prg 76 [.n, (intA n1)] (sl tInt r) := (m_slices_Grow_Sint_int_n0_own n1 r H).frz (frzT (T := tInt) rfl)

set_option maxHeartbeats 1000000 in
theorem m_slices_Concat_Sint_int_own (slices0 : (List (List Int))) (r : (List Int)) (H : m_slices_Concat_Sint_int slices0 = some r) : FnO prg 64 [(sl (tSl tInt) slices0)] (.m [0] 0 r.length tInt.k) [.row (flat tInt.own r)] := by
  unfold m_slices_Concat_Sint_int at H
  refine fnO_of_T Tryz.func64 rfl rfl (Nat.le_of_ble_eq_true rfl) ?_
  refine te [(0, (sl (tSl tInt) slices0))] rfl ?_
  refine sr ?_
  refine pv tb 1 rfl ?_
  refine TO_nil ?_
  refine sr ?_
  refine pv tb 1 rfl ?_
  refine TO_nil ?_
  refine T_seq ?_
  refine sr ?_
  refine pv tb 1 rfl ?_
  refine Tp rfl rfl (pur_lenT (T := (tSl tInt)) sl27 rfl rfl) rfl ?_
  refine pv tb 1 rfl ?_
  refine TO_nil ?_
  obtain ⟨O2_, L2_, N2_⟩ := bind_inv H
  clear H
  obtain ⟨B2_, hb2, L2_⟩ := gen_forS L2_
  refine T_block ?_
  refine T_loopX (fun k => fun (⟨t_1, size3⟩ : Nat × Int) => k = slices0.length - t_1 ∧ forS B2_ (slices0.drop t_1) (t_1 : Int) size3 = some O2_) (fun (⟨t_1, size3⟩ : Nat × Int) => [(0, (sl (tSl tInt) slices0)), (3, (intA size3)), (9, (sl (tSl tInt) slices0)), (10, (intA (slices0.length : Int))), (11, (intA (t_1 : Int)))]) (fun (⟨t_1, size3⟩ : Nat × Int) => []) _ (0, 0) (w0 0) ⟨rfl, L2_⟩ ?_
  rintro _ ⟨t_1, size3⟩ ⟨rfl, L2_⟩
  refine T_fact (len_sl (T := (tSl tInt)) (.tmp 0) rfl) (fun hl2 => ?_)
  refine sr ?_
  refine pv tb 1 rfl ?_
  refine TO_nil ?_
  refine T_seq ?_
  refine T_cond (t := decide ((t_1 : Int) < (slices0.length : Int))) rfl (fun d2 => ?_) (fun d2 => ?_)
  ·replace d2 := of_decide_eq_true d2
   obtain ⟨x_t_1, hx_t_1⟩ : ∃ v, (slices0)[t_1]? = some v := ⟨_, List.getElem?_eq_getElem (by omega)⟩
   obtain ⟨C2_, H, K2_⟩ := forS_step L2_ hx_t_1
   rw [hb2] at H
   refine T_skip ?_
   refine T_seq ?_
   refine T_block ?_
   refine sr ?_
   refine Tp rfl rfl (pur_ixT (T := (tSl tInt)) sl27 rfl rfl rfl hx_t_1 rfl) rfl ?_
   refine Tp rfl rfl (pur_ldT (T := (tSl tInt)) (i := t_1) (off := 0) rfl one31 rfl rfl hx_t_1 rfl) rfl ?_
   refine pv tb 1 rfl ?_
   refine TO_nil ?_
   refine sr ?_
   refine pv tb 2 rfl ?_
   refine Tp rfl rfl (pur_lenT (T := tInt) sl31 rfl rfl) rfl ?_
   refine pv tb 2 rfl ?_
   refine TO_nil ?_
   refine sr ?_
   refine pv tb 2 rfl ?_
   refine TO_nil ?_
   refine T_cond (t := decide ((w64 (size3 + (x_t_1.length : Int))) < 0)) rfl (fun c_3 => ?_) (fun c_3 => ?_)
   ·replace H := cond_t c_3 H
    cases H
   ·replace H := cond_f c_3 H
    refine T_skip ?_
    refine T_region ?_
    refine Tp rfl rfl (pur_add rfl rfl rfl (fits64 (by omega) (by omega))) rfl ?_
    refine pv tb 1 rfl ?_
    refine TO_nil ?_
    obtain rfl := some_inj H
    exact again (slices0.length - (t_1 + 1)) (t_1 + 1, (w64 (size3 + (x_t_1.length : Int)))) (by omega) (w0 0) ⟨rfl, K2_⟩
  ·replace d2 := of_decide_eq_false d2
   obtain rfl := forS_end L2_ (by omega)
   refine T_exit ?_
   refine then_exit ?_
   refine then_exit ?_
   refine block_exit ?_
   replace H := N2_
   refine sr ?_
   obtain ⟨r_4, h_5, H⟩ := bind_inv H
   refine pv tb 1 rfl ?_
   refine TO_cons rfl (TOp_callO (call_static ent76 rfl) rfl (m_slices_Grow_Sint_int_n0_own _ _ h_5) rfl rfl rfl ?_)
   refine toe [(0, (sl (tSl tInt) slices0)), (3, (intA size3)), (23, (intA size3)), (24, (.m [0] 0 r_4.length tInt.k))] rfl ?_
   refine TO_st (σ' := [.row (flat tInt.own r_4)]) rfl ?_
   refine pv tb 1 rfl ?_
   refine TO_nil ?_
   refine T_seq ?_
   refine sr ?_
   refine pv tb 1 rfl ?_
   refine Tp rfl rfl (pur_lenT (T := (tSl tInt)) sl27 rfl rfl) rfl ?_
   refine pv tb 1 rfl ?_
   refine TO_nil ?_
   obtain ⟨O7_, L7_, N7_⟩ := bind_inv H
   clear H
   obtain ⟨B7_, hb7, L7_⟩ := gen_forS L7_
   refine T_block ?_
   refine T_loopX (fun k => fun (⟨t_6, newslice6⟩ : Nat × (List Int)) => k = slices0.length - t_6 ∧ forS B7_ (slices0.drop t_6) (t_6 : Int) newslice6 = some O7_) (fun (⟨t_6, newslice6⟩ : Nat × (List Int)) => [(6, (.m [0] 0 newslice6.length tInt.k)), (25, (sl (tSl tInt) slices0)), (26, (intA (slices0.length : Int))), (27, (intA (t_6 : Int)))]) (fun (⟨t_6, newslice6⟩ : Nat × (List Int)) => [.row (flat tInt.own newslice6)]) _ (0, r_4) (w0 1) ⟨rfl, L7_⟩ ?_
   rintro _ ⟨t_6, newslice6⟩ ⟨rfl, L7_⟩
   refine T_fact (len_sl (T := (tSl tInt)) (.tmp 25) rfl) (fun hl7 => ?_)
   refine sr ?_
   refine pv tb 1 rfl ?_
   refine TO_nil ?_
   refine T_seq ?_
   refine T_cond (t := decide ((t_6 : Int) < (slices0.length : Int))) rfl (fun d7 => ?_) (fun d7 => ?_)
   ·replace d7 := of_decide_eq_true d7
    obtain ⟨x_t_6, hx_t_6⟩ : ∃ v, (slices0)[t_6]? = some v := ⟨_, List.getElem?_eq_getElem (by omega)⟩
    obtain ⟨C7_, H, K7_⟩ := forS_step L7_ hx_t_6
    rw [hb7] at H
    refine T_skip ?_
    refine T_seq ?_
    refine T_block ?_
    refine sr ?_
    refine Tp rfl rfl (pur_ixT (T := (tSl tInt)) sl27 rfl rfl rfl hx_t_6 rfl) rfl ?_
    refine Tp rfl rfl (pur_ldT (T := (tSl tInt)) (i := t_6) (off := 0) rfl one31 rfl rfl hx_t_6 rfl) rfl ?_
    refine pv tb 1 rfl ?_
    refine TO_nil ?_
    refine T_region ?_
    obtain ⟨us_8, h_9, H⟩ := bind_inv H
    refine pv tb 2 rfl ?_
    refine TO_cons rfl (TOp_appZ (T := tInt) (f := tInt.own) (xs := newslice6) (ys := x_t_6) tInt.lenO sl31 zero3 rfl bytes3 (by decide) rfl rfl rfl rfl (src_T (T := tInt) rfl) (flat_cell tInt _) h_9 (lb rfl) ?_)
    refine toe [(8, (sl tInt x_t_6)), (25, (sl (tSl tInt) slices0)), (26, (intA (slices0.length : Int))), (27, (intA (t_6 : Int))), (32, (sl tInt x_t_6)), (33, (.m [0] 0 us_8.length tInt.k))] rfl ?_
    refine TO_st (σ' := [.row (flat tInt.own us_8), .dead]) rfl ?_
    refine pv tb 1 rfl ?_
    refine TO_nil ?_
    refine T_region ?_
    refine Tp rfl rfl (pur_add rfl rfl rfl (fits64 (by omega) (by omega))) rfl ?_
    refine pv tb 1 rfl ?_
    refine TO_nil ?_
    obtain rfl := some_inj H
    exact again (slices0.length - (t_6 + 1)) (t_6 + 1, us_8) (by omega) (w0 1) ⟨rfl, K7_⟩
   ·replace d7 := of_decide_eq_false d7
    obtain rfl := forS_end L7_ (by omega)
    refine T_exit ?_
    refine then_exit ?_
    refine then_exit ?_
    refine block_exit ?_
    replace H := N7_
    refine sr ?_
    refine pv tb 2 rfl ?_
    refine TO_nil ?_
    refine T_ret ?_
    obtain rfl := some_inj H
    exact end_pick (.tmp .nil) rfl [0] (by decide) rfl rfl rfl rfl rfl rfl
theorem m_slices_Concat_Sint_int_ok (slices0 : (List (List Int))) (r : (List Int)) (H : m_slices_Concat_Sint_int slices0 = some r) : FnV prg 64 [(sl (tSl tInt) slices0)] (sl tInt r) := (m_slices_Concat_Sint_int_own slices0 r H).frz (frzT (T := tInt) rfl)

theorem m_slices_Sort_Sint_int_mut (s0 : List Int) (r : Unit × List Int) (H : m_slices_Sort_Sint_int s0 = some r) : FnM prg 65 [(.m [0] 0 s0.length tInt.k)] [flat tInt.own s0] (.tuple #[]) [flat tInt.own r.2] := by
  unfold m_slices_Sort_Sint_int at H
  split at H
  case isFalse => cases H
  rename_i h0
  cases H
  exact FnM.ofPut (by simp) (fun ad w e => by subst e; exact Any.slices_Sort_int_none shl189 ad 0 w) (fun b o cap w hH hb _ => Any.slices_Sort_int shl189 b o cap s0 w hH hb h0)


theorem m_slices_Compact_Sint_int_x (s0 : List Int) (r : List Int) (H : m_slices_Compact_Sint_int s0 = some r) : FnS prg 66 [(.m [0] 0 s0.length tInt.k)] [.row (flat tInt.enc s0)] (.m [0] 0 r.length tInt.k) [.row (flat tInt.enc r)] := by
  unfold m_slices_Compact_Sint_int at H
  split at H
  case isFalse => cases H
  rename_i h0
  cases H
  have hc := compact_comp1 s0
  have hl := comp1_le s0
  refine FnS.ofCut (rest := List.replicate (s0.length - (comp1 s0).length) 0) (by simp; omega) (fun ad w e => ?_) (fun b o cap w hH hb hcp => ?_)
  ·exact Calls.mono (Any.slices_Compact_int_empty shl20 ad 0 w) fun e w' h => ⟨⟨ad, h.1⟩, h.2⟩
  ·refine Calls.mono (Any.slices_Compact_int shl20 b o cap s0 w hH (by omega) hcp) fun e w' h => ?_
   rw [hc] at h
   obtain ⟨h1, q, h2⟩ := h
   exact ⟨h1, q, #[], by rw [grow_nil]; exact h2⟩


set_option maxHeartbeats 1000000 in
theorem m_impl_union_own (a0 : (List Int)) (b1 : (List Int)) (r : (List Int)) (H : m_impl_union a0 b1 = some r) : FnO prg 42 [(sl tInt a0), (sl tInt b1)] (.m [0] 0 r.length tInt.k) [.row (flat tInt.own r)] := by
  unfold m_impl_union at H
  refine fnO_of_T Tryz.func42 rfl rfl (Nat.le_of_ble_eq_true rfl) ?_
  refine te [(0, (sl tInt a0)), (1, (sl tInt b1))] rfl ?_
  refine sr ?_
  refine pv tb 1 rfl ?_
  refine TO_nil ?_
  refine sr ?_
  refine pv tb 2 rfl ?_
  refine TO_cons rfl (TOp_lit (nn := 2) (k := 1) sl27 zero31 rfl rfl rfl rfl (by decide) ?_)
  refine TO_st (σ' := [.row (flat (tSl tInt).enc ([a0, b1] : (List (List Int))))]) rfl ?_
  obtain ⟨r_1, h_2, H⟩ := bind_inv H
  refine TO_cons rfl (TOp_callOG (call_static ent64 rfl) (frz_cons (frzTE (T := (tSl tInt)) (xs := ([a0, b1] : (List (List Int)))) rfl) frz_nil).1 (frz_cons (frzTE (T := (tSl tInt)) (xs := ([a0, b1] : (List (List Int)))) rfl) frz_nil).2 (m_slices_Concat_Sint_int_own _ _ h_2) rfl (ownC_of (ownSB_cons (flat_ownR tInt _) ownSB_nil)) rfl rfl rfl ?_)
  refine toe [(0, (sl tInt a0)), (1, (sl tInt b1)), (6, (sl tInt a0)), (7, (sl tInt b1)), (8, (.m [0] 0 ([a0, b1] : (List (List Int))).length (tSl tInt).k)), (9, (.m [1] 0 r_1.length tInt.k))] rfl ?_
  refine TO_st (σ' := [.row (flat (tSl tInt).enc ([a0, b1] : (List (List Int)))), .row (flat tInt.own r_1)]) rfl ?_
  refine pv tb 1 rfl ?_
  refine TO_nil ?_
  refine sr ?_
  obtain ⟨r_3, h_4, H⟩ := bind_inv H
  refine pv tb 1 rfl ?_
  refine TO_cons rfl (TOp_callG (aa := [(.m [1] 0 r_1.length tInt.k)]) [[1]] (call_static ent65 rfl) rfl (.cons rfl rfl (by decide) .nil) rfl rfl (m_slices_Sort_Sint_int_mut _ _ h_4) rfl (fun hl_5 => ?_))
  obtain ⟨hq_6, hl_5⟩ := sameLens_T (T := tInt) hl_5
  refine TO_env (E' := [(5, (.m [1] 0 r_3.2.length tInt.k)), (10, (.m [1] 0 r_3.2.length tInt.k))]) ⟨(congrArg (fun q => A.m [1] 0 q tInt.k) hq_6.symm), (congrArg (fun q => A.m [1] 0 q tInt.k) hq_6.symm), trivial⟩ ?_
  refine TO_st (σ' := [.row (flat (tSl tInt).enc ([a0, b1] : (List (List Int)))), .row (flat tInt.own r_3.2)]) rfl ?_
  refine TO_nil ?_
  refine sr ?_
  obtain ⟨r_7, h_8, H⟩ := bind_inv H
  refine pv tb 1 rfl ?_
  refine TO_cons rfl (TOp_callS [1] (call_static ent66 rfl) (by decide) rfl rfl rfl rfl rfl rfl (m_slices_Compact_Sint_int_x _ _ h_8) rfl rfl ?_)
  refine toe [(13, (.m [1] 0 r_7.length tInt.k))] rfl ?_
  refine TO_st (σ' := [.row (flat (tSl tInt).enc ([a0, b1] : (List (List Int)))), .row (flat tInt.enc r_7)]) rfl ?_
  refine pv tb 1 rfl ?_
  refine TO_nil ?_
  refine T_ret ?_
  obtain rfl := some_inj H
  exact end_pick (.tmp .nil) rfl [1] (by decide) rfl rfl rfl rfl rfl rfl
theorem m_impl_union_ok (a0 : (List Int)) (b1 : (List Int)) (r : (List Int)) (H : m_impl_union a0 b1 = some r) : FnV prg 42 [(sl tInt a0), (sl tInt b1)] (sl tInt r) := (m_impl_union_own a0 b1 r H).frz (frzT (T := tInt) rfl)

set_option maxHeartbeats 1000000 in
theorem m_impl_inConflict_ok (edges0 : (List ConflictEdge)) (a1 : Int) (b2 : Int) (r : Bool) (H : m_impl_inConflict edges0 a1 b2 = some r) : FnV prg 31 [(sl tConflictEdge edges0), (intA a1), (intA b2)] (boolA r) := by
  unfold m_impl_inConflict at H
  refine fnV_of_T Tryz.func31 rfl rfl (Nat.le_of_ble_eq_true rfl) ?_
  refine te [(0, (sl tConflictEdge edges0)), (1, (intA a1)), (2, (intA b2))] rfl ?_
  refine sr ?_
  refine pv tb 1 rfl ?_
  refine TO_nil ?_
  obtain ⟨t6_1, J_1, H_2⟩ := bind_inv H
  refine T_cutX (fun x => t6_1 = x) (fun (t6_1 : Bool) => [(6, (boolA t6_1))]) (fun (t6_1 : Bool) => []) ?_ ?_
  ·replace H := J_1
   refine T_region ?_
   refine pv tb 3 rfl ?_
   refine Tp rfl rfl (pur_build bld45 rfl rfl) rfl ?_
   obtain ⟨r_3, h_4, H⟩ := bind_inv H
   refine TO_cons rfl (TOp_callV (call_static ent39 rfl) (m_slices_Contains_Simpl_ConflictEdge_impl_ConflictEdge_ok _ _ _ h_4) rfl rfl rfl ?_)
   refine pv tb 1 rfl ?_
   refine TO_split (t := r_3) 12 rfl (fun g_5 => ?_) (fun g_5 => ?_)
   ·replace H := cond_t g_5 H
    refine pv tb 7 rfl ?_
    refine TO_nil ?_
    exact joined true (w0 0) (some_inj H).symm
   ·replace H := cond_f g_5 H
    refine pv tb 3 rfl ?_
    refine TO_on rfl rfl (by decide) rfl rfl (TOp_pure (pur_build bld45 rfl rfl) rfl ?_)
    obtain ⟨r_6, h_7, H⟩ := bind_inv H
    refine TO_on rfl rfl (by decide) rfl rfl (TOp_callV (call_static ent39 rfl) (m_slices_Contains_Simpl_ConflictEdge_impl_ConflictEdge_ok _ _ _ h_7) rfl rfl rfl ?_)
    refine pv tb 2 rfl ?_
    refine TO_nil ?_
    exact joined r_6 (w0 0) (some_inj H).symm
  ·rintro _ rfl
   replace H := H_2
   refine T_ret ?_
   obtain rfl := some_inj H
   refine end_ret (.tmp .nil) rfl rfl ⟨?_, rfl⟩
   rfl

set_option maxHeartbeats 1000000 in
theorem m_impl_selected_own (edges0 : (List ConflictEdge)) (left1 : (List Int)) (v2 : Int) (r : (List Int)) (H : m_impl_selected edges0 left1 v2 = some r) : FnO prg 44 [(sl tConflictEdge edges0), (sl tInt left1), (intA v2)] (.m [0] 0 r.length tInt.k) [.row (flat tInt.own r)] := by
  unfold m_impl_selected at H
  refine fnO_of_T Tryz.func44 rfl rfl (Nat.le_of_ble_eq_true rfl) ?_
  refine te [(0, (sl tConflictEdge edges0)), (1, (sl tInt left1)), (2, (intA v2))] rfl ?_
  refine sr ?_
  refine pv tb 1 rfl ?_
  refine TO_nil ?_
  refine sr ?_
  refine TO_cons rfl (TOp_lit (nn := 0) (k := 1) sl31 zero3 rfl rfl rfl rfl (by decide) ?_)
  refine TO_st (σ' := [.row (flat tInt.enc ([] : (List Int)))]) rfl ?_
  refine pv tb 1 rfl ?_
  refine TO_nil ?_
  refine T_seq ?_
  refine sr ?_
  refine pv tb 1 rfl ?_
  refine Tp rfl rfl (pur_lenT (T := tInt) sl31 rfl rfl) rfl ?_
  refine pv tb 1 rfl ?_
  refine TO_nil ?_
  obtain ⟨O2_, L2_, N2_⟩ := bind_inv H
  clear H
  obtain ⟨B2_, hb2, L2_⟩ := gen_forS L2_
  refine T_block ?_
  refine T_loopX (fun k => fun (⟨t_1, out7⟩ : Nat × (List Int)) => k = left1.length - t_1 ∧ forS B2_ (left1.drop t_1) (t_1 : Int) out7 = some O2_) (fun (⟨t_1, out7⟩ : Nat × (List Int)) => [(0, (sl tConflictEdge edges0)), (2, (intA v2)), (7, (.m [0] 0 out7.length tInt.k)), (11, (sl tInt left1)), (12, (intA (left1.length : Int))), (13, (intA (t_1 : Int)))]) (fun (⟨t_1, out7⟩ : Nat × (List Int)) => [.row (flat tInt.enc out7)]) _ (0, ([] : (List Int))) (w0 1) ⟨rfl, L2_⟩ ?_
  rintro _ ⟨t_1, out7⟩ ⟨rfl, L2_⟩
  refine T_fact (len_sl (T := tInt) (.tmp 11) rfl) (fun hl2 => ?_)
  refine sr ?_
  refine pv tb 1 rfl ?_
  refine TO_nil ?_
  refine T_seq ?_
  refine T_cond (t := decide ((t_1 : Int) < (left1.length : Int))) rfl (fun d2 => ?_) (fun d2 => ?_)
  ·replace d2 := of_decide_eq_true d2
   obtain ⟨x_t_1, hx_t_1⟩ : ∃ v, (left1)[t_1]? = some v := ⟨_, List.getElem?_eq_getElem (by omega)⟩
   obtain ⟨C2_, H, K2_⟩ := forS_step L2_ hx_t_1
   rw [hb2] at H
   refine T_skip ?_
   refine T_seq ?_
   refine T_block ?_
   refine sr ?_
   refine Tp rfl rfl (pur_ixT (T := tInt) sl31 rfl rfl rfl hx_t_1 rfl) rfl ?_
   refine Tp rfl rfl (pur_ldT (T := tInt) (i := t_1) (off := 0) rfl one3 rfl rfl hx_t_1 rfl) rfl ?_
   refine pv tb 1 rfl ?_
   refine TO_nil ?_
   obtain ⟨t26_3, J_3, H_4⟩ := bind_inv H
   refine T_cutX (fun x => t26_3 = x) (fun (t26_3 : Bool) => [(0, (sl tConflictEdge edges0)), (2, (intA v2)), (7, (.m [0] 0 out7.length tInt.k)), (9, (intA x_t_1)), (11, (sl tInt left1)), (12, (intA (left1.length : Int))), (13, (intA (t_1 : Int))), (26, (boolA t26_3))]) (fun (t26_3 : Bool) => [.row (flat tInt.enc out7)]) ?_ ?_
   ·replace H := J_3
    refine T_region ?_
    refine pv tb 4 rfl ?_
    refine TO_split (t := decide (x_t_1 ≠ v2)) 20 rfl (fun g_5 => ?_) (fun g_5 => ?_)
    ·replace H := cond_t g_5 H
     obtain ⟨r_6, h_7, H⟩ := bind_inv H
     refine pv tb 3 rfl ?_
     refine TO_on rfl rfl (by decide) rfl rfl (TOp_callV (call_static ent31 rfl) (m_impl_inConflict_ok _ _ _ _ h_7) rfl rfl rfl ?_)
     refine pv tb 2 rfl ?_
     refine TO_nil ?_
     exact joined (!r_6) (w0 1) (some_inj H).symm
    ·replace H := cond_f g_5 H
     refine pv tb 6 rfl ?_
     refine TO_nil ?_
     exact joined false (w0 1) (some_inj H).symm
   ·rintro _ rfl
    replace H := H_4
    refine T_cond (t := t26_3) rfl (fun c_8 => ?_) (fun c_8 => ?_)
    ·replace H := cond_t c_8 H
     refine T_region ?_
     refine pv tb 2 rfl ?_
     refine TO_cons rfl (TOp_lit (nn := 1) (k := 1) sl31 zero3 rfl rfl rfl rfl (by decide) ?_)
     refine TO_st (σ' := [.row (flat tInt.enc out7), .row (flat tInt.enc ([x_t_1] : (List Int)))]) rfl ?_
     obtain ⟨us_9, h_10, H⟩ := bind_inv H
     refine TO_cons rfl (TOp_appZ (T := tInt) (f := tInt.enc) (xs := out7) (ys := ([x_t_1] : (List Int))) tInt.len sl31 zero3 rfl bytes3 (by decide) rfl rfl rfl rfl (src_mT (f := tInt.enc) tInt.len rfl rfl (flat_cell tInt _)) (flat_cell tInt _) h_10 (lb rfl) ?_)
     refine toe [(0, (sl tConflictEdge edges0)), (2, (intA v2)), (9, (intA x_t_1)), (11, (sl tInt left1)), (12, (intA (left1.length : Int))), (13, (intA (t_1 : Int))), (26, (boolA t26_3)), (28, (intA x_t_1)), (29, (.m [1] 0 ([x_t_1] : (List Int)).length tInt.k)), (30, (.m [0] 0 us_9.length tInt.k))] rfl ?_
     refine TO_st (σ' := [.row (flat tInt.enc us_9), .row (flat tInt.enc ([x_t_1] : (List Int))), .dead]) rfl ?_
     refine pv tb 1 rfl ?_
     refine TO_nil ?_
     refine T_region ?_
     refine Tp rfl rfl (pur_add rfl rfl rfl (fits64 (by omega) (by omega))) rfl ?_
     refine pv tb 1 rfl ?_
     refine TO_nil ?_
     obtain rfl := some_inj H
     exact again (left1.length - (t_1 + 1)) (t_1 + 1, us_9) (by omega) (w0 1) ⟨rfl, K2_⟩
    ·replace H := cond_f c_8 H
     refine T_skip ?_
     refine T_region ?_
     refine Tp rfl rfl (pur_add rfl rfl rfl (fits64 (by omega) (by omega))) rfl ?_
     refine pv tb 1 rfl ?_
     refine TO_nil ?_
     obtain rfl := some_inj H
     exact again (left1.length - (t_1 + 1)) (t_1 + 1, out7) (by omega) (w0 1) ⟨rfl, K2_⟩
  ·replace d2 := of_decide_eq_false d2
   obtain rfl := forS_end L2_ (by omega)
   refine T_exit ?_
   refine then_exit ?_
   refine then_exit ?_
   refine block_exit ?_
   replace H := N2_
   refine sr ?_
   refine pv tb 2 rfl ?_
   refine TO_nil ?_
   refine T_ret ?_
   obtain rfl := some_inj H
   exact end_pick (.tmp .nil) rfl [0] (by decide) rfl rfl rfl rfl rfl rfl
theorem m_impl_selected_ok (edges0 : (List ConflictEdge)) (left1 : (List Int)) (v2 : Int) (r : (List Int)) (H : m_impl_selected edges0 left1 v2 = some r) : FnV prg 44 [(sl tConflictEdge edges0), (sl tInt left1), (intA v2)] (sl tInt r) := (m_impl_selected_own edges0 left1 v2 r H).frz (frzT (T := tInt) rfl)

set_option maxHeartbeats 1000000 in
theorem m_slices_Clone_Sint_int_own (s0 : (List Int)) (r : (List Int)) (H : m_slices_Clone_Sint_int s0 = some r) : FnO prg 45 [(sl tInt s0)] (.m [0] 0 r.length tInt.k) [.row (flat tInt.own r)] := by
  unfold m_slices_Clone_Sint_int at H
  refine fnO_of_T Tryz.func45 rfl rfl (Nat.le_of_ble_eq_true rfl) ?_
  refine te [(0, (sl tInt s0))] rfl ?_
  refine sr ?_
  refine pv tb 1 rfl ?_
  refine TO_nil ?_
  refine T_seq ?_
  refine sr ?_
  refine pv tb 1 rfl ?_
  refine TO_cons rfl (TOp_isnil_i Tryz.underlying31 rfl rfl rfl (fun b_1 hb_2 => ?_))
  replace hb_2 := fun h => flat_nil (T := tInt) (hb_2 h)
  refine TO_nil ?_
  refine T_cond (t := b_1) rfl (fun c_3 => ?_) (fun c_3 => ?_)
  ·obtain rfl := hb_2 c_3
   refine sr ?_
   refine pv tb 1 rfl ?_
   refine TO_nil ?_
   refine T_row0 ?_
   refine T_envL (E' := [(2, (.m [0] 0 ([] : (List Int)).length tInt.k))]) ⟨leM, trivial⟩ ?_
   refine T_st (σ' := [.row (flat tInt.own ([] : (List Int)))]) rfl ?_
   refine T_ret ?_
   refine then_ret ?_
   obtain rfl : ([] : (List Int)) = r := by simpa [app] using H
   exact end_pick (.tmp .nil) rfl [0] (by decide) rfl rfl rfl rfl rfl rfl
  ·skip
   refine T_skip ?_
   refine sr ?_
   refine TO_cons rfl (TOp_lit (nn := 0) (k := 1) sl31 zero3 rfl rfl rfl rfl (by decide) ?_)
   refine TO_st (σ' := [.row (flat tInt.enc ([] : (List Int)))]) rfl ?_
   obtain ⟨us_4, h_5, H⟩ := bind_inv H
   refine pv tb 1 rfl ?_
   refine TO_cons rfl (TOp_appZ (T := tInt) (f := tInt.enc) (xs := ([] : (List Int))) (ys := s0) tInt.len sl31 zero3 rfl bytes3 (by decide) rfl rfl rfl rfl (src_T (T := tInt) rfl) (flat_cell tInt _) h_5 (lb rfl) ?_)
   refine toe [(0, (sl tInt s0)), (6, (sl tInt s0)), (7, (.m [0] 0 us_4.length tInt.k))] rfl ?_
   refine TO_st (σ' := [.row (flat tInt.enc us_4), .dead]) rfl ?_
   refine pv tb 1 rfl ?_
   refine TO_nil ?_
   refine T_ret ?_
   obtain rfl := some_inj H
   exact end_pick (.tmp .nil) rfl [0] (by decide) rfl rfl rfl rfl rfl rfl
theorem m_slices_Clone_Sint_int_ok (s0 : (List Int)) (r : (List Int)) (H : m_slices_Clone_Sint_int s0 = some r) : FnV prg 45 [(sl tInt s0)] (sl tInt r) := (m_slices_Clone_Sint_int_own s0 r H).frz (frzT (T := tInt) rfl)

set_option maxHeartbeats 1000000 in
theorem m_impl_greedy_1_c (u : Nat) (left0 : (List Int)) (chosen1 : (List Int)) (fv2 : (List (List Int))) (fv3 : (List ConflictEdge)) (fv5 : (List ConflictEdge)) (fv6 : Bool) (r : (List (List Int))) (H : m_impl_greedy_1 u left0 chosen1 fv2 fv3 fv5 fv6 = some r) : FnS prg 41 [(sl tInt left0), (sl tInt chosen1), .b 0 0, .b 1 0, .b 2 0, .b 3 0, .b 4 0] [.box [(.m [5] 0 fv2.length (tSl tInt).k)], .box [(sl tConflictEdge fv3)], .box [(.f 41 [(.b 0 0), (.b 1 0), (.b 2 0), (.b 3 0), (.b 4 0)])], .box [(sl tConflictEdge fv5)], .box [(boolA fv6)], .row (flat (tSl tInt).own fv2)] (.t []) [.box [(.m [6] 0 r.length (tSl tInt).k)], .box [(sl tConflictEdge fv3)], .box [(.f 41 [(.b 0 0), (.b 1 0), (.b 2 0), (.b 3 0), (.b 4 0)])], .box [(sl tConflictEdge fv5)], .box [(boolA fv6)], .dead, .row (flat (tSl tInt).own r)] := by
  induction u generalizing left0 chosen1 fv2 fv3 fv5 fv6 r with
  | zero => simp [m_impl_greedy_1] at H
  | succ u IH =>
   rw [m_impl_greedy_1] at H
   refine fnS_of_T Tryz.func41 rfl rfl (Nat.le_of_ble_eq_true rfl) ?_
   refine te [(0, (sl tInt left0)), (1, (sl tInt chosen1)), (2, .b 0 0), (3, .b 1 0), (4, .b 2 0), (5, .b 3 0), (6, .b 4 0)] rfl ?_
   refine T_st (σ' := [.box [(.m [5] 0 fv2.length (tSl tInt).k)], .box [(sl tConflictEdge fv3)], .box [(.f 41 [(.b 0 0), (.b 1 0), (.b 2 0), (.b 3 0), (.b 4 0)])], .box [(sl tConflictEdge fv5)], .box [(boolA fv6)], .row (flat (tSl tInt).own fv2)]) rfl ?_
   refine T_pad ?_
   refine T_move' 6 5 (by decide) (lb rfl) rfl rfl (lb rfl) ?_
   refine te [(0, (sl tInt left0)), (1, (sl tInt chosen1)), (2, (.b 0 0)), (3, (.b 1 0)), (4, (.b 2 0)), (5, (.b 3 0)), (6, (.b 4 0))] rfl ?_
   refine T_st (σ' := [.box [(.m [6] 0 fv2.length (tSl tInt).k)], .box [(sl tConflictEdge fv3)], .box [(.f 41 [(.b 0 0), (.b 1 0), (.b 2 0), (.b 3 0), (.b 4 0)])], .box [(sl tConflictEdge fv5)], .box [(boolA fv6)], .dead, .row (flat (tSl tInt).own fv2)]) rfl ?_
   refine T_seq ?_
   refine sr ?_
   refine pv tb 1 rfl ?_
   refine Tp rfl rfl (pur_lenT (T := tInt) sl31 rfl rfl) rfl ?_
   refine pv tb 1 rfl ?_
   refine TO_nil ?_
   refine T_cond (t := decide ((left0.length : Int) = 0)) rfl (fun c_1 => ?_) (fun c_1 => ?_)
   ·replace H := cond_t c_1 H
    obtain ⟨r_2, h_3, H⟩ := bind_inv H
    obtain ⟨us_4, h_5, H⟩ := bind_inv H
    refine T_pad ?_
    refine T_pad ?_
    refine T_pad ?_
    refine T_cutX (fun (_ : Unit) => True) (fun _ => []) (fun _ => [.box [(.m [6] 0 us_4.length (tSl tInt).k)], .box [(sl tConflictEdge fv3)], .box [(.f 41 [(.b 0 0), (.b 1 0), (.b 2 0), (.b 3 0), (.b 4 0)])], .box [(sl tConflictEdge fv5)], .box [(boolA fv6)], .dead, .row (flat (tSl tInt).own us_4)]) ?_ ?_
    ·skip
     refine T_regionPh 7 5 mixed rfl (by kernel_rfl) ?_
     refine pa tb [0, 1] 3 rfl (by kernel_rfl) rfl ?_
     refine t1 2 (by kernel_rfl) rfl rfl (TOp_callO (CallOp.le (call_static ent42 rfl) (leCons (leR rfl) (leCons leN leNil))) rfl (m_impl_union_own _ _ _ h_3) rfl rfl rfl ?_)
     refine tae [(0, (sl tInt left0)), (1, (sl tInt chosen1)), (2, (.b 0 0)), (3, (.b 1 0)), (4, (.b 2 0)), (5, (.b 3 0)), (6, (.b 4 0)), (13, (boolA (decide ((left0.length : Int) = 0)))), (14, (.m [6] 0 fv2.length (tSl tInt).k)), (15, (sl tInt chosen1)), (16, (.m [10] 0 r_2.length tInt.k))] rfl ?_
     refine TA_st (σ' := [.dead, .dead, .dead, .dead, .dead, .dead, .row (flat (tSl tInt).own fv2), .dead, .dead, .dead, .row (flat tInt.own r_2)]) rfl ?_
     refine tmw 7 10 (by decide) (lb rfl) rfl rfl (lb rfl) rfl ?_
     refine t1 3 (by kernel_rfl) rfl rfl (TOp_ghost (E' := [(0, (sl tInt left0)), (1, (sl tInt chosen1)), (2, (.b 0 0)), (3, (.b 1 0)), (4, (.b 2 0)), (5, (.b 3 0)), (6, (.b 4 0)), (13, (boolA (decide ((left0.length : Int) = 0)))), (14, (.m [6] 0 fv2.length (tSl tInt).k)), (15, (sl tInt chosen1)), (16, (.m [7] 0 r_2.length tInt.k))]) (σ' := [.dead, .dead, .dead, .dead, .dead, .dead, .row (flat (tSl tInt).own fv2), .row (flat tInt.own r_2), .dead, .dead]) (by exact Ghost.weak (w0 10)) (TOp_litB (nn := 1) (k := 1) sl27 zero31 rfl rfl rfl rfl (by decide) ?_))
     refine TA_st (σ' := [.dead, .dead, .dead, .dead, .dead, .dead, .row (flat (tSl tInt).own fv2), .row (flat tInt.own r_2), .dead, .dead, .box [(.m [7] 0 r_2.length tInt.k)]]) rfl ?_
     refine tmw 9 6 (by decide) (lb rfl) rfl rfl (lb rfl) rfl ?_
     refine t1 4 (by kernel_rfl) rfl rfl (TOp_boxify 9 rfl (lb rfl) (TOp_appB (T := (tSl tInt)) (xs := fv2) (v := r_2) sl27 zero31 rfl bytes31 (by decide) rfl rfl rfl rfl rfl rfl rfl rfl h_5 (lb rfl) ?_))
     refine tae [(0, (sl tInt left0)), (1, (sl tInt chosen1)), (2, (.b 0 0)), (3, (.b 1 0)), (4, (.b 2 0)), (5, (.b 3 0)), (6, (.b 4 0)), (13, (boolA (decide ((left0.length : Int) = 0)))), (15, (sl tInt chosen1)), (18, .m [11] 0 (fv2.length + 1) (tSl tInt).k)] rfl ?_
     refine TA_st (σ' := [.dead, .dead, .dead, .dead, .dead, .dead, .dead, .row (flat tInt.own r_2), .dead, .dead, .box [(.m [7] 0 r_2.length tInt.k)], .box (flat (tSl tInt).own fv2 ++ [(.m [7] 0 r_2.length tInt.k)])]) rfl ?_
     refine TA_absorbA (pr := flat (tSl tInt).own fv2) 11 0 7 rfl rfl rfl (by decide) tInt.pos (flat_len tInt.lenO _) (lb rfl) (lb rfl) rfl (nms_dead (nms_dead (nms_dead (nms_dead (nms_dead (nms_dead (nms_dead (nms_row (nms_dead (nms_dead (nms_box rfl (nms_box (namesA namesL_own rfl) nms_nil)))))))))))) ?_
     refine TA_st (σ' := [.dead, .dead, .dead, .dead, .dead, .dead, .dead, .dead, .dead, .dead, .box [(.m [7] 0 r_2.length tInt.k)], .box (flat (tSl tInt).own fv2 ++ [.o tInt.k (flat tInt.own r_2)])]) rfl ?_
     refine TA_rowifyT (T := (tSl tInt)) (xs := fv2) (v := r_2) 11 rfl rfl h_5 (lb rfl) ?_
     refine TA_st (σ' := [.dead, .dead, .dead, .dead, .dead, .dead, .dead, .dead, .dead, .dead, .box [(.m [7] 0 r_2.length tInt.k)], .row (flat (tSl tInt).own us_4)]) rfl ?_
     refine TA_move 9 11 (by decide) (lb rfl) rfl rfl (lb rfl) ?_
     refine TA_env (E' := [(0, (sl tInt left0)), (1, (sl tInt chosen1)), (2, (.b 0 0)), (3, (.b 1 0)), (4, (.b 2 0)), (5, (.b 3 0)), (6, (.b 4 0)), (13, (boolA (decide ((left0.length : Int) = 0)))), (15, (sl tInt chosen1)), (18, (.m [9] 0 us_4.length (tSl tInt).k))]) ⟨rfl, rfl, rfl, rfl, rfl, rfl, rfl, rfl, rfl, (congrArg (fun q => A.m [9] 0 q (tSl tInt).k) (app_len h_5)), trivial⟩ ?_
     refine TA_kill 10 (lb rfl) ?_
     refine TA_st (σ' := [.dead, .dead, .dead, .dead, .dead, .dead, .dead, .dead, .dead, .row (flat (tSl tInt).own us_4), .dead, .dead]) rfl ?_
     refine TA_nil (by kernel_rfl) ?_
     refine TA_st (σ' := [.box [(.m [6] 0 fv2.length (tSl tInt).k)], .box [(sl tConflictEdge fv3)], .box [(.f 41 [(.b 0 0), (.b 1 0), (.b 2 0), (.b 3 0), (.b 4 0)])], .box [(sl tConflictEdge fv5)], .box [(boolA fv6)], .dead, .dead, .dead, .dead, .row (flat (tSl tInt).own us_4), .dead, .dead]) rfl ?_
     refine tmv 6 9 (by decide) (lb rfl) rfl rfl (lb rfl) ?_
     refine TA_st (σ' := [.box [.j], .box [(sl tConflictEdge fv3)], .box [(.f 41 [(.b 0 0), (.b 1 0), (.b 2 0), (.b 3 0), (.b 4 0)])], .box [(sl tConflictEdge fv5)], .box [(boolA fv6)], .dead, .row (flat (tSl tInt).own us_4), .dead, .dead, .dead, .dead, .dead]) rfl ?_
     refine t1 5 (by kernel_rfl) rfl rfl (TOp_storeB sz27 rfl rfl rfl rfl rfl rfl rfl (by decide) (lb rfl) rfl ?_)
     refine TA_st (σ' := [.box [(.m [6] 0 us_4.length (tSl tInt).k)], .box [(sl tConflictEdge fv3)], .box [(.f 41 [(.b 0 0), (.b 1 0), (.b 2 0), (.b 3 0), (.b 4 0)])], .box [(sl tConflictEdge fv5)], .box [(boolA fv6)], .dead, .row (flat (tSl tInt).own us_4), .dead, .dead, .dead, .dead, .dead]) rfl ?_
     exact TA_nil (by kernel_rfl) (joined () (w0 7) trivial)
    ·rintro _ _
     refine T_ret ?_
     refine then_ret ?_
     obtain rfl := some_inj H
     exact end_pickX .nil rfl [0, 1, 2, 3, 4, 5, 6] (by decide) (lb rfl) rfl (lb rfl) rfl rfl rfl rfl rfl rfl
   ·replace H := cond_f c_1 H
    refine T_skip ?_
    refine sr ?_
    obtain ⟨r_6, h_7, H⟩ := bind_inv H
    refine pv tb 2 rfl ?_
    refine TO_cons rfl (TOp_callV (call_static ent43 rfl) (m_impl_undominated_ok _ _ _ h_7) rfl rfl rfl ?_)
    refine Tp rfl rfl (pur_lenT (T := tInt) sl31 rfl rfl) rfl ?_
    refine pv tb 1 rfl ?_
    refine TO_nil ?_
    obtain ⟨O9_, L9_, N9_⟩ := bind_inv H
    clear H
    obtain ⟨B9_, hb9, L9_⟩ := gen_forL L9_
    refine T_block ?_
    refine T_loopX (fun k => fun (⟨t_8, box0⟩ : Nat × (List (List Int))) => k = r_6.length - t_8 ∧ forL B9_ (r_6.drop t_8) (t_8 : Int) box0 = some O9_) (fun (⟨t_8, box0⟩ : Nat × (List (List Int))) => [(0, (sl tInt left0)), (1, (sl tInt chosen1)), (4, (.b 2 0)), (5, (.b 3 0)), (6, (.b 4 0)), (21, (sl tInt r_6)), (22, (intA (r_6.length : Int))), (23, (intA (t_8 : Int)))]) (fun (⟨t_8, box0⟩ : Nat × (List (List Int))) => [.box [(.m [6] 0 box0.length (tSl tInt).k)], .box [(sl tConflictEdge fv3)], .box [(.f 41 [(.b 0 0), (.b 1 0), (.b 2 0), (.b 3 0), (.b 4 0)])], .box [(sl tConflictEdge fv5)], .box [(boolA fv6)], .dead, .row (flat (tSl tInt).own box0)]) _ (0, fv2) (w0 7) ⟨rfl, L9_⟩ ?_
    rintro _ ⟨t_8, box0⟩ ⟨rfl, L9_⟩
    refine T_fact (len_sl (T := tInt) (.tmp 21) rfl) (fun hl9 => ?_)
    refine sr ?_
    refine pv tb 1 rfl ?_
    refine TO_nil ?_
    refine T_seq ?_
    refine T_cond (t := decide ((t_8 : Int) < (r_6.length : Int))) rfl (fun d9 => ?_) (fun d9 => ?_)
    ·replace d9 := of_decide_eq_true d9
     obtain ⟨x_t_8, hx_t_8⟩ : ∃ v, (r_6)[t_8]? = some v := ⟨_, List.getElem?_eq_getElem (by omega)⟩
     obtain ⟨C9_, H, K9_⟩ := forL_step L9_ hx_t_8
     rw [hb9] at H
     refine T_skip ?_
     refine T_seq ?_
     refine T_block ?_
     refine sr ?_
     refine Tp rfl rfl (pur_ixT (T := tInt) sl31 rfl rfl rfl hx_t_8 rfl) rfl ?_
     refine Tp rfl rfl (pur_ldT (T := tInt) (i := t_8) (off := 0) rfl one3 rfl rfl hx_t_8 rfl) rfl ?_
     refine pv tb 1 rfl ?_
     refine TO_nil ?_
     obtain ⟨r_10, h_11, H⟩ := bind_inv H
     obtain ⟨r_12, h_13, H⟩ := bind_inv H
     obtain ⟨us_14, h_15, H⟩ := bind_inv H
     obtain ⟨r_16, h_17, H⟩ := bind_inv H
     refine T_pad ?_
     refine T_pad ?_
     refine T_cutX (fun (_ : Unit) => True) (fun _ => [(0, (sl tInt left0)), (1, (sl tInt chosen1)), (4, (.b 2 0)), (5, (.b 3 0)), (6, (.b 4 0)), (21, (sl tInt r_6)), (22, (intA (r_6.length : Int))), (23, (intA (t_8 : Int)))]) (fun _ => [.box [(.m [6] 0 r_16.length (tSl tInt).k)], .box [(sl tConflictEdge fv3)], .box [(.f 41 [(.b 0 0), (.b 1 0), (.b 2 0), (.b 3 0), (.b 4 0)])], .box [(sl tConflictEdge fv5)], .box [(boolA fv6)], .dead, .row (flat (tSl tInt).own r_16)]) ?_ ?_
     ·skip
      refine T_regionP 0 mixed rfl ?_
      refine TA_have 1 #[true, true, true, true, true, true, true, true, true, true, false] [(0, (sl tInt left0)), (1, (sl tInt chosen1)), (4, (.b 2 0)), (5, (.b 3 0)), (6, (.b 4 0)), (21, (sl tInt r_6)), (22, (intA (r_6.length : Int))), (23, (intA (t_8 : Int))), (27, (.f 41 [(.b 0 0), (.b 1 0), (.b 2 0), (.b 3 0), (.b 4 0)])), (31, (sl tInt r_10)), (36, (sl tInt us_14))] [.box [(.m [6] 0 box0.length (tSl tInt).k)], .box [(sl tConflictEdge fv3)], .box [(.f 41 [(.b 0 0), (.b 1 0), (.b 2 0), (.b 3 0), (.b 4 0)])], .box [(sl tConflictEdge fv5)], .box [(boolA fv6)], .dead, .row (flat (tSl tInt).own box0), .dead, .row (flat tInt.enc ([x_t_8] : (List Int)))] ?_ (fun hj0_5 => ?_)
      ·skip
       refine t1 10 (by kernel_rfl) rfl rfl (TOp_callS [0, 1, 2, 3, 4, 6] (call_closure (caps := [(.b 0 0), (.b 1 0), (.b 2 0), (.b 3 0), (.b 4 0)]) ent41 rfl rfl) (by decide) rfl rfl rfl rfl rfl rfl (IH _ _ _ _ _ _ _ h_17) rfl rfl ?_)
       refine tae [(0, (sl tInt left0)), (1, (sl tInt chosen1)), (4, (.b 2 0)), (5, (.b 3 0)), (6, (.b 4 0)), (21, (sl tInt r_6)), (22, (intA (r_6.length : Int))), (23, (intA (t_8 : Int))), (27, (.f 41 [(.b 0 0), (.b 1 0), (.b 2 0), (.b 3 0), (.b 4 0)])), (31, (sl tInt r_10)), (36, (sl tInt us_14))] rfl ?_
       refine TA_st (σ' := [.box [(.m [9] 0 r_16.length (tSl tInt).k)], .box [(sl tConflictEdge fv3)], .box [(.f 41 [(.b 0 0), (.b 1 0), (.b 2 0), (.b 3 0), (.b 4 0)])], .box [(sl tConflictEdge fv5)], .box [(boolA fv6)], .dead, .dead, .dead, .row (flat tInt.enc ([x_t_8] : (List Int))), .row (flat (tSl tInt).own r_16)]) rfl ?_
       refine tmv 6 9 (by decide) (lb rfl) rfl rfl (lb rfl) ?_
       refine TA_st (σ' := [.box [(.m [6] 0 r_16.length (tSl tInt).k)], .box [(sl tConflictEdge fv3)], .box [(.f 41 [(.b 0 0), (.b 1 0), (.b 2 0), (.b 3 0), (.b 4 0)])], .box [(sl tConflictEdge fv5)], .box [(boolA fv6)], .dead, .row (flat (tSl tInt).own r_16), .dead, .row (flat tInt.enc ([x_t_8] : (List Int))), .dead]) rfl ?_
       refine tae [(0, (sl tInt left0)), (1, (sl tInt chosen1)), (4, (.b 2 0)), (5, (.b 3 0)), (6, (.b 4 0)), (21, (sl tInt r_6)), (22, (intA (r_6.length : Int))), (23, (intA (t_8 : Int))), (27, (.f 41 [(.b 0 0), (.b 1 0), (.b 2 0), (.b 3 0), (.b 4 0)])), (31, (sl tInt r_10)), (36, (sl tInt us_14))] rfl ?_
       refine TA_st (σ' := [.box [(.m [6] 0 r_16.length (tSl tInt).k)], .box [(sl tConflictEdge fv3)], .box [(.f 41 [(.b 0 0), (.b 1 0), (.b 2 0), (.b 3 0), (.b 4 0)])], .box [(sl tConflictEdge fv5)], .box [(boolA fv6)], .dead, .row (flat (tSl tInt).own r_16), .dead, .row (flat tInt.enc ([x_t_8] : (List Int))), .dead]) rfl ?_
       exact TA_nil (by kernel_rfl) (joined () (w0 7) trivial)
      refine TA_have 2 #[true, true, true, true, true, true, true, true, true, false, false] [(0, (sl tInt left0)), (1, (sl tInt chosen1)), (4, (.b 2 0)), (5, (.b 3 0)), (6, (.b 4 0)), (21, (sl tInt r_6)), (22, (intA (r_6.length : Int))), (23, (intA (t_8 : Int))), (27, (.f 41 [(.b 0 0), (.b 1 0), (.b 2 0), (.b 3 0), (.b 4 0)])), (31, (sl tInt r_10)), (33, (.m [7] 0 r_12.length tInt.k)), (35, (.m [8] 0 ([x_t_8] : (List Int)).length tInt.k))] [.box [(.m [6] 0 box0.length (tSl tInt).k)], .box [(sl tConflictEdge fv3)], .box [(.f 41 [(.b 0 0), (.b 1 0), (.b 2 0), (.b 3 0), (.b 4 0)])], .box [(sl tConflictEdge fv5)], .box [(boolA fv6)], .dead, .row (flat (tSl tInt).own box0), .row (flat tInt.own r_12), .row (flat tInt.enc ([x_t_8] : (List Int)))] ?_ (fun hj1_5 => ?_)
      ·skip
       refine t1 9 (by kernel_rfl) rfl rfl (TOp_appY (T := tInt) (f := tInt.own) (xs := r_12) (ys := ([x_t_8] : (List Int))) tInt.lenO sl31 zero3 rfl bytes3 (by decide) rfl rfl rfl rfl (src_mT (f := tInt.own) tInt.lenO rfl rfl (flat_cell tInt _)) (flat_cell tInt _) h_15 ?_)
       refine tmw 7 9 (by decide) (lb rfl) rfl rfl (lb rfl) rfl ?_
       refine TA_ghost (E' := [(0, (sl tInt left0)), (1, (sl tInt chosen1)), (4, (.b 2 0)), (5, (.b 3 0)), (6, (.b 4 0)), (21, (sl tInt r_6)), (22, (intA (r_6.length : Int))), (23, (intA (t_8 : Int))), (27, (.f 41 [(.b 0 0), (.b 1 0), (.b 2 0), (.b 3 0), (.b 4 0)])), (31, (sl tInt r_10)), (35, (.m [8] 0 ([x_t_8] : (List Int)).length tInt.k)), (36, (.m [7] 0 us_14.length tInt.k))]) (σ' := [.box [(.m [6] 0 box0.length (tSl tInt).k)], .box [(sl tConflictEdge fv3)], .box [(.f 41 [(.b 0 0), (.b 1 0), (.b 2 0), (.b 3 0), (.b 4 0)])], .box [(sl tConflictEdge fv5)], .box [(boolA fv6)], .dead, .row (flat (tSl tInt).own box0), .row (flat tInt.own us_14), .row (flat tInt.enc ([x_t_8] : (List Int))), .dead]) (Ghost.weak (WeakL.to 10 (lb rfl) rfl rfl rfl rfl ⟨leR rfl, leR rfl, leR rfl, leR rfl, leR rfl, leR rfl, leR rfl, leR rfl, leR rfl, leR rfl, leR rfl, leR rfl, trivial⟩)) ?_
       refine TA_frz1 7 (E' := [(0, (sl tInt left0)), (1, (sl tInt chosen1)), (4, (.b 2 0)), (5, (.b 3 0)), (6, (.b 4 0)), (21, (sl tInt r_6)), (22, (intA (r_6.length : Int))), (23, (intA (t_8 : Int))), (27, (.f 41 [(.b 0 0), (.b 1 0), (.b 2 0), (.b 3 0), (.b 4 0)])), (31, (sl tInt r_10)), (35, (.m [8] 0 ([x_t_8] : (List Int)).length tInt.k)), (36, (sl tInt us_14))]) rfl rfl (lb rfl) ⟨(.keep rfl), (.keep rfl), (.keep rfl), (.keep rfl), (.keep rfl), (.keep rfl), (.keep rfl), (.keep rfl), (.keep rfl), (.keep rfl), (.keep rfl), fz1T, trivial⟩ ?_
       refine TA_st (σ' := [.box [(.m [6] 0 box0.length (tSl tInt).k)], .box [(sl tConflictEdge fv3)], .box [(.f 41 [(.b 0 0), (.b 1 0), (.b 2 0), (.b 3 0), (.b 4 0)])], .box [(sl tConflictEdge fv5)], .box [(boolA fv6)], .dead, .row (flat (tSl tInt).own box0), .dead, .row (flat tInt.enc ([x_t_8] : (List Int))), .dead]) rfl ?_
       exact tj hj0_5 rfl (w0 9)
      refine TA_have 3 #[false, true, true, true, true, true, true, true, true, false, false] [(0, (sl tInt left0)), (1, (sl tInt chosen1)), (4, (.b 2 0)), (5, (.b 3 0)), (6, (.b 4 0)), (21, (sl tInt r_6)), (22, (intA (r_6.length : Int))), (23, (intA (t_8 : Int))), (31, (sl tInt r_10)), (33, (.m [7] 0 r_12.length tInt.k)), (35, (.m [8] 0 ([x_t_8] : (List Int)).length tInt.k))] [.box [(.m [6] 0 box0.length (tSl tInt).k)], .box [(sl tConflictEdge fv3)], .box [(.f 41 [(.b 0 0), (.b 1 0), (.b 2 0), (.b 3 0), (.b 4 0)])], .box [(sl tConflictEdge fv5)], .box [(boolA fv6)], .dead, .row (flat (tSl tInt).own box0), .row (flat tInt.own r_12), .row (flat tInt.enc ([x_t_8] : (List Int)))] ?_ (fun hj2_5 => ?_)
      ·skip
       refine TA_all [0, 9] (by kernel_rfl) (by decide) ⟨?_, ?_, trivial⟩
       ·skip
        refine ⟨_, rfl, rfl, (TOp_pure (pur_ld_b one63 rfl rfl rfl rfl) rfl ?_)⟩
        exact tj hj1_5 rfl (w0 9)
       ·skip
        refine ⟨_, rfl, rfl, (TOp_appY (T := tInt) (f := tInt.own) (xs := r_12) (ys := ([x_t_8] : (List Int))) tInt.lenO sl31 zero3 rfl bytes3 (by decide) rfl rfl rfl rfl (src_mT (f := tInt.own) tInt.lenO rfl rfl (flat_cell tInt _)) (flat_cell tInt _) h_15 ?_)⟩
        refine tmw 7 9 (by decide) (lb rfl) rfl rfl (lb rfl) rfl ?_
        refine t1 0 (by kernel_rfl) rfl rfl (TOp_pure (pur_ld_b one63 rfl rfl rfl rfl) rfl ?_)
        refine TA_ghost (E' := [(0, (sl tInt left0)), (1, (sl tInt chosen1)), (4, (.b 2 0)), (5, (.b 3 0)), (6, (.b 4 0)), (21, (sl tInt r_6)), (22, (intA (r_6.length : Int))), (23, (intA (t_8 : Int))), (27, (.f 41 [(.b 0 0), (.b 1 0), (.b 2 0), (.b 3 0), (.b 4 0)])), (31, (sl tInt r_10)), (35, (.m [8] 0 ([x_t_8] : (List Int)).length tInt.k)), (36, (.m [7] 0 us_14.length tInt.k))]) (σ' := [.box [(.m [6] 0 box0.length (tSl tInt).k)], .box [(sl tConflictEdge fv3)], .box [(.f 41 [(.b 0 0), (.b 1 0), (.b 2 0), (.b 3 0), (.b 4 0)])], .box [(sl tConflictEdge fv5)], .box [(boolA fv6)], .dead, .row (flat (tSl tInt).own box0), .row (flat tInt.own us_14), .row (flat tInt.enc ([x_t_8] : (List Int))), .dead]) (Ghost.weak (WeakL.to 10 (lb rfl) rfl rfl rfl rfl ⟨leR rfl, leR rfl, leR rfl, leR rfl, leR rfl, leR rfl, leR rfl, leR rfl, leR rfl, leR rfl, leR rfl, leR rfl, trivial⟩)) ?_
        refine TA_frz1 7 (E' := [(0, (sl tInt left0)), (1, (sl tInt chosen1)), (4, (.b 2 0)), (5, (.b 3 0)), (6, (.b 4 0)), (21, (sl tInt r_6)), (22, (intA (r_6.length : Int))), (23, (intA (t_8 : Int))), (27, (.f 41 [(.b 0 0), (.b 1 0), (.b 2 0), (.b 3 0), (.b 4 0)])), (31, (sl tInt r_10)), (35, (.m [8] 0 ([x_t_8] : (List Int)).length tInt.k)), (36, (sl tInt us_14))]) rfl rfl (lb rfl) ⟨(.keep rfl), (.keep rfl), (.keep rfl), (.keep rfl), (.keep rfl), (.keep rfl), (.keep rfl), (.keep rfl), (.keep rfl), (.keep rfl), (.keep rfl), fz1T, trivial⟩ ?_
        refine TA_st (σ' := [.box [(.m [6] 0 box0.length (tSl tInt).k)], .box [(sl tConflictEdge fv3)], .box [(.f 41 [(.b 0 0), (.b 1 0), (.b 2 0), (.b 3 0), (.b 4 0)])], .box [(sl tConflictEdge fv5)], .box [(boolA fv6)], .dead, .row (flat (tSl tInt).own box0), .dead, .row (flat tInt.enc ([x_t_8] : (List Int))), .dead]) rfl ?_
        exact tj hj0_5 rfl (w0 9)
      refine TA_have 3 #[true, true, true, true, true, true, false, true, true, false, false] [(0, (sl tInt left0)), (1, (sl tInt chosen1)), (4, (.b 2 0)), (5, (.b 3 0)), (6, (.b 4 0)), (21, (sl tInt r_6)), (22, (intA (r_6.length : Int))), (23, (intA (t_8 : Int))), (27, (.f 41 [(.b 0 0), (.b 1 0), (.b 2 0), (.b 3 0), (.b 4 0)])), (31, (sl tInt r_10)), (32, (sl tInt chosen1)), (35, (.m [8] 0 ([x_t_8] : (List Int)).length tInt.k))] [.box [(.m [6] 0 box0.length (tSl tInt).k)], .box [(sl tConflictEdge fv3)], .box [(.f 41 [(.b 0 0), (.b 1 0), (.b 2 0), (.b 3 0), (.b 4 0)])], .box [(sl tConflictEdge fv5)], .box [(boolA fv6)], .dead, .row (flat (tSl tInt).own box0), .dead, .row (flat tInt.enc ([x_t_8] : (List Int)))] ?_ (fun hj3_5 => ?_)
      ·skip
       refine t1 6 (by kernel_rfl) rfl rfl (TOp_callO (call_static ent45 rfl) rfl (m_slices_Clone_Sint_int_own _ _ h_13) rfl rfl rfl ?_)
       refine tae [(0, (sl tInt left0)), (1, (sl tInt chosen1)), (4, (.b 2 0)), (5, (.b 3 0)), (6, (.b 4 0)), (21, (sl tInt r_6)), (22, (intA (r_6.length : Int))), (23, (intA (t_8 : Int))), (27, (.f 41 [(.b 0 0), (.b 1 0), (.b 2 0), (.b 3 0), (.b 4 0)])), (31, (sl tInt r_10)), (32, (sl tInt chosen1)), (33, (.m [9] 0 r_12.length tInt.k)), (35, (.m [8] 0 ([x_t_8] : (List Int)).length tInt.k))] rfl ?_
       refine TA_st (σ' := [.box [(.m [6] 0 box0.length (tSl tInt).k)], .box [(sl tConflictEdge fv3)], .box [(.f 41 [(.b 0 0), (.b 1 0), (.b 2 0), (.b 3 0), (.b 4 0)])], .box [(sl tConflictEdge fv5)], .box [(boolA fv6)], .dead, .row (flat (tSl tInt).own box0), .dead, .row (flat tInt.enc ([x_t_8] : (List Int))), .row (flat tInt.own r_12)]) rfl ?_
       refine tmw 7 9 (by decide) (lb rfl) rfl rfl (lb rfl) rfl ?_
       exact tj hj1_5 rfl (w0 9)
      refine TA_have 3 #[true, true, true, true, true, true, true, true, false, false, false] [(0, (sl tInt left0)), (1, (sl tInt chosen1)), (4, (.b 2 0)), (5, (.b 3 0)), (6, (.b 4 0)), (21, (sl tInt r_6)), (22, (intA (r_6.length : Int))), (23, (intA (t_8 : Int))), (27, (.f 41 [(.b 0 0), (.b 1 0), (.b 2 0), (.b 3 0), (.b 4 0)])), (31, (sl tInt r_10)), (33, (.m [7] 0 r_12.length tInt.k)), (34, (intA x_t_8))] [.box [(.m [6] 0 box0.length (tSl tInt).k)], .box [(sl tConflictEdge fv3)], .box [(.f 41 [(.b 0 0), (.b 1 0), (.b 2 0), (.b 3 0), (.b 4 0)])], .box [(sl tConflictEdge fv5)], .box [(boolA fv6)], .dead, .row (flat (tSl tInt).own box0), .row (flat tInt.own r_12), .dead] ?_ (fun hj4_5 => ?_)
      ·skip
       refine t1 8 (by kernel_rfl) rfl rfl (TOp_lit (nn := 1) (k := 1) sl31 zero3 rfl rfl rfl rfl (by decide) ?_)
       refine tmw 8 9 (by decide) (lb rfl) rfl rfl (lb rfl) rfl ?_
       exact tj hj1_5 rfl (w0 9)
      refine TA_have 4 #[false, true, true, true, true, true, false, true, true, false, false] [(0, (sl tInt left0)), (1, (sl tInt chosen1)), (4, (.b 2 0)), (5, (.b 3 0)), (6, (.b 4 0)), (21, (sl tInt r_6)), (22, (intA (r_6.length : Int))), (23, (intA (t_8 : Int))), (31, (sl tInt r_10)), (32, (sl tInt chosen1)), (35, (.m [8] 0 ([x_t_8] : (List Int)).length tInt.k))] [.box [(.m [6] 0 box0.length (tSl tInt).k)], .box [(sl tConflictEdge fv3)], .box [(.f 41 [(.b 0 0), (.b 1 0), (.b 2 0), (.b 3 0), (.b 4 0)])], .box [(sl tConflictEdge fv5)], .box [(boolA fv6)], .dead, .row (flat (tSl tInt).own box0), .dead, .row (flat tInt.enc ([x_t_8] : (List Int)))] ?_ (fun hj5_5 => ?_)
      ·skip
       refine TA_all [0, 6] (by kernel_rfl) (by decide) ⟨?_, ?_, trivial⟩
       ·skip
        refine ⟨_, rfl, rfl, (TOp_pure (pur_ld_b one63 rfl rfl rfl rfl) rfl ?_)⟩
        exact tj hj3_5 rfl (w0 9)
       ·skip
        refine ⟨_, rfl, rfl, (TOp_callO (call_static ent45 rfl) rfl (m_slices_Clone_Sint_int_own _ _ h_13) rfl rfl rfl ?_)⟩
        refine tae [(0, (sl tInt left0)), (1, (sl tInt chosen1)), (4, (.b 2 0)), (5, (.b 3 0)), (6, (.b 4 0)), (21, (sl tInt r_6)), (22, (intA (r_6.length : Int))), (23, (intA (t_8 : Int))), (31, (sl tInt r_10)), (32, (sl tInt chosen1)), (33, (.m [9] 0 r_12.length tInt.k)), (35, (.m [8] 0 ([x_t_8] : (List Int)).length tInt.k))] rfl ?_
        refine TA_st (σ' := [.box [(.m [6] 0 box0.length (tSl tInt).k)], .box [(sl tConflictEdge fv3)], .box [(.f 41 [(.b 0 0), (.b 1 0), (.b 2 0), (.b 3 0), (.b 4 0)])], .box [(sl tConflictEdge fv5)], .box [(boolA fv6)], .dead, .row (flat (tSl tInt).own box0), .dead, .row (flat tInt.enc ([x_t_8] : (List Int))), .row (flat tInt.own r_12)]) rfl ?_
        refine tmw 7 9 (by decide) (lb rfl) rfl rfl (lb rfl) rfl ?_
        exact tj hj2_5 rfl (w0 9)
      refine TA_have 4 #[true, true, true, true, false, true, false, true, true, false, false] [(0, (sl tInt left0)), (1, (sl tInt chosen1)), (4, (.b 2 0)), (5, (.b 3 0)), (6, (.b 4 0)), (21, (sl tInt r_6)), (22, (intA (r_6.length : Int))), (23, (intA (t_8 : Int))), (27, (.f 41 [(.b 0 0), (.b 1 0), (.b 2 0), (.b 3 0), (.b 4 0)])), (28, (sl tConflictEdge fv5)), (29, (sl tInt left0)), (30, (intA x_t_8)), (32, (sl tInt chosen1)), (35, (.m [8] 0 ([x_t_8] : (List Int)).length tInt.k))] [.box [(.m [6] 0 box0.length (tSl tInt).k)], .box [(sl tConflictEdge fv3)], .box [(.f 41 [(.b 0 0), (.b 1 0), (.b 2 0), (.b 3 0), (.b 4 0)])], .box [(sl tConflictEdge fv5)], .box [(boolA fv6)], .dead, .row (flat (tSl tInt).own box0), .dead, .row (flat tInt.enc ([x_t_8] : (List Int)))] ?_ (fun hj6_5 => ?_)
      ·skip
       refine t1 4 (by kernel_rfl) rfl rfl (TOp_callV (call_static ent44 rfl) (m_impl_selected_ok _ _ _ _ h_11) rfl rfl rfl ?_)
       exact tj hj3_5 rfl (w0 9)
      refine TA_have 4 #[true, true, true, true, true, true, false, true, false, false, false] [(0, (sl tInt left0)), (1, (sl tInt chosen1)), (4, (.b 2 0)), (5, (.b 3 0)), (6, (.b 4 0)), (21, (sl tInt r_6)), (22, (intA (r_6.length : Int))), (23, (intA (t_8 : Int))), (27, (.f 41 [(.b 0 0), (.b 1 0), (.b 2 0), (.b 3 0), (.b 4 0)])), (31, (sl tInt r_10)), (32, (sl tInt chosen1)), (34, (intA x_t_8))] [.box [(.m [6] 0 box0.length (tSl tInt).k)], .box [(sl tConflictEdge fv3)], .box [(.f 41 [(.b 0 0), (.b 1 0), (.b 2 0), (.b 3 0), (.b 4 0)])], .box [(sl tConflictEdge fv5)], .box [(boolA fv6)], .dead, .row (flat (tSl tInt).own box0), .dead, .dead] ?_ (fun hj7_5 => ?_)
      ·skip
       refine TA_all [6, 8] (by kernel_rfl) (by decide) ⟨?_, ?_, trivial⟩
       ·skip
        refine ⟨_, rfl, rfl, (TOp_callO (call_static ent45 rfl) rfl (m_slices_Clone_Sint_int_own _ _ h_13) rfl rfl rfl ?_)⟩
        refine tae [(0, (sl tInt left0)), (1, (sl tInt chosen1)), (4, (.b 2 0)), (5, (.b 3 0)), (6, (.b 4 0)), (21, (sl tInt r_6)), (22, (intA (r_6.length : Int))), (23, (intA (t_8 : Int))), (27, (.f 41 [(.b 0 0), (.b 1 0), (.b 2 0), (.b 3 0), (.b 4 0)])), (31, (sl tInt r_10)), (32, (sl tInt chosen1)), (33, (.m [9] 0 r_12.length tInt.k)), (34, (intA x_t_8))] rfl ?_
        refine TA_st (σ' := [.box [(.m [6] 0 box0.length (tSl tInt).k)], .box [(sl tConflictEdge fv3)], .box [(.f 41 [(.b 0 0), (.b 1 0), (.b 2 0), (.b 3 0), (.b 4 0)])], .box [(sl tConflictEdge fv5)], .box [(boolA fv6)], .dead, .row (flat (tSl tInt).own box0), .dead, .dead, .row (flat tInt.own r_12)]) rfl ?_
        refine tmw 7 9 (by decide) (lb rfl) rfl rfl (lb rfl) rfl ?_
        exact tj hj4_5 rfl (w0 9)
       ·skip
        refine ⟨_, rfl, rfl, (TOp_lit (nn := 1) (k := 1) sl31 zero3 rfl rfl rfl rfl (by decide) ?_)⟩
        refine tmw 8 9 (by decide) (lb rfl) rfl rfl (lb rfl) rfl ?_
        exact tj hj3_5 rfl (w0 9)
      refine TA_have 5 #[false, true, true, true, false, true, false, true, true, false, false] [(0, (sl tInt left0)), (1, (sl tInt chosen1)), (4, (.b 2 0)), (5, (.b 3 0)), (6, (.b 4 0)), (21, (sl tInt r_6)), (22, (intA (r_6.length : Int))), (23, (intA (t_8 : Int))), (28, (sl tConflictEdge fv5)), (29, (sl tInt left0)), (30, (intA x_t_8)), (32, (sl tInt chosen1)), (35, (.m [8] 0 ([x_t_8] : (List Int)).length tInt.k))] [.box [(.m [6] 0 box0.length (tSl tInt).k)], .box [(sl tConflictEdge fv3)], .box [(.f 41 [(.b 0 0), (.b 1 0), (.b 2 0), (.b 3 0), (.b 4 0)])], .box [(sl tConflictEdge fv5)], .box [(boolA fv6)], .dead, .row (flat (tSl tInt).own box0), .dead, .row (flat tInt.enc ([x_t_8] : (List Int)))] ?_ (fun hj8_5 => ?_)
      ·skip
       refine TA_all [0, 4] (by kernel_rfl) (by decide) ⟨?_, ?_, trivial⟩
       ·skip
        refine ⟨_, rfl, rfl, (TOp_pure (pur_ld_b one63 rfl rfl rfl rfl) rfl ?_)⟩
        exact tj hj6_5 rfl (w0 9)
       ·skip
        refine ⟨_, rfl, rfl, (TOp_callV (call_static ent44 rfl) (m_impl_selected_ok _ _ _ _ h_11) rfl rfl rfl ?_)⟩
        exact tj hj5_5 rfl (w0 9)
      refine TA_have 5 #[true, false, true, true, false, true, false, true, true, false, false] [(0, (sl tInt left0)), (1, (sl tInt chosen1)), (4, (.b 2 0)), (5, (.b 3 0)), (6, (.b 4 0)), (21, (sl tInt r_6)), (22, (intA (r_6.length : Int))), (23, (intA (t_8 : Int))), (27, (.f 41 [(.b 0 0), (.b 1 0), (.b 2 0), (.b 3 0), (.b 4 0)])), (29, (sl tInt left0)), (30, (intA x_t_8)), (32, (sl tInt chosen1)), (35, (.m [8] 0 ([x_t_8] : (List Int)).length tInt.k))] [.box [(.m [6] 0 box0.length (tSl tInt).k)], .box [(sl tConflictEdge fv3)], .box [(.f 41 [(.b 0 0), (.b 1 0), (.b 2 0), (.b 3 0), (.b 4 0)])], .box [(sl tConflictEdge fv5)], .box [(boolA fv6)], .dead, .row (flat (tSl tInt).own box0), .dead, .row (flat tInt.enc ([x_t_8] : (List Int)))] ?_ (fun hj9_5 => ?_)
      ·skip
       refine t1 1 (by kernel_rfl) rfl rfl (TOp_pure (pur_ld_b one24 rfl rfl rfl rfl) rfl ?_)
       exact tj hj6_5 rfl (w0 9)
      refine TA_have 5 #[true, true, true, true, false, true, false, true, false, false, false] [(0, (sl tInt left0)), (1, (sl tInt chosen1)), (4, (.b 2 0)), (5, (.b 3 0)), (6, (.b 4 0)), (21, (sl tInt r_6)), (22, (intA (r_6.length : Int))), (23, (intA (t_8 : Int))), (27, (.f 41 [(.b 0 0), (.b 1 0), (.b 2 0), (.b 3 0), (.b 4 0)])), (28, (sl tConflictEdge fv5)), (29, (sl tInt left0)), (30, (intA x_t_8)), (32, (sl tInt chosen1)), (34, (intA x_t_8))] [.box [(.m [6] 0 box0.length (tSl tInt).k)], .box [(sl tConflictEdge fv3)], .box [(.f 41 [(.b 0 0), (.b 1 0), (.b 2 0), (.b 3 0), (.b 4 0)])], .box [(sl tConflictEdge fv5)], .box [(boolA fv6)], .dead, .row (flat (tSl tInt).own box0), .dead, .dead] ?_ (fun hj10_5 => ?_)
      ·skip
       refine TA_all [4, 8] (by kernel_rfl) (by decide) ⟨?_, ?_, trivial⟩
       ·skip
        refine ⟨_, rfl, rfl, (TOp_callV (call_static ent44 rfl) (m_impl_selected_ok _ _ _ _ h_11) rfl rfl rfl ?_)⟩
        exact tj hj7_5 rfl (w0 9)
       ·skip
        refine ⟨_, rfl, rfl, (TOp_lit (nn := 1) (k := 1) sl31 zero3 rfl rfl rfl rfl (by decide) ?_)⟩
        refine tmw 8 9 (by decide) (lb rfl) rfl rfl (lb rfl) rfl ?_
        exact tj hj6_5 rfl (w0 9)
      refine pa tb [2, 3, 5, 7] 7 rfl (by kernel_rfl) rfl ?_
      refine TA_all [0, 1, 8] (by kernel_rfl) (by decide) ⟨?_, ?_, ?_, trivial⟩
      ·skip
       refine ⟨_, rfl, rfl, (TOp_pure (pur_ld_b one63 rfl rfl rfl rfl) rfl ?_)⟩
       refine TA_all [1, 8] (by kernel_rfl) (by decide) ⟨?_, ?_, trivial⟩
       ·skip
        refine ⟨_, rfl, rfl, (TOp_pure (pur_ld_b one24 rfl rfl rfl rfl) rfl ?_)⟩
        exact tj hj10_5 rfl (w0 9)
       ·skip
        refine ⟨_, rfl, rfl, (TOp_lit (nn := 1) (k := 1) sl31 zero3 rfl rfl rfl rfl (by decide) ?_)⟩
        refine tmw 8 9 (by decide) (lb rfl) rfl rfl (lb rfl) rfl ?_
        exact tj hj9_5 rfl (w0 9)
      ·skip
       refine ⟨_, rfl, rfl, (TOp_pure (pur_ld_b one24 rfl rfl rfl rfl) rfl ?_)⟩
       refine TA_all [0, 4, 8] (by kernel_rfl) (by decide) ⟨?_, ?_, ?_, trivial⟩
       ·skip
        refine ⟨_, rfl, rfl, (TOp_pure (pur_ld_b one63 rfl rfl rfl rfl) rfl ?_)⟩
        exact tj hj10_5 rfl (w0 9)
       ·skip
        refine ⟨_, rfl, rfl, (TOp_callV (call_static ent44 rfl) (m_impl_selected_ok _ _ _ _ h_11) rfl rfl rfl ?_)⟩
        refine TA_all [0, 6, 8] (by kernel_rfl) (by decide) ⟨?_, ?_, ?_, trivial⟩
        ·skip
         refine ⟨_, rfl, rfl, (TOp_pure (pur_ld_b one63 rfl rfl rfl rfl) rfl ?_)⟩
         exact tj hj7_5 rfl (w0 9)
        ·skip
         refine ⟨_, rfl, rfl, (TOp_callO (call_static ent45 rfl) rfl (m_slices_Clone_Sint_int_own _ _ h_13) rfl rfl rfl ?_)⟩
         refine tae [(0, (sl tInt left0)), (1, (sl tInt chosen1)), (4, (.b 2 0)), (5, (.b 3 0)), (6, (.b 4 0)), (10, (intA x_t_8)), (21, (sl tInt r_6)), (22, (intA (r_6.length : Int))), (23, (intA (t_8 : Int))), (28, (sl tConflictEdge fv5)), (29, (sl tInt left0)), (30, (intA x_t_8)), (31, (sl tInt r_10)), (32, (sl tInt chosen1)), (33, (.m [9] 0 r_12.length tInt.k)), (34, (intA x_t_8))] rfl ?_
         refine TA_st (σ' := [.box [(.m [6] 0 box0.length (tSl tInt).k)], .box [(sl tConflictEdge fv3)], .box [(.f 41 [(.b 0 0), (.b 1 0), (.b 2 0), (.b 3 0), (.b 4 0)])], .box [(sl tConflictEdge fv5)], .box [(boolA fv6)], .dead, .row (flat (tSl tInt).own box0), .dead, .dead, .row (flat tInt.own r_12)]) rfl ?_
         refine tmw 7 9 (by decide) (lb rfl) rfl rfl (lb rfl) rfl ?_
         refine TA_all [0, 8] (by kernel_rfl) (by decide) ⟨?_, ?_, trivial⟩
         ·skip
          refine ⟨_, rfl, rfl, (TOp_pure (pur_ld_b one63 rfl rfl rfl rfl) rfl ?_)⟩
          exact tj hj4_5 rfl (w0 9)
         ·skip
          refine ⟨_, rfl, rfl, (TOp_lit (nn := 1) (k := 1) sl31 zero3 rfl rfl rfl rfl (by decide) ?_)⟩
          refine tmw 8 10 (by decide) (lb rfl) rfl rfl (lb rfl) rfl ?_
          refine tae [(0, (sl tInt left0)), (1, (sl tInt chosen1)), (4, (.b 2 0)), (5, (.b 3 0)), (6, (.b 4 0)), (21, (sl tInt r_6)), (22, (intA (r_6.length : Int))), (23, (intA (t_8 : Int))), (31, (sl tInt r_10)), (33, (.m [7] 0 r_12.length tInt.k)), (35, (.m [8] 0 ([x_t_8] : (List Int)).length tInt.k))] rfl ?_
          refine TA_st (σ' := [.box [(.m [6] 0 box0.length (tSl tInt).k)], .box [(sl tConflictEdge fv3)], .box [(.f 41 [(.b 0 0), (.b 1 0), (.b 2 0), (.b 3 0), (.b 4 0)])], .box [(sl tConflictEdge fv5)], .box [(boolA fv6)], .dead, .row (flat (tSl tInt).own box0), .row (flat tInt.own r_12), .row (flat tInt.enc ([x_t_8] : (List Int))), .dead, .dead]) rfl ?_
          exact tj hj2_5 rfl (w0 9)
        ·skip
         refine ⟨_, rfl, rfl, (TOp_lit (nn := 1) (k := 1) sl31 zero3 rfl rfl rfl rfl (by decide) ?_)⟩
         refine tmw 8 9 (by decide) (lb rfl) rfl rfl (lb rfl) rfl ?_
         exact tj hj5_5 rfl (w0 9)
       ·skip
        refine ⟨_, rfl, rfl, (TOp_lit (nn := 1) (k := 1) sl31 zero3 rfl rfl rfl rfl (by decide) ?_)⟩
        refine tmw 8 9 (by decide) (lb rfl) rfl rfl (lb rfl) rfl ?_
        exact tj hj8_5 rfl (w0 9)
      ·skip
       refine ⟨_, rfl, rfl, (TOp_lit (nn := 1) (k := 1) sl31 zero3 rfl rfl rfl rfl (by decide) ?_)⟩
       refine tmw 8 9 (by decide) (lb rfl) rfl rfl (lb rfl) rfl ?_
       refine TA_all [0, 1] (by kernel_rfl) (by decide) ⟨?_, ?_, trivial⟩
       ·skip
        refine ⟨_, rfl, rfl, (TOp_pure (pur_ld_b one63 rfl rfl rfl rfl) rfl ?_)⟩
        exact tj hj9_5 rfl (w0 9)
       ·skip
        refine ⟨_, rfl, rfl, (TOp_pure (pur_ld_b one24 rfl rfl rfl rfl) rfl ?_)⟩
        exact tj hj8_5 rfl (w0 9)
     ·rintro _ _
      refine sr ?_
      refine pv tb 2 rfl ?_
      refine TO_nil ?_
      refine T_cond (t := (!fv6)) rfl (fun c_18 => ?_) (fun c_18 => ?_)
      ·replace H := cond_t c_18 H
       refine T_ret ?_
       refine block_ret ?_
       refine then_ret ?_
       refine then_ret ?_
       refine block_ret ?_
       obtain rfl := some_inj H
       obtain rfl := some_inj K9_
       replace H := onS_r N9_
       obtain rfl := some_inj H
       exact end_pickX .nil rfl [0, 1, 2, 3, 4, 5, 6] (by decide) (lb rfl) rfl (lb rfl) rfl rfl rfl rfl rfl rfl
      ·replace H := cond_f c_18 H
       refine T_skip ?_
       refine T_region ?_
       refine Tp rfl rfl (pur_add rfl rfl rfl (fits64 (by omega) (by omega))) rfl ?_
       refine pv tb 1 rfl ?_
       refine TO_nil ?_
       obtain rfl := some_inj H
       exact again (r_6.length - (t_8 + 1)) (t_8 + 1, r_16) (by omega) (w0 7) ⟨rfl, K9_⟩
    ·replace d9 := of_decide_eq_false d9
     obtain rfl := forL_end L9_ (by omega)
     refine T_exit ?_
     refine then_exit ?_
     refine then_exit ?_
     refine block_exit ?_
     replace H := onS_l N9_
     obtain rfl := some_inj H
     exact end_pickX .nil rfl [0, 1, 2, 3, 4, 5, 6] (by decide) (lb rfl) rfl (lb rfl) rfl rfl rfl rfl rfl rfl

theorem m_slices_SortFunc_SSint_Sint_C : SortC prg 46 (tSl tInt).k false := SortC.one shlS46

set_option maxHeartbeats 1000000 in
theorem m_cmp_isNaN_int_ok (x0 : Int) (r : Bool) (H : m_cmp_isNaN_int x0 = some r) : FnV prg 88 [(intA x0)] (boolA r) := by
  unfold m_cmp_isNaN_int at H
  refine fnV_of_T Tryz.func88 rfl rfl (Nat.le_of_ble_eq_true rfl) ?_
  refine te [(0, (intA x0))] rfl ?_
  refine sr ?_
  refine pv tb 1 rfl ?_
  refine TO_nil ?_
  refine sr ?_
  refine pv tb 4 rfl ?_
  refine TO_nil ?_
  refine T_ret ?_
  obtain rfl := some_inj H
  refine end_ret (.tmp .nil) rfl rfl ⟨?_, rfl⟩
  rfl

set_option maxHeartbeats 1000000 in
theorem m_cmp_Compare_int_ok (x0 : Int) (y1 : Int) (r : Int) (H : m_cmp_Compare_int x0 y1 = some r) : FnV prg 70 [(intA x0), (intA y1)] (intA r) := by
  unfold m_cmp_Compare_int at H
  refine fnV_of_T Tryz.func70 rfl rfl (Nat.le_of_ble_eq_true rfl) ?_
  refine te [(0, (intA x0)), (1, (intA y1))] rfl ?_
  refine sr ?_
  refine pv tb 1 rfl ?_
  refine TO_nil ?_
  refine sr ?_
  obtain ⟨r_1, h_2, H⟩ := bind_inv H
  refine pv tb 1 rfl ?_
  refine TO_cons rfl (TOp_callV (call_static ent88 rfl) (m_cmp_isNaN_int_ok _ _ h_2) rfl rfl rfl ?_)
  refine pv tb 1 rfl ?_
  refine TO_nil ?_
  refine sr ?_
  obtain ⟨r_3, h_4, H⟩ := bind_inv H
  refine pv tb 1 rfl ?_
  refine TO_cons rfl (TOp_callV (call_static ent88 rfl) (m_cmp_isNaN_int_ok _ _ h_4) rfl rfl rfl ?_)
  refine pv tb 1 rfl ?_
  refine TO_nil ?_
  refine T_seq ?_
  refine sr ?_
  refine pv tb 1 rfl ?_
  refine TO_nil ?_
  refine T_cond (t := r_1) rfl (fun c_5 => ?_) (fun c_5 => ?_)
  ·replace H := cond_t c_5 H
   refine T_seq ?_
   refine sr ?_
   refine pv tb 1 rfl ?_
   refine TO_nil ?_
   refine T_cond (t := r_3) rfl (fun c_6 => ?_) (fun c_6 => ?_)
   ·replace H := cond_t c_6 H
    refine sr ?_
    refine pv tb 1 rfl ?_
    refine TO_nil ?_
    refine T_ret ?_
    refine then_ret ?_
    refine then_ret ?_
    obtain rfl := some_inj H
    refine end_ret (.tmp .nil) rfl rfl ⟨?_, rfl⟩
    rfl
   ·replace H := cond_f c_6 H
    refine T_skip ?_
    refine sr ?_
    refine pv tb 1 rfl ?_
    refine TO_nil ?_
    refine T_ret ?_
    refine then_ret ?_
    obtain rfl := some_inj H
    refine end_ret (.tmp .nil) rfl rfl ⟨?_, rfl⟩
    rfl
  ·replace H := cond_f c_5 H
   refine T_skip ?_
   refine T_seq ?_
   refine sr ?_
   refine pv tb 1 rfl ?_
   refine TO_nil ?_
   refine T_cond (t := r_3) rfl (fun c_7 => ?_) (fun c_7 => ?_)
   ·replace H := cond_t c_7 H
    refine sr ?_
    refine pv tb 1 rfl ?_
    refine TO_nil ?_
    refine T_ret ?_
    refine then_ret ?_
    obtain rfl := some_inj H
    refine end_ret (.tmp .nil) rfl rfl ⟨?_, rfl⟩
    rfl
   ·replace H := cond_f c_7 H
    refine T_skip ?_
    refine T_seq ?_
    refine sr ?_
    refine pv tb 3 rfl ?_
    refine TO_nil ?_
    refine T_cond (t := decide (x0 < y1)) rfl (fun c_8 => ?_) (fun c_8 => ?_)
    ·replace H := cond_t c_8 H
     refine sr ?_
     refine pv tb 1 rfl ?_
     refine TO_nil ?_
     refine T_ret ?_
     refine then_ret ?_
     obtain rfl := some_inj H
     refine end_ret (.tmp .nil) rfl rfl ⟨?_, rfl⟩
     rfl
    ·replace H := cond_f c_8 H
     refine T_skip ?_
     refine T_seq ?_
     refine sr ?_
     refine pv tb 3 rfl ?_
     refine TO_nil ?_
     refine te [(19, (boolA (decide (y1 < x0))))] rfl ?_
     refine T_cond (t := decide (y1 < x0)) rfl (fun c_9 => ?_) (fun c_9 => ?_)
     ·replace H := cond_t c_9 H
      refine sr ?_
      refine pv tb 1 rfl ?_
      refine TO_nil ?_
      refine T_ret ?_
      refine then_ret ?_
      obtain rfl := some_inj H
      refine end_ret (.tmp .nil) rfl rfl ⟨?_, rfl⟩
      rfl
     ·replace H := cond_f c_9 H
      refine T_skip ?_
      refine sr ?_
      refine pv tb 1 rfl ?_
      refine TO_nil ?_
      refine T_ret ?_
      obtain rfl := some_inj H
      refine end_ret (.tmp .nil) rfl rfl ⟨?_, rfl⟩
      rfl

set_option maxHeartbeats 1000000 in
theorem m_slices_Compare_Sint_int_ok (s10 : (List Int)) (s21 : (List Int)) (r : Int) (H : m_slices_Compare_Sint_int s10 s21 = some r) : FnV prg 47 [(sl tInt s10), (sl tInt s21)] (intA r) := by
  unfold m_slices_Compare_Sint_int at H
  refine fnV_of_T Tryz.func47 rfl rfl (Nat.le_of_ble_eq_true rfl) ?_
  refine te [(0, (sl tInt s10)), (1, (sl tInt s21))] rfl ?_
  refine sr ?_
  refine pv tb 1 rfl ?_
  refine TO_nil ?_
  refine T_seq ?_
  refine sr ?_
  refine pv tb 1 rfl ?_
  refine Tp rfl rfl (pur_lenT (T := tInt) sl31 rfl rfl) rfl ?_
  refine pv tb 1 rfl ?_
  refine TO_nil ?_
  obtain ⟨O2_, L2_, N2_⟩ := bind_inv H
  clear H
  obtain ⟨B2_, hb2, L2_⟩ := gen_forL L2_
  refine T_block ?_
  refine T_loopX (fun k => fun (t_1 : Nat) => k = s10.length - t_1 ∧ forL B2_ (s10.drop t_1) (t_1 : Int) () = some O2_) (fun (t_1 : Nat) => [(0, (sl tInt s10)), (1, (sl tInt s21)), (9, (sl tInt s10)), (10, (intA (s10.length : Int))), (11, (intA (t_1 : Int)))]) (fun (t_1 : Nat) => []) _ (0 : Nat) (w0 0) ⟨rfl, L2_⟩ ?_
  rintro _ t_1 ⟨rfl, L2_⟩
  refine T_fact (len_sl (T := tInt) (.tmp 0) rfl) (fun hl2 => ?_)
  refine sr ?_
  refine pv tb 1 rfl ?_
  refine TO_nil ?_
  refine T_seq ?_
  refine T_cond (t := decide ((t_1 : Int) < (s10.length : Int))) rfl (fun d2 => ?_) (fun d2 => ?_)
  ·replace d2 := of_decide_eq_true d2
   obtain ⟨x_t_1, hx_t_1⟩ : ∃ v, (s10)[t_1]? = some v := ⟨_, List.getElem?_eq_getElem (by omega)⟩
   obtain ⟨C2_, H, K2_⟩ := forL_step L2_ hx_t_1
   rw [hb2] at H
   refine T_skip ?_
   refine T_seq ?_
   refine T_block ?_
   refine sr ?_
   refine pv tb 1 rfl ?_
   refine Tp rfl rfl (pur_ixT (T := tInt) sl31 rfl rfl rfl hx_t_1 rfl) rfl ?_
   refine Tp rfl rfl (pur_ldT (T := tInt) (i := t_1) (off := 0) rfl one3 rfl rfl hx_t_1 rfl) rfl ?_
   refine pv tb 2 rfl ?_
   refine TO_nil ?_
   refine T_seq ?_
   refine sr ?_
   refine pv tb 2 rfl ?_
   refine Tp rfl rfl (pur_lenT (T := tInt) sl31 rfl rfl) rfl ?_
   refine pv tb 1 rfl ?_
   refine TO_nil ?_
   refine T_cond (t := decide ((s21.length : Int) ≤ (t_1 : Int))) rfl (fun c_3 => ?_) (fun c_3 => ?_)
   ·replace H := cond_t c_3 H
    refine sr ?_
    refine pv tb 1 rfl ?_
    refine TO_nil ?_
    refine te [(4, (intA 1))] rfl ?_
    refine T_ret ?_
    refine then_ret ?_
    refine block_ret ?_
    refine then_ret ?_
    refine then_ret ?_
    refine block_ret ?_
    refine then_ret ?_
    obtain rfl := some_inj H
    obtain rfl := some_inj K2_
    replace H := onS_r N2_
    obtain rfl := some_inj H
    refine end_ret (.tmp .nil) rfl rfl ⟨?_, rfl⟩
    rfl
   ·replace H := cond_f c_3 H
    refine T_skip ?_
    refine sr ?_
    obtain ⟨v_4, h_5, H⟩ := bind_inv H
    obtain ⟨n_6, hz_7, hv_8⟩ := getI_inv h_5
    refine pv tb 2 rfl ?_
    refine Tp rfl rfl (pur_ixT (T := tInt) sl31 rfl rfl hz_7 hv_8 rfl) rfl ?_
    refine Tp rfl rfl (pur_ldT (T := tInt) (i := n_6) (off := 0) rfl one3 rfl rfl hv_8 rfl) rfl ?_
    refine pv tb 1 rfl ?_
    refine TO_nil ?_
    refine sr ?_
    obtain ⟨r_9, h_10, H⟩ := bind_inv H
    refine pv tb 2 rfl ?_
    refine TO_cons rfl (TOp_callV (call_static ent70 rfl) (m_cmp_Compare_int_ok _ _ _ h_10) rfl rfl rfl ?_)
    refine pv tb 1 rfl ?_
    refine TO_nil ?_
    refine te [(0, (sl tInt s10)), (1, (sl tInt s21)), (8, (intA r_9)), (9, (sl tInt s10)), (10, (intA (s10.length : Int))), (11, (intA (t_1 : Int)))] rfl ?_
    refine sr ?_
    refine pv tb 2 rfl ?_
    refine TO_nil ?_
    refine T_cond (t := decide (r_9 ≠ 0)) rfl (fun c_11 => ?_) (fun c_11 => ?_)
    ·replace H := cond_t c_11 H
     refine sr ?_
     refine pv tb 2 rfl ?_
     refine TO_nil ?_
     refine T_ret ?_
     refine block_ret ?_
     refine then_ret ?_
     refine then_ret ?_
     refine block_ret ?_
     refine then_ret ?_
     obtain rfl := some_inj H
     obtain rfl := some_inj K2_
     replace H := onS_r N2_
     obtain rfl := some_inj H
     refine end_ret (.tmp .nil) rfl rfl ⟨?_, rfl⟩
     rfl
    ·replace H := cond_f c_11 H
     refine T_skip ?_
     refine T_region ?_
     refine Tp rfl rfl (pur_add rfl rfl rfl (fits64 (by omega) (by omega))) rfl ?_
     refine pv tb 1 rfl ?_
     refine TO_nil ?_
     obtain rfl := some_inj H
     exact again (s10.length - (t_1 + 1)) (t_1 + 1) (by omega) (w0 0) ⟨rfl, K2_⟩
  ·replace d2 := of_decide_eq_false d2
   obtain rfl := forL_end L2_ (by omega)
   refine T_exit ?_
   refine then_exit ?_
   refine then_exit ?_
   refine block_exit ?_
   replace H := onS_l N2_
   refine T_seq ?_
   refine sr ?_
   refine pv tb 1 rfl ?_
   refine Tp rfl rfl (pur_lenT (T := tInt) sl31 rfl rfl) rfl ?_
   refine pv tb 1 rfl ?_
   refine Tp rfl rfl (pur_lenT (T := tInt) sl31 rfl rfl) rfl ?_
   refine pv tb 1 rfl ?_
   refine TO_nil ?_
   refine T_cond (t := decide ((s10.length : Int) < (s21.length : Int))) rfl (fun c_12 => ?_) (fun c_12 => ?_)
   ·replace H := cond_t c_12 H
    refine sr ?_
    refine pv tb 1 rfl ?_
    refine TO_nil ?_
    refine T_ret ?_
    refine then_ret ?_
    obtain rfl := some_inj H
    refine end_ret (.tmp .nil) rfl rfl ⟨?_, rfl⟩
    rfl
   ·replace H := cond_f c_12 H
    refine T_skip ?_
    refine sr ?_
    refine pv tb 1 rfl ?_
    refine TO_nil ?_
    refine T_ret ?_
    obtain rfl := some_inj H
    refine end_ret (.tmp .nil) rfl rfl ⟨?_, rfl⟩
    rfl

theorem m_slices_CompactFunc_SSint_Sint_0 (p : Option Addr) (cap : Nat) (fv : Value) (w : World) : Calls Tryz.prog 48 #[.slice p 0 cap, fv] w fun e w' => e = .returned (.slice p 0 cap) ∧ w' = w := by
  go_enter Tryz.func48, Tryz.ntmps48
  go_wp2
  go_ret
  exact ⟨rfl, rfl⟩
set_option maxHeartbeats 2000000 in
theorem m_slices_CompactFunc_SSint_Sint_raw (g : Nat) (gE : EnT prg g) (rs : List (Rw (List Int))) (e : Rw (List Int) → Rw (List Int) → Bool) (h0 : 0 < rs.length) (hN : rs.length < 4611686018427387904) (hg : ∀ x ∈ rs, ∀ y ∈ rs, FnV prg g [argR false (tSl tInt) x, argR false (tSl tInt) y] (boolA (e x y))) : FnS prg 48 [.m [0] 0 rs.length (tSl tInt).k, .f g []] [.row (flat (tSl tInt).raw rs)] (.m [1] 0 (compF e rs).length (tSl tInt).k) [.dead, .row (flat (tSl tInt).raw (compF e rs))] := by
  refine fnS_of_T Tryz.func48 rfl rfl (lb rfl) ?_
  refine te [(0, (.m [0] 0 rs.length (tSl tInt).k)), (1, (.f g []))] rfl ?_
  refine T_pad ?_
  refine T_move' 1 0 (by decide) (lb rfl) rfl rfl (lb rfl) ?_
  refine te [(0, (.m [1] 0 rs.length (tSl tInt).k)), (1, (.f g []))] rfl ?_
  refine T_st (σ' := [.dead, .row (flat (tSl tInt).raw rs)]) rfl ?_
  refine sr ?_
  refine pv tb 1 rfl ?_
  refine TO_nil ?_
  refine T_seq ?_
  refine sr ?_
  refine pv tb 1 rfl ?_
  refine Tp rfl rfl (pur_len_m sl27 rfl rfl) rfl ?_
  refine pv tb 1 rfl ?_
  refine TO_nil ?_
  refine te [(0, (.m [1] 0 rs.length (tSl tInt).k)), (1, (.f g [])), (10, (boolA (decide ((rs.length : Int) < 2))))] rfl ?_
  refine T_cond (t := decide ((rs.length : Int) < 2)) rfl (fun c => ?_) (fun c => ?_)
  ·have e1 := compF_one (e := e) (xs := rs) (by have := of_decide_eq_true c; omega)
   rw [e1]
   refine sr ?_
   refine pv tb 2 rfl ?_
   refine TO_nil ?_
   refine te [(4, (.m [1] 0 rs.length (tSl tInt).k))] rfl ?_
   refine T_ret ?_
   refine then_ret ?_
   exact end_pickX (.tmp .nil) rfl [0, 1] (by decide) (lb rfl) rfl (lb rfl) rfl rfl rfl rfl rfl rfl
  have hn2 : 2 ≤ rs.length := by have := of_decide_eq_false c; omega
  refine T_skip ?_
  refine T_seq ?_
  refine sr ?_
  refine pv tb 1 rfl ?_
  refine TO_nil ?_
  refine te [(0, (.m [1] 0 rs.length (tSl tInt).k)), (1, (.f g [])), (5, (intA ((1 : Nat) : Int)))] rfl ?_
  refine T_block ?_
  refine T_loopX (fun q (k : Nat) => q = rs.length - k ∧ 0 < k ∧ k ≤ rs.length ∧ compF e (rs.take k) = rs.take k) (fun (k : Nat) => [(0, (.m [1] 0 rs.length (tSl tInt).k)), (1, (.f g [])), (5, (intA (k : Int)))]) (fun _ => [.dead, .row (flat (tSl tInt).raw rs)]) _ 1 (w0 2) ⟨rfl, Nat.zero_lt_one, h0, compF_one (by rw [List.length_take]; omega)⟩ ?_
  rintro _ k ⟨rfl, hk0, hkn, hI⟩
  refine T_seq ?_
  refine sr ?_
  refine pv tb 2 rfl ?_
  refine Tp rfl rfl (pur_len_m sl27 rfl rfl) rfl ?_
  refine pv tb 1 rfl ?_
  refine TO_nil ?_
  refine te [(0, (.m [1] 0 rs.length (tSl tInt).k)), (1, (.f g [])), (5, (intA (k : Int))), (15, (boolA (decide ((k : Int) < (rs.length : Int)))))] rfl ?_
  refine T_cond (t := decide ((k : Int) < (rs.length : Int))) rfl (fun c => ?_) (fun c => ?_)
  ·have hk : k < rs.length := by have := of_decide_eq_true c; omega
   have hy : rs[k]? = some rs[k] := List.getElem?_eq_getElem hk
   have hx : rs[k - 1]? = some (rs[k - 1]'(by omega)) := List.getElem?_eq_getElem _
   have hym : rs[k] ∈ rs := List.getElem_mem _
   have hxm : rs[k - 1]'(by omega) ∈ rs := List.getElem_mem _
   generalize rs[k] = y at hy hym
   generalize (rs[k - 1]'(by omega)) = x at hx hxm
   refine T_skip ?_
   refine T_seq ?_
   refine T_block ?_
   refine T_seq ?_
   refine T_regionD mixed (by kernel_rfl) ?_
   refine pq tb 3 rfl ?_
   refine TQ_pure rfl (pur_ixC (T := (tSl tInt)) (k0 := 0) (i := k) sl27 rfl (Nat.zero_mul _).symm rfl (by omega) (by omega) (by omega) rfl) rfl ?_
   refine TQ_pure rfl (pur_ldE (f := (tSl tInt).raw) (k := (tSl tInt).k) (i := k) (off := 0) (y' := argR false (tSl tInt) y) (tSl tInt).lenR rfl one31 rfl rfl rfl hy rfl rfl) rfl ?_
   refine pq tb 2 rfl ?_
   refine TQ_pure rfl (pur_sub rfl rfl rfl (fits64 (by omega) (by omega))) rfl ?_
   refine TQ_pure rfl (pur_ixC (T := (tSl tInt)) (k0 := 0) (i := k - 1) sl27 rfl (Nat.zero_mul _).symm rfl (by omega) (by omega) (by omega) rfl) rfl ?_
   refine TQ_pure rfl (pur_ldE (f := (tSl tInt).raw) (k := (tSl tInt).k) (i := k - 1) (off := 0) (y' := argR false (tSl tInt) x) (tSl tInt).lenR rfl one31 rfl rfl rfl hx rfl rfl) rfl ?_
   refine TQ_callV rfl (call_closure gE rfl rfl) (hg y hym x hxm) rfl rfl ?_
   refine TQ_nil ?_
   refine te [(0, (.m [1] 0 rs.length (tSl tInt).k)), (1, (.f g [])), (5, (intA (k : Int))), (28, (boolA (e y x)))] rfl ?_
   refine T_cond (t := e y x) rfl (fun c1 => ?_) (fun c1 => ?_)
   ·refine sr ?_
    refine pv tb 2 rfl ?_
    refine Tp rfl rfl (pur_cutM (lo := some (.tmp 30)) (hi := none) (i := k) (j := rs.length) sl27 rfl ⟨_, rfl⟩ rfl (by omega) (Nat.le_refl _) rfl) rfl ?_
    refine pv tb 1 rfl ?_
    refine TO_nil ?_
    refine T_seq ?_
    refine sr ?_
    refine pv tb 1 rfl ?_
    refine TO_nil ?_
    refine te [(0, (.m [1] 0 rs.length (tSl tInt).k)), (1, (.f g [])), (5, (intA (k : Int))), (6, (.m [1] (k * (tSl tInt).k) (rs.length - k) (tSl tInt).k)), (7, (intA ((1 : Nat) : Int)))] rfl ?_
    refine T_block ?_
    refine T_loopX (X := Nat × Nat × List (Rw (List Int))) (fun q s => q = rs.length - (k + s.2.1) ∧ 0 < s.2.1 ∧ CompI e rs (k + s.2.1) s.1 s.2.2) (fun s => [(0, (.m [1] 0 rs.length (tSl tInt).k)), (1, (.f g [])), (5, (intA (s.1 : Int))), (6, (.m [1] (k * (tSl tInt).k) (rs.length - k) (tSl tInt).k)), (7, (intA (s.2.1 : Int)))]) (fun s => [.dead, .row (flat (tSl tInt).raw s.2.2)]) _ (k, 1, rs) (w0 2) ⟨rfl, Nat.zero_lt_one, .start hI hk0 hx hy c1⟩ ?_
    rintro _ ⟨kk, k2, ds⟩ ⟨rfl, hk2, hJ⟩
    simp only at hk2 hJ
    have hlt := hJ.lt
    have hle := hJ.le
    have hds := hJ.size
    refine T_seq ?_
    refine sr ?_
    refine pv tb 2 rfl ?_
    refine Tp rfl rfl (pur_len_m sl27 rfl rfl) rfl ?_
    refine pv tb 1 rfl ?_
    refine TO_nil ?_
    refine te [(0, (.m [1] 0 rs.length (tSl tInt).k)), (1, (.f g [])), (5, (intA (kk : Int))), (6, (.m [1] (k * (tSl tInt).k) (rs.length - k) (tSl tInt).k)), (7, (intA (k2 : Int))), (35, (boolA (decide ((k2 : Int) < ((rs.length - k : Nat) : Int)))))] rfl ?_
    refine T_cond (t := decide ((k2 : Int) < ((rs.length - k : Nat) : Int))) rfl (fun c2 => ?_) (fun c2 => ?_)
    ·have hm : k + k2 < rs.length := by have := of_decide_eq_true c2; omega
     have hy2 : rs[k + k2]? = some rs[k + k2] := List.getElem?_eq_getElem hm
     have hx2 : rs[k + k2 - 1]? = some (rs[k + k2 - 1]'(by omega)) := List.getElem?_eq_getElem _
     have hym2 : rs[k + k2] ∈ rs := List.getElem_mem _
     have hxm2 : rs[k + k2 - 1]'(by omega) ∈ rs := List.getElem_mem _
     generalize rs[k + k2] = y2 at hy2 hym2
     generalize (rs[k + k2 - 1]'(by omega)) = x2 at hx2 hxm2
     have hyd : ds[k + k2]? = some y2 := by rw [hJ.high _ (by omega)]; exact hy2
     have hxd : ds[k + k2 - 1]? = some x2 := by rw [hJ.high _ (by omega)]; exact hx2
     have hod : ds[kk]? = some (ds[kk]'(by omega)) := List.getElem?_eq_getElem _
     generalize (ds[kk]'(by omega)) = old at hod
     refine T_skip ?_
     refine T_seq ?_
     refine T_block ?_
     refine T_seq ?_
     refine T_regionD mixed (by kernel_rfl) ?_
     refine pq tb 3 rfl ?_
     refine TQ_pure rfl (pur_ixC (T := (tSl tInt)) (i := k + k2) sl27 rfl rfl rfl (by omega) (by omega) (by omega) rfl) rfl ?_
     refine TQ_pure rfl (pur_ldE (f := (tSl tInt).raw) (k := (tSl tInt).k) (i := k + k2) (off := 0) (y' := argR false (tSl tInt) y2) (tSl tInt).lenR rfl one31 rfl rfl rfl hyd rfl rfl) rfl ?_
     refine pq tb 2 rfl ?_
     refine TQ_pure rfl (pur_sub rfl rfl rfl (fits64 (by omega) (by omega))) rfl ?_
     refine TQ_pure rfl (pur_ixC (T := (tSl tInt)) (i := k + k2 - 1) sl27 rfl rfl rfl (by omega) (by omega) (by omega) rfl) rfl ?_
     refine TQ_pure rfl (pur_ldE (f := (tSl tInt).raw) (k := (tSl tInt).k) (i := k + k2 - 1) (off := 0) (y' := argR false (tSl tInt) x2) (tSl tInt).lenR rfl one31 rfl rfl rfl hxd rfl rfl) rfl ?_
     refine TQ_callV rfl (call_closure gE rfl rfl) (hg y2 hym2 x2 hxm2) rfl rfl ?_
     refine pq tb 1 rfl ?_
     refine TQ_nil ?_
     refine te [(0, (.m [1] 0 rs.length (tSl tInt).k)), (1, (.f g [])), (5, (intA (kk : Int))), (6, (.m [1] (k * (tSl tInt).k) (rs.length - k) (tSl tInt).k)), (7, (intA (k2 : Int))), (49, (boolA (!(e y2 x2))))] rfl ?_
     refine T_cond (t := !(e y2 x2)) rfl (fun c3 => ?_) (fun c3 => ?_)
     ·have c3 : e y2 x2 = false := by simpa using c3
      refine sr ?_
      refine pv tb 4 rfl ?_
      refine Tp rfl rfl (pur_ixC (T := (tSl tInt)) (i := k + k2) sl27 rfl rfl rfl (by omega) (by omega) (by omega) rfl) rfl ?_
      refine Tp rfl rfl (pur_ldE (f := (tSl tInt).raw) (k := (tSl tInt).k) (i := k + k2) (off := 0) (y' := argR false (tSl tInt) y2) (tSl tInt).lenR rfl one31 rfl rfl rfl hyd rfl rfl) rfl ?_
      refine Tp rfl rfl (pur_ixC (T := (tSl tInt)) (k0 := 0) (i := kk) sl27 rfl (Nat.zero_mul _).symm rfl (by omega) (by omega) (by omega) rfl) rfl ?_
      refine TO_cons rfl (TOp_setT (f := (tSl tInt).raw) (z := (kk : Int)) (y := y2) (tSl tInt).lenR (tSl tInt).pos rfl sz31 rfl rfl rfl rfl rfl hod rfl (rawC_cell _ _) ?_)
      refine TO_nil ?_
      refine te [(0, (.m [1] 0 rs.length (tSl tInt).k)), (1, (.f g [])), (5, (intA (kk : Int))), (6, (.m [1] (k * (tSl tInt).k) (rs.length - k) (tSl tInt).k)), (7, (intA (k2 : Int)))] rfl ?_
      refine T_st (σ' := [.dead, .row (flat (tSl tInt).raw (ds.set kk y2))]) rfl ?_
      refine T_region ?_
      refine pv tb 1 rfl ?_
      refine Tp rfl rfl (pur_add (c := ((kk + 1 : Nat) : Int)) rfl rfl rfl (fits64 (by omega) (by omega))) rfl ?_
      refine pv tb 1 rfl ?_
      refine TO_nil ?_
      refine T_region ?_
      refine pv tb 1 rfl ?_
      refine Tp rfl rfl (pur_add (c := ((k2 + 1 : Nat) : Int)) rfl rfl rfl (fits64 (by omega) (by omega))) rfl ?_
      refine pv tb 1 rfl ?_
      refine TO_nil ?_
      exact again (rs.length - (k + (k2 + 1))) (kk + 1, k2 + 1, ds.set kk y2) (by simp only; omega) (w0 2) ⟨rfl, Nat.succ_pos _, hJ.keep hx2 hy2 c3⟩
     ·have c3 : e y2 x2 = true := by simpa using c3
      refine T_skip ?_
      refine T_region ?_
      refine pv tb 1 rfl ?_
      refine Tp rfl rfl (pur_add (c := ((k2 + 1 : Nat) : Int)) rfl rfl rfl (fits64 (by omega) (by omega))) rfl ?_
      refine pv tb 1 rfl ?_
      refine TO_nil ?_
      exact again (rs.length - (k + (k2 + 1))) (kk, k2 + 1, ds) (by simp only; omega) (w0 2) ⟨rfl, Nat.succ_pos _, hJ.skip hx2 hy2 c3⟩
    ·have hm : k + k2 = rs.length := by have := of_decide_eq_false c2; omega
     have hd := hJ.done hm
     have hkl : kk = (compF e rs).length := by rw [← hd, List.length_take]; omega
     refine T_exit ?_
     refine then_exit ?_
     refine then_exit ?_
     refine block_exit ?_
     refine sr ?_
     refine pv tb 2 rfl ?_
     refine Tp rfl rfl (pur_cutM (lo := some (.tmp 60)) (hi := none) (i := kk) (j := rs.length) sl27 rfl ⟨_, rfl⟩ rfl (by omega) (Nat.le_refl _) rfl) rfl ?_
     refine TO_cons rfl (TOp_clear sl27 zero31 rfl rfl rfl rfl (by omega) rfl raw_plain ?_)
     refine TO_st (σ' := [.dead, .row (flat (tSl tInt).raw (compF e rs))]) (by rw [← hd, flat_take (tSl tInt).lenR]; rfl) ?_
     refine TO_nil ?_
     refine sr ?_
     refine pv tb 2 rfl ?_
     refine Tp rfl rfl (pur_cutM (lo := none) (hi := some (.tmp 63)) (i := 0) (j := kk) sl27 rfl rfl ⟨_, rfl⟩ (Nat.zero_le _) (by omega) rfl) rfl ?_
     refine pv tb 1 rfl ?_
     refine TO_nil ?_
     refine T_env (E' := [(4, (.m [1] 0 (compF e rs).length (tSl tInt).k))]) ⟨?_, trivial⟩ ?_
     ·show A.m [1] (0 * (tSl tInt).k) (kk - 0) (tSl tInt).k = _
      rw [← hkl, Nat.zero_mul, Nat.sub_zero]
     refine T_ret ?_
     refine block_ret ?_
     refine then_ret ?_
     refine then_ret ?_
     refine block_ret ?_
     refine then_ret ?_
     exact end_pickX (.tmp .nil) rfl [0, 1] (by decide) (lb rfl) rfl (lb rfl) rfl rfl rfl rfl rfl rfl
   ·refine T_skip ?_
    refine T_region ?_
    refine pv tb 1 rfl ?_
    refine Tp rfl rfl (pur_add (c := ((k + 1 : Nat) : Int)) rfl rfl rfl (fits64 (by omega) (by omega))) rfl ?_
    refine pv tb 1 rfl ?_
    refine TO_nil ?_
    exact again (rs.length - (k + 1)) (k + 1) (by omega) (w0 2) ⟨rfl, Nat.succ_pos _, hk, by rw [compF_take hk0 hx hy, c1, hI, List.take_add_one, hy]; rfl⟩
  ·have hk : k = rs.length := by have := of_decide_eq_false c; omega
   have e1 : compF e rs = rs := by rw [hk, List.take_length] at hI; exact hI
   rw [e1]
   refine T_exit ?_
   refine then_exit ?_
   refine then_exit ?_
   refine block_exit ?_
   refine sr ?_
   refine pv tb 2 rfl ?_
   refine TO_nil ?_
   refine te [(4, (.m [1] 0 rs.length (tSl tInt).k))] rfl ?_
   refine T_ret ?_
   exact end_pickX (.tmp .nil) rfl [0, 1] (by decide) (lb rfl) rfl (lb rfl) rfl rfl rfl rfl rfl rfl
theorem m_slices_CompactFunc_SSint_Sint_xo (s0 : List (List Int)) (eq : (List Int) → (List Int) → Option Bool) (g : Nat) (gE : EnT prg g) (gH : ∀ x y r, eq x y = some r → FnV prg g [argA false ((tSl tInt).enc x), argA false ((tSl tInt).enc y)] (boolA r)) (r : List (List Int)) (H : compM eq s0 = some r) : FnS prg 48 [.m [0] 0 s0.length (tSl tInt).k, .f g []] [.row (flat (tSl tInt).own s0)] (.m [1] 0 r.length (tSl tInt).k) [.dead, .row (flat (tSl tInt).own r)] :=
  FnS.ofRaw (agg := false) (g := g) (fun _ => rfl) (fun rs e h0 hN hg => m_slices_CompactFunc_SSint_Sint_raw g gE rs e h0 hN hg) m_slices_CompactFunc_SSint_Sint_0 gH H


set_option maxHeartbeats 1000000 in
theorem m_slices_Equal_Sint_int_ok (s10 : (List Int)) (s21 : (List Int)) (r : Bool) (H : m_slices_Equal_Sint_int s10 s21 = some r) : FnV prg 49 [(sl tInt s10), (sl tInt s21)] (boolA r) := by
  unfold m_slices_Equal_Sint_int at H
  refine fnV_of_T Tryz.func49 rfl rfl (Nat.le_of_ble_eq_true rfl) ?_
  refine te [(0, (sl tInt s10)), (1, (sl tInt s21))] rfl ?_
  refine sr ?_
  refine pv tb 1 rfl ?_
  refine TO_nil ?_
  refine T_seq ?_
  refine sr ?_
  refine pv tb 1 rfl ?_
  refine Tp rfl rfl (pur_lenT (T := tInt) sl31 rfl rfl) rfl ?_
  refine pv tb 1 rfl ?_
  refine Tp rfl rfl (pur_lenT (T := tInt) sl31 rfl rfl) rfl ?_
  refine pv tb 1 rfl ?_
  refine TO_nil ?_
  refine T_cond (t := decide ((s10.length : Int) ≠ (s21.length : Int))) rfl (fun c_1 => ?_) (fun c_1 => ?_)
  ·replace H := cond_t c_1 H
   refine sr ?_
   refine pv tb 1 rfl ?_
   refine TO_nil ?_
   refine T_ret ?_
   refine then_ret ?_
   obtain rfl := some_inj H
   refine end_ret (.tmp .nil) rfl rfl ⟨?_, rfl⟩
   rfl
  ·replace H := cond_f c_1 H
   refine T_skip ?_
   refine T_seq ?_
   refine sr ?_
   refine pv tb 1 rfl ?_
   refine Tp rfl rfl (pur_lenT (T := tInt) sl31 rfl rfl) rfl ?_
   refine pv tb 1 rfl ?_
   refine TO_nil ?_
   obtain ⟨O3_, L3_, N3_⟩ := bind_inv H
   clear H
   obtain ⟨B3_, hb3, L3_⟩ := gen_forL L3_
   refine T_block ?_
   refine T_loopX (fun k => fun (t_2 : Nat) => k = s10.length - t_2 ∧ forL B3_ (s10.drop t_2) (t_2 : Int) () = some O3_) (fun (t_2 : Nat) => [(0, (sl tInt s10)), (1, (sl tInt s21)), (12, (intA (s10.length : Int))), (13, (intA (t_2 : Int)))]) (fun (t_2 : Nat) => []) _ (0 : Nat) (w0 0) ⟨rfl, L3_⟩ ?_
   rintro _ t_2 ⟨rfl, L3_⟩
   refine T_fact (len_sl (T := tInt) (.tmp 0) rfl) (fun hl3 => ?_)
   refine sr ?_
   refine pv tb 1 rfl ?_
   refine TO_nil ?_
   refine T_seq ?_
   refine T_cond (t := decide ((t_2 : Int) < (s10.length : Int))) rfl (fun d3 => ?_) (fun d3 => ?_)
   ·replace d3 := of_decide_eq_true d3
    obtain ⟨x_t_2, hx_t_2⟩ : ∃ v, (s10)[t_2]? = some v := ⟨_, List.getElem?_eq_getElem (by omega)⟩
    obtain ⟨C3_, H, K3_⟩ := forL_step L3_ hx_t_2
    rw [hb3] at H
    refine T_skip ?_
    refine T_seq ?_
    refine T_block ?_
    refine sr ?_
    refine pv tb 2 rfl ?_
    refine TO_nil ?_
    refine T_seq ?_
    refine T_regionD mixed (by kernel_rfl) ?_
    refine pq tb 2 rfl ?_
    refine TQ_pure rfl (pur_ixT (T := tInt) sl31 rfl rfl rfl hx_t_2 rfl) rfl ?_
    refine TQ_pure rfl (pur_ldT (T := tInt) (i := t_2) (off := 0) rfl one3 rfl rfl hx_t_2 rfl) rfl ?_
    obtain ⟨v_4, h_5, H⟩ := bind_inv H
    obtain ⟨n_6, hz_7, hv_8⟩ := getI_inv h_5
    refine pq tb 2 rfl ?_
    refine TQ_pure rfl (pur_ixT (T := tInt) sl31 rfl rfl hz_7 hv_8 rfl) rfl ?_
    refine TQ_pure rfl (pur_ldT (T := tInt) (i := n_6) (off := 0) rfl one3 rfl rfl hv_8 rfl) rfl ?_
    refine pq tb 1 rfl ?_
    refine TQ_nil ?_
    refine T_cond (t := decide (x_t_2 ≠ v_4)) rfl (fun c_9 => ?_) (fun c_9 => ?_)
    ·replace H := cond_t c_9 H
     refine sr ?_
     refine pv tb 1 rfl ?_
     refine TO_nil ?_
     refine te [(4, (boolA false))] rfl ?_
     refine T_ret ?_
     refine block_ret ?_
     refine then_ret ?_
     refine then_ret ?_
     refine block_ret ?_
     refine then_ret ?_
     obtain rfl := some_inj H
     obtain rfl := some_inj K3_
     replace H := onS_r N3_
     obtain rfl := some_inj H
     refine end_ret (.tmp .nil) rfl rfl ⟨?_, rfl⟩
     rfl
    ·replace H := cond_f c_9 H
     refine T_skip ?_
     refine T_region ?_
     refine Tp rfl rfl (pur_add rfl rfl rfl (fits64 (by omega) (by omega))) rfl ?_
     refine pv tb 1 rfl ?_
     refine TO_nil ?_
     obtain rfl := some_inj H
     exact again (s10.length - (t_2 + 1)) (t_2 + 1) (by omega) (w0 0) ⟨rfl, K3_⟩
   ·replace d3 := of_decide_eq_false d3
    obtain rfl := forL_end L3_ (by omega)
    refine T_exit ?_
    refine then_exit ?_
    refine then_exit ?_
    refine block_exit ?_
    replace H := onS_l N3_
    refine sr ?_
    refine pv tb 1 rfl ?_
    refine TO_nil ?_
    refine T_ret ?_
    obtain rfl := some_inj H
    refine end_ret (.tmp .nil) rfl rfl ⟨?_, rfl⟩
    rfl

set_option maxHeartbeats 1000000 in
theorem m_impl_greedy_own (u : Nat) (n0 : Int) (edges1 : (List ConflictEdge)) (preferences2 : (List ConflictEdge)) (any3 : Bool) (r : (List (List Int))) (H : m_impl_greedy u n0 edges1 preferences2 any3 = some r) : FnO prg 18 [(intA n0), (sl tConflictEdge edges1), (sl tConflictEdge preferences2), (boolA any3)] (.m [0] 0 r.length (tSl tInt).k) [.row (flat (tSl tInt).own r)] := by
  unfold m_impl_greedy at H
  refine fnO_of_T Tryz.func18 rfl rfl (Nat.le_of_ble_eq_true rfl) ?_
  refine te [(0, (intA n0)), (1, (sl tConflictEdge edges1)), (2, (sl tConflictEdge preferences2)), (3, (boolA any3))] rfl ?_
  refine sr ?_
  refine TO_cons rfl (TOp_box rfl (boxAll rfl) rfl rfl ?_)
  refine TO_cons rfl (TOp_box rfl (boxAll rfl) rfl rfl ?_)
  refine TO_cons rfl (TOp_box rfl (boxAll rfl) rfl rfl ?_)
  refine pv tb 1 rfl ?_
  refine TO_nil ?_
  refine sr ?_
  refine TO_cons rfl (TOp_lit (nn := 0) (k := 1) sl27 zero31 rfl rfl rfl rfl (by decide) ?_)
  refine TO_st (σ' := [.box [(sl tConflictEdge edges1)], .box [(sl tConflictEdge preferences2)], .box [(boolA any3)], .row (flat (tSl tInt).own ([] : (List (List Int))))]) rfl ?_
  refine TO_cons rfl (TOp_alloc zero27 rfl rfl ?_)
  refine TO_cons rfl (TOp_storeB sz27 rfl rfl rfl rfl rfl rfl rfl (by decide) (lb rfl) rfl ?_)
  refine TO_st (σ' := [.box [(sl tConflictEdge edges1)], .box [(sl tConflictEdge preferences2)], .box [(boolA any3)], .row (flat (tSl tInt).own ([] : (List (List Int)))), .box [(.m [3] 0 ([] : (List (List Int))).length (tSl tInt).k)]]) rfl ?_
  refine TO_nil ?_
  refine sr ?_
  refine TO_cons rfl (TOp_alloc zero63 rfl rfl ?_)
  refine TO_nil ?_
  refine sr ?_
  refine pv tb 1 rfl ?_
  refine TO_cons rfl (TOp_storeB sz63 rfl rfl rfl rfl rfl rfl rfl (by decide) (lb rfl) rfl ?_)
  refine TO_st (σ' := [.box [(sl tConflictEdge edges1)], .box [(sl tConflictEdge preferences2)], .box [(boolA any3)], .row (flat (tSl tInt).own ([] : (List (List Int)))), .box [(.m [3] 0 ([] : (List (List Int))).length (tSl tInt).k)], .box [(.f 41 [(.b 4 0), (.b 1 0), (.b 5 0), (.b 0 0), (.b 2 0)])]]) rfl ?_
  refine TO_nil ?_
  refine sr ?_
  refine TO_cons rfl (TOp_lit (nn := 0) (k := 1) sl31 zero3 rfl rfl rfl rfl (by decide) ?_)
  refine TO_st (σ' := [.box [(sl tConflictEdge edges1)], .box [(sl tConflictEdge preferences2)], .box [(boolA any3)], .row (flat (tSl tInt).own ([] : (List (List Int)))), .box [(.m [3] 0 ([] : (List (List Int))).length (tSl tInt).k)], .box [(.f 41 [(.b 4 0), (.b 1 0), (.b 5 0), (.b 0 0), (.b 2 0)])], .row (flat tInt.enc ([] : (List Int)))]) rfl ?_
  refine pv tb 1 rfl ?_
  refine TO_nil ?_
  refine T_seq ?_
  refine sr ?_
  refine pv tb 2 rfl ?_
  refine TO_nil ?_
  obtain ⟨_, h_3, H⟩ := bind_inv H
  replace h_3 := gN_inv h_3
  obtain ⟨O2_, L2_, N2_⟩ := bind_inv H
  clear H
  obtain ⟨B2_, hb2, L2_⟩ := gen_forM L2_
  refine T_block ?_
  refine T_loopX (fun k => fun (⟨t_1, left11⟩ : Int × (List Int)) => k = (n0 - t_1).toNat ∧ 0 ≤ t_1 ∧ forM B2_ (n0 - t_1).toNat t_1 left11 = some O2_) (fun (⟨t_1, left11⟩ : Int × (List Int)) => [(9, (.b 4 0)), (10, (.b 5 0)), (11, (.m [6] 0 left11.length tInt.k)), (16, (intA n0)), (17, (intA (t_1 : Int)))]) (fun (⟨t_1, left11⟩ : Int × (List Int)) => [.box [(sl tConflictEdge edges1)], .box [(sl tConflictEdge preferences2)], .box [(boolA any3)], .row (flat (tSl tInt).own ([] : (List (List Int)))), .box [(.m [3] 0 ([] : (List (List Int))).length (tSl tInt).k)], .box [(.f 41 [(.b 4 0), (.b 1 0), (.b 5 0), (.b 0 0), (.b 2 0)])], .row (flat tInt.enc left11)]) _ (0, ([] : (List Int))) (w0 7) ⟨rfl, Int.le_refl _, L2_⟩ ?_
  rintro _ ⟨t_1, left11⟩ ⟨rfl, hi2, L2_⟩
  refine sr ?_
  refine pv tb 1 rfl ?_
  refine TO_nil ?_
  refine T_seq ?_
  refine T_cond (t := decide ((t_1 : Int) < n0)) rfl (fun d2 => ?_) (fun d2 => ?_)
  ·replace d2 := of_decide_eq_true d2
   obtain ⟨C2_, H, K2_⟩ := forM_step L2_ d2
   rw [hb2] at H
   refine T_skip ?_
   refine T_seq ?_
   refine T_block ?_
   refine sr ?_
   refine pv tb 2 rfl ?_
   refine TO_nil ?_
   refine T_region ?_
   refine pv tb 2 rfl ?_
   refine TO_cons rfl (TOp_lit (nn := 1) (k := 1) sl31 zero3 rfl rfl rfl rfl (by decide) ?_)
   refine TO_st (σ' := [.box [(sl tConflictEdge edges1)], .box [(sl tConflictEdge preferences2)], .box [(boolA any3)], .row (flat (tSl tInt).own ([] : (List (List Int)))), .box [(.m [3] 0 ([] : (List (List Int))).length (tSl tInt).k)], .box [(.f 41 [(.b 4 0), (.b 1 0), (.b 5 0), (.b 0 0), (.b 2 0)])], .row (flat tInt.enc left11), .row (flat tInt.enc ([(t_1 : Int)] : (List Int)))]) rfl ?_
   obtain ⟨us_4, h_5, H⟩ := bind_inv H
   refine TO_cons rfl (TOp_appZ (T := tInt) (f := tInt.enc) (xs := left11) (ys := ([(t_1 : Int)] : (List Int))) tInt.len sl31 zero3 rfl bytes3 (by decide) rfl rfl rfl rfl (src_mT (f := tInt.enc) tInt.len rfl rfl (flat_cell tInt _)) (flat_cell tInt _) h_5 (lb rfl) ?_)
   refine toe [(9, (.b 4 0)), (10, (.b 5 0)), (12, (intA (t_1 : Int))), (16, (intA n0)), (17, (intA (t_1 : Int))), (21, (intA (t_1 : Int))), (22, (.m [7] 0 ([(t_1 : Int)] : (List Int)).length tInt.k)), (23, (.m [6] 0 us_4.length tInt.k))] rfl ?_
   refine TO_st (σ' := [.box [(sl tConflictEdge edges1)], .box [(sl tConflictEdge preferences2)], .box [(boolA any3)], .row (flat (tSl tInt).own ([] : (List (List Int)))), .box [(.m [3] 0 ([] : (List (List Int))).length (tSl tInt).k)], .box [(.f 41 [(.b 4 0), (.b 1 0), (.b 5 0), (.b 0 0), (.b 2 0)])], .row (flat tInt.enc us_4), .row (flat tInt.enc ([(t_1 : Int)] : (List Int))), .dead]) rfl ?_
   refine pv tb 1 rfl ?_
   refine TO_nil ?_
   refine T_region ?_
   refine Tp rfl rfl (pur_add rfl rfl rfl (fits64 (by omega) (by omega))) rfl ?_
   refine pv tb 1 rfl ?_
   refine TO_nil ?_
   obtain rfl := some_inj H
   exact again (n0 - (t_1 + 1)).toNat (t_1 + 1, us_4) (by omega) (w0 7) ⟨rfl, by omega, K2_⟩
  ·replace d2 := of_decide_eq_false d2
   obtain rfl := forM_end L2_ (by omega)
   refine T_exit ?_
   refine then_exit ?_
   refine then_exit ?_
   refine block_exit ?_
   replace H := N2_
   refine sr ?_
   refine pv tb 2 rfl ?_
   refine TO_frz1 6 (E' := [(9, (.b 4 0)), (10, (.b 5 0)), (11, (sl tInt left11)), (25, (.f 41 [(.b 4 0), (.b 1 0), (.b 5 0), (.b 0 0), (.b 2 0)])), (26, (sl tInt left11))]) rfl rfl (lb rfl) ⟨(.keep rfl), (.keep rfl), fz1E, (.keep rfl), fz1E, trivial⟩ ?_
   refine TO_st (σ' := [.box [(sl tConflictEdge edges1)], .box [(sl tConflictEdge preferences2)], .box [(boolA any3)], .row (flat (tSl tInt).own ([] : (List (List Int)))), .box [(.m [3] 0 ([] : (List (List Int))).length (tSl tInt).k)], .box [(.f 41 [(.b 4 0), (.b 1 0), (.b 5 0), (.b 0 0), (.b 2 0)])], .dead]) rfl ?_
   obtain ⟨r_6, h_7, H⟩ := bind_inv H
   refine TO_cons rfl (TOp_callS [4, 1, 5, 0, 2, 3] (CallOp.le (call_closure (caps := [(.b 4 0), (.b 1 0), (.b 5 0), (.b 0 0), (.b 2 0)]) ent41 rfl rfl) (leCons (leR rfl) (leCons leN (leCons (leR rfl) (leCons (leR rfl) (leCons (leR rfl) (leCons (leR rfl) (leCons (leR rfl) leNil)))))))) (by decide) rfl rfl rfl rfl rfl rfl (m_impl_greedy_1_c u _ _ _ _ _ _ _ h_7) rfl rfl ?_)
   refine toe [(9, (.b 4 0)), (10, (.b 5 0)), (11, (sl tInt left11)), (25, (.f 41 [(.b 4 0), (.b 1 0), (.b 5 0), (.b 0 0), (.b 2 0)])), (26, (sl tInt left11))] rfl ?_
   refine TO_st (σ' := [.box [(sl tConflictEdge edges1)], .box [(sl tConflictEdge preferences2)], .box [(boolA any3)], .dead, .box [(.m [7] 0 r_6.length (tSl tInt).k)], .box [(.f 41 [(.b 4 0), (.b 1 0), (.b 5 0), (.b 0 0), (.b 2 0)])], .dead, .row (flat (tSl tInt).own r_6)]) rfl ?_
   refine TO_move 3 7 (by decide) (lb rfl) rfl rfl (lb rfl) ?_
   refine toe [(9, (.b 4 0)), (10, (.b 5 0)), (11, (sl tInt left11)), (25, (.f 41 [(.b 4 0), (.b 1 0), (.b 5 0), (.b 0 0), (.b 2 0)])), (26, (sl tInt left11))] rfl ?_
   refine TO_st (σ' := [.box [(sl tConflictEdge edges1)], .box [(sl tConflictEdge preferences2)], .box [(boolA any3)], .row (flat (tSl tInt).own r_6), .box [(.m [3] 0 r_6.length (tSl tInt).k)], .box [(.f 41 [(.b 4 0), (.b 1 0), (.b 5 0), (.b 0 0), (.b 2 0)])], .dead, .dead]) rfl ?_
   refine TO_nil ?_
   refine sr ?_
   obtain ⟨so_8, h_9, H⟩ := bind_inv H
   refine pv tb 1 rfl ?_
   refine TO_cons rfl (TOp_sort (Y := (tSl tInt)) (agg := false) (l := 3) (g := 47) (call_static ent46 rfl) rfl ok_f0 m_slices_SortFunc_SSint_Sint_C (fun _ => rfl) ent47 (fun x y r h => m_slices_Compare_Sint_int_ok x y r h) trivial h_9 rfl rfl rfl (lb rfl) rfl (fun hl_10 => ?_))
   refine TO_env (E' := [(9, (.b 4 0)), (28, (.m [3] 0 so_8.length (tSl tInt).k))]) ⟨rfl, (congrArg (fun q => A.m [3] 0 q (tSl tInt).k) hl_10.symm), trivial⟩ ?_
   refine TO_st (σ' := [.box [(sl tConflictEdge edges1)], .box [(sl tConflictEdge preferences2)], .box [(boolA any3)], .row (flat (tSl tInt).own so_8), .box [(.m [3] 0 r_6.length (tSl tInt).k)], .box [(.f 41 [(.b 4 0), (.b 1 0), (.b 5 0), (.b 0 0), (.b 2 0)])], .dead, .dead]) rfl ?_
   refine TO_st (σ' := [.box [(sl tConflictEdge edges1)], .box [(sl tConflictEdge preferences2)], .box [(boolA any3)], .row (flat (tSl tInt).own so_8), .box [(.m [3] 0 so_8.length (tSl tInt).k)], .box [(.f 41 [(.b 4 0), (.b 1 0), (.b 5 0), (.b 0 0), (.b 2 0)])], .dead, .dead]) (by simp only [hl_10]) ?_
   refine TO_nil ?_
   refine sr ?_
   obtain ⟨r_11, h_12, H⟩ := bind_inv H
   refine pv tb 1 rfl ?_
   refine TO_cons rfl (TOp_callS [3] (call_static ent48 rfl) (by decide) rfl rfl rfl rfl rfl rfl (m_slices_CompactFunc_SSint_Sint_xo _ (fun x y => m_slices_Equal_Sint_int x y) 49 ent49 (fun x y r h => m_slices_Equal_Sint_int_ok x y r h) _ h_12) rfl rfl ?_)
   refine toe [(9, (.b 4 0)), (31, (.m [8] 0 r_11.length (tSl tInt).k))] rfl ?_
   refine TO_st (σ' := [.box [(sl tConflictEdge edges1)], .box [(sl tConflictEdge preferences2)], .box [(boolA any3)], .dead, .box [(.m [3] 0 so_8.length (tSl tInt).k)], .box [(.f 41 [(.b 4 0), (.b 1 0), (.b 5 0), (.b 0 0), (.b 2 0)])], .dead, .dead, .row (flat (tSl tInt).own r_11)]) rfl ?_
   refine pv tb 1 rfl ?_
   refine TO_nil ?_
   refine T_ret ?_
   obtain rfl := some_inj H
   exact end_pick (.tmp .nil) rfl [8] (by decide) rfl rfl rfl rfl rfl rfl
theorem m_impl_greedy_ok (u : Nat) (n0 : Int) (edges1 : (List ConflictEdge)) (preferences2 : (List ConflictEdge)) (any3 : Bool) (r : (List (List Int))) (H : m_impl_greedy u n0 edges1 preferences2 any3 = some r) : FnV prg 18 [(intA n0), (sl tConflictEdge edges1), (sl tConflictEdge preferences2), (boolA any3)] (sl (tSl tInt) r) := (m_impl_greedy_own u n0 edges1 preferences2 any3 r H).frz (frzT (T := (tSl tInt)) rfl)

set_option maxHeartbeats 1000000 in
theorem m_impl_GreedyRepairs_own (u : Nat) (n0 : Int) (edges1 : (List ConflictEdge)) (preferences2 : (List ConflictEdge)) (r : (List (List Int))) (H : m_impl_GreedyRepairs u n0 edges1 preferences2 = some r) : FnO prg 6 [(intA n0), (sl tConflictEdge edges1), (sl tConflictEdge preferences2)] (.m [0] 0 r.length (tSl tInt).k) [.row (flat (tSl tInt).own r)] := by
  unfold m_impl_GreedyRepairs at H
  refine fnO_of_T Tryz.func6 rfl rfl (Nat.le_of_ble_eq_true rfl) ?_
  refine te [(0, (intA n0)), (1, (sl tConflictEdge edges1)), (2, (sl tConflictEdge preferences2))] rfl ?_
  refine sr ?_
  refine pv tb 1 rfl ?_
  refine TO_nil ?_
  refine T_seq ?_
  obtain ⟨t15_1, J_1, H_2⟩ := bind_inv H
  refine T_cutX (fun x => t15_1 = x) (fun (t15_1 : Bool) => [(0, (intA n0)), (1, (sl tConflictEdge edges1)), (2, (sl tConflictEdge preferences2)), (15, (boolA t15_1))]) (fun (t15_1 : Bool) => []) ?_ ?_
  ·replace H := J_1
   refine T_region ?_
   obtain ⟨r_3, h_4, H⟩ := bind_inv H
   refine pv tb 3 rfl ?_
   refine TO_cons rfl (TOp_callV (call_static ent17 rfl) (m_impl_IsValidPreference_ok u _ _ _ _ h_4) rfl rfl rfl ?_)
   refine pv tb 2 rfl ?_
   refine TO_split (t := (!r_3)) 12 rfl (fun g_5 => ?_) (fun g_5 => ?_)
   ·replace H := cond_t g_5 H
    refine pv tb 3 rfl ?_
    refine TO_nil ?_
    exact joined true (w0 0) (some_inj H).symm
   ·replace H := cond_f g_5 H
    refine pv tb 3 rfl ?_
    refine TO_nil ?_
    exact joined (decide (7 < n0)) (w0 0) (some_inj H).symm
  ·rintro _ rfl
   replace H := H_2
   refine T_cond (t := t15_1) rfl (fun c_6 => ?_) (fun c_6 => ?_)
   ·replace H := cond_t c_6 H
    refine sr ?_
    refine pv tb 1 rfl ?_
    refine TO_nil ?_
    refine T_row0 ?_
    refine T_envL (E' := [(6, (.m [0] 0 ([] : (List (List Int))).length (tSl tInt).k))]) ⟨leM, trivial⟩ ?_
    refine T_st (σ' := [.row (flat (tSl tInt).own ([] : (List (List Int))))]) rfl ?_
    refine T_ret ?_
    refine then_ret ?_
    obtain rfl := some_inj H
    exact end_pick (.tmp .nil) rfl [0] (by decide) rfl rfl rfl rfl rfl rfl
   ·replace H := cond_f c_6 H
    refine T_skip ?_
    refine sr ?_
    obtain ⟨r_7, h_8, H⟩ := bind_inv H
    refine pv tb 3 rfl ?_
    refine TO_cons rfl (TOp_callO (call_static ent18 rfl) rfl (m_impl_greedy_own u _ _ _ _ _ h_8) rfl rfl rfl ?_)
    refine toe [(0, (intA n0)), (1, (sl tConflictEdge edges1)), (2, (sl tConflictEdge preferences2)), (16, (intA n0)), (17, (sl tConflictEdge edges1)), (18, (sl tConflictEdge preferences2)), (19, (.m [0] 0 r_7.length (tSl tInt).k))] rfl ?_
    refine TO_st (σ' := [.row (flat (tSl tInt).own r_7)]) rfl ?_
    refine pv tb 1 rfl ?_
    refine TO_nil ?_
    refine T_ret ?_
    obtain rfl := some_inj H
    exact end_pick (.tmp .nil) rfl [0] (by decide) rfl rfl rfl rfl rfl rfl
theorem m_impl_GreedyRepairs_ok (u : Nat) (n0 : Int) (edges1 : (List ConflictEdge)) (preferences2 : (List ConflictEdge)) (r : (List (List Int))) (H : m_impl_GreedyRepairs u n0 edges1 preferences2 = some r) : FnV prg 6 [(intA n0), (sl tConflictEdge edges1), (sl tConflictEdge preferences2)] (sl (tSl tInt) r) := (m_impl_GreedyRepairs_own u n0 edges1 preferences2 r H).frz (frzT (T := (tSl tInt)) rfl)

set_option maxHeartbeats 1000000 in
theorem m_laws_sameInts_ok (a0 : (List Int)) (b1 : (List Int)) (r : Bool) (H : m_laws_sameInts a0 b1 = some r) : FnV prg 12 [(sl tInt a0), (sl tInt b1)] (boolA r) := by
  unfold m_laws_sameInts at H
  refine fnV_of_T Tryz.func12 rfl rfl (Nat.le_of_ble_eq_true rfl) ?_
  refine te [(0, (sl tInt a0)), (1, (sl tInt b1))] rfl ?_
  refine sr ?_
  refine pv tb 1 rfl ?_
  refine TO_nil ?_
  refine T_seq ?_
  refine sr ?_
  refine pv tb 1 rfl ?_
  refine Tp rfl rfl (pur_lenT (T := tInt) sl31 rfl rfl) rfl ?_
  refine pv tb 1 rfl ?_
  refine Tp rfl rfl (pur_lenT (T := tInt) sl31 rfl rfl) rfl ?_
  refine pv tb 1 rfl ?_
  refine TO_nil ?_
  refine T_cond (t := decide ((a0.length : Int) ≠ (b1.length : Int))) rfl (fun c_1 => ?_) (fun c_1 => ?_)
  ·replace H := cond_t c_1 H
   refine sr ?_
   refine pv tb 1 rfl ?_
   refine TO_nil ?_
   refine T_ret ?_
   refine then_ret ?_
   obtain rfl := some_inj H
   refine end_ret (.tmp .nil) rfl rfl ⟨?_, rfl⟩
   rfl
  ·replace H := cond_f c_1 H
   refine T_skip ?_
   refine T_seq ?_
   refine sr ?_
   refine pv tb 1 rfl ?_
   refine TO_nil ?_
   obtain ⟨O3_, L3_, N3_⟩ := bind_inv H
   clear H
   obtain ⟨B3_, hb3, L3_⟩ := gen_forL L3_
   refine T_block ?_
   refine T_loopX (fun k => fun (i_2 : Nat) => k = a0.length - i_2 ∧ forL B3_ (a0.drop i_2) (i_2 : Int) () = some O3_) (fun (i_2 : Nat) => [(0, (sl tInt a0)), (1, (sl tInt b1)), (5, (intA (i_2 : Int)))]) (fun (i_2 : Nat) => []) _ (0 : Nat) (w0 0) ⟨rfl, L3_⟩ ?_
   rintro _ i_2 ⟨rfl, L3_⟩
   refine T_fact (len_sl (T := tInt) (.tmp 0) rfl) (fun hl3 => ?_)
   refine T_seq ?_
   refine sr ?_
   refine pv tb 2 rfl ?_
   refine Tp rfl rfl (pur_lenT (T := tInt) sl31 rfl rfl) rfl ?_
   refine pv tb 1 rfl ?_
   refine TO_nil ?_
   refine T_cond (t := decide ((i_2 : Int) < (a0.length : Int))) rfl (fun d3 => ?_) (fun d3 => ?_)
   ·replace d3 := of_decide_eq_true d3
    obtain ⟨x_i_2, hx_i_2⟩ : ∃ v, (a0)[i_2]? = some v := ⟨_, List.getElem?_eq_getElem (by omega)⟩
    obtain ⟨C3_, H, K3_⟩ := forL_step L3_ hx_i_2
    rw [hb3] at H
    refine T_skip ?_
    refine T_seq ?_
    refine T_block ?_
    refine T_seq ?_
    refine T_regionD mixed (by kernel_rfl) ?_
    refine pq tb 2 rfl ?_
    refine TQ_pure rfl (pur_ixT (T := tInt) sl31 rfl rfl rfl hx_i_2 rfl) rfl ?_
    refine TQ_pure rfl (pur_ldT (T := tInt) (i := i_2) (off := 0) rfl one3 rfl rfl hx_i_2 rfl) rfl ?_
    obtain ⟨v_4, h_5, H⟩ := bind_inv H
    obtain ⟨n_6, hz_7, hv_8⟩ := getI_inv h_5
    refine pq tb 2 rfl ?_
    refine TQ_pure rfl (pur_ixT (T := tInt) sl31 rfl rfl hz_7 hv_8 rfl) rfl ?_
    refine TQ_pure rfl (pur_ldT (T := tInt) (i := n_6) (off := 0) rfl one3 rfl rfl hv_8 rfl) rfl ?_
    refine pq tb 1 rfl ?_
    refine TQ_nil ?_
    refine T_cond (t := decide (x_i_2 ≠ v_4)) rfl (fun c_9 => ?_) (fun c_9 => ?_)
    ·replace H := cond_t c_9 H
     refine sr ?_
     refine pv tb 1 rfl ?_
     refine TO_nil ?_
     refine te [(4, (boolA false))] rfl ?_
     refine T_ret ?_
     refine block_ret ?_
     refine then_ret ?_
     refine then_ret ?_
     refine block_ret ?_
     refine then_ret ?_
     obtain rfl := some_inj H
     obtain rfl := some_inj K3_
     replace H := onS_r N3_
     obtain rfl := some_inj H
     refine end_ret (.tmp .nil) rfl rfl ⟨?_, rfl⟩
     rfl
    ·replace H := cond_f c_9 H
     refine T_skip ?_
     refine T_region ?_
     refine pv tb 1 rfl ?_
     refine Tp rfl rfl (pur_add rfl rfl rfl (fits64 (by omega) (by omega))) rfl ?_
     refine pv tb 1 rfl ?_
     refine TO_nil ?_
     obtain rfl := some_inj H
     exact again (a0.length - (i_2 + 1)) (i_2 + 1) (by omega) (w0 0) ⟨rfl, K3_⟩
   ·replace d3 := of_decide_eq_false d3
    obtain rfl := forL_end L3_ (by omega)
    refine T_exit ?_
    refine then_exit ?_
    refine then_exit ?_
    refine block_exit ?_
    replace H := onS_l N3_
    refine sr ?_
    refine pv tb 1 rfl ?_
    refine TO_nil ?_
    refine T_ret ?_
    obtain rfl := some_inj H
    refine end_ret (.tmp .nil) rfl rfl ⟨?_, rfl⟩
    rfl

set_option maxHeartbeats 1000000 in
theorem m_laws_sameRows_ok (a0 : (List (List Int))) (b1 : (List (List Int))) (r : Bool) (H : m_laws_sameRows a0 b1 = some r) : FnV prg 7 [(sl (tSl tInt) a0), (sl (tSl tInt) b1)] (boolA r) := by
  unfold m_laws_sameRows at H
  refine fnV_of_T Tryz.func7 rfl rfl (Nat.le_of_ble_eq_true rfl) ?_
  refine te [(0, (sl (tSl tInt) a0)), (1, (sl (tSl tInt) b1))] rfl ?_
  refine sr ?_
  refine pv tb 1 rfl ?_
  refine TO_nil ?_
  refine T_seq ?_
  refine sr ?_
  refine pv tb 1 rfl ?_
  refine Tp rfl rfl (pur_lenT (T := (tSl tInt)) sl27 rfl rfl) rfl ?_
  refine pv tb 1 rfl ?_
  refine Tp rfl rfl (pur_lenT (T := (tSl tInt)) sl27 rfl rfl) rfl ?_
  refine pv tb 1 rfl ?_
  refine TO_nil ?_
  refine T_cond (t := decide ((a0.length : Int) ≠ (b1.length : Int))) rfl (fun c_1 => ?_) (fun c_1 => ?_)
  ·replace H := cond_t c_1 H
   refine sr ?_
   refine pv tb 1 rfl ?_
   refine TO_nil ?_
   refine T_ret ?_
   refine then_ret ?_
   obtain rfl := some_inj H
   refine end_ret (.tmp .nil) rfl rfl ⟨?_, rfl⟩
   rfl
  ·replace H := cond_f c_1 H
   refine T_skip ?_
   refine T_seq ?_
   refine sr ?_
   refine pv tb 1 rfl ?_
   refine TO_nil ?_
   obtain ⟨O3_, L3_, N3_⟩ := bind_inv H
   clear H
   obtain ⟨B3_, hb3, L3_⟩ := gen_forL L3_
   refine T_block ?_
   refine T_loopX (fun k => fun (i_2 : Nat) => k = a0.length - i_2 ∧ forL B3_ (a0.drop i_2) (i_2 : Int) () = some O3_) (fun (i_2 : Nat) => [(0, (sl (tSl tInt) a0)), (1, (sl (tSl tInt) b1)), (5, (intA (i_2 : Int)))]) (fun (i_2 : Nat) => []) _ (0 : Nat) (w0 0) ⟨rfl, L3_⟩ ?_
   rintro _ i_2 ⟨rfl, L3_⟩
   refine T_fact (len_sl (T := (tSl tInt)) (.tmp 0) rfl) (fun hl3 => ?_)
   refine T_seq ?_
   refine sr ?_
   refine pv tb 2 rfl ?_
   refine Tp rfl rfl (pur_lenT (T := (tSl tInt)) sl27 rfl rfl) rfl ?_
   refine pv tb 1 rfl ?_
   refine TO_nil ?_
   refine T_cond (t := decide ((i_2 : Int) < (a0.length : Int))) rfl (fun d3 => ?_) (fun d3 => ?_)
   ·replace d3 := of_decide_eq_true d3
    obtain ⟨x_i_2, hx_i_2⟩ : ∃ v, (a0)[i_2]? = some v := ⟨_, List.getElem?_eq_getElem (by omega)⟩
    obtain ⟨C3_, H, K3_⟩ := forL_step L3_ hx_i_2
    rw [hb3] at H
    refine T_skip ?_
    refine T_seq ?_
    refine T_block ?_
    refine T_seq ?_
    refine T_regionD mixed (by kernel_rfl) ?_
    refine pq tb 2 rfl ?_
    refine TQ_pure rfl (pur_ixT (T := (tSl tInt)) sl27 rfl rfl rfl hx_i_2 rfl) rfl ?_
    refine TQ_pure rfl (pur_ldT (T := (tSl tInt)) (i := i_2) (off := 0) rfl one31 rfl rfl hx_i_2 rfl) rfl ?_
    obtain ⟨v_4, h_5, H⟩ := bind_inv H
    obtain ⟨n_6, hz_7, hv_8⟩ := getI_inv h_5
    refine pq tb 2 rfl ?_
    refine TQ_pure rfl (pur_ixT (T := (tSl tInt)) sl27 rfl rfl hz_7 hv_8 rfl) rfl ?_
    refine TQ_pure rfl (pur_ldT (T := (tSl tInt)) (i := n_6) (off := 0) rfl one31 rfl rfl hv_8 rfl) rfl ?_
    obtain ⟨r_9, h_10, H⟩ := bind_inv H
    refine TQ_callV rfl (call_static ent12 rfl) (m_laws_sameInts_ok _ _ _ h_10) rfl rfl ?_
    refine pq tb 1 rfl ?_
    refine TQ_nil ?_
    refine T_cond (t := (!r_9)) rfl (fun c_11 => ?_) (fun c_11 => ?_)
    ·replace H := cond_t c_11 H
     refine sr ?_
     refine pv tb 1 rfl ?_
     refine TO_nil ?_
     refine te [(4, (boolA false))] rfl ?_
     refine T_ret ?_
     refine block_ret ?_
     refine then_ret ?_
     refine then_ret ?_
     refine block_ret ?_
     refine then_ret ?_
     obtain rfl := some_inj H
     obtain rfl := some_inj K3_
     replace H := onS_r N3_
     obtain rfl := some_inj H
     refine end_ret (.tmp .nil) rfl rfl ⟨?_, rfl⟩
     rfl
    ·replace H := cond_f c_11 H
     refine T_skip ?_
     refine T_region ?_
     refine pv tb 1 rfl ?_
     refine Tp rfl rfl (pur_add rfl rfl rfl (fits64 (by omega) (by omega))) rfl ?_
     refine pv tb 1 rfl ?_
     refine TO_nil ?_
     obtain rfl := some_inj H
     exact again (a0.length - (i_2 + 1)) (i_2 + 1) (by omega) (w0 0) ⟨rfl, K3_⟩
   ·replace d3 := of_decide_eq_false d3
    obtain rfl := forL_end L3_ (by omega)
    refine T_exit ?_
    refine then_exit ?_
    refine then_exit ?_
    refine block_exit ?_
    replace H := onS_l N3_
    refine sr ?_
    refine pv tb 1 rfl ?_
    refine TO_nil ?_
    refine T_ret ?_
    obtain rfl := some_inj H
    refine end_ret (.tmp .nil) rfl rfl ⟨?_, rfl⟩
    rfl

set_option maxHeartbeats 1000000 in
theorem m_spec_l1In_ok (x0 : Int) (low1 : Int) (high2 : Int) (r : Bool) (H : m_spec_l1In x0 low1 high2 = some r) : FnV prg 50 [(intA x0), (intA low1), (intA high2)] (boolA r) := by
  unfold m_spec_l1In at H
  refine fnV_of_T Tryz.func50 rfl rfl (Nat.le_of_ble_eq_true rfl) ?_
  refine te [(0, (intA x0)), (1, (intA low1)), (2, (intA high2))] rfl ?_
  refine sr ?_
  refine pv tb 1 rfl ?_
  refine TO_nil ?_
  refine T_cutX (fun x => ((decide (low1 ≤ x0)) && (decide (x0 ≤ high2))) = x) (fun (t6_1 : Bool) => [(6, (boolA t6_1))]) (fun (t6_1 : Bool) => []) ?_ ?_
  ·skip
   refine T_region ?_
   refine pv tb 4 rfl ?_
   refine TO_split (t := decide (low1 ≤ x0)) 10 rfl (fun g_3 => ?_) (fun g_3 => ?_)
   ·skip
    refine pv tb 5 rfl ?_
    refine TO_nil ?_
    exact joined (decide (x0 ≤ high2)) (w0 0) (by first | exact Eq.symm ((and_T g_3 rfl)))
   ·skip
    refine pv tb 5 rfl ?_
    refine TO_nil ?_
    exact joined false (w0 0) (by first | exact Eq.symm ((and_F g_3 rfl)))
  ·rintro _ rfl
   refine T_ret ?_
   obtain rfl := some_inj H
   refine end_ret (.tmp .nil) rfl rfl ⟨?_, rfl⟩
   rfl

set_option maxHeartbeats 1000000 in
theorem m_spec_AreValidEdges_ok (n0 : Int) (l1 : (List ConflictEdge)) (r : Bool) (H : m_spec_AreValidEdges n0 l1 = some r) : FnV prg 22 [(intA n0), (sl tConflictEdge l1)] (boolA r) := by
  unfold m_spec_AreValidEdges at H
  refine fnV_of_T Tryz.func22 rfl rfl (Nat.le_of_ble_eq_true rfl) ?_
  refine te [(0, (intA n0)), (1, (sl tConflictEdge l1))] rfl ?_
  refine sr ?_
  refine pv tb 1 rfl ?_
  refine TO_nil ?_
  refine T_seq ?_
  refine sr ?_
  refine pv tb 1 rfl ?_
  refine TO_nil ?_
  obtain ⟨O2_, L2_, N2_⟩ := bind_inv H
  clear H
  obtain ⟨B2_, hb2, L2_⟩ := gen_forL L2_
  refine T_block ?_
  refine T_loopX (fun k => fun (i_1 : Nat) => k = l1.length - i_1 ∧ forL B2_ (l1.drop i_1) (i_1 : Int) () = some O2_) (fun (i_1 : Nat) => [(0, (intA n0)), (1, (sl tConflictEdge l1)), (5, (intA (i_1 : Int)))]) (fun (i_1 : Nat) => []) _ (0 : Nat) (w0 0) ⟨rfl, L2_⟩ ?_
  rintro _ i_1 ⟨rfl, L2_⟩
  refine T_fact (len_sl (T := tConflictEdge) (.tmp 1) rfl) (fun hl2 => ?_)
  refine T_seq ?_
  refine sr ?_
  refine pv tb 2 rfl ?_
  refine Tp rfl rfl (pur_lenT (T := tConflictEdge) sl24 rfl rfl) rfl ?_
  refine pv tb 1 rfl ?_
  refine TO_nil ?_
  refine T_cond (t := decide ((i_1 : Int) < (l1.length : Int))) rfl (fun d2 => ?_) (fun d2 => ?_)
  ·replace d2 := of_decide_eq_true d2
   obtain ⟨x_i_1, hx_i_1⟩ : ∃ v, (l1)[i_1]? = some v := ⟨_, List.getElem?_eq_getElem (by omega)⟩
   obtain ⟨C2_, H, K2_⟩ := forL_step L2_ hx_i_1
   rw [hb2] at H
   refine T_skip ?_
   refine T_seq ?_
   refine T_block ?_
   obtain ⟨t81_3, J_3, H_4⟩ := bind_inv H
   refine T_cutX (fun x => t81_3 = x) (fun (t81_3 : Bool) => [(0, (intA n0)), (1, (sl tConflictEdge l1)), (5, (intA (i_1 : Int))), (81, (boolA t81_3))]) (fun (t81_3 : Bool) => []) ?_ ?_
   ·replace H := J_3
    refine T_regionD mixed (by kernel_rfl) ?_
    refine pq tb 2 rfl ?_
    refine TQ_pure rfl (pur_ixT (T := tConflictEdge) sl24 rfl rfl rfl hx_i_1 rfl) rfl ?_
    refine pq tb 1 rfl ?_
    refine TQ_pure rfl (pur_ldT (T := tConflictEdge) (i := i_1) (off := 0) rfl one3 rfl rfl hx_i_1 rfl) rfl ?_
    refine pq tb 2 rfl ?_
    refine TQ_pure rfl (pur_ixT (T := tConflictEdge) sl24 rfl rfl rfl hx_i_1 rfl) rfl ?_
    refine pq tb 1 rfl ?_
    refine TQ_pure rfl (pur_ldT (T := tConflictEdge) (i := i_1) (off := 1) rfl one3 rfl rfl hx_i_1 rfl) rfl ?_
    obtain ⟨r_5, h_6, H⟩ := bind_inv H
    refine pq tb 1 rfl ?_
    refine TQ_callV rfl (call_static ent50 rfl) (m_spec_l1In_ok _ _ _ _ h_6) rfl rfl ?_
    refine pq tb 2 rfl ?_
    refine TQ_split (t := (!r_5)) 25 rfl (fun g_7 => ?_) (fun g_7 => ?_)
    ·replace H := cond_t g_7 H
     refine pq tb 8 rfl ?_
     refine tqe [(0, (intA n0)), (1, (sl tConflictEdge l1)), (5, (intA (i_1 : Int))), (25, (boolA true)), (33, (.v undef))] rfl ?_
     refine pq tb 24 rfl ?_
     refine tqe [(0, (intA n0)), (1, (sl tConflictEdge l1)), (5, (intA (i_1 : Int))), (36, (boolA true)), (39, (.v undef)), (52, (.v undef)), (57, (.v undef))] rfl ?_
     refine pq tb 24 rfl ?_
     refine TQ_nil ?_
     exact joined true (w0 0) (some_inj H).symm
    ·replace H := cond_f g_7 H
     refine pq tb 2 rfl ?_
     refine TQ_on rfl rfl (by decide) rfl (pur_ixT (T := tConflictEdge) sl24 rfl rfl rfl hx_i_1 rfl) rfl ?_
     refine pq tb 1 rfl ?_
     refine TQ_on rfl rfl (by decide) rfl (pur_ldT (T := tConflictEdge) (i := i_1) (off := 1) rfl one3 rfl rfl hx_i_1 rfl) rfl ?_
     obtain ⟨r_8, h_9, H⟩ := bind_inv H
     refine pq tb 2 rfl ?_
     refine TQ_onV rfl rfl (by decide) rfl (call_static ent50 rfl) (m_spec_l1In_ok _ _ _ _ h_9) rfl rfl ?_
     refine tqe [(0, (intA n0)), (1, (sl tConflictEdge l1)), (5, (intA (i_1 : Int))), (25, (boolA false)), (33, (boolA r_8))] rfl ?_
     refine pq tb 3 rfl ?_
     refine TQ_split (t := (!r_8)) 36 rfl (fun g_10 => ?_) (fun g_10 => ?_)
     ·replace H := cond_t g_10 H
      refine pq tb 16 rfl ?_
      refine tqe [(0, (intA n0)), (1, (sl tConflictEdge l1)), (5, (intA (i_1 : Int))), (36, (boolA true)), (39, (.v undef)), (52, (.v undef))] rfl ?_
      refine pq tb 24 rfl ?_
      refine tqe [(0, (intA n0)), (1, (sl tConflictEdge l1)), (5, (intA (i_1 : Int))), (36, (boolA true)), (39, (.v undef)), (52, (.v undef)), (65, (.v undef)), (70, (.v undef)), (76, (.v undef))] rfl ?_
      refine pq tb 5 rfl ?_
      refine TQ_nil ?_
      exact joined true (w0 0) (some_inj H).symm
     ·replace H := cond_f g_10 H
      refine pq tb 3 rfl ?_
      refine TQ_split (t := decide (0 < (i_1 : Int))) 39 rfl (fun g_11 => ?_) (fun g_11 => ?_)
      ·replace H := cond_t g_11 H
       refine pq tb 2 rfl ?_
       refine TQ_on rfl rfl (by decide) rfl (pur_ixT (T := tConflictEdge) sl24 rfl rfl rfl hx_i_1 rfl) rfl ?_
       refine pq tb 1 rfl ?_
       refine TQ_on rfl rfl (by decide) rfl (pur_ldT (T := tConflictEdge) (i := i_1) (off := 0) rfl one3 rfl rfl hx_i_1 rfl) rfl ?_
       refine pq tb 2 rfl ?_
       refine TQ_on rfl rfl (by decide) rfl (pur_sub rfl rfl rfl (fits64 (by omega) (by omega))) rfl ?_
       obtain ⟨v_12, h_13, H⟩ := bind_inv H
       obtain ⟨n_14, hz_15, hv_16⟩ := getI_inv h_13
       refine TQ_on rfl rfl (by decide) rfl (pur_ixT (T := tConflictEdge) sl24 rfl rfl hz_15 hv_16 rfl) rfl ?_
       refine pq tb 1 rfl ?_
       refine TQ_on rfl rfl (by decide) rfl (pur_ldT (T := tConflictEdge) (i := n_14) (off := 0) rfl one3 rfl rfl hv_16 rfl) rfl ?_
       refine pq tb 2 rfl ?_
       refine TQ_split (t := decide (x_i_1.a < v_12.a)) 52 rfl (fun g_17 => ?_) (fun g_17 => ?_)
       ·replace H := cond_t g_17 H
        refine pq tb 8 rfl ?_
        refine tqe [(0, (intA n0)), (1, (sl tConflictEdge l1)), (5, (intA (i_1 : Int))), (36, (boolA false)), (39, (boolA true)), (52, (boolA true)), (57, (.v undef)), (58, (.v undef)), (60, (.v undef))] rfl ?_
        refine pq tb 16 rfl ?_
        refine tqe [(0, (intA n0)), (1, (sl tConflictEdge l1)), (5, (intA (i_1 : Int))), (36, (boolA false)), (39, (boolA true)), (52, (boolA true)), (65, (.v undef)), (70, (.v undef)), (76, (.v undef))] rfl ?_
        refine pq tb 5 rfl ?_
        refine TQ_nil ?_
        exact joined true (w0 0) (some_inj H).symm
       ·replace H := cond_f g_17 H
        refine pq tb 2 rfl ?_
        refine TQ_on rfl rfl (by decide) rfl (pur_ixT (T := tConflictEdge) sl24 rfl rfl rfl hx_i_1 rfl) rfl ?_
        refine pq tb 1 rfl ?_
        refine TQ_on rfl rfl (by decide) rfl (pur_ldT (T := tConflictEdge) (i := i_1) (off := 0) rfl one3 rfl rfl hx_i_1 rfl) rfl ?_
        refine pq tb 2 rfl ?_
        refine TQ_on rfl rfl (by decide) rfl (pur_sub rfl rfl rfl (fits64 (by omega) (by omega))) rfl ?_
        refine tqe [(0, (intA n0)), (1, (sl tConflictEdge l1)), (5, (intA (i_1 : Int))), (36, (boolA false)), (39, (boolA true)), (52, (boolA false)), (57, (intA x_i_1.a)), (58, (sl tConflictEdge l1)), (60, (intA ((i_1 : Int) - 1)))] rfl ?_
        refine TQ_on rfl rfl (by decide) rfl (pur_ixT (T := tConflictEdge) sl24 rfl rfl hz_15 hv_16 rfl) rfl ?_
        refine pq tb 1 rfl ?_
        refine TQ_on rfl rfl (by decide) rfl (pur_ldT (T := tConflictEdge) (i := n_14) (off := 0) rfl one3 rfl rfl hv_16 rfl) rfl ?_
        refine pq tb 2 rfl ?_
        refine TQ_split (t := decide (x_i_1.a = v_12.a)) 65 rfl (fun g_18 => ?_) (fun g_18 => ?_)
        ·replace H := cond_t g_18 H
         refine pq tb 2 rfl ?_
         refine TQ_on rfl rfl (by decide) rfl (pur_ixT (T := tConflictEdge) sl24 rfl rfl rfl hx_i_1 rfl) rfl ?_
         refine pq tb 1 rfl ?_
         refine TQ_on rfl rfl (by decide) rfl (pur_ldT (T := tConflictEdge) (i := i_1) (off := 1) rfl one3 rfl rfl hx_i_1 rfl) rfl ?_
         refine pq tb 2 rfl ?_
         refine TQ_on rfl rfl (by decide) rfl (pur_sub rfl rfl rfl (fits64 (by omega) (by omega))) rfl ?_
         refine TQ_on rfl rfl (by decide) rfl (pur_ixT (T := tConflictEdge) sl24 rfl rfl hz_15 hv_16 rfl) rfl ?_
         refine pq tb 1 rfl ?_
         refine TQ_on rfl rfl (by decide) rfl (pur_ldT (T := tConflictEdge) (i := n_14) (off := 1) rfl one3 rfl rfl hv_16 rfl) rfl ?_
         refine pq tb 5 rfl ?_
         refine TQ_nil ?_
         exact joined (decide (x_i_1.b ≤ v_12.b)) (w0 0) (some_inj H).symm
        ·replace H := cond_f g_18 H
         refine pq tb 16 rfl ?_
         refine TQ_nil ?_
         exact joined false (w0 0) (some_inj H).symm
      ·replace H := cond_f g_11 H
       refine pq tb 16 rfl ?_
       refine tqe [(0, (intA n0)), (1, (sl tConflictEdge l1)), (5, (intA (i_1 : Int))), (36, (boolA false)), (39, (boolA false)), (52, (.v undef)), (55, (.v undef))] rfl ?_
       refine pq tb 26 rfl ?_
       refine TQ_nil ?_
       exact joined false (w0 0) (some_inj H).symm
   ·rintro _ rfl
    replace H := H_4
    refine T_cond (t := t81_3) rfl (fun c_19 => ?_) (fun c_19 => ?_)
    ·replace H := cond_t c_19 H
     refine sr ?_
     refine pv tb 1 rfl ?_
     refine TO_nil ?_
     refine T_ret ?_
     refine block_ret ?_
     refine then_ret ?_
     refine then_ret ?_
     refine block_ret ?_
     refine then_ret ?_
     obtain rfl := some_inj H
     obtain rfl := some_inj K2_
     replace H := onS_r N2_
     obtain rfl := some_inj H
     refine end_ret (.tmp .nil) rfl rfl ⟨?_, rfl⟩
     rfl
    ·replace H := cond_f c_19 H
     refine T_skip ?_
     refine T_region ?_
     refine pv tb 1 rfl ?_
     refine Tp rfl rfl (pur_add rfl rfl rfl (fits64 (by omega) (by omega))) rfl ?_
     refine pv tb 1 rfl ?_
     refine TO_nil ?_
     obtain rfl := some_inj H
     exact again (l1.length - (i_1 + 1)) (i_1 + 1) (by omega) (w0 0) ⟨rfl, K2_⟩
  ·replace d2 := of_decide_eq_false d2
   obtain rfl := forL_end L2_ (by omega)
   refine T_exit ?_
   refine then_exit ?_
   refine then_exit ?_
   refine block_exit ?_
   replace H := onS_l N2_
   refine sr ?_
   obtain ⟨r_20, h_21, H⟩ := bind_inv H
   refine pv tb 1 rfl ?_
   refine TO_cons rfl (TOp_callV (call_static ent50 rfl) (m_spec_l1In_ok _ _ _ _ h_21) rfl rfl rfl ?_)
   refine pv tb 1 rfl ?_
   refine TO_nil ?_
   refine T_ret ?_
   obtain rfl := some_inj H
   refine end_ret (.tmp .nil) rfl rfl ⟨?_, rfl⟩
   rfl
end Go.Proofs.YtmecnecfkgneoaaGreat

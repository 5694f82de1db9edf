import Derived.Test.YtlcpdlngbofgcaaM1
import Derived.Test.YtlcpdlngbofgcaaM2
import Derived.Test.YtlcpdlngbofgcaaM3
set_option linter.unusedVariables false
set_option linter.unusedSimpArgs false
set_option maxRecDepth 4000
namespace Go.Proofs.Ytlcpdlngbofgcaa
open Go Go.Proofs Go.Sep
set_option maxHeartbeats 1000000 in
theorem m_slices_Concat_Sint_int_own (slices0 : (List (List Int))) (r : (List Int)) (H : m_slices_Concat_Sint_int slices0 = some r) : FnO prg 106 [(sl (tSl tInt) slices0)] (.m [0] 0 r.length tInt.k) [.row (flat tInt.own r)] := by
  unfold m_slices_Concat_Sint_int at H
  refine fnO_of_T Try.func106 rfl rfl (Nat.le_of_ble_eq_true rfl) ?_
  refine te [(0, (sl (tSl tInt) slices0))] rfl ?_
  refine sr ?_
  refine pv tb 1 rfl ?_
  refine TO_nil ?_
  refine sr ?_
  refine pv tb 1 rfl ?_
  refine TO_nil ?_
  refine T_seq ?_
  refine sr ?_
  refine pv tb 1 rfl ?_
  refine Tp rfl rfl (pur_lenT (T := (tSl tInt)) sl22 rfl rfl) rfl ?_
  refine pv tb 1 rfl ?_
  refine TO_nil ?_
  obtain ⟨O2_, L2_, N2_⟩ := bind_inv H
  clear H
  obtain ⟨B2_, hb2, L2_⟩ := gen_forS L2_
  refine T_block ?_
  refine T_loopX (fun k => fun (⟨t_1, size3⟩ : Nat × Int) => k = slices0.length - t_1 ∧ forS B2_ (slices0.drop t_1) (t_1 : Int) size3 = some O2_) (fun (⟨t_1, size3⟩ : Nat × Int) => [(0, (sl (tSl tInt) slices0)), (3, (intA size3)), (9, (sl (tSl tInt) slices0)), (10, (intA (slices0.length : Int))), (11, (intA (t_1 : Int)))]) (fun (⟨t_1, size3⟩ : Nat × Int) => []) _ (0, 0) (w0 0) ⟨rfl, L2_⟩ ?_
  rintro _ ⟨t_1, size3⟩ ⟨rfl, L2_⟩
  refine T_fact (len_sl (T := (tSl tInt)) (.tmp 0) rfl) (fun hl2 => ?_)
  refine sr ?_
  refine pv tb 1 rfl ?_
  refine TO_nil ?_
  refine T_seq ?_
  refine T_cond (t := decide ((t_1 : Int) < (slices0.length : Int))) rfl (fun d2 => ?_) (fun d2 => ?_)
  ·replace d2 := of_decide_eq_true d2
   obtain ⟨x_t_1, hx_t_1⟩ : ∃ v, (slices0)[t_1]? = some v := ⟨_, List.getElem?_eq_getElem (by omega)⟩
   obtain ⟨C2_, H, K2_⟩ := forS_step L2_ hx_t_1
   rw [hb2] at H
   refine T_skip ?_
   refine T_seq ?_
   refine T_block ?_
   refine sr ?_
   refine Tp rfl rfl (pur_ixT (T := (tSl tInt)) sl22 rfl rfl rfl hx_t_1 rfl) rfl ?_
   refine Tp rfl rfl (pur_ldT (T := (tSl tInt)) (i := t_1) (off := 0) rfl one33 rfl rfl hx_t_1 rfl) rfl ?_
   refine pv tb 1 rfl ?_
   refine TO_nil ?_
   refine sr ?_
   refine pv tb 2 rfl ?_
   refine Tp rfl rfl (pur_lenT (T := tInt) sl33 rfl rfl) rfl ?_
   refine pv tb 2 rfl ?_
   refine TO_nil ?_
   refine sr ?_
   refine pv tb 2 rfl ?_
   refine TO_nil ?_
   refine T_cond (t := decide ((w64 (size3 + (x_t_1.length : Int))) < 0)) rfl (fun c_3 => ?_) (fun c_3 => ?_)
   ·replace H := cond_t c_3 H
    cases H
   ·replace H := cond_f c_3 H
    refine T_skip ?_
    refine T_region ?_
    refine Tp rfl rfl (pur_add rfl rfl rfl (fits64 (by omega) (by omega))) rfl ?_
    refine pv tb 1 rfl ?_
    refine TO_nil ?_
    obtain rfl := some_inj H
    exact again (slices0.length - (t_1 + 1)) (t_1 + 1, (w64 (size3 + (x_t_1.length : Int)))) (by omega) (w0 0) ⟨rfl, K2_⟩
  ·replace d2 := of_decide_eq_false d2
   obtain rfl := forS_end L2_ (by omega)
   refine T_exit ?_
   refine then_exit ?_
   refine then_exit ?_
   refine block_exit ?_
   replace H := N2_
   refine sr ?_
   obtain ⟨r_4, h_5, H⟩ := bind_inv H
   refine pv tb 1 rfl ?_
   refine TO_cons rfl (TOp_callO (call_static ent123 rfl) rfl (m_slices_Grow_Sint_int_n0_own _ _ h_5) rfl rfl rfl ?_)
   refine toe [(0, (sl (tSl tInt) slices0)), (3, (intA size3)), (23, (intA size3)), (24, (.m [0] 0 r_4.length tInt.k))] rfl ?_
   refine TO_st (σ' := [.row (flat tInt.own r_4)]) rfl ?_
   refine pv tb 1 rfl ?_
   refine TO_nil ?_
   refine T_seq ?_
   refine sr ?_
   refine pv tb 1 rfl ?_
   refine Tp rfl rfl (pur_lenT (T := (tSl tInt)) sl22 rfl rfl) rfl ?_
   refine pv tb 1 rfl ?_
   refine TO_nil ?_
   obtain ⟨O7_, L7_, N7_⟩ := bind_inv H
   clear H
   obtain ⟨B7_, hb7, L7_⟩ := gen_forS L7_
   refine T_block ?_
   refine T_loopX (fun k => fun (⟨t_6, newslice6⟩ : Nat × (List Int)) => k = slices0.length - t_6 ∧ forS B7_ (slices0.drop t_6) (t_6 : Int) newslice6 = some O7_) (fun (⟨t_6, newslice6⟩ : Nat × (List Int)) => [(6, (.m [0] 0 newslice6.length tInt.k)), (25, (sl (tSl tInt) slices0)), (26, (intA (slices0.length : Int))), (27, (intA (t_6 : Int)))]) (fun (⟨t_6, newslice6⟩ : Nat × (List Int)) => [.row (flat tInt.own newslice6)]) _ (0, r_4) (w0 1) ⟨rfl, L7_⟩ ?_
   rintro _ ⟨t_6, newslice6⟩ ⟨rfl, L7_⟩
   refine T_fact (len_sl (T := (tSl tInt)) (.tmp 25) rfl) (fun hl7 => ?_)
   refine sr ?_
   refine pv tb 1 rfl ?_
   refine TO_nil ?_
   refine T_seq ?_
   refine T_cond (t := decide ((t_6 : Int) < (slices0.length : Int))) rfl (fun d7 => ?_) (fun d7 => ?_)
   ·replace d7 := of_decide_eq_true d7
    obtain ⟨x_t_6, hx_t_6⟩ : ∃ v, (slices0)[t_6]? = some v := ⟨_, List.getElem?_eq_getElem (by omega)⟩
    obtain ⟨C7_, H, K7_⟩ := forS_step L7_ hx_t_6
    rw [hb7] at H
    refine T_skip ?_
    refine T_seq ?_
    refine T_block ?_
    refine sr ?_
    refine Tp rfl rfl (pur_ixT (T := (tSl tInt)) sl22 rfl rfl rfl hx_t_6 rfl) rfl ?_
    refine Tp rfl rfl (pur_ldT (T := (tSl tInt)) (i := t_6) (off := 0) rfl one33 rfl rfl hx_t_6 rfl) rfl ?_
    refine pv tb 1 rfl ?_
    refine TO_nil ?_
    refine T_region ?_
    obtain ⟨us_8, h_9, H⟩ := bind_inv H
    refine pv tb 2 rfl ?_
    refine TO_cons rfl (TOp_appZ (T := tInt) (f := tInt.own) (xs := newslice6) (ys := x_t_6) tInt.lenO sl33 zero3 rfl bytes3 (by decide) rfl rfl rfl rfl (src_T (T := tInt) rfl) (flat_cell tInt _) h_9 (lb rfl) ?_)
    refine toe [(8, (sl tInt x_t_6)), (25, (sl (tSl tInt) slices0)), (26, (intA (slices0.length : Int))), (27, (intA (t_6 : Int))), (32, (sl tInt x_t_6)), (33, (.m [0] 0 us_8.length tInt.k))] rfl ?_
    refine TO_st (σ' := [.row (flat tInt.own us_8), .dead]) rfl ?_
    refine pv tb 1 rfl ?_
    refine TO_nil ?_
    refine T_region ?_
    refine Tp rfl rfl (pur_add rfl rfl rfl (fits64 (by omega) (by omega))) rfl ?_
    refine pv tb 1 rfl ?_
    refine TO_nil ?_
    obtain rfl := some_inj H
    exact again (slices0.length - (t_6 + 1)) (t_6 + 1, us_8) (by omega) (w0 1) ⟨rfl, K7_⟩
   ·replace d7 := of_decide_eq_false d7
    obtain rfl := forS_end L7_ (by omega)
    refine T_exit ?_
    refine then_exit ?_
    refine then_exit ?_
    refine block_exit ?_
    replace H := N7_
    refine sr ?_
    refine pv tb 2 rfl ?_
    refine TO_nil ?_
    refine T_ret ?_
    obtain rfl := some_inj H
    exact end_pick (.tmp .nil) rfl [0] (by decide) rfl rfl rfl rfl rfl rfl
theorem m_slices_Concat_Sint_int_ok (slices0 : (List (List Int))) (r : (List Int)) (H : m_slices_Concat_Sint_int slices0 = some r) : FnV prg 106 [(sl (tSl tInt) slices0)] (sl tInt r) := (m_slices_Concat_Sint_int_own slices0 r H).frz (frzT (T := tInt) rfl)

theorem m_slices_Sort_Sint_int_mut (s0 : List Int) (r : Unit × List Int) (H : m_slices_Sort_Sint_int s0 = some r) : FnM prg 107 [(.m [0] 0 s0.length tInt.k)] [flat tInt.own s0] (.tuple #[]) [flat tInt.own r.2] := by
  unfold m_slices_Sort_Sint_int at H
  split at H
  case isFalse => cases H
  rename_i h0
  cases H
  exact FnM.ofPut (by simp) (fun ad w e => by subst e; exact Any.slices_Sort_int_none shl189 ad 0 w) (fun b o cap w hH hb _ => Any.slices_Sort_int shl189 b o cap s0 w hH hb h0)


theorem m_slices_Compact_Sint_int_x (s0 : List Int) (r : List Int) (H : m_slices_Compact_Sint_int s0 = some r) : FnS prg 108 [(.m [0] 0 s0.length tInt.k)] [.row (flat tInt.enc s0)] (.m [0] 0 r.length tInt.k) [.row (flat tInt.enc r)] := by
  unfold m_slices_Compact_Sint_int at H
  split at H
  case isFalse => cases H
  rename_i h0
  cases H
  have hc := compact_comp1 s0
  have hl := comp1_le s0
  refine FnS.ofCut (rest := List.replicate (s0.length - (comp1 s0).length) 0) (by simp; omega) (fun ad w e => ?_) (fun b o cap w hH hb hcp => ?_)
  ·exact Calls.mono (Any.slices_Compact_int_empty shl20 ad 0 w) fun e w' h => ⟨⟨ad, h.1⟩, h.2⟩
  ·refine Calls.mono (Any.slices_Compact_int shl20 b o cap s0 w hH (by omega) hcp) fun e w' h => ?_
   rw [hc] at h
   obtain ⟨h1, q, h2⟩ := h
   exact ⟨h1, q, #[], by rw [grow_nil]; exact h2⟩


set_option maxHeartbeats 1000000 in
theorem m_impl_union_own (a0 : (List Int)) (b1 : (List Int)) (r : (List Int)) (H : m_impl_union a0 b1 = some r) : FnO prg 82 [(sl tInt a0), (sl tInt b1)] (.m [0] 0 r.length tInt.k) [.row (flat tInt.own r)] := by
  unfold m_impl_union at H
  refine fnO_of_T Try.func82 rfl rfl (Nat.le_of_ble_eq_true rfl) ?_
  refine te [(0, (sl tInt a0)), (1, (sl tInt b1))] rfl ?_
  refine sr ?_
  refine pv tb 1 rfl ?_
  refine TO_nil ?_
  refine sr ?_
  refine pv tb 2 rfl ?_
  refine TO_cons rfl (TOp_lit (nn := 2) (k := 1) sl22 zero33 rfl rfl rfl rfl (by decide) ?_)
  refine TO_st (σ' := [.row (flat (tSl tInt).enc ([a0, b1] : (List (List Int))))]) rfl ?_
  obtain ⟨r_1, h_2, H⟩ := bind_inv H
  refine TO_cons rfl (TOp_callOG (call_static ent106 rfl) (frz_cons (frzTE (T := (tSl tInt)) (xs := ([a0, b1] : (List (List Int)))) rfl) frz_nil).1 (frz_cons (frzTE (T := (tSl tInt)) (xs := ([a0, b1] : (List (List Int)))) rfl) frz_nil).2 (m_slices_Concat_Sint_int_own _ _ h_2) rfl (ownC_of (ownSB_cons (flat_ownR tInt _) ownSB_nil)) rfl rfl rfl ?_)
  refine toe [(0, (sl tInt a0)), (1, (sl tInt b1)), (6, (sl tInt a0)), (7, (sl tInt b1)), (8, (.m [0] 0 ([a0, b1] : (List (List Int))).length (tSl tInt).k)), (9, (.m [1] 0 r_1.length tInt.k))] rfl ?_
  refine TO_st (σ' := [.row (flat (tSl tInt).enc ([a0, b1] : (List (List Int)))), .row (flat tInt.own r_1)]) rfl ?_
  refine pv tb 1 rfl ?_
  refine TO_nil ?_
  refine sr ?_
  obtain ⟨r_3, h_4, H⟩ := bind_inv H
  refine pv tb 1 rfl ?_
  refine TO_cons rfl (TOp_callG (aa := [(.m [1] 0 r_1.length tInt.k)]) [[1]] (call_static ent107 rfl) rfl (.cons rfl rfl (by decide) .nil) rfl rfl (m_slices_Sort_Sint_int_mut _ _ h_4) rfl (fun hl_5 => ?_))
  obtain ⟨hq_6, hl_5⟩ := sameLens_T (T := tInt) hl_5
  refine TO_env (E' := [(5, (.m [1] 0 r_3.2.length tInt.k)), (10, (.m [1] 0 r_3.2.length tInt.k))]) ⟨(congrArg (fun q => A.m [1] 0 q tInt.k) hq_6.symm), (congrArg (fun q => A.m [1] 0 q tInt.k) hq_6.symm), trivial⟩ ?_
  refine TO_st (σ' := [.row (flat (tSl tInt).enc ([a0, b1] : (List (List Int)))), .row (flat tInt.own r_3.2)]) rfl ?_
  refine TO_nil ?_
  refine sr ?_
  obtain ⟨r_7, h_8, H⟩ := bind_inv H
  refine pv tb 1 rfl ?_
  refine TO_cons rfl (TOp_callS [1] (call_static ent108 rfl) (by decide) rfl rfl rfl rfl rfl rfl (m_slices_Compact_Sint_int_x _ _ h_8) rfl rfl ?_)
  refine toe [(13, (.m [1] 0 r_7.length tInt.k))] rfl ?_
  refine TO_st (σ' := [.row (flat (tSl tInt).enc ([a0, b1] : (List (List Int)))), .row (flat tInt.enc r_7)]) rfl ?_
  refine pv tb 1 rfl ?_
  refine TO_nil ?_
  refine T_ret ?_
  obtain rfl := some_inj H
  exact end_pick (.tmp .nil) rfl [1] (by decide) rfl rfl rfl rfl rfl rfl
theorem m_impl_union_ok (a0 : (List Int)) (b1 : (List Int)) (r : (List Int)) (H : m_impl_union a0 b1 = some r) : FnV prg 82 [(sl tInt a0), (sl tInt b1)] (sl tInt r) := (m_impl_union_own a0 b1 r H).frz (frzT (T := tInt) rfl)

set_option maxHeartbeats 1000000 in
theorem m_impl_DistinctRange_1_ok (values0 : (List Int)) (r : Int) (H : m_impl_DistinctRange_1 values0 = some r) : FnV prg 81 [(sl tInt values0)] (intA r) := by
  unfold m_impl_DistinctRange_1 at H
  refine fnV_of_T Try.func81 rfl rfl (Nat.le_of_ble_eq_true rfl) ?_
  refine te [(0, (sl tInt values0))] rfl ?_
  refine sr ?_
  refine pv tb 1 rfl ?_
  refine TO_nil ?_
  refine sr ?_
  obtain ⟨r_1, h_2, H⟩ := bind_inv H
  refine pv tb 1 rfl ?_
  refine TO_cons rfl (TOp_callV (CallOp.le (call_static ent82 rfl) (leCons (leR rfl) (leCons leN leNil))) (m_impl_union_ok _ _ _ h_2) rfl rfl rfl ?_)
  refine Tp rfl rfl (pur_lenT (T := tInt) sl33 rfl rfl) rfl ?_
  refine pv tb 1 rfl ?_
  refine TO_nil ?_
  refine T_ret ?_
  obtain rfl := some_inj H
  refine end_ret (.tmp .nil) rfl rfl ⟨?_, rfl⟩
  rfl

set_option maxHeartbeats 1000000 in
theorem m_impl_DistinctRange_ok (u : Nat) (db0 : Database) (relation1 : Int) (column2 : Int) (r : (Int × Int × Bool)) (H : m_impl_DistinctRange u db0 relation1 column2 = some r) : FnV prg 44 [(.g (tDatabase.enc db0)), (intA relation1), (intA column2)] (.t [(intA r.1), (intA r.2.1), (boolA r.2.2)]) := by
  unfold m_impl_DistinctRange at H
  refine fnV_of_T Try.func44 rfl rfl (Nat.le_of_ble_eq_true rfl) ?_
  refine te [(0, (.g (tDatabase.enc db0))), (1, (intA relation1)), (2, (intA column2))] rfl ?_
  refine sr ?_
  refine TO_cons rfl (TOp_box rfl (boxAll rfl) rfl rfl ?_)
  refine pv tb 3 rfl ?_
  refine TO_nil ?_
  refine sr ?_
  obtain ⟨r_1, h_2, H⟩ := bind_inv H
  refine pv tb 3 rfl ?_
  refine TO_cons rfl (TOp_callV (call_static ent71 rfl) (m_impl_columnRange_ok u _ _ _ _ (fun x0 => m_impl_DistinctRange_1 x0) 81 [] ent81 rfl ⟨rfl, rfl⟩ (fun x0 r h => m_impl_DistinctRange_1_ok x0  r h) _ h_2) rfl rfl rfl ?_)
  refine pv tb 6 rfl ?_
  refine TO_nil ?_
  refine T_ret ?_
  obtain rfl := some_inj H
  refine end_ret (.tmp (.tmp (.tmp .nil))) rfl rfl ⟨?_, rfl⟩
  rfl

set_option maxHeartbeats 1000000 in
theorem m_spec_l1Byte_x (c0 : l1Cur) (r : (Int × l1Cur)) (H : m_spec_l1Byte c0 = some r) : FnS prg 109 [(.b 0 0)] [.box [(sl (tI .u8) c0.b), (intA c0.i), (intA c0.h)]] (intA r.1) [.box [(sl (tI .u8) r.2.b), (intA r.2.i), (intA r.2.h)]] := by
  unfold m_spec_l1Byte at H
  refine fnS_of_T Try.func109 rfl rfl (Nat.le_of_ble_eq_true rfl) ?_
  refine te [(0, (.b 0 0))] rfl ?_
  refine T_st (σ' := [.box [(sl (tI .u8) c0.b), (intA c0.i), (intA c0.h)]]) rfl ?_
  refine sr ?_
  refine pv tb 1 rfl ?_
  refine TO_nil ?_
  refine sr ?_
  refine pv tb 2 rfl ?_
  refine Tp rfl rfl (pur_nil_b rfl rfl) rfl ?_
  refine pv tb 4 rfl ?_
  refine Tp rfl rfl (pur_nil_b rfl rfl) rfl ?_
  refine pv tb 1 rfl ?_
  refine TO_cons rfl (TOp_storeB sz3 rfl rfl rfl rfl rfl rfl rfl (by decide) (lb rfl) rfl ?_)
  refine TO_st (σ' := [.box [(sl (tI .u8) c0.b), (intA c0.i), (intA (w64 ((w64 (c0.h * 6364136223846793005)) + 1442695040888963407)))]]) rfl ?_
  refine TO_nil ?_
  refine T_seq ?_
  refine T_regionD mixed (by kernel_rfl) ?_
  refine pq tb 1 rfl ?_
  refine TQ_pure rfl (pur_nil_b rfl rfl) rfl ?_
  refine pq tb 2 rfl ?_
  refine TQ_pure rfl (pur_shr rfl rfl rfl (by decide)) rfl ?_
  refine pq tb 1 rfl ?_
  refine TQ_pure rfl (pur_nil_b rfl rfl) rfl ?_
  refine pq tb 1 rfl ?_
  refine tqe [(0, (.b 0 0)), (17, (intA (shrI .i64 (w64 ((w64 (c0.h * 6364136223846793005)) + 1442695040888963407)) 33))), (20, (.b 0 2))] rfl ?_
  refine pq tb 1 rfl ?_
  refine TQ_pure rfl (pur_shr rfl rfl rfl (by decide)) rfl ?_
  refine TQ_pure rfl (pur_xor rfl rfl rfl) rfl ?_
  refine TQ_pure rfl (pur_and rfl rfl rfl) rfl ?_
  refine pq tb 1 rfl ?_
  refine TQ_nil ?_
  refine T_seq ?_
  refine T_seq ?_
  refine T_regionD mixed (by kernel_rfl) ?_
  refine pq tb 1 rfl ?_
  refine TQ_pure rfl (pur_nil_b rfl rfl) rfl ?_
  refine pq tb 3 rfl ?_
  refine TQ_pure rfl (pur_nil_b rfl rfl) rfl ?_
  refine pq tb 2 rfl ?_
  refine TQ_pure rfl (pur_lenT (T := (tI .u8)) sl27 rfl rfl) rfl ?_
  refine pq tb 1 rfl ?_
  refine TQ_nil ?_
  refine te [(0, (.b 0 0)), (3, (intA (bitI .and .i64 (bitI .xor .i64 (shrI .i64 (w64 ((w64 (c0.h * 6364136223846793005)) + 1442695040888963407)) 33) (shrI .i64 (w64 ((w64 (c0.h * 6364136223846793005)) + 1442695040888963407)) 45)) 255))), (34, (boolA (decide (c0.i < (c0.b.length : Int)))))] rfl ?_
  refine T_cond (t := decide (c0.i < (c0.b.length : Int))) rfl (fun c_1 => ?_) (fun c_1 => ?_)
  ·replace H := cond_t c_1 H
   refine T_seq ?_
   refine T_regionD mixed (by kernel_rfl) ?_
   refine pq tb 2 rfl ?_
   refine TQ_pure rfl (pur_nil_b rfl rfl) rfl ?_
   refine pq tb 3 rfl ?_
   refine TQ_pure rfl (pur_nil_b rfl rfl) rfl ?_
   obtain ⟨v_2, h_3, H⟩ := bind_inv H
   obtain ⟨n_4, hz_5, hv_6⟩ := getI_inv h_3
   refine pq tb 2 rfl ?_
   refine TQ_pure rfl (pur_ixT (T := (tI .u8)) sl27 rfl rfl hz_5 hv_6 rfl) rfl ?_
   refine TQ_pure rfl (pur_ldT (T := (tI .u8)) (i := n_4) (off := 0) rfl one5 rfl rfl hv_6 rfl) rfl ?_
   refine TQ_pure rfl (pur_convI (k := .i64) (k' := .u8) ⟨_, Try.underlying5⟩ Try.underlying3 rfl rfl) rfl ?_
   refine pq tb 1 rfl ?_
   refine TQ_pure rfl (pur_and rfl rfl rfl) rfl ?_
   refine pq tb 1 rfl ?_
   refine TQ_nil ?_
   refine te [(0, (.b 0 0)), (3, (intA (bitI .and .i64 (w64 ((bitI .and .i64 (bitI .xor .i64 (shrI .i64 (w64 ((w64 (c0.h * 6364136223846793005)) + 1442695040888963407)) 33) (shrI .i64 (w64 ((w64 (c0.h * 6364136223846793005)) + 1442695040888963407)) 45)) 255) + (w64 v_2))) 255)))] rfl ?_
   refine T_region ?_
   refine pv tb 2 rfl ?_
   refine Tp rfl rfl (pur_nil_b rfl rfl) rfl ?_
   refine pv tb 3 rfl ?_
   refine Tp rfl rfl (pur_nil_b rfl rfl) rfl ?_
   refine pv tb 1 rfl ?_
   refine TO_cons rfl (TOp_storeB sz3 rfl rfl rfl rfl rfl rfl rfl (by decide) (lb rfl) rfl ?_)
   refine TO_st (σ' := [.box [(sl (tI .u8) c0.b), (intA (w64 (c0.i + 1))), (intA (w64 ((w64 (c0.h * 6364136223846793005)) + 1442695040888963407)))]]) rfl ?_
   refine TO_nil ?_
   refine sr ?_
   refine pv tb 2 rfl ?_
   refine TO_nil ?_
   refine T_ret ?_
   obtain rfl := some_inj H
   exact end_pickX (.tmp .nil) rfl [0] (by decide) (lb rfl) rfl (lb rfl) rfl rfl rfl rfl rfl rfl
  ·replace H := cond_f c_1 H
   refine T_skip ?_
   refine sr ?_
   refine pv tb 2 rfl ?_
   refine TO_nil ?_
   refine T_ret ?_
   obtain rfl := some_inj H
   exact end_pickX (.tmp .nil) rfl [0] (by decide) (lb rfl) rfl (lb rfl) rfl rfl rfl rfl rfl rfl

set_option maxHeartbeats 1000000 in
theorem m_spec_l1Below_x (c0 : l1Cur) (n1 : Int) (r : (Int × l1Cur)) (H : m_spec_l1Below c0 n1 = some r) : FnS prg 83 [(.b 0 0), (intA n1)] [.box [(sl (tI .u8) c0.b), (intA c0.i), (intA c0.h)]] (intA r.1) [.box [(sl (tI .u8) r.2.b), (intA r.2.i), (intA r.2.h)]] := by
  unfold m_spec_l1Below at H
  refine fnS_of_T Try.func83 rfl rfl (Nat.le_of_ble_eq_true rfl) ?_
  refine te [(0, (.b 0 0)), (1, (intA n1))] rfl ?_
  refine T_st (σ' := [.box [(sl (tI .u8) c0.b), (intA c0.i), (intA c0.h)]]) rfl ?_
  refine sr ?_
  refine pv tb 1 rfl ?_
  refine TO_nil ?_
  refine T_seq ?_
  refine sr ?_
  refine pv tb 2 rfl ?_
  refine TO_nil ?_
  refine T_cond (t := decide (n1 ≤ 0)) rfl (fun c_1 => ?_) (fun c_1 => ?_)
  ·replace H := cond_t c_1 H
   refine sr ?_
   refine pv tb 1 rfl ?_
   refine TO_nil ?_
   refine T_ret ?_
   refine then_ret ?_
   obtain rfl := some_inj H
   exact end_pickX (.tmp .nil) rfl [0] (by decide) (lb rfl) rfl (lb rfl) rfl rfl rfl rfl rfl rfl
  ·replace H := cond_f c_1 H
   refine T_skip ?_
   refine T_seq ?_
   refine sr ?_
   refine pv tb 2 rfl ?_
   refine TO_nil ?_
   refine T_cond (t := decide (n1 ≤ 256)) rfl (fun c_2 => ?_) (fun c_2 => ?_)
   ·replace H := cond_t c_2 H
    refine sr ?_
    obtain ⟨r_3, h_4, H⟩ := bind_inv H
    refine pv tb 1 rfl ?_
    refine TO_cons rfl (TOp_callS [0] (call_static ent109 rfl) (by decide) rfl rfl rfl rfl rfl rfl (m_spec_l1Byte_x _ _ h_4) rfl rfl ?_)
    refine toe [(0, (.b 0 0)), (1, (intA n1)), (12, (boolA (decide (n1 ≤ 256)))), (13, (.b 0 0)), (14, (intA r_3.1))] rfl ?_
    refine TO_st (σ' := [.box [(sl (tI .u8) r_3.2.b), (intA r_3.2.i), (intA r_3.2.h)]]) rfl ?_
    obtain ⟨_u, h_5, H⟩ := bind_inv H
    refine pv tb 1 rfl ?_
    refine Tp rfl rfl (pur_rem rfl rfl rfl (gD_inv h_5)) rfl ?_
    refine pv tb 1 rfl ?_
    refine TO_nil ?_
    refine T_ret ?_
    refine then_ret ?_
    obtain rfl := some_inj H
    exact end_pickX (.tmp .nil) rfl [0] (by decide) (lb rfl) rfl (lb rfl) rfl rfl rfl rfl rfl rfl
   ·replace H := cond_f c_2 H
    refine T_skip ?_
    refine sr ?_
    obtain ⟨r_6, h_7, H⟩ := bind_inv H
    refine pv tb 1 rfl ?_
    refine TO_cons rfl (TOp_callS [0] (call_static ent109 rfl) (by decide) rfl rfl rfl rfl rfl rfl (m_spec_l1Byte_x _ _ h_7) rfl rfl ?_)
    refine toe [(0, (.b 0 0)), (1, (intA n1)), (17, (.b 0 0)), (18, (intA r_6.1))] rfl ?_
    refine TO_st (σ' := [.box [(sl (tI .u8) r_6.2.b), (intA r_6.2.i), (intA r_6.2.h)]]) rfl ?_
    refine pv tb 1 rfl ?_
    refine TO_nil ?_
    refine sr ?_
    obtain ⟨r_8, h_9, H⟩ := bind_inv H
    refine pv tb 1 rfl ?_
    refine TO_cons rfl (TOp_callS [0] (call_static ent109 rfl) (by decide) rfl rfl rfl rfl rfl rfl (m_spec_l1Byte_x _ _ h_9) rfl rfl ?_)
    refine toe [(0, (.b 0 0)), (1, (intA n1)), (5, (intA r_6.1)), (19, (.b 0 0)), (20, (intA r_8.1))] rfl ?_
    refine TO_st (σ' := [.box [(sl (tI .u8) r_8.2.b), (intA r_8.2.i), (intA r_8.2.h)]]) rfl ?_
    refine pv tb 1 rfl ?_
    refine TO_nil ?_
    refine sr ?_
    obtain ⟨r_10, h_11, H⟩ := bind_inv H
    refine pv tb 1 rfl ?_
    refine TO_cons rfl (TOp_callS [0] (call_static ent109 rfl) (by decide) rfl rfl rfl rfl rfl rfl (m_spec_l1Byte_x _ _ h_11) rfl rfl ?_)
    refine toe [(0, (.b 0 0)), (1, (intA n1)), (5, (intA r_6.1)), (6, (intA r_8.1)), (21, (.b 0 0)), (22, (intA r_10.1))] rfl ?_
    refine TO_st (σ' := [.box [(sl (tI .u8) r_10.2.b), (intA r_10.2.i), (intA r_10.2.h)]]) rfl ?_
    refine pv tb 1 rfl ?_
    refine TO_nil ?_
    refine sr ?_
    obtain ⟨r_12, h_13, H⟩ := bind_inv H
    refine pv tb 1 rfl ?_
    refine TO_cons rfl (TOp_callS [0] (call_static ent109 rfl) (by decide) rfl rfl rfl rfl rfl rfl (m_spec_l1Byte_x _ _ h_13) rfl rfl ?_)
    refine toe [(0, (.b 0 0)), (1, (intA n1)), (5, (intA r_6.1)), (6, (intA r_8.1)), (7, (intA r_10.1)), (23, (.b 0 0)), (24, (intA r_12.1))] rfl ?_
    refine TO_st (σ' := [.box [(sl (tI .u8) r_12.2.b), (intA r_12.2.i), (intA r_12.2.h)]]) rfl ?_
    refine pv tb 1 rfl ?_
    refine TO_nil ?_
    refine sr ?_
    obtain ⟨_u, h_14, H⟩ := bind_inv H
    refine pv tb 11 rfl ?_
    refine Tp rfl rfl (pur_rem rfl rfl rfl (gD_inv h_14)) rfl ?_
    refine pv tb 1 rfl ?_
    refine TO_nil ?_
    refine te [(4, (intA ((w64 ((w64 ((w64 ((w64 (r_6.1 * 16777216)) + (w64 (r_8.1 * 65536)))) + (w64 (r_10.1 * 256)))) + r_12.1)).tmod n1)))] rfl ?_
    refine T_ret ?_
    obtain rfl := some_inj H
    exact end_pickX (.tmp .nil) rfl [0] (by decide) (lb rfl) rfl (lb rfl) rfl rfl rfl rfl rfl rfl

set_option maxHeartbeats 1000000 in
theorem m_spec_l1New_x (u : Nat) (code0 : (List Int)) (r : l1Cur) (H : m_spec_l1New u code0 = some r) : FnS prg 85 [(sl (tI .u8) code0)] [] (.b 0 0) [.box [(sl (tI .u8) r.b), (intA r.i), (intA r.h)]] := by
  unfold m_spec_l1New at H
  refine fnS_of_T Try.func85 rfl rfl (Nat.le_of_ble_eq_true rfl) ?_
  refine te [(0, (sl (tI .u8) code0))] rfl ?_
  refine T_st (σ' := []) rfl ?_
  refine sr ?_
  refine pv tb 1 rfl ?_
  refine TO_nil ?_
  refine sr ?_
  refine pv tb 1 rfl ?_
  refine Tp rfl rfl (pur_lenT (T := (tI .u8)) sl27 rfl rfl) rfl ?_
  refine pv tb 2 rfl ?_
  refine TO_nil ?_
  refine T_seq ?_
  refine sr ?_
  refine pv tb 1 rfl ?_
  refine TO_nil ?_
  obtain ⟨O1_, L1_, N1_⟩ := bind_inv H
  clear H
  obtain ⟨B1_, hb1, L1_⟩ := gen_whileF L1_
  refine T_block ?_
  refine T_loopX (fun k => fun (⟨h3, i4⟩ : Int × Int) => whileF B1_ k (h3, i4) = some O1_) (fun (⟨h3, i4⟩ : Int × Int) => [(0, (sl (tI .u8) code0)), (3, (intA h3)), (4, (intA i4))]) (fun (⟨h3, i4⟩ : Int × Int) => []) u ((w64 (10101 + (code0.length : Int))), 0) (w0 0) L1_ ?_
  rintro _ ⟨h3, i4⟩ L1_
  obtain ⟨k1, rfl, C1_, H, K1_⟩ := while_step L1_
  rw [hb1] at H
  refine T_seq ?_
  refine T_cutX (fun x => ((decide (i4 < (code0.length : Int))) && (decide (i4 < 4000))) = x) (fun (t15_2 : Bool) => [(0, (sl (tI .u8) code0)), (3, (intA h3)), (4, (intA i4)), (15, (boolA t15_2))]) (fun (t15_2 : Bool) => []) ?_ ?_
  ·skip
   refine T_region ?_
   refine pv tb 2 rfl ?_
   refine Tp rfl rfl (pur_lenT (T := (tI .u8)) sl27 rfl rfl) rfl ?_
   refine pv tb 2 rfl ?_
   refine TO_split (t := decide (i4 < (code0.length : Int))) 12 rfl (fun g_4 => ?_) (fun g_4 => ?_)
   ·skip
    refine pv tb 3 rfl ?_
    refine TO_nil ?_
    exact joined (decide (i4 < 4000)) (w0 0) (by first | exact Eq.symm ((and_T g_4 rfl)))
   ·skip
    refine pv tb 3 rfl ?_
    refine TO_nil ?_
    exact joined false (w0 0) (by first | exact Eq.symm ((and_F g_4 rfl)))
  ·rintro _ rfl
   refine T_cond (t := ((decide (i4 < (code0.length : Int))) && (decide (i4 < 4000)))) rfl (fun c_5 => ?_) (fun c_5 => ?_)
   ·replace H := cond_t c_5 H
    refine T_skip ?_
    refine T_seq ?_
    refine T_block ?_
    refine T_region ?_
    obtain ⟨v_6, h_7, H⟩ := bind_inv H
    obtain ⟨n_8, hz_9, hv_10⟩ := getI_inv h_7
    refine pv tb 4 rfl ?_
    refine Tp rfl rfl (pur_ixT (T := (tI .u8)) sl27 rfl rfl hz_9 hv_10 rfl) rfl ?_
    refine Tp rfl rfl (pur_ldT (T := (tI .u8)) (i := n_8) (off := 0) rfl one5 rfl rfl hv_10 rfl) rfl ?_
    refine Tp rfl rfl (pur_convI (k := .i64) (k' := .u8) ⟨_, Try.underlying5⟩ Try.underlying3 rfl rfl) rfl ?_
    refine pv tb 2 rfl ?_
    refine Tp rfl rfl (pur_and rfl rfl rfl) rfl ?_
    refine pv tb 1 rfl ?_
    refine TO_nil ?_
    refine T_region ?_
    refine pv tb 3 rfl ?_
    refine TO_nil ?_
    obtain rfl := some_inj H
    exact again k1 ((bitI .and .i64 (w64 ((w64 ((w64 (h3 * 131)) + (w64 v_6))) + 7)) 1073741823), (w64 (i4 + 1))) (Nat.lt_succ_self _) (w0 0) K1_
   ·replace H := cond_f c_5 H
    refine T_exit ?_
    refine then_exit ?_
    refine then_exit ?_
    refine block_exit ?_
    obtain rfl := some_inj H
    obtain rfl := some_inj K1_
    replace H := onS_l N1_
    refine sr ?_
    refine pv tb 2 rfl ?_
    refine Tp rfl rfl (pur_build bld118 rfl rfl) rfl ?_
    refine TO_cons rfl (TOp_box rfl (boxAll rfl) rfl rfl ?_)
    refine pv tb 1 rfl ?_
    refine TO_nil ?_
    refine T_ret ?_
    obtain rfl := some_inj H
    exact end_pickX (.tmp .nil) rfl [0] (by decide) (lb rfl) rfl (lb rfl) rfl rfl rfl rfl rfl rfl

set_option maxHeartbeats 1000000 in
theorem m_spec_l1PickInt_x (c0 : l1Cur) (list1 : (List Int)) (r : (Int × l1Cur)) (H : m_spec_l1PickInt c0 list1 = some r) : FnS prg 88 [(.b 0 0), (sl tInt list1)] [.box [(sl (tI .u8) c0.b), (intA c0.i), (intA c0.h)]] (intA r.1) [.box [(sl (tI .u8) r.2.b), (intA r.2.i), (intA r.2.h)]] := by
  unfold m_spec_l1PickInt at H
  refine fnS_of_T Try.func88 rfl rfl (Nat.le_of_ble_eq_true rfl) ?_
  refine te [(0, (.b 0 0)), (1, (sl tInt list1))] rfl ?_
  refine T_st (σ' := [.box [(sl (tI .u8) c0.b), (intA c0.i), (intA c0.h)]]) rfl ?_
  refine sr ?_
  refine pv tb 1 rfl ?_
  refine TO_nil ?_
  refine sr ?_
  refine pv tb 3 rfl ?_
  refine Tp rfl rfl (pur_lenT (T := tInt) sl33 rfl rfl) rfl ?_
  obtain ⟨r_1, h_2, H⟩ := bind_inv H
  refine TO_cons rfl (TOp_callS [0] (call_static ent83 rfl) (by decide) rfl rfl rfl rfl rfl rfl (m_spec_l1Below_x _ _ _ h_2) rfl rfl ?_)
  refine toe [(0, (.b 0 0)), (1, (sl tInt list1)), (5, (sl tInt list1)), (6, (.b 0 0)), (7, (sl tInt list1)), (8, (intA (list1.length : Int))), (9, (intA r_1.1))] rfl ?_
  refine TO_st (σ' := [.box [(sl (tI .u8) r_1.2.b), (intA r_1.2.i), (intA r_1.2.h)]]) rfl ?_
  obtain ⟨v_3, h_4, H⟩ := bind_inv H
  obtain ⟨n_5, hz_6, hv_7⟩ := getI_inv h_4
  refine Tp rfl rfl (pur_ixT (T := tInt) sl33 rfl rfl hz_6 hv_7 rfl) rfl ?_
  refine Tp rfl rfl (pur_ldT (T := tInt) (i := n_5) (off := 0) rfl one3 rfl rfl hv_7 rfl) rfl ?_
  refine pv tb 1 rfl ?_
  refine TO_nil ?_
  refine T_ret ?_
  obtain rfl := some_inj H
  exact end_pickX (.tmp .nil) rfl [0] (by decide) (lb rfl) rfl (lb rfl) rfl rfl rfl rfl rfl rfl

set_option maxHeartbeats 1000000 in
theorem m_spec_l2Sigs_x (c0 : l1Cur) (r : ((List Relation) × l1Cur)) (H : m_spec_l2Sigs c0 = some r) : FnS prg 126 [(.b 0 0)] [.box [(sl (tI .u8) c0.b), (intA c0.i), (intA c0.h)]] (.m [1] 0 r.1.length tRelation.k) [.box [(sl (tI .u8) r.2.b), (intA r.2.i), (intA r.2.h)], .row (flat tRelation.enc r.1)] := by
  unfold m_spec_l2Sigs at H
  refine fnS_of_T Try.func126 rfl rfl (Nat.le_of_ble_eq_true rfl) ?_
  refine te [(0, (.b 0 0))] rfl ?_
  refine T_st (σ' := [.box [(sl (tI .u8) c0.b), (intA c0.i), (intA c0.h)]]) rfl ?_
  refine sr ?_
  refine pv tb 1 rfl ?_
  refine TO_nil ?_
  refine sr ?_
  refine Tp rfl rfl (pur_build bld97 rfl rfl) rfl ?_
  refine Tp rfl rfl (pur_build bld97 rfl rfl) rfl ?_
  refine pv tb 1 rfl ?_
  refine TO_cons rfl (TOp_lit (nn := 4) (k := 1) sl33 zero3 rfl rfl rfl rfl (by decide) ?_)
  refine TO_st (σ' := [.box [(sl (tI .u8) c0.b), (intA c0.i), (intA c0.h)], .row (flat tInt.enc ([1, 1, 2, 0] : (List Int)))]) rfl ?_
  refine TO_frz1 1 (E' := [(0, (.b 0 0)), (3, (.g [(strA (⟨#[114]⟩ : ByteArray)), (intA 2), (intA 1)])), (4, (.g [(strA (⟨#[115]⟩ : ByteArray)), (intA 2), (intA 1)])), (5, (.b 0 0)), (6, (sl tInt ([1, 1, 2, 0] : (List Int))))]) rfl rfl (lb rfl) ⟨(.keep rfl), (.keep rfl), (.keep rfl), (.keep rfl), fz1E, trivial⟩ ?_
  refine TO_st (σ' := [.box [(sl (tI .u8) c0.b), (intA c0.i), (intA c0.h)], .dead]) rfl ?_
  obtain ⟨r_1, h_2, H⟩ := bind_inv H
  refine TO_cons rfl (TOp_callS [0] (call_static ent88 rfl) (by decide) rfl rfl rfl rfl rfl rfl (m_spec_l1PickInt_x _ _ _ h_2) rfl rfl ?_)
  refine toe [(0, (.b 0 0)), (3, (.g [(strA (⟨#[114]⟩ : ByteArray)), (intA 2), (intA 1)])), (4, (.g [(strA (⟨#[115]⟩ : ByteArray)), (intA 2), (intA 1)])), (5, (.b 0 0)), (6, (sl tInt ([1, 1, 2, 0] : (List Int)))), (7, (intA r_1.1))] rfl ?_
  refine TO_st (σ' := [.box [(sl (tI .u8) r_1.2.b), (intA r_1.2.i), (intA r_1.2.h)], .dead]) rfl ?_
  refine Tp rfl rfl (pur_build bld97 rfl rfl) rfl ?_
  obtain ⟨r_3, h_4, H⟩ := bind_inv H
  refine pv tb 1 rfl ?_
  refine TO_cons rfl (TOp_callS [0] (call_static ent83 rfl) (by decide) rfl rfl rfl rfl rfl rfl (m_spec_l1Below_x _ _ _ h_4) rfl rfl ?_)
  refine toe [(0, (.b 0 0)), (3, (.g [(strA (⟨#[114]⟩ : ByteArray)), (intA 2), (intA 1)])), (4, (.g [(strA (⟨#[115]⟩ : ByteArray)), (intA 2), (intA 1)])), (5, (.b 0 0)), (6, (sl tInt ([1, 1, 2, 0] : (List Int)))), (7, (intA r_1.1)), (8, (.g [(strA (⟨#[116]⟩ : ByteArray)), (intA 2), (intA r_1.1)])), (9, (.b 0 0)), (10, (intA r_3.1))] rfl ?_
  refine TO_st (σ' := [.box [(sl (tI .u8) r_3.2.b), (intA r_3.2.i), (intA r_3.2.h)], .dead]) rfl ?_
  refine pv tb 1 rfl ?_
  refine Tp rfl rfl (pur_build bld97 rfl rfl) rfl ?_
  refine TO_cons rfl (TOp_lit (nn := 4) (k := 3) sl29 zero97 rfl rfl rfl rfl (by decide) ?_)
  refine TO_st (σ' := [.box [(sl (tI .u8) r_3.2.b), (intA r_3.2.i), (intA r_3.2.h)], .dead, .row (flat tRelation.enc ([({ name := (⟨#[114]⟩ : ByteArray), arity := 2, keyLength := 1 } : Relation), ({ name := (⟨#[115]⟩ : ByteArray), arity := 2, keyLength := 1 } : Relation), ({ name := (⟨#[116]⟩ : ByteArray), arity := 2, keyLength := r_1.1 } : Relation), ({ name := (⟨#[117]⟩ : ByteArray), arity := 3, keyLength := (w64 (1 + r_3.1)) } : Relation)] : (List Relation)))]) rfl ?_
  refine pv tb 1 rfl ?_
  refine TO_nil ?_
  refine T_ret ?_
  obtain rfl := some_inj H
  exact end_pickX (.tmp .nil) rfl [0, 2] (by decide) (lb rfl) rfl (lb rfl) rfl rfl rfl rfl rfl rfl

set_option maxHeartbeats 1000000 in
theorem m_spec_l4Copy_own (u : Nat) (d0 : Database) (r : Database) (H : m_spec_l4Copy u d0 = some r) : FnO prg 147 [(.g (tDatabase.enc d0))] (.g [(.m [0] 0 r.relations.length tRelation.k), (.m [1] 0 r.facts.length tFact.k)]) [.row (flat tRelation.own r.relations), .row (flat tFact.own r.facts)] := by
  unfold m_spec_l4Copy at H
  refine fnO_of_T Try.func147 rfl rfl (Nat.le_of_ble_eq_true rfl) ?_
  refine te [(0, (.g (tDatabase.enc d0)))] rfl ?_
  refine sr ?_
  refine TO_cons rfl (TOp_box rfl (boxAll rfl) rfl rfl ?_)
  refine TO_cons rfl (TOp_alloc zero32 rfl rfl ?_)
  refine TO_nil ?_
  refine sr ?_
  refine TO_cons rfl (TOp_lit (nn := 0) (k := 3) sl29 zero97 rfl rfl rfl rfl (by decide) ?_)
  refine TO_st (σ' := [.box [(sl tRelation d0.relations), (sl tFact d0.facts)], .box [.n, .n], .row (flat tRelation.enc ([] : (List Relation)))]) rfl ?_
  obtain ⟨us_1, h_2, H⟩ := bind_inv H
  refine pv tb 2 rfl ?_
  refine TO_cons rfl (TOp_appZ (T := tRelation) (f := tRelation.enc) (xs := ([] : (List Relation))) (ys := d0.relations) tRelation.len sl29 zero97 rfl bytes97 (by decide) rfl rfl rfl rfl (src_T (T := tRelation) rfl) (flat_cell tRelation _) h_2 (lb rfl) ?_)
  refine toe [(1, (.b 0 0)), (2, (.b 1 0)), (6, (.b 0 0)), (7, (sl tRelation d0.relations)), (8, (.m [2] 0 us_1.length tRelation.k))] rfl ?_
  refine TO_st (σ' := [.box [(sl tRelation d0.relations), (sl tFact d0.facts)], .box [.n, .n], .row (flat tRelation.enc us_1), .dead]) rfl ?_
  refine Tp rfl rfl (pur_build bld32 rfl rfl) rfl ?_
  refine TO_cons rfl (TOp_alloc zero32 rfl rfl ?_)
  refine TO_cons rfl (TOp_storeB sz32 rfl rfl rfl rfl rfl rfl rfl (by decide) (lb rfl) rfl ?_)
  refine TO_st (σ' := [.box [(sl tRelation d0.relations), (sl tFact d0.facts)], .box [.n, .n], .row (flat tRelation.enc us_1), .dead, .box [(.m [2] 0 us_1.length tRelation.k), .n]]) rfl ?_
  refine TO_nil ?_
  refine T_seq ?_
  refine sr ?_
  refine pv tb 1 rfl ?_
  refine TO_nil ?_
  refine T_row0 ?_
  refine T_boxle (xs := [(.m [2] 0 us_1.length tRelation.k), .n]) (ys := [(.m [2] 0 us_1.length tRelation.k), (.m [5] 0 ([] : (List Fact)).length tFact.k)]) 4 rfl (leCons (leR rfl) (leCons leM leNil)) ?_
  refine T_st (σ' := [.box [(sl tRelation d0.relations), (sl tFact d0.facts)], .box [.n, .n], .row (flat tRelation.enc us_1), .dead, .box [(.m [2] 0 us_1.length tRelation.k), (.m [5] 0 ([] : (List Fact)).length tFact.k)], .row (flat tFact.own ([] : (List Fact)))]) rfl ?_
  obtain ⟨O3_, L3_, N3_⟩ := bind_inv H
  clear H
  obtain ⟨B3_, hb3, L3_⟩ := gen_whileF L3_
  refine T_block ?_
  refine T_loopX (fun k => fun (⟨i4, box4_facts⟩ : Int × (List Fact)) => whileF B3_ k (i4, box4_facts) = some O3_) (fun (⟨i4, box4_facts⟩ : Int × (List Fact)) => [(1, (.b 0 0)), (2, (.b 1 0)), (3, (.b 4 0)), (4, (intA i4))]) (fun (⟨i4, box4_facts⟩ : Int × (List Fact)) => [.box [(sl tRelation d0.relations), (sl tFact d0.facts)], .box [.n, .n], .row (flat tRelation.enc us_1), .dead, .box [(.m [2] 0 us_1.length tRelation.k), (.m [5] 0 box4_facts.length tFact.k)], .row (flat tFact.own box4_facts)]) u (0, ([] : (List Fact))) (w0 6) L3_ ?_
  rintro _ ⟨i4, box4_facts⟩ L3_
  obtain ⟨k3, rfl, C3_, H, K3_⟩ := while_step L3_
  rw [hb3] at H
  refine T_seq ?_
  refine sr ?_
  refine pv tb 3 rfl ?_
  refine Tp rfl rfl (pur_lenT (T := tFact) sl30 rfl rfl) rfl ?_
  refine pv tb 1 rfl ?_
  refine TO_nil ?_
  refine T_cond (t := decide (i4 < (d0.facts.length : Int))) rfl (fun c_4 => ?_) (fun c_4 => ?_)
  ·replace H := cond_t c_4 H
   refine T_skip ?_
   refine T_seq ?_
   refine T_block ?_
   obtain ⟨v_5, h_6, H⟩ := bind_inv H
   obtain ⟨n_7, hz_8, hv_9⟩ := getI_inv h_6
   obtain ⟨us_10, h_11, H⟩ := bind_inv H
   obtain ⟨us_12, h_13, H⟩ := bind_inv H
   refine T_pad ?_
   refine T_pad ?_
   refine T_pad ?_
   refine T_pad ?_
   refine T_regionPh 6 20 mixed rfl (by kernel_rfl) ?_
   refine pa tb [0, 1, 2, 3, 4] 15 rfl (by kernel_rfl) rfl ?_
   refine tf 5 rfl (pur_ixT (T := tFact) sl30 rfl rfl hz_8 hv_9 rfl) rfl rfl (by kernel_rfl) ?_
   refine pa tb [6] 13 rfl (by kernel_rfl) rfl ?_
   refine tf 7 rfl (pur_ldT (T := tFact) (i := n_7) (off := 0) rfl one3 rfl rfl hv_9 rfl) rfl rfl (by kernel_rfl) ?_
   refine pa tb [9, 10, 11] 9 rfl (by kernel_rfl) rfl ?_
   refine tf 12 rfl (pur_ixT (T := tFact) sl30 rfl rfl hz_8 hv_9 rfl) rfl rfl (by kernel_rfl) ?_
   refine pa tb [13] 7 rfl (by kernel_rfl) rfl ?_
   refine tf 14 rfl (pur_ldT (T := tFact) (i := n_7) (off := 1) rfl one33 rfl rfl hv_9 rfl) rfl rfl (by kernel_rfl) ?_
   refine t1 8 (by kernel_rfl) rfl rfl (TOp_lit (nn := 0) (k := 1) sl33 zero3 rfl rfl rfl rfl (by decide) ?_)
   refine tmw 6 10 (by decide) (lb rfl) rfl rfl (lb rfl) rfl ?_
   refine t1 15 (by kernel_rfl) rfl rfl (TOp_appY (T := tInt) (f := tInt.enc) (xs := ([] : (List Int))) (ys := v_5.values) tInt.len sl33 zero3 rfl bytes3 (by decide) rfl rfl rfl rfl (src_T (T := tInt) rfl) (flat_cell tInt _) h_11 ?_)
   refine tmw 6 11 (by decide) (lb rfl) rfl rfl (lb rfl) rfl ?_
   refine tae [(1, (.b 0 0)), (2, (.b 1 0)), (3, (.b 4 0)), (4, (intA i4)), (18, (.m [5] 0 box4_facts.length tFact.k)), (24, (intA v_5.relation)), (32, (.m [6] 0 us_10.length tInt.k))] rfl ?_
   refine TA_st (σ' := [.dead, .dead, .row (flat tRelation.enc us_1), .dead, .dead, .row (flat tFact.own box4_facts), .row (flat tInt.enc us_10), .dead, .dead, .dead, .dead, .dead]) rfl ?_
   refine tf 16 rfl (pur_build bld60 rfl rfl) rfl rfl (by kernel_rfl) ?_
   refine t1 17 (by kernel_rfl) rfl rfl (TOp_ghost (E' := [(1, (.b 0 0)), (2, (.b 1 0)), (3, (.b 4 0)), (4, (intA i4)), (18, (.m [5] 0 box4_facts.length tFact.k)), (33, (.g [(intA v_5.relation), (.m [6] 0 us_10.length tInt.k)]))]) (σ' := [.dead, .dead, .row (flat tRelation.enc us_1), .dead, .dead, .row (flat tFact.own box4_facts), .row (flat tInt.enc us_10), .dead, .dead, .dead]) (by exact Ghost.weak (w0 10)) (TOp_litB (nn := 1) (k := 2) sl30 zero60 rfl rfl rfl rfl (by decide) ?_))
   refine TA_st (σ' := [.dead, .dead, .row (flat tRelation.enc us_1), .dead, .dead, .row (flat tFact.own box4_facts), .row (flat tInt.enc us_10), .dead, .dead, .dead, .box [(intA v_5.relation), (.m [6] 0 us_10.length tInt.k)]]) rfl ?_
   refine tmw 9 5 (by decide) (lb rfl) rfl rfl (lb rfl) rfl ?_
   refine t1 18 (by kernel_rfl) rfl rfl (TOp_boxify 9 rfl (lb rfl) (TOp_appB (T := tFact) (xs := box4_facts) (v := ({ relation := v_5.relation, values := us_10 } : Fact)) sl30 zero60 rfl bytes60 (by decide) rfl rfl rfl rfl rfl rfl rfl rfl h_13 (lb rfl) ?_))
   refine tae [(1, (.b 0 0)), (2, (.b 1 0)), (3, (.b 4 0)), (4, (intA i4)), (35, .m [11] 0 (box4_facts.length + 1) tFact.k)] rfl ?_
   refine TA_st (σ' := [.dead, .dead, .row (flat tRelation.enc us_1), .dead, .dead, .dead, .row (flat tInt.enc us_10), .dead, .dead, .dead, .box [(intA v_5.relation), (.m [6] 0 us_10.length tInt.k)], .box (flat tFact.own box4_facts ++ [(intA v_5.relation), (.m [6] 0 us_10.length tInt.k)])]) rfl ?_
   refine TA_absorbA (pr := flat tFact.own box4_facts) 11 1 6 rfl rfl rfl (by decide) tInt.pos (flat_len tInt.len _) (lb rfl) (lb rfl) rfl (nms_dead (nms_dead (nms_row (nms_dead (nms_dead (nms_dead (nms_row (nms_dead (nms_dead (nms_dead (nms_box rfl (nms_box (namesA namesL_own rfl) nms_nil)))))))))))) ?_
   refine TA_st (σ' := [.dead, .dead, .row (flat tRelation.enc us_1), .dead, .dead, .dead, .dead, .dead, .dead, .dead, .box [(intA v_5.relation), (.m [6] 0 us_10.length tInt.k)], .box (flat tFact.own box4_facts ++ [(intA v_5.relation), .o tInt.k (flat tInt.enc us_10)])]) rfl ?_
   refine TA_rowifyT (T := tFact) (xs := box4_facts) (v := ({ relation := v_5.relation, values := us_10 } : Fact)) 11 rfl rfl h_13 (lb rfl) ?_
   refine TA_st (σ' := [.dead, .dead, .row (flat tRelation.enc us_1), .dead, .dead, .dead, .dead, .dead, .dead, .dead, .box [(intA v_5.relation), (.m [6] 0 us_10.length tInt.k)], .row (flat tFact.own us_12)]) rfl ?_
   refine TA_move 9 11 (by decide) (lb rfl) rfl rfl (lb rfl) ?_
   refine TA_env (E' := [(1, (.b 0 0)), (2, (.b 1 0)), (3, (.b 4 0)), (4, (intA i4)), (35, (.m [9] 0 us_12.length tFact.k))]) ⟨rfl, rfl, rfl, rfl, (congrArg (fun q => A.m [9] 0 q tFact.k) (app_len h_13)), trivial⟩ ?_
   refine TA_kill 10 (lb rfl) ?_
   refine TA_st (σ' := [.dead, .dead, .row (flat tRelation.enc us_1), .dead, .dead, .dead, .dead, .dead, .dead, .row (flat tFact.own us_12), .dead, .dead]) rfl ?_
   refine pa tb [19] 0 rfl (by kernel_rfl) rfl ?_
   refine TA_nil (by kernel_rfl) ?_
   refine TA_st (σ' := [.box [(sl tRelation d0.relations), (sl tFact d0.facts)], .box [.n, .n], .row (flat tRelation.enc us_1), .dead, .box [(.m [2] 0 us_1.length tRelation.k), (.m [5] 0 box4_facts.length tFact.k)], .dead, .dead, .dead, .dead, .row (flat tFact.own us_12), .dead, .dead]) rfl ?_
   refine tmv 5 9 (by decide) (lb rfl) rfl rfl (lb rfl) ?_
   refine TA_st (σ' := [.box [(sl tRelation d0.relations), (sl tFact d0.facts)], .box [.n, .n], .row (flat tRelation.enc us_1), .dead, .box [(.m [2] 0 us_1.length tRelation.k), .j], .row (flat tFact.own us_12), .dead, .dead, .dead, .dead, .dead, .dead]) rfl ?_
   refine t1 20 (by kernel_rfl) rfl rfl (TOp_storeB sz30 rfl rfl rfl rfl rfl rfl rfl (by decide) (lb rfl) rfl ?_)
   refine TA_st (σ' := [.box [(sl tRelation d0.relations), (sl tFact d0.facts)], .box [.n, .n], .row (flat tRelation.enc us_1), .dead, .box [(.m [2] 0 us_1.length tRelation.k), (.m [5] 0 us_12.length tFact.k)], .row (flat tFact.own us_12), .dead, .dead, .dead, .dead, .dead, .dead]) rfl ?_
   refine TA_nil (by kernel_rfl) ?_
   refine T_region ?_
   refine pv tb 3 rfl ?_
   refine TO_nil ?_
   obtain rfl := some_inj H
   exact again k3 ((w64 (i4 + 1)), us_12) (Nat.lt_succ_self _) (w0 6) K3_
  ·replace H := cond_f c_4 H
   refine T_exit ?_
   refine then_exit ?_
   refine then_exit ?_
   refine block_exit ?_
   obtain rfl := some_inj H
   obtain rfl := some_inj K3_
   replace H := onS_l N3_
   refine sr ?_
   refine pv tb 1 rfl ?_
   refine TO_cons rfl (TOp_storeB sz32 rfl rfl rfl rfl rfl rfl rfl (by decide) (lb rfl) rfl ?_)
   refine TO_st (σ' := [.box [(sl tRelation d0.relations), (sl tFact d0.facts)], .box [(.m [2] 0 us_1.length tRelation.k), (.m [5] 0 box4_facts.length tFact.k)], .row (flat tRelation.enc us_1), .dead, .box [(.m [2] 0 us_1.length tRelation.k), (.m [5] 0 box4_facts.length tFact.k)], .row (flat tFact.own box4_facts)]) rfl ?_
   refine TO_nil ?_
   refine T_ret ?_
   obtain rfl := some_inj H
   exact end_pick (.cellK rfl agg32 rfl (lb rfl) .nil) rfl [2, 5] (by decide) rfl rfl rfl rfl rfl rfl
theorem m_spec_l4Copy_ok (u : Nat) (d0 : Database) (r : Database) (H : m_spec_l4Copy u d0 = some r) : FnV prg 147 [(.g (tDatabase.enc d0))] (.g (tDatabase.enc r)) := (m_spec_l4Copy_own u d0 r H).frz (frzOK_g (frz_cons (frzT (T := tRelation) rfl) (frz_cons (frzT (T := tFact) rfl) frz_nil)).1 (frz_cons (frzT (T := tRelation) rfl) (frz_cons (frzT (T := tFact) rfl) frz_nil)).2)

set_option maxHeartbeats 1000000 in
theorem m_spec_l4Copy_enc (u : Nat) (d0 : Database) (r : Database) (H : m_spec_l4Copy u d0 = some r) : FnO prg 147 [(.g (tDatabase.enc d0))] (.g [(.m [0] 0 r.relations.length tRelation.k), (.m [1] 0 r.facts.length tFact.k)]) [.row (flat tRelation.enc r.relations), .row (flat tFact.enc r.facts)] := by
  unfold m_spec_l4Copy at H
  refine fnO_of_T Try.func147 rfl rfl (Nat.le_of_ble_eq_true rfl) ?_
  refine te [(0, (.g (tDatabase.enc d0)))] rfl ?_
  refine sr ?_
  refine TO_cons rfl (TOp_box rfl (boxAll rfl) rfl rfl ?_)
  refine TO_cons rfl (TOp_alloc zero32 rfl rfl ?_)
  refine TO_nil ?_
  refine sr ?_
  refine TO_cons rfl (TOp_lit (nn := 0) (k := 3) sl29 zero97 rfl rfl rfl rfl (by decide) ?_)
  refine TO_st (σ' := [.box [(sl tRelation d0.relations), (sl tFact d0.facts)], .box [.n, .n], .row (flat tRelation.enc ([] : (List Relation)))]) rfl ?_
  obtain ⟨us_1, h_2, H⟩ := bind_inv H
  refine pv tb 2 rfl ?_
  refine TO_cons rfl (TOp_appZ (T := tRelation) (f := tRelation.enc) (xs := ([] : (List Relation))) (ys := d0.relations) tRelation.len sl29 zero97 rfl bytes97 (by decide) rfl rfl rfl rfl (src_T (T := tRelation) rfl) (flat_cell tRelation _) h_2 (lb rfl) ?_)
  refine toe [(1, (.b 0 0)), (2, (.b 1 0)), (6, (.b 0 0)), (7, (sl tRelation d0.relations)), (8, (.m [2] 0 us_1.length tRelation.k))] rfl ?_
  refine TO_st (σ' := [.box [(sl tRelation d0.relations), (sl tFact d0.facts)], .box [.n, .n], .row (flat tRelation.enc us_1), .dead]) rfl ?_
  refine Tp rfl rfl (pur_build bld32 rfl rfl) rfl ?_
  refine TO_cons rfl (TOp_alloc zero32 rfl rfl ?_)
  refine TO_cons rfl (TOp_storeB sz32 rfl rfl rfl rfl rfl rfl rfl (by decide) (lb rfl) rfl ?_)
  refine TO_st (σ' := [.box [(sl tRelation d0.relations), (sl tFact d0.facts)], .box [.n, .n], .row (flat tRelation.enc us_1), .dead, .box [(.m [2] 0 us_1.length tRelation.k), .n]]) rfl ?_
  refine TO_nil ?_
  refine T_seq ?_
  refine sr ?_
  refine pv tb 1 rfl ?_
  refine TO_nil ?_
  refine T_row0 ?_
  refine T_boxle (xs := [(.m [2] 0 us_1.length tRelation.k), .n]) (ys := [(.m [2] 0 us_1.length tRelation.k), (.m [5] 0 ([] : (List Fact)).length tFact.k)]) 4 rfl (leCons (leR rfl) (leCons leM leNil)) ?_
  refine T_st (σ' := [.box [(sl tRelation d0.relations), (sl tFact d0.facts)], .box [.n, .n], .row (flat tRelation.enc us_1), .dead, .box [(.m [2] 0 us_1.length tRelation.k), (.m [5] 0 ([] : (List Fact)).length tFact.k)], .row (flat tFact.enc ([] : (List Fact)))]) rfl ?_
  obtain ⟨O3_, L3_, N3_⟩ := bind_inv H
  clear H
  obtain ⟨B3_, hb3, L3_⟩ := gen_whileF L3_
  refine T_block ?_
  refine T_loopX (fun k => fun (⟨i4, box4_facts⟩ : Int × (List Fact)) => whileF B3_ k (i4, box4_facts) = some O3_) (fun (⟨i4, box4_facts⟩ : Int × (List Fact)) => [(1, (.b 0 0)), (2, (.b 1 0)), (3, (.b 4 0)), (4, (intA i4))]) (fun (⟨i4, box4_facts⟩ : Int × (List Fact)) => [.box [(sl tRelation d0.relations), (sl tFact d0.facts)], .box [.n, .n], .row (flat tRelation.enc us_1), .dead, .box [(.m [2] 0 us_1.length tRelation.k), (.m [5] 0 box4_facts.length tFact.k)], .row (flat tFact.enc box4_facts)]) u (0, ([] : (List Fact))) (w0 6) L3_ ?_
  rintro _ ⟨i4, box4_facts⟩ L3_
  obtain ⟨k3, rfl, C3_, H, K3_⟩ := while_step L3_
  rw [hb3] at H
  refine T_seq ?_
  refine sr ?_
  refine pv tb 3 rfl ?_
  refine Tp rfl rfl (pur_lenT (T := tFact) sl30 rfl rfl) rfl ?_
  refine pv tb 1 rfl ?_
  refine TO_nil ?_
  refine T_cond (t := decide (i4 < (d0.facts.length : Int))) rfl (fun c_4 => ?_) (fun c_4 => ?_)
  ·replace H := cond_t c_4 H
   refine T_skip ?_
   refine T_seq ?_
   refine T_block ?_
   obtain ⟨v_5, h_6, H⟩ := bind_inv H
   obtain ⟨n_7, hz_8, hv_9⟩ := getI_inv h_6
   obtain ⟨us_10, h_11, H⟩ := bind_inv H
   obtain ⟨us_12, h_13, H⟩ := bind_inv H
   refine T_pad ?_
   refine T_pad ?_
   refine T_pad ?_
   refine T_pad ?_
   refine T_regionPh 6 20 mixed rfl (by kernel_rfl) ?_
   refine pa tb [0, 1, 2, 3, 4] 15 rfl (by kernel_rfl) rfl ?_
   refine tf 5 rfl (pur_ixT (T := tFact) sl30 rfl rfl hz_8 hv_9 rfl) rfl rfl (by kernel_rfl) ?_
   refine pa tb [6] 13 rfl (by kernel_rfl) rfl ?_
   refine tf 7 rfl (pur_ldT (T := tFact) (i := n_7) (off := 0) rfl one3 rfl rfl hv_9 rfl) rfl rfl (by kernel_rfl) ?_
   refine pa tb [9, 10, 11] 9 rfl (by kernel_rfl) rfl ?_
   refine tf 12 rfl (pur_ixT (T := tFact) sl30 rfl rfl hz_8 hv_9 rfl) rfl rfl (by kernel_rfl) ?_
   refine pa tb [13] 7 rfl (by kernel_rfl) rfl ?_
   refine tf 14 rfl (pur_ldT (T := tFact) (i := n_7) (off := 1) rfl one33 rfl rfl hv_9 rfl) rfl rfl (by kernel_rfl) ?_
   refine t1 8 (by kernel_rfl) rfl rfl (TOp_lit (nn := 0) (k := 1) sl33 zero3 rfl rfl rfl rfl (by decide) ?_)
   refine tmw 6 10 (by decide) (lb rfl) rfl rfl (lb rfl) rfl ?_
   refine t1 15 (by kernel_rfl) rfl rfl (TOp_appY (T := tInt) (f := tInt.enc) (xs := ([] : (List Int))) (ys := v_5.values) tInt.len sl33 zero3 rfl bytes3 (by decide) rfl rfl rfl rfl (src_T (T := tInt) rfl) (flat_cell tInt _) h_11 ?_)
   refine tmw 6 11 (by decide) (lb rfl) rfl rfl (lb rfl) rfl ?_
   refine tae [(1, (.b 0 0)), (2, (.b 1 0)), (3, (.b 4 0)), (4, (intA i4)), (18, (.m [5] 0 box4_facts.length tFact.k)), (24, (intA v_5.relation)), (32, (.m [6] 0 us_10.length tInt.k))] rfl ?_
   refine TA_st (σ' := [.dead, .dead, .row (flat tRelation.enc us_1), .dead, .dead, .row (flat tFact.enc box4_facts), .row (flat tInt.enc us_10), .dead, .dead, .dead, .dead, .dead]) rfl ?_
   refine tf 16 rfl (pur_build bld60 rfl rfl) rfl rfl (by kernel_rfl) ?_
   refine TA_ghost (E' := [(1, (.b 0 0)), (2, (.b 1 0)), (3, (.b 4 0)), (4, (intA i4)), (18, (.m [5] 0 box4_facts.length tFact.k)), (33, (.g [(intA v_5.relation), (.m [6] 0 us_10.length tInt.k)]))]) (σ' := [.dead, .dead, .row (flat tRelation.enc us_1), .dead, .dead, .row (flat tFact.enc box4_facts), .row (flat tInt.enc us_10), .dead, .dead, .dead, .dead, .dead]) (Ghost.weak (WeakL.to 12 (lb rfl) rfl rfl rfl rfl ⟨leR rfl, leR rfl, leR rfl, leR rfl, leR rfl, leR rfl, trivial⟩)) ?_
   refine TA_frz1 6 (E' := [(1, (.b 0 0)), (2, (.b 1 0)), (3, (.b 4 0)), (4, (intA i4)), (18, (.m [5] 0 box4_facts.length tFact.k)), (33, (.g [(intA v_5.relation), (sl tInt us_10)]))]) rfl rfl (lb rfl) ?_ ?_
   ·exact ⟨(.keep rfl), (.keep rfl), (.keep rfl), (.keep rfl), (.keep rfl), (fz1G (fzC (.keep rfl) (fzC fz1E fzN))), trivial⟩
   refine TA_st (σ' := [.dead, .dead, .row (flat tRelation.enc us_1), .dead, .dead, .row (flat tFact.enc box4_facts), .dead, .dead, .dead, .dead, .dead, .dead]) rfl ?_
   refine t1 17 (by kernel_rfl) rfl rfl (TOp_lit (nn := 1) (k := 2) sl30 zero60 rfl rfl rfl rfl (by decide) ?_)
   refine tmw 8 12 (by decide) (lb rfl) rfl rfl (lb rfl) rfl ?_
   refine t1 18 (by kernel_rfl) rfl rfl (TOp_appY (T := tFact) (f := tFact.enc) (xs := box4_facts) (ys := ([({ relation := v_5.relation, values := us_10 } : Fact)] : (List Fact))) tFact.len sl30 zero60 rfl bytes60 (by decide) rfl rfl rfl rfl (src_mT (f := tFact.enc) tFact.len rfl rfl (flat_cell tFact _)) (flat_cell tFact _) h_13 ?_)
   refine tmw 9 13 (by decide) (lb rfl) rfl rfl (lb rfl) rfl ?_
   refine tae [(1, (.b 0 0)), (2, (.b 1 0)), (3, (.b 4 0)), (4, (intA i4)), (35, (.m [9] 0 us_12.length tFact.k))] rfl ?_
   refine TA_st (σ' := [.dead, .dead, .row (flat tRelation.enc us_1), .dead, .dead, .dead, .dead, .dead, .row (flat tFact.enc ([({ relation := v_5.relation, values := us_10 } : Fact)] : (List Fact))), .row (flat tFact.enc us_12), .dead, .dead, .dead, .dead]) rfl ?_
   refine pa tb [19] 0 rfl (by kernel_rfl) rfl ?_
   refine TA_nil (by kernel_rfl) ?_
   refine TA_st (σ' := [.box [(sl tRelation d0.relations), (sl tFact d0.facts)], .box [.n, .n], .row (flat tRelation.enc us_1), .dead, .box [(.m [2] 0 us_1.length tRelation.k), (.m [5] 0 box4_facts.length tFact.k)], .dead, .dead, .dead, .row (flat tFact.enc ([({ relation := v_5.relation, values := us_10 } : Fact)] : (List Fact))), .row (flat tFact.enc us_12), .dead, .dead, .dead, .dead]) rfl ?_
   refine tmv 5 9 (by decide) (lb rfl) rfl rfl (lb rfl) ?_
   refine TA_st (σ' := [.box [(sl tRelation d0.relations), (sl tFact d0.facts)], .box [.n, .n], .row (flat tRelation.enc us_1), .dead, .box [(.m [2] 0 us_1.length tRelation.k), .j], .row (flat tFact.enc us_12), .dead, .dead, .row (flat tFact.enc ([({ relation := v_5.relation, values := us_10 } : Fact)] : (List Fact))), .dead, .dead, .dead, .dead, .dead]) rfl ?_
   refine t1 20 (by kernel_rfl) rfl rfl (TOp_storeB sz30 rfl rfl rfl rfl rfl rfl rfl (by decide) (lb rfl) rfl ?_)
   refine TA_st (σ' := [.box [(sl tRelation d0.relations), (sl tFact d0.facts)], .box [.n, .n], .row (flat tRelation.enc us_1), .dead, .box [(.m [2] 0 us_1.length tRelation.k), (.m [5] 0 us_12.length tFact.k)], .row (flat tFact.enc us_12), .dead, .dead, .row (flat tFact.enc ([({ relation := v_5.relation, values := us_10 } : Fact)] : (List Fact))), .dead, .dead, .dead, .dead, .dead]) rfl ?_
   refine TA_nil (by kernel_rfl) ?_
   refine T_region ?_
   refine pv tb 3 rfl ?_
   refine TO_nil ?_
   obtain rfl := some_inj H
   exact again k3 ((w64 (i4 + 1)), us_12) (Nat.lt_succ_self _) (w0 6) K3_
  ·replace H := cond_f c_4 H
   refine T_exit ?_
   refine then_exit ?_
   refine then_exit ?_
   refine block_exit ?_
   obtain rfl := some_inj H
   obtain rfl := some_inj K3_
   replace H := onS_l N3_
   refine sr ?_
   refine pv tb 1 rfl ?_
   refine TO_cons rfl (TOp_storeB sz32 rfl rfl rfl rfl rfl rfl rfl (by decide) (lb rfl) rfl ?_)
   refine TO_st (σ' := [.box [(sl tRelation d0.relations), (sl tFact d0.facts)], .box [(.m [2] 0 us_1.length tRelation.k), (.m [5] 0 box4_facts.length tFact.k)], .row (flat tRelation.enc us_1), .dead, .box [(.m [2] 0 us_1.length tRelation.k), (.m [5] 0 box4_facts.length tFact.k)], .row (flat tFact.enc box4_facts)]) rfl ?_
   refine TO_nil ?_
   refine T_ret ?_
   obtain rfl := some_inj H
   exact end_pick (.cellK rfl agg32 rfl (lb rfl) .nil) rfl [2, 5] (by decide) rfl rfl rfl rfl rfl rfl

set_option maxHeartbeats 1000000 in
theorem m_spec_FactIndex_ok (u : Nat) (d0 : Database) (f1 : Fact) (r : Int) (H : m_spec_FactIndex u d0 f1 = some r) : FnV prg 158 [(.g (tDatabase.enc d0)), (.g (tFact.enc f1))] (intA r) := by
  unfold m_spec_FactIndex at H
  refine fnV_of_T Try.func158 rfl rfl (Nat.le_of_ble_eq_true rfl) ?_
  refine te [(0, (.g (tDatabase.enc d0))), (1, (.g (tFact.enc f1)))] rfl ?_
  refine sr ?_
  refine TO_cons rfl (TOp_box rfl (boxAll rfl) rfl rfl ?_)
  refine TO_cons rfl (TOp_box rfl (boxAll rfl) rfl rfl ?_)
  refine pv tb 1 rfl ?_
  refine TO_nil ?_
  refine T_seq ?_
  refine sr ?_
  refine pv tb 1 rfl ?_
  refine TO_nil ?_
  obtain ⟨O1_, L1_, N1_⟩ := bind_inv H
  clear H
  obtain ⟨B1_, hb1, L1_⟩ := gen_whileF L1_
  refine T_block ?_
  refine T_loopX (fun k => fun (i5 : Int) => whileF B1_ k i5 = some O1_) (fun (i5 : Int) => [(2, (.b 0 0)), (3, (.b 1 0)), (5, (intA i5))]) (fun (i5 : Int) => [.box [(sl tRelation d0.relations), (sl tFact d0.facts)], .box [(intA f1.relation), (sl tInt f1.values)]]) u 0 (w0 2) L1_ ?_
  rintro _ i5 L1_
  obtain ⟨k1, rfl, C1_, H, K1_⟩ := while_step L1_
  rw [hb1] at H
  refine T_seq ?_
  refine sr ?_
  refine pv tb 3 rfl ?_
  refine Tp rfl rfl (pur_lenT (T := tFact) sl30 rfl rfl) rfl ?_
  refine pv tb 1 rfl ?_
  refine TO_nil ?_
  refine T_cond (t := decide (i5 < (d0.facts.length : Int))) rfl (fun c_2 => ?_) (fun c_2 => ?_)
  ·replace H := cond_t c_2 H
   refine T_skip ?_
   refine T_seq ?_
   refine T_block ?_
   refine T_seq ?_
   refine T_regionD mixed (by kernel_rfl) ?_
   obtain ⟨v_3, h_4, H⟩ := bind_inv H
   obtain ⟨n_5, hz_6, hv_7⟩ := getI_inv h_4
   refine pq tb 3 rfl ?_
   refine TQ_pure rfl (pur_ixT (T := tFact) sl30 rfl rfl hz_6 hv_7 rfl) rfl ?_
   refine TQ_pure rfl (pur_ldTK (T := tFact) (i := n_5) (off := 0) rfl agg60 rfl rfl hv_7 (by decide) rfl) rfl ?_
   obtain ⟨r_8, h_9, H⟩ := bind_inv H
   refine pq tb 1 rfl ?_
   refine TQ_callV rfl (call_static ent103 rfl) (m_spec_CompareFacts_ok u _ _ _ h_9) rfl rfl ?_
   refine pq tb 1 rfl ?_
   refine TQ_nil ?_
   refine T_cond (t := decide (r_8 = 0)) rfl (fun c_10 => ?_) (fun c_10 => ?_)
   ·replace H := cond_t c_10 H
    refine sr ?_
    refine pv tb 2 rfl ?_
    refine TO_nil ?_
    refine te [(4, (intA i5))] rfl ?_
    refine T_ret ?_
    refine block_ret ?_
    refine then_ret ?_
    refine then_ret ?_
    refine block_ret ?_
    refine then_ret ?_
    obtain rfl := some_inj H
    obtain rfl := some_inj K1_
    replace H := onS_r N1_
    obtain rfl := some_inj H
    refine end_ret (.tmp .nil) rfl rfl ⟨?_, rfl⟩
    rfl
   ·replace H := cond_f c_10 H
    refine T_skip ?_
    refine T_region ?_
    refine pv tb 3 rfl ?_
    refine TO_nil ?_
    obtain rfl := some_inj H
    exact again k1 (w64 (i5 + 1)) (Nat.lt_succ_self _) (w0 2) K1_
  ·replace H := cond_f c_2 H
   refine T_exit ?_
   refine then_exit ?_
   refine then_exit ?_
   refine block_exit ?_
   obtain rfl := some_inj H
   obtain rfl := some_inj K1_
   replace H := onS_l N1_
   refine sr ?_
   refine pv tb 1 rfl ?_
   refine TO_nil ?_
   refine T_ret ?_
   obtain rfl := some_inj H
   refine end_ret (.tmp .nil) rfl rfl ⟨?_, rfl⟩
   rfl

set_option maxHeartbeats 1000000 in
theorem m_spec_ContainsFact_ok (u : Nat) (d0 : Database) (f1 : Fact) (r : Bool) (H : m_spec_ContainsFact u d0 f1 = some r) : FnV prg 148 [(.g (tDatabase.enc d0)), (.g (tFact.enc f1))] (boolA r) := by
  unfold m_spec_ContainsFact at H
  refine fnV_of_T Try.func148 rfl rfl (Nat.le_of_ble_eq_true rfl) ?_
  refine te [(0, (.g (tDatabase.enc d0))), (1, (.g (tFact.enc f1)))] rfl ?_
  refine sr ?_
  refine TO_cons rfl (TOp_box rfl (boxAll rfl) rfl rfl ?_)
  refine TO_cons rfl (TOp_box rfl (boxAll rfl) rfl rfl ?_)
  refine pv tb 1 rfl ?_
  refine TO_nil ?_
  obtain ⟨t4_1, J_1, H_2⟩ := bind_inv H
  refine T_cutX (fun x => t4_1 = x) (fun (t4_1 : Bool) => [(4, (boolA t4_1))]) (fun (t4_1 : Bool) => []) ?_ ?_
  ·replace H := J_1
   refine T_region ?_
   obtain ⟨r_3, h_4, H⟩ := bind_inv H
   refine pv tb 1 rfl ?_
   refine TO_cons rfl (TOp_callV (call_static ent76 rfl) (m_spec_IsValidDatabase_ok u _ _ h_4) rfl rfl rfl ?_)
   refine pv tb 1 rfl ?_
   refine TO_split (t := r_3) 7 rfl (fun g_5 => ?_) (fun g_5 => ?_)
   ·replace H := cond_t g_5 H
    obtain ⟨r_6, h_7, H⟩ := bind_inv H
    refine pv tb 2 rfl ?_
    refine TO_on rfl rfl (by decide) rfl rfl (TOp_callV (call_static ent158 rfl) (m_spec_FactIndex_ok u _ _ _ h_7) rfl rfl rfl ?_)
    refine pv tb 3 rfl ?_
    refine TO_nil ?_
    exact joined (decide (0 ≤ r_6)) (w0 0) (some_inj H).symm
   ·replace H := cond_f g_5 H
    refine pv tb 6 rfl ?_
    refine TO_nil ?_
    exact joined false (w0 0) (some_inj H).symm
  ·rintro _ rfl
   replace H := H_2
   refine T_ret ?_
   obtain rfl := some_inj H
   refine end_ret (.tmp .nil) rfl rfl ⟨?_, rfl⟩
   rfl

set_option maxHeartbeats 1000000 in
theorem m_spec_InsertFact_own (u : Nat) (d0 : Database) (f1 : Fact) (r : (Database × Bool)) (H : m_spec_InsertFact u d0 f1 = some r) : FnO prg 127 [(.g (tDatabase.enc d0)), (.g (tFact.enc f1))] (.t [(.g [(.m [0] 0 r.1.relations.length tRelation.k), (.m [1] 0 r.1.facts.length tFact.k)]), (boolA r.2)]) [.row (flat tRelation.enc r.1.relations), .row (flat tFact.enc r.1.facts)] := by
  unfold m_spec_InsertFact at H
  refine fnO_of_T Try.func127 rfl rfl (Nat.le_of_ble_eq_true rfl) ?_
  refine te [(0, (.g (tDatabase.enc d0))), (1, (.g (tFact.enc f1)))] rfl ?_
  refine sr ?_
  refine TO_cons rfl (TOp_box rfl (boxAll rfl) rfl rfl ?_)
  refine TO_cons rfl (TOp_box rfl (boxAll rfl) rfl rfl ?_)
  refine TO_cons rfl (TOp_alloc zero32 rfl rfl ?_)
  refine pv tb 1 rfl ?_
  refine TO_nil ?_
  refine sr ?_
  obtain ⟨r_1, h_2, H⟩ := bind_inv H
  refine pv tb 1 rfl ?_
  refine TO_cons rfl (TOp_callO (call_static ent147 rfl) rfl (m_spec_l4Copy_enc u _ _ h_2) rfl rfl rfl ?_)
  refine toe [(2, (.b 0 0)), (3, (.b 1 0)), (4, (.b 2 0)), (9, (.g (tDatabase.enc d0))), (10, (.g [(.m [3] 0 r_1.relations.length tRelation.k), (.m [4] 0 r_1.facts.length tFact.k)]))] rfl ?_
  refine TO_st (σ' := [.box [(sl tRelation d0.relations), (sl tFact d0.facts)], .box [(intA f1.relation), (sl tInt f1.values)], .box [.n, .n], .row (flat tRelation.enc r_1.relations), .row (flat tFact.enc r_1.facts)]) rfl ?_
  refine TO_cons rfl (TOp_alloc zero32 rfl rfl ?_)
  refine TO_cons rfl (TOp_storeB sz32 rfl rfl rfl rfl rfl rfl rfl (by decide) (lb rfl) rfl ?_)
  refine TO_st (σ' := [.box [(sl tRelation d0.relations), (sl tFact d0.facts)], .box [(intA f1.relation), (sl tInt f1.values)], .box [.n, .n], .row (flat tRelation.enc r_1.relations), .row (flat tFact.enc r_1.facts), .box [(.m [3] 0 r_1.relations.length tRelation.k), (.m [4] 0 r_1.facts.length tFact.k)]]) rfl ?_
  refine TO_nil ?_
  refine T_seq ?_
  obtain ⟨t31_3, J_3, H_4⟩ := bind_inv H
  refine T_cutX (fun x => t31_3 = x) (fun (t31_3 : Bool) => [(3, (.b 1 0)), (4, (.b 2 0)), (6, (.b 5 0)), (31, (boolA t31_3))]) (fun (t31_3 : Bool) => [.box [(sl tRelation d0.relations), (sl tFact d0.facts)], .box [(intA f1.relation), (sl tInt f1.values)], .box [.n, .n], .row (flat tRelation.enc r_1.relations), .row (flat tFact.enc r_1.facts), .box [(.m [3] 0 r_1.relations.length tRelation.k), (.m [4] 0 r_1.facts.length tFact.k)]]) ?_ ?_
  ·replace H := J_3
   refine T_region ?_
   obtain ⟨r_5, h_6, H⟩ := bind_inv H
   refine pv tb 1 rfl ?_
   refine TO_cons rfl (TOp_callV (call_static ent76 rfl) (m_spec_IsValidDatabase_ok u _ _ h_6) rfl rfl rfl ?_)
   refine pv tb 2 rfl ?_
   refine TO_split (t := (!r_5)) 14 rfl (fun g_7 => ?_) (fun g_7 => ?_)
   ·replace H := cond_t g_7 H
    refine pv tb 17 rfl ?_
    refine TO_nil ?_
    exact joined true (w0 6) (some_inj H).symm
   ·replace H := cond_f g_7 H
    obtain ⟨r_8, h_9, H⟩ := bind_inv H
    refine pv tb 3 rfl ?_
    refine TO_on rfl rfl (by decide) rfl rfl (TOp_callV (call_static ent102 rfl) (m_spec_IsValidFact_ok u _ _ _ h_9) rfl rfl rfl ?_)
    refine pv tb 3 rfl ?_
    refine TO_split (t := (!r_8)) 21 rfl (fun g_10 => ?_) (fun g_10 => ?_)
    ·replace H := cond_t g_10 H
     refine pv tb 10 rfl ?_
     refine TO_nil ?_
     exact joined true (w0 6) (some_inj H).symm
    ·replace H := cond_f g_10 H
     obtain ⟨r_11, h_12, H⟩ := bind_inv H
     refine pv tb 2 rfl ?_
     refine TO_on rfl rfl (by decide) rfl rfl (TOp_callV (call_static ent148 rfl) (m_spec_ContainsFact_ok u _ _ _ h_12) rfl rfl rfl ?_)
     refine pv tb 2 rfl ?_
     refine TO_split (t := r_11) 26 rfl (fun g_13 => ?_) (fun g_13 => ?_)
     ·replace H := cond_t g_13 H
      refine pv tb 5 rfl ?_
      refine TO_nil ?_
      exact joined true (w0 6) (some_inj H).symm
     ·replace H := cond_f g_13 H
      refine pv tb 2 rfl ?_
      refine TO_on rfl rfl (by decide) rfl rfl (TOp_pure (pur_lenT (T := tFact) sl30 rfl rfl) rfl ?_)
      refine pv tb 2 rfl ?_
      refine TO_nil ?_
      exact joined (decide ((d0.facts.length : Int) = 14)) (w0 6) (some_inj H).symm
  ·rintro _ rfl
   replace H := H_4
   refine T_cond (t := t31_3) rfl (fun c_14 => ?_) (fun c_14 => ?_)
   ·replace H := cond_t c_14 H
    refine sr ?_
    refine pv tb 1 rfl ?_
    refine TO_cons rfl (TOp_storeB sz32 rfl rfl rfl rfl rfl rfl rfl (by decide) (lb rfl) rfl ?_)
    refine TO_st (σ' := [.box [(sl tRelation d0.relations), (sl tFact d0.facts)], .box [(intA f1.relation), (sl tInt f1.values)], .box [(.m [3] 0 r_1.relations.length tRelation.k), (.m [4] 0 r_1.facts.length tFact.k)], .row (flat tRelation.enc r_1.relations), .row (flat tFact.enc r_1.facts), .box [(.m [3] 0 r_1.relations.length tRelation.k), (.m [4] 0 r_1.facts.length tFact.k)]]) rfl ?_
    refine pv tb 1 rfl ?_
    refine TO_nil ?_
    refine T_ret ?_
    refine then_ret ?_
    obtain rfl := some_inj H
    exact end_pick (.cellK rfl agg32 rfl (lb rfl) (.tmp .nil)) rfl [3, 4] (by decide) rfl rfl rfl rfl rfl rfl
   ·replace H := cond_f c_14 H
    refine T_skip ?_
    refine sr ?_
    refine pv tb 1 rfl ?_
    refine TO_nil ?_
    obtain ⟨O15_, L15_, N15_⟩ := bind_inv H
    clear H
    obtain ⟨B15_, hb15, L15_⟩ := gen_whileF L15_
    refine T_cutX (fun (x : Int) => O15_ = .inl x) (fun (k7 : Int) => [(3, (.b 1 0)), (4, (.b 2 0)), (6, (.b 5 0)), (7, (intA k7))]) (fun (k7 : Int) => [.box [(sl tRelation d0.relations), (sl tFact d0.facts)], .box [(intA f1.relation), (sl tInt f1.values)], .box [.n, .n], .row (flat tRelation.enc r_1.relations), .row (flat tFact.enc r_1.facts), .box [(.m [3] 0 r_1.relations.length tRelation.k), (.m [4] 0 r_1.facts.length tFact.k)]]) ?_ ?_
    ·skip
     refine T_block ?_
     refine T_loopX (fun k => fun (k7 : Int) => whileF B15_ k k7 = some O15_) (fun (k7 : Int) => [(3, (.b 1 0)), (4, (.b 2 0)), (6, (.b 5 0)), (7, (intA k7))]) (fun (k7 : Int) => [.box [(sl tRelation d0.relations), (sl tFact d0.facts)], .box [(intA f1.relation), (sl tInt f1.values)], .box [.n, .n], .row (flat tRelation.enc r_1.relations), .row (flat tFact.enc r_1.facts), .box [(.m [3] 0 r_1.relations.length tRelation.k), (.m [4] 0 r_1.facts.length tFact.k)]]) u 0 (w0 6) L15_ ?_
     rintro _ k7 L15_
     obtain ⟨k15, rfl, C15_, H, K15_⟩ := while_step L15_
     rw [hb15] at H
     refine T_seq ?_
     obtain ⟨t47_16, J_16, H_17⟩ := bind_inv H
     refine T_cutX (fun x => t47_16 = x) (fun (t47_16 : Bool) => [(3, (.b 1 0)), (4, (.b 2 0)), (6, (.b 5 0)), (7, (intA k7)), (47, (boolA t47_16))]) (fun (t47_16 : Bool) => [.box [(sl tRelation d0.relations), (sl tFact d0.facts)], .box [(intA f1.relation), (sl tInt f1.values)], .box [.n, .n], .row (flat tRelation.enc r_1.relations), .row (flat tFact.enc r_1.facts), .box [(.m [3] 0 r_1.relations.length tRelation.k), (.m [4] 0 r_1.facts.length tFact.k)]]) ?_ ?_
     ·replace H := J_16
      refine T_regionD mixed (by kernel_rfl) ?_
      refine pq tb 3 rfl ?_
      refine TQ_pure rfl (pur_len_m sl30 rfl rfl) rfl ?_
      refine pq tb 2 rfl ?_
      refine TQ_split (t := decide (k7 < (r_1.facts.length : Int))) 38 rfl (fun g_18 => ?_) (fun g_18 => ?_)
      ·replace H := cond_t g_18 H
       obtain ⟨v_19, h_20, H⟩ := bind_inv H
       obtain ⟨n_21, hz_22, hv_23⟩ := getI_inv h_20
       refine pq tb 3 rfl ?_
       refine TQ_on rfl rfl (by decide) rfl (pur_ixM (T := tFact) sl30 rfl rfl hz_22 hv_23 rfl) rfl ?_
       refine TQ_on rfl rfl (by decide) rfl (pur_ldEK (f := tFact.enc) (k := tFact.k) (i := n_21) (off := 0) tFact.len rfl agg60 rfl rfl rfl hv_23 (by decide) rfl) rfl ?_
       obtain ⟨r_24, h_25, H⟩ := bind_inv H
       refine pq tb 1 rfl ?_
       refine TQ_onV rfl rfl (by decide) rfl (call_static ent103 rfl) (m_spec_CompareFacts_ok u _ _ _ h_25) rfl rfl ?_
       refine pq tb 2 rfl ?_
       refine TQ_nil ?_
       exact joined (decide (r_24 < 0)) (w0 6) (some_inj H).symm
      ·replace H := cond_f g_18 H
       refine pq tb 9 rfl ?_
       refine TQ_nil ?_
       exact joined false (w0 6) (some_inj H).symm
     ·rintro _ rfl
      replace H := H_17
      refine T_cond (t := t47_16) rfl (fun c_26 => ?_) (fun c_26 => ?_)
      ·replace H := cond_t c_26 H
       refine T_skip ?_
       refine T_block ?_
       refine T_region ?_
       refine pv tb 3 rfl ?_
       refine TO_nil ?_
       obtain rfl := some_inj H
       exact again k15 (w64 (k7 + 1)) (Nat.lt_succ_self _) (w0 6) K15_
      ·replace H := cond_f c_26 H
       refine T_exit ?_
       refine then_exit ?_
       refine then_exit ?_
       refine block_exit ?_
       obtain rfl := some_inj H
       obtain rfl := some_inj K15_
       exact joined k7 (w0 6) rfl
    ·rintro k7 rfl
     replace H := onS_l N15_
     obtain ⟨us_27, h_28, H⟩ := bind_inv H
     obtain ⟨ys_29, h_30, H⟩ := bind_inv H
     obtain ⟨i_31, j_32, hi_33, hj_34, hij_35, hjl_36, hys_37, _⟩ := cutI_inv h_30
     obtain ⟨us_38, h_39, H⟩ := bind_inv H
     refine T_pad ?_
     refine T_cutX (fun (_ : Unit) => True) (fun _ => [(4, (.b 2 0)), (6, (.b 5 0)), (7, (intA k7)), (8, (.m [6] 0 us_38.length tFact.k))]) (fun _ => [.box [(sl tRelation d0.relations), (sl tFact d0.facts)], .box [(intA f1.relation), (sl tInt f1.values)], .box [.n, .n], .row (flat tRelation.enc r_1.relations), .row (flat tFact.enc r_1.facts), .box [(.m [3] 0 r_1.relations.length tRelation.k), (.m [4] 0 r_1.facts.length tFact.k)], .row (flat tFact.enc us_38)]) ?_ ?_
     ·skip
      refine T_regionP 6 mixed rfl ?_
      refine pa tb [0, 1, 3, 4, 8, 9, 10] 7 rfl (by kernel_rfl) rfl ?_
      refine tf 11 rfl (pur_cutM (lo := (some (.tmp 60))) (hi := none) sl30 rfl ⟨_, congrArg (fun z => A.v (.int .i64 z)) hi_33⟩ hj_34.symm hij_35 hjl_36 rfl) rfl rfl (by kernel_rfl) ?_
      refine t1 2 (by kernel_rfl) rfl rfl (TOp_lit (nn := 0) (k := 1) sl33 zero3 rfl rfl rfl rfl (by decide) ?_)
      refine t1 5 (by kernel_rfl) rfl rfl (TOp_appY (T := tInt) (f := tInt.enc) (xs := ([] : (List Int))) (ys := f1.values) tInt.len sl33 zero3 rfl bytes3 (by decide) rfl rfl rfl rfl (src_T (T := tInt) rfl) (flat_cell tInt _) h_28 ?_)
      refine tmw 7 8 (by decide) (lb rfl) rfl rfl (lb rfl) rfl ?_
      refine tf 6 rfl (pur_build bld60 rfl rfl) rfl rfl (by kernel_rfl) ?_
      refine TA_ghost (E' := [(4, (.b 2 0)), (6, (.b 5 0)), (7, (intA k7)), (56, (.g [(intA f1.relation), (.m [7] 0 us_27.length tInt.k)])), (61, (.m [4] (i_31 * tFact.k) (j_32 - i_31) tFact.k))]) (σ' := [.dead, .dead, .dead, .row (flat tRelation.enc r_1.relations), .row (flat tFact.enc r_1.facts), .dead, .dead, .row (flat tInt.enc us_27), .dead]) (Ghost.weak (WeakL.to 9 (lb rfl) rfl rfl rfl rfl ⟨leR rfl, leR rfl, leR rfl, leR rfl, leR rfl, trivial⟩)) ?_
      refine TA_frz1 7 (E' := [(4, (.b 2 0)), (6, (.b 5 0)), (7, (intA k7)), (56, (.g [(intA f1.relation), (sl tInt us_27)])), (61, (.m [4] (i_31 * tFact.k) (j_32 - i_31) tFact.k))]) rfl rfl (lb rfl) ?_ ?_
      ·exact ⟨(.keep rfl), (.keep rfl), (.keep rfl), (fz1G (fzC (.keep rfl) (fzC fz1E fzN))), (.keep rfl), trivial⟩
      refine TA_st (σ' := [.dead, .dead, .dead, .row (flat tRelation.enc r_1.relations), .row (flat tFact.enc r_1.facts), .dead, .dead, .dead, .dead]) rfl ?_
      refine t1 7 (by kernel_rfl) rfl rfl (TOp_lit (nn := 1) (k := 2) sl30 zero60 rfl rfl rfl rfl (by decide) ?_)
      refine t1 12 (by kernel_rfl) rfl rfl (TOp_appY (T := tFact) (f := tFact.enc) (xs := ([({ relation := f1.relation, values := us_27 } : Fact)] : (List Fact))) (ys := ys_29) tFact.len sl30 zero60 rfl bytes60 (by decide) rfl rfl rfl rfl (src_cut (T := tFact) (xs := r_1.facts) (i := i_31) (j := j_32) rfl rfl hij_35 hjl_36 hys_37) (flat_cell tFact _) h_39 ?_)
      refine tmw 9 10 (by decide) (lb rfl) rfl rfl (lb rfl) rfl ?_
      refine pa tb [13] 0 rfl (by kernel_rfl) rfl ?_
      refine TA_ghost (E' := [(4, (.b 2 0)), (6, (.b 5 0)), (7, (intA k7)), (8, (.m [6] 0 us_38.length tFact.k))]) (σ' := [.dead, .dead, .dead, .row (flat tRelation.enc r_1.relations), .row (flat tFact.enc r_1.facts), .dead, .row (flat tFact.enc us_38), .dead, .dead, .dead, .dead]) (Ghost.move 6 9 (by decide) (lb rfl) rfl rfl (lb rfl) (Ghost.weak (WeakL.to 11 (lb rfl) rfl rfl rfl rfl ⟨leR rfl, leR rfl, leR rfl, leR rfl, trivial⟩))) ?_
      exact TA_nil (by kernel_rfl) (joined () (w0 7) trivial)
     ·rintro _ _
      refine sr ?_
      refine TO_cons rfl (TOp_lit (nn := 0) (k := 2) sl30 zero60 rfl rfl rfl rfl (by decide) ?_)
      refine TO_st (σ' := [.box [(sl tRelation d0.relations), (sl tFact d0.facts)], .box [(intA f1.relation), (sl tInt f1.values)], .box [.n, .n], .row (flat tRelation.enc r_1.relations), .row (flat tFact.enc r_1.facts), .box [(.m [3] 0 r_1.relations.length tRelation.k), (.m [4] 0 r_1.facts.length tFact.k)], .row (flat tFact.enc us_38), .row (flat tFact.enc ([] : (List Fact)))]) rfl ?_
      obtain ⟨ys_40, h_41, H⟩ := bind_inv H
      obtain ⟨i_42, j_43, hi_44, hj_45, hij_46, hjl_47, hys_48, _⟩ := cutI_inv h_41
      refine pv tb 3 rfl ?_
      refine Tp rfl rfl (pur_cutM (lo := none) (hi := (some (.tmp 66))) sl30 rfl hi_44.symm ⟨_, congrArg (fun z => A.v (.int .i64 z)) hj_45⟩ hij_46 hjl_47 rfl) rfl ?_
      obtain ⟨us_49, h_50, H⟩ := bind_inv H
      refine TO_cons rfl (TOp_appZ (T := tFact) (f := tFact.enc) (xs := ([] : (List Fact))) (ys := ys_40) tFact.len sl30 zero60 rfl bytes60 (by decide) rfl rfl rfl rfl (src_cut (T := tFact) (xs := r_1.facts) (i := i_42) (j := j_43) rfl rfl hij_46 hjl_47 hys_48) (flat_cell tFact _) h_50 (lb rfl) ?_)
      refine toe [(4, (.b 2 0)), (6, (.b 5 0)), (7, (intA k7)), (8, (.m [6] 0 us_38.length tFact.k)), (64, (.b 5 1)), (65, (.m [4] 0 r_1.facts.length tFact.k)), (66, (intA k7)), (67, (.m [4] (i_42 * tFact.k) (j_43 - i_42) tFact.k)), (68, (.m [7] 0 us_49.length tFact.k))] rfl ?_
      refine TO_st (σ' := [.box [(sl tRelation d0.relations), (sl tFact d0.facts)], .box [(intA f1.relation), (sl tInt f1.values)], .box [.n, .n], .row (flat tRelation.enc r_1.relations), .row (flat tFact.enc r_1.facts), .box [(.m [3] 0 r_1.relations.length tRelation.k), (.m [4] 0 r_1.facts.length tFact.k)], .row (flat tFact.enc us_38), .row (flat tFact.enc us_49), .dead]) rfl ?_
      obtain ⟨us_51, h_52, H⟩ := bind_inv H
      refine pv tb 1 rfl ?_
      refine TO_cons rfl (TOp_appZ (T := tFact) (f := tFact.enc) (xs := us_49) (ys := us_38) tFact.len sl30 zero60 rfl bytes60 (by decide) rfl rfl rfl rfl (src_mT (f := tFact.enc) tFact.len rfl rfl (flat_cell tFact _)) (flat_cell tFact _) h_52 (lb rfl) ?_)
      refine toe [(4, (.b 2 0)), (6, (.b 5 0)), (7, (intA k7)), (8, (.m [6] 0 us_38.length tFact.k)), (64, (.b 5 1)), (65, (.m [4] 0 r_1.facts.length tFact.k)), (66, (intA k7)), (67, (.m [4] (i_42 * tFact.k) (j_43 - i_42) tFact.k)), (69, (.m [6] 0 us_38.length tFact.k)), (70, (.m [7] 0 us_51.length tFact.k))] rfl ?_
      refine TO_st (σ' := [.box [(sl tRelation d0.relations), (sl tFact d0.facts)], .box [(intA f1.relation), (sl tInt f1.values)], .box [.n, .n], .row (flat tRelation.enc r_1.relations), .row (flat tFact.enc r_1.facts), .box [(.m [3] 0 r_1.relations.length tRelation.k), (.m [4] 0 r_1.facts.length tFact.k)], .row (flat tFact.enc us_38), .row (flat tFact.enc us_51), .dead, .dead]) rfl ?_
      refine pv tb 1 rfl ?_
      refine TO_cons rfl (TOp_storeB sz30 rfl rfl rfl rfl rfl rfl rfl (by decide) (lb rfl) rfl ?_)
      refine TO_st (σ' := [.box [(sl tRelation d0.relations), (sl tFact d0.facts)], .box [(intA f1.relation), (sl tInt f1.values)], .box [.n, .n], .row (flat tRelation.enc r_1.relations), .row (flat tFact.enc r_1.facts), .box [(.m [3] 0 r_1.relations.length tRelation.k), (.m [7] 0 us_51.length tFact.k)], .row (flat tFact.enc us_38), .row (flat tFact.enc us_51), .dead, .dead]) rfl ?_
      refine TO_nil ?_
      refine sr ?_
      refine pv tb 1 rfl ?_
      refine TO_cons rfl (TOp_storeB sz32 rfl rfl rfl rfl rfl rfl rfl (by decide) (lb rfl) rfl ?_)
      refine TO_st (σ' := [.box [(sl tRelation d0.relations), (sl tFact d0.facts)], .box [(intA f1.relation), (sl tInt f1.values)], .box [(.m [3] 0 r_1.relations.length tRelation.k), (.m [7] 0 us_51.length tFact.k)], .row (flat tRelation.enc r_1.relations), .row (flat tFact.enc r_1.facts), .box [(.m [3] 0 r_1.relations.length tRelation.k), (.m [7] 0 us_51.length tFact.k)], .row (flat tFact.enc us_38), .row (flat tFact.enc us_51), .dead, .dead]) rfl ?_
      refine pv tb 1 rfl ?_
      refine TO_nil ?_
      refine T_ret ?_
      obtain rfl := some_inj H
      exact end_pick (.cellK rfl agg32 rfl (lb rfl) (.tmp .nil)) rfl [3, 7] (by decide) rfl rfl rfl rfl rfl rfl
theorem m_spec_InsertFact_ok (u : Nat) (d0 : Database) (f1 : Fact) (r : (Database × Bool)) (H : m_spec_InsertFact u d0 f1 = some r) : FnV prg 127 [(.g (tDatabase.enc d0)), (.g (tFact.enc f1))] (.t [(.g (tDatabase.enc r.1)), (boolA r.2)]) := (m_spec_InsertFact_own u d0 f1 r H).frz (frzOK_t (frz_cons (frzOK_g (frz_cons (frzTE (T := tRelation) rfl) (frz_cons (frzTE (T := tFact) rfl) frz_nil)).1 (frz_cons (frzTE (T := tRelation) rfl) (frz_cons (frzTE (T := tFact) rfl) frz_nil)).2) (frz_cons (frz_loose rfl) frz_nil)).1 (frz_cons (frzOK_g (frz_cons (frzTE (T := tRelation) rfl) (frz_cons (frzTE (T := tFact) rfl) frz_nil)).1 (frz_cons (frzTE (T := tRelation) rfl) (frz_cons (frzTE (T := tFact) rfl) frz_nil)).2) (frz_cons (frz_loose rfl) frz_nil)).2)

set_option maxHeartbeats 1000000 in
theorem m_spec_l3Fact_x (u : Nat) (c0 : l1Cur) (l1 : (List Relation)) (val2 : Int) (r : (Fact × l1Cur)) (H : m_spec_l3Fact u c0 l1 val2 = some r) : FnS prg 128 [(.b 0 0), (sl tRelation l1), (intA val2)] [.box [(sl (tI .u8) c0.b), (intA c0.i), (intA c0.h)]] (.g [(intA r.1.relation), (.m [1] 0 r.1.values.length tInt.k)]) [.box [(sl (tI .u8) r.2.b), (intA r.2.i), (intA r.2.h)], .row (flat tInt.enc r.1.values)] := by
  unfold m_spec_l3Fact at H
  refine fnS_of_T Try.func128 rfl rfl (Nat.le_of_ble_eq_true rfl) ?_
  refine te [(0, (.b 0 0)), (1, (sl tRelation l1)), (2, (intA val2))] rfl ?_
  refine T_st (σ' := [.box [(sl (tI .u8) c0.b), (intA c0.i), (intA c0.h)]]) rfl ?_
  refine sr ?_
  refine TO_cons rfl (TOp_alloc zero60 rfl rfl ?_)
  refine TO_nil ?_
  refine sr ?_
  refine pv tb 2 rfl ?_
  refine Tp rfl rfl (pur_lenT (T := tRelation) sl29 rfl rfl) rfl ?_
  obtain ⟨r_1, h_2, H⟩ := bind_inv H
  refine TO_cons rfl (TOp_callS [0] (call_static ent83 rfl) (by decide) rfl rfl rfl rfl rfl rfl (m_spec_l1Below_x _ _ _ h_2) rfl rfl ?_)
  refine toe [(0, (.b 0 0)), (1, (sl tRelation l1)), (2, (intA val2)), (6, (.b 1 0)), (8, (.b 0 0)), (9, (sl tRelation l1)), (10, (intA (l1.length : Int))), (11, (intA r_1.1))] rfl ?_
  refine TO_st (σ' := [.box [(sl (tI .u8) r_1.2.b), (intA r_1.2.i), (intA r_1.2.h)], .box [(intA 0), .n]]) rfl ?_
  refine Tp rfl rfl (pur_build bld60 rfl rfl) rfl ?_
  refine TO_cons rfl (TOp_alloc zero60 rfl rfl ?_)
  refine TO_cons rfl (TOp_storeB sz60 rfl rfl rfl rfl rfl rfl rfl (by decide) (lb rfl) rfl ?_)
  refine TO_st (σ' := [.box [(sl (tI .u8) r_1.2.b), (intA r_1.2.i), (intA r_1.2.h)], .box [(intA 0), .n], .box [(intA r_1.1), .n]]) rfl ?_
  refine TO_nil ?_
  refine T_row0 ?_
  refine T_boxle (xs := [(intA r_1.1), .n]) (ys := [(intA r_1.1), (.m [3] 0 ([] : (List Int)).length tInt.k)]) 2 rfl (leCons (leR rfl) (leCons leM leNil)) ?_
  refine T_st (σ' := [.box [(sl (tI .u8) r_1.2.b), (intA r_1.2.i), (intA r_1.2.h)], .box [(intA 0), .n], .box [(intA r_1.1), (.m [3] 0 ([] : (List Int)).length tInt.k)], .row (flat tInt.enc ([] : (List Int)))]) rfl ?_
  obtain ⟨O3_, L3_, N3_⟩ := bind_inv H
  clear H
  obtain ⟨B3_, hb3, L3_⟩ := gen_whileF L3_
  refine T_cutX (fun (x : l1Cur × (List Int)) => O3_ = .inl x) (fun (⟨box0, box2_values⟩ : l1Cur × (List Int)) => [(6, (.b 1 0)), (7, (.b 2 0))]) (fun (⟨box0, box2_values⟩ : l1Cur × (List Int)) => [.box [(sl (tI .u8) box0.b), (intA box0.i), (intA box0.h)], .box [(intA 0), .n], .box [(intA r_1.1), (.m [3] 0 box2_values.length tInt.k)], .row (flat tInt.enc box2_values)]) ?_ ?_
  ·skip
   refine T_block ?_
   refine T_loopX (fun k => fun (⟨box0, box2_values⟩ : l1Cur × (List Int)) => whileF B3_ k (box0, box2_values) = some O3_) (fun (⟨box0, box2_values⟩ : l1Cur × (List Int)) => [(0, (.b 0 0)), (1, (sl tRelation l1)), (2, (intA val2)), (6, (.b 1 0)), (7, (.b 2 0))]) (fun (⟨box0, box2_values⟩ : l1Cur × (List Int)) => [.box [(sl (tI .u8) box0.b), (intA box0.i), (intA box0.h)], .box [(intA 0), .n], .box [(intA r_1.1), (.m [3] 0 box2_values.length tInt.k)], .row (flat tInt.enc box2_values)]) u (r_1.2, ([] : (List Int))) (w0 4) L3_ ?_
   rintro _ ⟨box0, box2_values⟩ L3_
   obtain ⟨k3, rfl, C3_, H, K3_⟩ := while_step L3_
   rw [hb3] at H
   refine T_seq ?_
   refine T_seq ?_
   refine T_regionD mixed (by kernel_rfl) ?_
   refine pq tb 2 rfl ?_
   refine TQ_pure rfl (pur_len_m sl33 rfl rfl) rfl ?_
   obtain ⟨v_4, h_5, H⟩ := bind_inv H
   obtain ⟨n_6, hz_7, hv_8⟩ := getI_inv h_5
   refine pq tb 3 rfl ?_
   refine TQ_pure rfl (pur_ixT (T := tRelation) sl29 rfl rfl hz_7 hv_8 rfl) rfl ?_
   refine pq tb 1 rfl ?_
   refine TQ_pure rfl (pur_ldT (T := tRelation) (i := n_6) (off := 1) rfl one3 rfl rfl hv_8 rfl) rfl ?_
   refine pq tb 1 rfl ?_
   refine TQ_nil ?_
   refine T_cond (t := decide ((box2_values.length : Int) < v_4.arity)) rfl (fun c_9 => ?_) (fun c_9 => ?_)
   ·replace H := cond_t c_9 H
    refine T_skip ?_
    refine T_block ?_
    obtain ⟨r_10, h_11, H⟩ := bind_inv H
    obtain ⟨us_12, h_13, H⟩ := bind_inv H
    refine T_pad ?_
    refine T_regionP 0 mixed rfl ?_
    refine TA_have 3 #[true, true, true, true, true, true, false, false, false] [(0, (.b 0 0)), (1, (sl tRelation l1)), (2, (intA val2)), (6, (.b 1 0)), (7, (.b 2 0)), (24, (.m [3] 0 box2_values.length tInt.k)), (28, (.m [4] 0 ([r_10.1] : (List Int)).length tInt.k))] [.box [(sl (tI .u8) r_10.2.b), (intA r_10.2.i), (intA r_10.2.h)], .box [(intA 0), .n], .box [(intA r_1.1), (.m [3] 0 box2_values.length tInt.k)], .row (flat tInt.enc box2_values), .row (flat tInt.enc ([r_10.1] : (List Int)))] ?_ (fun hj0_3 => ?_)
    ·skip
     refine t1 6 (by kernel_rfl) rfl rfl (TOp_appY (T := tInt) (f := tInt.enc) (xs := box2_values) (ys := ([r_10.1] : (List Int))) tInt.len sl33 zero3 rfl bytes3 (by decide) rfl rfl rfl rfl (src_mT (f := tInt.enc) tInt.len rfl rfl (flat_cell tInt _)) (flat_cell tInt _) h_13 ?_)
     refine tmv 3 5 (by decide) (lb rfl) rfl rfl (lb rfl) ?_
     refine TA_st (σ' := [.box [(sl (tI .u8) r_10.2.b), (intA r_10.2.i), (intA r_10.2.h)], .box [(intA 0), .n], .box [(intA r_1.1), .j], .row (flat tInt.enc us_12), .row (flat tInt.enc ([r_10.1] : (List Int))), .dead]) rfl ?_
     refine pa tb [7] 1 rfl (by kernel_rfl) rfl ?_
     refine t1 8 (by kernel_rfl) rfl rfl (TOp_storeB sz33 rfl rfl rfl rfl rfl rfl rfl (by decide) (lb rfl) rfl ?_)
     refine TA_st (σ' := [.box [(sl (tI .u8) r_10.2.b), (intA r_10.2.i), (intA r_10.2.h)], .box [(intA 0), .n], .box [(intA r_1.1), (.m [3] 0 us_12.length tInt.k)], .row (flat tInt.enc us_12), .row (flat tInt.enc ([r_10.1] : (List Int))), .dead]) rfl ?_
     refine TA_nil (by kernel_rfl) ?_
     obtain rfl := some_inj H
     exact again k3 (r_10.2, us_12) (Nat.lt_succ_self _) (w0 4) K3_
    refine TA_have 4 #[true, true, true, true, true, false, false, false, false] [(0, (.b 0 0)), (1, (sl tRelation l1)), (2, (intA val2)), (6, (.b 1 0)), (7, (.b 2 0)), (24, (.m [3] 0 box2_values.length tInt.k)), (27, (intA r_10.1))] [.box [(sl (tI .u8) r_10.2.b), (intA r_10.2.i), (intA r_10.2.h)], .box [(intA 0), .n], .box [(intA r_1.1), (.m [3] 0 box2_values.length tInt.k)], .row (flat tInt.enc box2_values), .dead] ?_ (fun hj1_3 => ?_)
    ·skip
     refine t1 5 (by kernel_rfl) rfl rfl (TOp_lit (nn := 1) (k := 1) sl33 zero3 rfl rfl rfl rfl (by decide) ?_)
     refine tmw 4 5 (by decide) (lb rfl) rfl rfl (lb rfl) rfl ?_
     exact tj hj0_3 rfl (w0 5)
    refine pa tb [0, 2, 3] 6 rfl (by kernel_rfl) rfl ?_
    refine TA_all [1, 4] (by kernel_rfl) (by decide) ⟨?_, ?_, trivial⟩
    ·skip
     refine ⟨_, rfl, rfl, (TOp_pure (pur_ld_b one33 rfl rfl rfl rfl) rfl ?_)⟩
     refine t1 4 (by kernel_rfl) rfl rfl (TOp_callS [0] (call_static ent83 rfl) (by decide) rfl rfl rfl rfl rfl rfl (m_spec_l1Below_x _ _ _ h_11) rfl rfl ?_)
     refine tae [(0, (.b 0 0)), (1, (sl tRelation l1)), (2, (intA val2)), (6, (.b 1 0)), (7, (.b 2 0)), (23, (.b 2 1)), (24, (.m [3] 0 box2_values.length tInt.k)), (25, (.b 0 0)), (26, (intA val2)), (27, (intA r_10.1))] rfl ?_
     refine TA_st (σ' := [.box [(sl (tI .u8) r_10.2.b), (intA r_10.2.i), (intA r_10.2.h)], .box [(intA 0), .n], .box [(intA r_1.1), (.m [3] 0 box2_values.length tInt.k)], .row (flat tInt.enc box2_values), .dead]) rfl ?_
     exact tj hj1_3 rfl (w0 5)
    ·skip
     refine ⟨_, rfl, rfl, (TOp_callS [0] (call_static ent83 rfl) (by decide) rfl rfl rfl rfl rfl rfl (m_spec_l1Below_x _ _ _ h_11) rfl rfl ?_)⟩
     refine tae [(0, (.b 0 0)), (1, (sl tRelation l1)), (2, (intA val2)), (6, (.b 1 0)), (7, (.b 2 0)), (23, (.b 2 1)), (25, (.b 0 0)), (26, (intA val2)), (27, (intA r_10.1))] rfl ?_
     refine TA_st (σ' := [.box [(sl (tI .u8) r_10.2.b), (intA r_10.2.i), (intA r_10.2.h)], .box [(intA 0), .n], .box [(intA r_1.1), (.m [3] 0 box2_values.length tInt.k)], .row (flat tInt.enc box2_values), .dead]) rfl ?_
     refine TA_all [1, 5] (by kernel_rfl) (by decide) ⟨?_, ?_, trivial⟩
     ·skip
      refine ⟨_, rfl, rfl, (TOp_pure (pur_ld_b one33 rfl rfl rfl rfl) rfl ?_)⟩
      exact tj hj1_3 rfl (w0 5)
     ·skip
      refine ⟨_, rfl, rfl, (TOp_lit (nn := 1) (k := 1) sl33 zero3 rfl rfl rfl rfl (by decide) ?_)⟩
      refine tmw 4 5 (by decide) (lb rfl) rfl rfl (lb rfl) rfl ?_
      refine tae [(0, (.b 0 0)), (1, (sl tRelation l1)), (2, (intA val2)), (6, (.b 1 0)), (7, (.b 2 0)), (23, (.b 2 1)), (28, (.m [4] 0 ([r_10.1] : (List Int)).length tInt.k))] rfl ?_
      refine TA_st (σ' := [.box [(sl (tI .u8) r_10.2.b), (intA r_10.2.i), (intA r_10.2.h)], .box [(intA 0), .n], .box [(intA r_1.1), (.m [3] 0 box2_values.length tInt.k)], .row (flat tInt.enc box2_values), .row (flat tInt.enc ([r_10.1] : (List Int))), .dead]) rfl ?_
      refine t1 1 (by kernel_rfl) rfl rfl (TOp_pure (pur_ld_b one33 rfl rfl rfl rfl) rfl ?_)
      exact tj hj0_3 rfl (w0 5)
   ·replace H := cond_f c_9 H
    refine T_exit ?_
    refine then_exit ?_
    refine then_exit ?_
    refine block_exit ?_
    obtain rfl := some_inj H
    obtain rfl := some_inj K3_
    exact joined (box0, box2_values) (w0 4) rfl
  ·rintro ⟨box0, box2_values⟩ rfl
   replace H := onS_l N3_
   refine sr ?_
   refine pv tb 1 rfl ?_
   refine TO_cons rfl (TOp_storeB sz60 rfl rfl rfl rfl rfl rfl rfl (by decide) (lb rfl) rfl ?_)
   refine TO_st (σ' := [.box [(sl (tI .u8) box0.b), (intA box0.i), (intA box0.h)], .box [(intA r_1.1), (.m [3] 0 box2_values.length tInt.k)], .box [(intA r_1.1), (.m [3] 0 box2_values.length tInt.k)], .row (flat tInt.enc box2_values)]) rfl ?_
   refine TO_nil ?_
   refine T_ret ?_
   obtain rfl := some_inj H
   exact end_pickX (.cellK rfl agg60 rfl (lb rfl) .nil) rfl [0, 3] (by decide) (lb rfl) rfl (lb rfl) rfl rfl rfl rfl rfl rfl

set_option maxHeartbeats 1000000 in
theorem m_spec_l4Db_x (u : Nat) (c0 : l1Cur) (r : (Database × l1Cur)) (H : m_spec_l4Db u c0 = some r) : FnS prg 110 [(.b 0 0)] [.box [(sl (tI .u8) c0.b), (intA c0.i), (intA c0.h)]] (.g [(.m [1] 0 r.1.relations.length tRelation.k), (.m [2] 0 r.1.facts.length tFact.k)]) [.box [(sl (tI .u8) r.2.b), (intA r.2.i), (intA r.2.h)], .row (flat tRelation.enc r.1.relations), .row (flat tFact.enc r.1.facts)] := by
  unfold m_spec_l4Db at H
  refine fnS_of_T Try.func110 rfl rfl (Nat.le_of_ble_eq_true rfl) ?_
  refine te [(0, (.b 0 0))] rfl ?_
  refine T_st (σ' := [.box [(sl (tI .u8) c0.b), (intA c0.i), (intA c0.h)]]) rfl ?_
  refine sr ?_
  refine TO_cons rfl (TOp_alloc zero32 rfl rfl ?_)
  refine TO_nil ?_
  refine sr ?_
  obtain ⟨r_1, h_2, H⟩ := bind_inv H
  refine pv tb 1 rfl ?_
  refine TO_cons rfl (TOp_callS [0] (call_static ent126 rfl) (by decide) rfl rfl rfl rfl rfl rfl (m_spec_l2Sigs_x _ _ h_2) rfl rfl ?_)
  refine toe [(0, (.b 0 0)), (2, (.b 1 0)), (6, (.b 0 0)), (7, (.m [2] 0 r_1.1.length tRelation.k))] rfl ?_
  refine TO_st (σ' := [.box [(sl (tI .u8) r_1.2.b), (intA r_1.2.i), (intA r_1.2.h)], .box [.n, .n], .row (flat tRelation.enc r_1.1)]) rfl ?_
  refine Tp rfl rfl (pur_build bld32 rfl rfl) rfl ?_
  refine TO_cons rfl (TOp_alloc zero32 rfl rfl ?_)
  refine TO_cons rfl (TOp_storeB sz32 rfl rfl rfl rfl rfl rfl rfl (by decide) (lb rfl) rfl ?_)
  refine TO_st (σ' := [.box [(sl (tI .u8) r_1.2.b), (intA r_1.2.i), (intA r_1.2.h)], .box [.n, .n], .row (flat tRelation.enc r_1.1), .box [(.m [2] 0 r_1.1.length tRelation.k), .n]]) rfl ?_
  refine TO_nil ?_
  refine sr ?_
  refine pv tb 1 rfl ?_
  refine TO_cons rfl (TOp_lit (nn := 4) (k := 1) sl33 zero3 rfl rfl rfl rfl (by decide) ?_)
  refine TO_st (σ' := [.box [(sl (tI .u8) r_1.2.b), (intA r_1.2.i), (intA r_1.2.h)], .box [.n, .n], .row (flat tRelation.enc r_1.1), .box [(.m [2] 0 r_1.1.length tRelation.k), .n], .row (flat tInt.enc ([2, 2, 3, 3] : (List Int)))]) rfl ?_
  refine TO_frz1 4 (E' := [(0, (.b 0 0)), (2, (.b 1 0)), (3, (.b 3 0)), (9, (.b 0 0)), (10, (sl tInt ([2, 2, 3, 3] : (List Int))))]) rfl rfl (lb rfl) ⟨(.keep rfl), (.keep rfl), (.keep rfl), (.keep rfl), fz1E, trivial⟩ ?_
  refine TO_st (σ' := [.box [(sl (tI .u8) r_1.2.b), (intA r_1.2.i), (intA r_1.2.h)], .box [.n, .n], .row (flat tRelation.enc r_1.1), .box [(.m [2] 0 r_1.1.length tRelation.k), .n], .dead]) rfl ?_
  obtain ⟨r_3, h_4, H⟩ := bind_inv H
  refine TO_cons rfl (TOp_callS [0] (call_static ent88 rfl) (by decide) rfl rfl rfl rfl rfl rfl (m_spec_l1PickInt_x _ _ _ h_4) rfl rfl ?_)
  refine toe [(0, (.b 0 0)), (2, (.b 1 0)), (3, (.b 3 0)), (9, (.b 0 0)), (10, (sl tInt ([2, 2, 3, 3] : (List Int)))), (11, (intA r_3.1))] rfl ?_
  refine TO_st (σ' := [.box [(sl (tI .u8) r_3.2.b), (intA r_3.2.i), (intA r_3.2.h)], .box [.n, .n], .row (flat tRelation.enc r_1.1), .box [(.m [2] 0 r_1.1.length tRelation.k), .n], .dead]) rfl ?_
  refine pv tb 1 rfl ?_
  refine TO_nil ?_
  refine T_seq ?_
  refine sr ?_
  obtain ⟨r_5, h_6, H⟩ := bind_inv H
  refine pv tb 1 rfl ?_
  refine TO_cons rfl (TOp_callS [0] (call_static ent83 rfl) (by decide) rfl rfl rfl rfl rfl rfl (m_spec_l1Below_x _ _ _ h_6) rfl rfl ?_)
  refine toe [(0, (.b 0 0)), (2, (.b 1 0)), (3, (.b 3 0)), (4, (intA r_3.1)), (12, (.b 0 0)), (13, (intA r_5.1))] rfl ?_
  refine TO_st (σ' := [.box [(sl (tI .u8) r_5.2.b), (intA r_5.2.i), (intA r_5.2.h)], .box [.n, .n], .row (flat tRelation.enc r_1.1), .box [(.m [2] 0 r_1.1.length tRelation.k), .n], .dead]) rfl ?_
  refine pv tb 2 rfl ?_
  refine TO_nil ?_
  refine T_row0 ?_
  refine T_boxle (xs := [(.m [2] 0 r_1.1.length tRelation.k), .n]) (ys := [(.m [2] 0 r_1.1.length tRelation.k), (.m [5] 0 ([] : (List Fact)).length tFact.k)]) 3 rfl (leCons (leR rfl) (leCons leM leNil)) ?_
  refine T_st (σ' := [.box [(sl (tI .u8) r_5.2.b), (intA r_5.2.i), (intA r_5.2.h)], .box [.n, .n], .row (flat tRelation.enc r_1.1), .box [(.m [2] 0 r_1.1.length tRelation.k), (.m [5] 0 ([] : (List Fact)).length tFact.k)], .dead, .row (flat tFact.enc ([] : (List Fact)))]) rfl ?_
  obtain ⟨O7_, L7_, N7_⟩ := bind_inv H
  clear H
  obtain ⟨B7_, hb7, L7_⟩ := gen_whileF L7_
  refine T_block ?_
  refine T_loopX (fun k => fun (⟨n5, box0, box3_relations, box3_facts⟩ : Int × l1Cur × (List Relation) × (List Fact)) => whileF B7_ k (n5, box0, box3_relations, box3_facts) = some O7_) (fun (⟨n5, box0, box3_relations, box3_facts⟩ : Int × l1Cur × (List Relation) × (List Fact)) => [(0, (.b 0 0)), (2, (.b 1 0)), (3, (.b 3 0)), (4, (intA r_3.1)), (5, (intA n5))]) (fun (⟨n5, box0, box3_relations, box3_facts⟩ : Int × l1Cur × (List Relation) × (List Fact)) => [.box [(sl (tI .u8) box0.b), (intA box0.i), (intA box0.h)], .box [.n, .n], .row (flat tRelation.enc box3_relations), .box [(.m [2] 0 box3_relations.length tRelation.k), (.m [5] 0 box3_facts.length tFact.k)], .dead, .row (flat tFact.enc box3_facts)]) u ((w64 (2 + r_5.1)), r_5.2, r_1.1, ([] : (List Fact))) (w0 6) L7_ ?_
  rintro _ ⟨n5, box0, box3_relations, box3_facts⟩ L7_
  obtain ⟨k7, rfl, C7_, H, K7_⟩ := while_step L7_
  rw [hb7] at H
  refine T_seq ?_
  refine sr ?_
  refine pv tb 2 rfl ?_
  refine TO_nil ?_
  refine T_cond (t := decide (0 < n5)) rfl (fun c_8 => ?_) (fun c_8 => ?_)
  ·replace H := cond_t c_8 H
   refine T_skip ?_
   refine T_seq ?_
   refine T_block ?_
   obtain ⟨r_9, h_10, H⟩ := bind_inv H
   obtain ⟨r_11, h_12, H⟩ := bind_inv H
   refine T_pad ?_
   refine T_pad ?_
   refine T_pad ?_
   refine T_pad ?_
   refine T_pad ?_
   refine T_regionP 0 mixed rfl ?_
   refine TA_have 5 #[true, true, true, true, true, true, false, false, false, false, false] [(0, (.b 0 0)), (2, (.b 1 0)), (3, (.b 3 0)), (4, (intA r_3.1)), (5, (intA n5)), (20, (.g [(sl tRelation box3_relations), (sl tFact box3_facts)])), (25, (.g [(intA r_9.1.relation), (sl tInt r_9.1.values)]))] [.box [(sl (tI .u8) r_9.2.b), (intA r_9.2.i), (intA r_9.2.h)], .box [.n, .n], .dead, .box [(sl tRelation box3_relations), (sl tFact box3_facts)], .dead, .dead, .dead, .dead, .dead, .dead, .dead] ?_ (fun hj0_6 => ?_)
   ·skip
    refine t1 6 (by kernel_rfl) rfl rfl (TOp_callO (call_static ent127 rfl) rfl (m_spec_InsertFact_own u _ _ _ h_12) rfl rfl rfl ?_)
    refine tae [(0, (.b 0 0)), (2, (.b 1 0)), (3, (.b 3 0)), (4, (intA r_3.1)), (5, (intA n5)), (20, (.g [(sl tRelation box3_relations), (sl tFact box3_facts)])), (25, (.g [(intA r_9.1.relation), (sl tInt r_9.1.values)])), (26, (.t [(.g [(.m [11] 0 r_11.1.relations.length tRelation.k), (.m [12] 0 r_11.1.facts.length tFact.k)]), (boolA r_11.2)]))] rfl ?_
    refine TA_st (σ' := [.box [(sl (tI .u8) r_9.2.b), (intA r_9.2.i), (intA r_9.2.h)], .box [.n, .n], .dead, .box [(sl tRelation box3_relations), (sl tFact box3_facts)], .dead, .dead, .dead, .dead, .dead, .dead, .dead, .row (flat tRelation.enc r_11.1.relations), .row (flat tFact.enc r_11.1.facts)]) rfl ?_
    refine tmw 9 11 (by decide) (lb rfl) rfl rfl (lb rfl) rfl ?_
    refine tmw 10 12 (by decide) (lb rfl) rfl rfl (lb rfl) rfl ?_
    refine pa tb [7, 8, 9] 1 rfl (by kernel_rfl) rfl ?_
    refine t1 10 (by kernel_rfl) rfl rfl (TOp_storeB sz32 rfl rfl rfl rfl rfl rfl rfl (by decide) (lb rfl) rfl ?_)
    refine TA_st (σ' := [.box [(sl (tI .u8) r_9.2.b), (intA r_9.2.i), (intA r_9.2.h)], .box [.n, .n], .dead, .box [(.m [9] 0 r_11.1.relations.length tRelation.k), (.m [10] 0 r_11.1.facts.length tFact.k)], .dead, .dead, .dead, .dead, .dead, .row (flat tRelation.enc r_11.1.relations), .row (flat tFact.enc r_11.1.facts), .dead, .dead]) rfl ?_
    refine TA_ghost (E' := [(0, (.b 0 0)), (2, (.b 1 0)), (3, (.b 3 0)), (4, (intA r_3.1)), (5, (intA n5))]) (σ' := [.box [(sl (tI .u8) r_9.2.b), (intA r_9.2.i), (intA r_9.2.h)], .box [.n, .n], .dead, .box [(.m [6] 0 r_11.1.relations.length tRelation.k), (.m [10] 0 r_11.1.facts.length tFact.k)], .dead, .dead, .row (flat tRelation.enc r_11.1.relations), .dead, .dead, .dead, .row (flat tFact.enc r_11.1.facts), .dead, .dead]) (Ghost.move 6 9 (by decide) (lb rfl) rfl rfl (lb rfl) (Ghost.weak (WeakL.to 13 (lb rfl) rfl rfl rfl rfl ⟨leR rfl, leR rfl, leR rfl, leR rfl, leR rfl, trivial⟩))) ?_
    refine TA_ghost (E' := [(0, (.b 0 0)), (2, (.b 1 0)), (3, (.b 3 0)), (4, (intA r_3.1)), (5, (intA n5))]) (σ' := [.box [(sl (tI .u8) r_9.2.b), (intA r_9.2.i), (intA r_9.2.h)], .box [.n, .n], .dead, .box [(.m [6] 0 r_11.1.relations.length tRelation.k), (.m [7] 0 r_11.1.facts.length tFact.k)], .dead, .dead, .row (flat tRelation.enc r_11.1.relations), .row (flat tFact.enc r_11.1.facts), .dead, .dead, .dead, .dead, .dead]) (Ghost.move 7 10 (by decide) (lb rfl) rfl rfl (lb rfl) (Ghost.weak (WeakL.to 13 (lb rfl) rfl rfl rfl rfl ⟨leR rfl, leR rfl, leR rfl, leR rfl, leR rfl, trivial⟩))) ?_
    refine TA_nil (by kernel_rfl) ?_
    refine T_move' 2 6 (by decide) (lb rfl) rfl rfl (lb rfl) ?_
    refine te [(0, (.b 0 0)), (2, (.b 1 0)), (3, (.b 3 0)), (4, (intA r_3.1)), (5, (intA n5))] rfl ?_
    refine T_st (σ' := [.box [(sl (tI .u8) r_9.2.b), (intA r_9.2.i), (intA r_9.2.h)], .box [.n, .n], .row (flat tRelation.enc r_11.1.relations), .box [(.m [2] 0 r_11.1.relations.length tRelation.k), (.m [7] 0 r_11.1.facts.length tFact.k)], .dead, .dead, .dead, .row (flat tFact.enc r_11.1.facts), .dead, .dead, .dead, .dead, .dead]) rfl ?_
    refine T_move' 5 7 (by decide) (lb rfl) rfl rfl (lb rfl) ?_
    refine te [(0, (.b 0 0)), (2, (.b 1 0)), (3, (.b 3 0)), (4, (intA r_3.1)), (5, (intA n5))] rfl ?_
    refine T_st (σ' := [.box [(sl (tI .u8) r_9.2.b), (intA r_9.2.i), (intA r_9.2.h)], .box [.n, .n], .row (flat tRelation.enc r_11.1.relations), .box [(.m [2] 0 r_11.1.relations.length tRelation.k), (.m [5] 0 r_11.1.facts.length tFact.k)], .dead, .row (flat tFact.enc r_11.1.facts), .dead, .dead, .dead, .dead, .dead, .dead, .dead]) rfl ?_
    refine T_region ?_
    refine pv tb 3 rfl ?_
    refine TO_nil ?_
    obtain rfl := some_inj H
    exact again k7 ((w64 (n5 - 1)), r_9.2, r_11.1.relations, r_11.1.facts) (Nat.lt_succ_self _) (w0 6) K7_
   refine TA_have 6 #[true, true, true, true, true, false, false, false, false, false, false] [(0, (.b 0 0)), (2, (.b 1 0)), (3, (.b 3 0)), (4, (intA r_3.1)), (5, (intA n5)), (20, (.g [(sl tRelation box3_relations), (.m [5] 0 box3_facts.length tFact.k)])), (21, (.b 0 0)), (23, (sl tRelation box3_relations)), (24, (intA r_3.1))] [.box [(sl (tI .u8) box0.b), (intA box0.i), (intA box0.h)], .box [.n, .n], .dead, .box [(sl tRelation box3_relations), (.m [5] 0 box3_facts.length tFact.k)], .dead, .row (flat tFact.enc box3_facts), .dead, .dead, .dead, .dead, .dead] ?_ (fun hj1_6 => ?_)
   ·skip
    refine t1 5 (by kernel_rfl) rfl rfl (TOp_callS [0] (call_static ent128 rfl) (by decide) rfl rfl rfl rfl rfl rfl (m_spec_l3Fact_x u _ _ _ _ h_10) rfl rfl ?_)
    refine tae [(0, (.b 0 0)), (2, (.b 1 0)), (3, (.b 3 0)), (4, (intA r_3.1)), (5, (intA n5)), (20, (.g [(sl tRelation box3_relations), (.m [5] 0 box3_facts.length tFact.k)])), (21, (.b 0 0)), (23, (sl tRelation box3_relations)), (24, (intA r_3.1)), (25, (.g [(intA r_9.1.relation), (.m [11] 0 r_9.1.values.length tInt.k)]))] rfl ?_
    refine TA_st (σ' := [.box [(sl (tI .u8) r_9.2.b), (intA r_9.2.i), (intA r_9.2.h)], .box [.n, .n], .dead, .box [(sl tRelation box3_relations), (.m [5] 0 box3_facts.length tFact.k)], .dead, .row (flat tFact.enc box3_facts), .dead, .dead, .dead, .dead, .dead, .row (flat tInt.enc r_9.1.values)]) rfl ?_
    refine tmw 8 11 (by decide) (lb rfl) rfl rfl (lb rfl) rfl ?_
    refine TA_ghost (E' := [(0, (.b 0 0)), (2, (.b 1 0)), (3, (.b 3 0)), (4, (intA r_3.1)), (5, (intA n5)), (20, (.g [(sl tRelation box3_relations), (.m [5] 0 box3_facts.length tFact.k)])), (21, (.b 0 0)), (23, (sl tRelation box3_relations)), (24, (intA r_3.1)), (25, (.g [(intA r_9.1.relation), (.m [8] 0 r_9.1.values.length tInt.k)]))]) (σ' := [.box [(sl (tI .u8) r_9.2.b), (intA r_9.2.i), (intA r_9.2.h)], .box [.n, .n], .dead, .box [(sl tRelation box3_relations), (.m [5] 0 box3_facts.length tFact.k)], .dead, .row (flat tFact.enc box3_facts), .dead, .dead, .row (flat tInt.enc r_9.1.values), .dead, .dead, .dead]) (Ghost.weak (WeakL.to 12 (lb rfl) rfl rfl rfl rfl ⟨leR rfl, leR rfl, leR rfl, leR rfl, leR rfl, leR rfl, leR rfl, leR rfl, leR rfl, leR rfl, trivial⟩)) ?_
    refine TA_frzB 5 (E' := [(0, (.b 0 0)), (2, (.b 1 0)), (3, (.b 3 0)), (4, (intA r_3.1)), (5, (intA n5)), (20, (.g [(sl tRelation box3_relations), (sl tFact box3_facts)])), (21, (.b 0 0)), (23, (sl tRelation box3_relations)), (24, (intA r_3.1)), (25, (.g [(intA r_9.1.relation), (.m [8] 0 r_9.1.values.length tInt.k)]))]) (σ' := [.box [(sl (tI .u8) r_9.2.b), (intA r_9.2.i), (intA r_9.2.h)], .box [.n, .n], .dead, .box [(sl tRelation box3_relations), (sl tFact box3_facts)], .dead, .dead, .dead, .dead, .row (flat tInt.enc r_9.1.values), .dead, .dead, .dead]) rfl (lb rfl) ?_ ?_ ?_
    ·exact ⟨(.keep rfl), (.keep rfl), (.keep rfl), (.keep rfl), (.keep rfl), (fz1G (fzC (.keep rfl) (fzC fz1E fzN))), (.keep rfl), (.keep rfl), (.keep rfl), (.keep rfl), trivial⟩
    ·exact ⟨(fzK rfl), (fzK rfl), trivial, (fzC (.keep rfl) (fzC fz1E fzN)), trivial, trivial, trivial, trivial, rfl, trivial, trivial, trivial, trivial⟩
    refine TA_ghost (E' := [(0, (.b 0 0)), (2, (.b 1 0)), (3, (.b 3 0)), (4, (intA r_3.1)), (5, (intA n5)), (20, (.g [(sl tRelation box3_relations), (sl tFact box3_facts)])), (21, (.b 0 0)), (23, (sl tRelation box3_relations)), (24, (intA r_3.1)), (25, (.g [(intA r_9.1.relation), (.m [8] 0 r_9.1.values.length tInt.k)]))]) (σ' := [.box [(sl (tI .u8) r_9.2.b), (intA r_9.2.i), (intA r_9.2.h)], .box [.n, .n], .dead, .box [(sl tRelation box3_relations), (sl tFact box3_facts)], .dead, .dead, .dead, .dead, .row (flat tInt.enc r_9.1.values), .dead, .dead, .dead]) (Ghost.weak (WeakL.to 12 (lb rfl) rfl rfl rfl rfl ⟨leR rfl, leR rfl, leR rfl, leR rfl, leR rfl, leR rfl, leR rfl, leR rfl, leR rfl, leR rfl, trivial⟩)) ?_
    refine TA_frz1 8 (E' := [(0, (.b 0 0)), (2, (.b 1 0)), (3, (.b 3 0)), (4, (intA r_3.1)), (5, (intA n5)), (20, (.g [(sl tRelation box3_relations), (sl tFact box3_facts)])), (21, (.b 0 0)), (23, (sl tRelation box3_relations)), (24, (intA r_3.1)), (25, (.g [(intA r_9.1.relation), (sl tInt r_9.1.values)]))]) rfl rfl (lb rfl) ?_ ?_
    ·exact ⟨(.keep rfl), (.keep rfl), (.keep rfl), (.keep rfl), (.keep rfl), (.keep rfl), (.keep rfl), (.keep rfl), (.keep rfl), (fz1G (fzC (.keep rfl) (fzC fz1E fzN))), trivial⟩
    refine TA_st (σ' := [.box [(sl (tI .u8) r_9.2.b), (intA r_9.2.i), (intA r_9.2.h)], .box [.n, .n], .dead, .box [(sl tRelation box3_relations), (sl tFact box3_facts)], .dead, .dead, .dead, .dead, .dead, .dead, .dead, .dead]) rfl ?_
    exact tj hj0_6 rfl (w0 11)
   refine pa tb [1, 2, 4] 8 rfl (by kernel_rfl) rfl ?_
   refine TA_all [0, 3] (by kernel_rfl) (by decide) ⟨?_, ?_, trivial⟩
   ·skip
    refine ⟨_, rfl, rfl, (TOp_pure (pur_ldK_b agg32 rfl rfl (lb rfl) rfl) rfl ?_)⟩
    refine t1 3 (by kernel_rfl) rfl rfl (TOp_pure (pur_ld_b one29 rfl rfl rfl rfl) rfl ?_)
    refine TA_ghost (E' := [(0, (.b 0 0)), (2, (.b 1 0)), (3, (.b 3 0)), (4, (intA r_3.1)), (5, (intA n5)), (20, (.g [(.m [2] 0 box3_relations.length tRelation.k), (.m [5] 0 box3_facts.length tFact.k)])), (21, (.b 0 0)), (22, (.b 3 0)), (23, (.m [2] 0 box3_relations.length tRelation.k)), (24, (intA r_3.1))]) (σ' := [.box [(sl (tI .u8) box0.b), (intA box0.i), (intA box0.h)], .box [.n, .n], .row (flat tRelation.enc box3_relations), .box [(.m [2] 0 box3_relations.length tRelation.k), (.m [5] 0 box3_facts.length tFact.k)], .dead, .row (flat tFact.enc box3_facts), .dead, .dead, .dead, .dead, .dead]) (Ghost.weak (WeakL.to 11 (lb rfl) rfl rfl rfl rfl ⟨leR rfl, leR rfl, leR rfl, leR rfl, leR rfl, leR rfl, leR rfl, leR rfl, leR rfl, leR rfl, trivial⟩)) ?_
    refine TA_frzB 2 (E' := [(0, (.b 0 0)), (2, (.b 1 0)), (3, (.b 3 0)), (4, (intA r_3.1)), (5, (intA n5)), (20, (.g [(sl tRelation box3_relations), (.m [5] 0 box3_facts.length tFact.k)])), (21, (.b 0 0)), (22, (.b 3 0)), (23, (sl tRelation box3_relations)), (24, (intA r_3.1))]) (σ' := [.box [(sl (tI .u8) box0.b), (intA box0.i), (intA box0.h)], .box [.n, .n], .dead, .box [(sl tRelation box3_relations), (.m [5] 0 box3_facts.length tFact.k)], .dead, .row (flat tFact.enc box3_facts), .dead, .dead, .dead, .dead, .dead]) rfl (lb rfl) ?_ ?_ ?_
    ·exact ⟨(.keep rfl), (.keep rfl), (.keep rfl), (.keep rfl), (.keep rfl), (fz1G (fzC fz1E (fzC (.keep rfl) fzN))), (.keep rfl), (.keep rfl), fz1E, (.keep rfl), trivial⟩
    ·exact ⟨(fzK rfl), (fzK rfl), trivial, (fzC fz1E (fzC (.keep rfl) fzN)), trivial, rfl, trivial, trivial, trivial, trivial, trivial, trivial⟩
    exact tj hj1_6 rfl (w0 11)
   ·skip
    refine ⟨_, rfl, rfl, (TOp_pure (pur_ld_b one29 rfl rfl rfl rfl) rfl ?_)⟩
    refine TA_ghost (E' := [(0, (.b 0 0)), (2, (.b 1 0)), (3, (.b 3 0)), (4, (intA r_3.1)), (5, (intA n5)), (21, (.b 0 0)), (22, (.b 3 0)), (23, (.m [2] 0 box3_relations.length tRelation.k)), (24, (intA r_3.1))]) (σ' := [.box [(sl (tI .u8) box0.b), (intA box0.i), (intA box0.h)], .box [.n, .n], .row (flat tRelation.enc box3_relations), .box [(.m [2] 0 box3_relations.length tRelation.k), (.m [5] 0 box3_facts.length tFact.k)], .dead, .row (flat tFact.enc box3_facts), .dead, .dead, .dead, .dead, .dead]) (Ghost.weak (WeakL.to 11 (lb rfl) rfl rfl rfl rfl ⟨leR rfl, leR rfl, leR rfl, leR rfl, leR rfl, leR rfl, leR rfl, leR rfl, leR rfl, trivial⟩)) ?_
    refine TA_frzB 2 (E' := [(0, (.b 0 0)), (2, (.b 1 0)), (3, (.b 3 0)), (4, (intA r_3.1)), (5, (intA n5)), (21, (.b 0 0)), (22, (.b 3 0)), (23, (sl tRelation box3_relations)), (24, (intA r_3.1))]) (σ' := [.box [(sl (tI .u8) box0.b), (intA box0.i), (intA box0.h)], .box [.n, .n], .dead, .box [(sl tRelation box3_relations), (.m [5] 0 box3_facts.length tFact.k)], .dead, .row (flat tFact.enc box3_facts), .dead, .dead, .dead, .dead, .dead]) rfl (lb rfl) ?_ ?_ ?_
    ·exact ⟨(.keep rfl), (.keep rfl), (.keep rfl), (.keep rfl), (.keep rfl), (.keep rfl), (.keep rfl), fz1E, (.keep rfl), trivial⟩
    ·exact ⟨(fzK rfl), (fzK rfl), trivial, (fzC fz1E (fzC (.keep rfl) fzN)), trivial, rfl, trivial, trivial, trivial, trivial, trivial, trivial⟩
    refine TA_all [0, 5] (by kernel_rfl) (by decide) ⟨?_, ?_, trivial⟩
    ·skip
     refine ⟨_, rfl, rfl, (TOp_pure (pur_ldK_b agg32 rfl rfl (lb rfl) rfl) rfl ?_)⟩
     exact tj hj1_6 rfl (w0 11)
    ·skip
     refine ⟨_, rfl, rfl, (TOp_callS [0] (call_static ent128 rfl) (by decide) rfl rfl rfl rfl rfl rfl (m_spec_l3Fact_x u _ _ _ _ h_10) rfl rfl ?_)⟩
     refine tae [(0, (.b 0 0)), (2, (.b 1 0)), (3, (.b 3 0)), (4, (intA r_3.1)), (5, (intA n5)), (21, (.b 0 0)), (22, (.b 3 0)), (23, (sl tRelation box3_relations)), (24, (intA r_3.1)), (25, (.g [(intA r_9.1.relation), (.m [11] 0 r_9.1.values.length tInt.k)]))] rfl ?_
     refine TA_st (σ' := [.box [(sl (tI .u8) r_9.2.b), (intA r_9.2.i), (intA r_9.2.h)], .box [.n, .n], .dead, .box [(sl tRelation box3_relations), (.m [5] 0 box3_facts.length tFact.k)], .dead, .row (flat tFact.enc box3_facts), .dead, .dead, .dead, .dead, .dead, .row (flat tInt.enc r_9.1.values)]) rfl ?_
     refine tmw 8 11 (by decide) (lb rfl) rfl rfl (lb rfl) rfl ?_
     refine t1 0 (by kernel_rfl) rfl rfl (TOp_pure (pur_ldK_b agg32 rfl rfl (lb rfl) rfl) rfl ?_)
     refine TA_ghost (E' := [(0, (.b 0 0)), (2, (.b 1 0)), (3, (.b 3 0)), (4, (intA r_3.1)), (5, (intA n5)), (20, (.g [(sl tRelation box3_relations), (.m [5] 0 box3_facts.length tFact.k)])), (21, (.b 0 0)), (22, (.b 3 0)), (23, (sl tRelation box3_relations)), (24, (intA r_3.1)), (25, (.g [(intA r_9.1.relation), (.m [8] 0 r_9.1.values.length tInt.k)]))]) (σ' := [.box [(sl (tI .u8) r_9.2.b), (intA r_9.2.i), (intA r_9.2.h)], .box [.n, .n], .dead, .box [(sl tRelation box3_relations), (.m [5] 0 box3_facts.length tFact.k)], .dead, .row (flat tFact.enc box3_facts), .dead, .dead, .row (flat tInt.enc r_9.1.values), .dead, .dead, .dead]) (Ghost.weak (WeakL.to 12 (lb rfl) rfl rfl rfl rfl ⟨leR rfl, leR rfl, leR rfl, leR rfl, leR rfl, leR rfl, leR rfl, leR rfl, leR rfl, leR rfl, leR rfl, trivial⟩)) ?_
     refine TA_frzB 5 (E' := [(0, (.b 0 0)), (2, (.b 1 0)), (3, (.b 3 0)), (4, (intA r_3.1)), (5, (intA n5)), (20, (.g [(sl tRelation box3_relations), (sl tFact box3_facts)])), (21, (.b 0 0)), (22, (.b 3 0)), (23, (sl tRelation box3_relations)), (24, (intA r_3.1)), (25, (.g [(intA r_9.1.relation), (.m [8] 0 r_9.1.values.length tInt.k)]))]) (σ' := [.box [(sl (tI .u8) r_9.2.b), (intA r_9.2.i), (intA r_9.2.h)], .box [.n, .n], .dead, .box [(sl tRelation box3_relations), (sl tFact box3_facts)], .dead, .dead, .dead, .dead, .row (flat tInt.enc r_9.1.values), .dead, .dead, .dead]) rfl (lb rfl) ?_ ?_ ?_
     ·exact ⟨(.keep rfl), (.keep rfl), (.keep rfl), (.keep rfl), (.keep rfl), (fz1G (fzC (.keep rfl) (fzC fz1E fzN))), (.keep rfl), (.keep rfl), (.keep rfl), (.keep rfl), (.keep rfl), trivial⟩
     ·exact ⟨(fzK rfl), (fzK rfl), trivial, (fzC (.keep rfl) (fzC fz1E fzN)), trivial, trivial, trivial, trivial, rfl, trivial, trivial, trivial, trivial⟩
     refine TA_ghost (E' := [(0, (.b 0 0)), (2, (.b 1 0)), (3, (.b 3 0)), (4, (intA r_3.1)), (5, (intA n5)), (20, (.g [(sl tRelation box3_relations), (sl tFact box3_facts)])), (21, (.b 0 0)), (22, (.b 3 0)), (23, (sl tRelation box3_relations)), (24, (intA r_3.1)), (25, (.g [(intA r_9.1.relation), (.m [8] 0 r_9.1.values.length tInt.k)]))]) (σ' := [.box [(sl (tI .u8) r_9.2.b), (intA r_9.2.i), (intA r_9.2.h)], .box [.n, .n], .dead, .box [(sl tRelation box3_relations), (sl tFact box3_facts)], .dead, .dead, .dead, .dead, .row (flat tInt.enc r_9.1.values), .dead, .dead, .dead]) (Ghost.weak (WeakL.to 12 (lb rfl) rfl rfl rfl rfl ⟨leR rfl, leR rfl, leR rfl, leR rfl, leR rfl, leR rfl, leR rfl, leR rfl, leR rfl, leR rfl, leR rfl, trivial⟩)) ?_
     refine TA_frz1 8 (E' := [(0, (.b 0 0)), (2, (.b 1 0)), (3, (.b 3 0)), (4, (intA r_3.1)), (5, (intA n5)), (20, (.g [(sl tRelation box3_relations), (sl tFact box3_facts)])), (21, (.b 0 0)), (22, (.b 3 0)), (23, (sl tRelation box3_relations)), (24, (intA r_3.1)), (25, (.g [(intA r_9.1.relation), (sl tInt r_9.1.values)]))]) rfl rfl (lb rfl) ?_ ?_
     ·exact ⟨(.keep rfl), (.keep rfl), (.keep rfl), (.keep rfl), (.keep rfl), (.keep rfl), (.keep rfl), (.keep rfl), (.keep rfl), (.keep rfl), (fz1G (fzC (.keep rfl) (fzC fz1E fzN))), trivial⟩
     refine TA_st (σ' := [.box [(sl (tI .u8) r_9.2.b), (intA r_9.2.i), (intA r_9.2.h)], .box [.n, .n], .dead, .box [(sl tRelation box3_relations), (sl tFact box3_facts)], .dead, .dead, .dead, .dead, .dead, .dead, .dead, .dead]) rfl ?_
     exact tj hj0_6 rfl (w0 11)
  ·replace H := cond_f c_8 H
   refine T_exit ?_
   refine then_exit ?_
   refine then_exit ?_
   refine block_exit ?_
   obtain rfl := some_inj H
   obtain rfl := some_inj K7_
   replace H := onS_l N7_
   refine sr ?_
   refine pv tb 1 rfl ?_
   refine TO_cons rfl (TOp_storeB sz32 rfl rfl rfl rfl rfl rfl rfl (by decide) (lb rfl) rfl ?_)
   refine TO_st (σ' := [.box [(sl (tI .u8) box0.b), (intA box0.i), (intA box0.h)], .box [(.m [2] 0 box3_relations.length tRelation.k), (.m [5] 0 box3_facts.length tFact.k)], .row (flat tRelation.enc box3_relations), .box [(.m [2] 0 box3_relations.length tRelation.k), (.m [5] 0 box3_facts.length tFact.k)], .dead, .row (flat tFact.enc box3_facts)]) rfl ?_
   refine TO_nil ?_
   refine T_ret ?_
   obtain rfl := some_inj H
   exact end_pickX (.cellK rfl agg32 rfl (lb rfl) .nil) rfl [0, 2, 5] (by decide) (lb rfl) rfl (lb rfl) rfl rfl rfl rfl rfl rfl
end Go.Proofs.Ytlcpdlngbofgcaa

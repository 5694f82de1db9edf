import Derived.Test.YtlcpdlngbofgcaaM1
import Derived.Test.YtlcpdlngbofgcaaM2
import Derived.Test.YtlcpdlngbofgcaaM3
set_option linter.unusedVariables false
set_option linter.unusedSimpArgs false
set_option maxRecDepth 4000
namespace Go.Proofs.Ytlcpdlngbofgcaa
open Go Go.Proofs Go.Sep
set_option maxHeartbeats 1000000 in
theorem m_impl_columnOf_own (db0 : Database) (indices1 : (List Int)) (relation2 : Int) (column3 : Int) (r : (List Int)) (H : m_impl_columnOf db0 indices1 relation2 column3 = some r) : FnO prg 58 [(.g (tDatabase.enc db0)), (sl tInt indices1), (intA relation2), (intA column3)] (.m [0] 0 r.length tInt.k) [.row (flat tInt.own r)] := by
  unfold m_impl_columnOf at H
  refine fnO_of_T Try.func58 rfl rfl (Nat.le_of_ble_eq_true rfl) ?_
  refine te [(0, (.g (tDatabase.enc db0))), (1, (sl tInt indices1)), (2, (intA relation2)), (3, (intA column3))] rfl ?_
  refine sr ?_
  refine TO_cons rfl (TOp_box rfl (boxAll rfl) rfl rfl ?_)
  refine pv tb 1 rfl ?_
  refine TO_nil ?_
  refine sr ?_
  refine TO_cons rfl (TOp_lit (nn := 0) (k := 1) sl33 zero3 rfl rfl rfl rfl (by decide) ?_)
  refine TO_st (σ' := [.box [(sl tRelation db0.relations), (sl tFact db0.facts)], .row (flat tInt.enc ([] : (List Int)))]) rfl ?_
  refine pv tb 1 rfl ?_
  refine TO_nil ?_
  refine T_seq ?_
  refine sr ?_
  refine pv tb 1 rfl ?_
  refine Tp rfl rfl (pur_lenT (T := tInt) sl33 rfl rfl) rfl ?_
  refine pv tb 1 rfl ?_
  refine TO_nil ?_
  obtain ⟨O2_, L2_, N2_⟩ := bind_inv H
  clear H
  obtain ⟨B2_, hb2, L2_⟩ := gen_forS L2_
  refine T_block ?_
  refine T_loopX (fun k => fun (⟨t_1, out9⟩ : Nat × (List Int)) => k = indices1.length - t_1 ∧ forS B2_ (indices1.drop t_1) (t_1 : Int) out9 = some O2_) (fun (⟨t_1, out9⟩ : Nat × (List Int)) => [(2, (intA relation2)), (3, (intA column3)), (4, (.b 0 0)), (9, (.m [1] 0 out9.length tInt.k)), (13, (sl tInt indices1)), (14, (intA (indices1.length : Int))), (15, (intA (t_1 : Int)))]) (fun (⟨t_1, out9⟩ : Nat × (List Int)) => [.box [(sl tRelation db0.relations), (sl tFact db0.facts)], .row (flat tInt.enc out9)]) _ (0, ([] : (List Int))) (w0 2) ⟨rfl, L2_⟩ ?_
  rintro _ ⟨t_1, out9⟩ ⟨rfl, L2_⟩
  refine T_fact (len_sl (T := tInt) (.tmp 13) rfl) (fun hl2 => ?_)
  refine sr ?_
  refine pv tb 1 rfl ?_
  refine TO_nil ?_
  refine T_seq ?_
  refine T_cond (t := decide ((t_1 : Int) < (indices1.length : Int))) rfl (fun d2 => ?_) (fun d2 => ?_)
  ·replace d2 := of_decide_eq_true d2
   obtain ⟨x_t_1, hx_t_1⟩ : ∃ v, (indices1)[t_1]? = some v := ⟨_, List.getElem?_eq_getElem (by omega)⟩
   obtain ⟨C2_, H, K2_⟩ := forS_step L2_ hx_t_1
   rw [hb2] at H
   refine T_skip ?_
   refine T_seq ?_
   refine T_block ?_
   refine sr ?_
   refine Tp rfl rfl (pur_ixT (T := tInt) sl33 rfl rfl rfl hx_t_1 rfl) rfl ?_
   refine Tp rfl rfl (pur_ldT (T := tInt) (i := t_1) (off := 0) rfl one3 rfl rfl hx_t_1 rfl) rfl ?_
   refine pv tb 1 rfl ?_
   refine TO_nil ?_
   refine sr ?_
   obtain ⟨v_3, h_4, H⟩ := bind_inv H
   obtain ⟨n_5, hz_6, hv_7⟩ := getI_inv h_4
   refine pv tb 3 rfl ?_
   refine Tp rfl rfl (pur_ixT (T := tFact) sl30 rfl rfl hz_6 hv_7 rfl) rfl ?_
   refine pv tb 1 rfl ?_
   refine Tp rfl rfl (pur_ldT (T := tFact) (i := n_5) (off := 0) rfl one3 rfl rfl hv_7 rfl) rfl ?_
   refine pv tb 2 rfl ?_
   refine TO_nil ?_
   refine T_cond (t := decide (v_3.relation = relation2)) rfl (fun c_8 => ?_) (fun c_8 => ?_)
   ·replace H := cond_t c_8 H
    refine T_region ?_
    refine pv tb 4 rfl ?_
    refine Tp rfl rfl (pur_ixT (T := tFact) sl30 rfl rfl hz_6 hv_7 rfl) rfl ?_
    refine pv tb 1 rfl ?_
    refine Tp rfl rfl (pur_ldT (T := tFact) (i := n_5) (off := 1) rfl one33 rfl rfl hv_7 rfl) rfl ?_
    refine pv tb 1 rfl ?_
    refine toe [(2, (intA relation2)), (3, (intA column3)), (4, (.b 0 0)), (9, (.m [1] 0 out9.length tInt.k)), (13, (sl tInt indices1)), (14, (intA (indices1.length : Int))), (15, (intA (t_1 : Int))), (27, (.m [1] 0 out9.length tInt.k)), (33, (sl tInt v_3.values)), (34, (intA column3))] rfl ?_
    obtain ⟨v_9, h_10, H⟩ := bind_inv H
    obtain ⟨n_11, hz_12, hv_13⟩ := getI_inv h_10
    refine Tp rfl rfl (pur_ixT (T := tInt) sl33 rfl rfl hz_12 hv_13 rfl) rfl ?_
    refine Tp rfl rfl (pur_ldT (T := tInt) (i := n_11) (off := 0) rfl one3 rfl rfl hv_13 rfl) rfl ?_
    refine TO_cons rfl (TOp_lit (nn := 1) (k := 1) sl33 zero3 rfl rfl rfl rfl (by decide) ?_)
    refine TO_st (σ' := [.box [(sl tRelation db0.relations), (sl tFact db0.facts)], .row (flat tInt.enc out9), .row (flat tInt.enc ([v_9] : (List Int)))]) rfl ?_
    obtain ⟨us_14, h_15, H⟩ := bind_inv H
    refine TO_cons rfl (TOp_appZ (T := tInt) (f := tInt.enc) (xs := out9) (ys := ([v_9] : (List Int))) tInt.len sl33 zero3 rfl bytes3 (by decide) rfl rfl rfl rfl (src_mT (f := tInt.enc) tInt.len rfl rfl (flat_cell tInt _)) (flat_cell tInt _) h_15 (lb rfl) ?_)
    refine toe [(2, (intA relation2)), (3, (intA column3)), (4, (.b 0 0)), (13, (sl tInt indices1)), (14, (intA (indices1.length : Int))), (15, (intA (t_1 : Int))), (33, (sl tInt v_3.values)), (34, (intA column3)), (35, (.q (flat tInt.enc v_3.values) (n_11 * tInt.k))), (36, (intA v_9)), (37, (.m [2] 0 ([v_9] : (List Int)).length tInt.k)), (38, (.m [1] 0 us_14.length tInt.k))] rfl ?_
    refine TO_st (σ' := [.box [(sl tRelation db0.relations), (sl tFact db0.facts)], .row (flat tInt.enc us_14), .row (flat tInt.enc ([v_9] : (List Int))), .dead]) rfl ?_
    refine pv tb 1 rfl ?_
    refine TO_nil ?_
    refine T_region ?_
    refine Tp rfl rfl (pur_add rfl rfl rfl (fits64 (by omega) (by omega))) rfl ?_
    refine pv tb 1 rfl ?_
    refine TO_nil ?_
    obtain rfl := some_inj H
    exact again (indices1.length - (t_1 + 1)) (t_1 + 1, us_14) (by omega) (w0 2) ⟨rfl, K2_⟩
   ·replace H := cond_f c_8 H
    refine T_skip ?_
    refine T_region ?_
    refine Tp rfl rfl (pur_add rfl rfl rfl (fits64 (by omega) (by omega))) rfl ?_
    refine pv tb 1 rfl ?_
    refine TO_nil ?_
    obtain rfl := some_inj H
    exact again (indices1.length - (t_1 + 1)) (t_1 + 1, out9) (by omega) (w0 2) ⟨rfl, K2_⟩
  ·replace d2 := of_decide_eq_false d2
   obtain rfl := forS_end L2_ (by omega)
   refine T_exit ?_
   refine then_exit ?_
   refine then_exit ?_
   refine block_exit ?_
   replace H := N2_
   refine sr ?_
   refine pv tb 2 rfl ?_
   refine TO_nil ?_
   refine T_ret ?_
   obtain rfl := some_inj H
   exact end_pick (.tmp .nil) rfl [1] (by decide) rfl rfl rfl rfl rfl rfl
theorem m_impl_columnOf_ok (db0 : Database) (indices1 : (List Int)) (relation2 : Int) (column3 : Int) (r : (List Int)) (H : m_impl_columnOf db0 indices1 relation2 column3 = some r) : FnV prg 58 [(.g (tDatabase.enc db0)), (sl tInt indices1), (intA relation2), (intA column3)] (sl tInt r) := (m_impl_columnOf_own db0 indices1 relation2 column3 r H).frz (frzT (T := tInt) rfl)

set_option maxHeartbeats 1000000 in
theorem m_impl_columnRange_2_ok (repair0 : (List Int)) (fv1 : ((List Int) → Option Int)) (fv1_g : Nat) (fv1_c : List A) (fv1_E : EnT prg fv1_g) (fv1_l : looseL fv1_c = true) (fv1_m : firmL fv1_c = true ∧ fzL fv1_c = fv1_c) (fv1_H : ∀ (x0 : (List Int)) r, fv1 x0 = some r → FnV prg fv1_g ([(sl tInt x0)] ++ fv1_c) (intA r)) (fv2 : Database) (fv3 : Int) (fv4 : Int) (r : Int) (H : m_impl_columnRange_2 repair0 fv1 fv2 fv3 fv4 = some r) : FnV prg 100 [(sl tInt repair0), (.q [(.f fv1_g fv1_c)] 0), (.q [(sl tRelation fv2.relations), (sl tFact fv2.facts)] 0), (.q [(intA fv3)] 0), (.q [(intA fv4)] 0)] (intA r) := by
  unfold m_impl_columnRange_2 at H
  refine fnV_of_T Try.func100 rfl rfl (Nat.le_of_ble_eq_true rfl) ?_
  refine te [(0, (sl tInt repair0)), (1, (.q [(.f fv1_g fv1_c)] 0)), (2, (.q [(sl tRelation fv2.relations), (sl tFact fv2.facts)] 0)), (3, (.q [(intA fv3)] 0)), (4, (.q [(intA fv4)] 0))] rfl ?_
  refine sr ?_
  refine pv tb 1 rfl ?_
  refine TO_nil ?_
  obtain ⟨r_1, h_2, H⟩ := bind_inv H
  obtain ⟨r_3, h_4, H⟩ := bind_inv H
  refine T_cutX (fun (_ : Unit) => True) (fun _ => [(6, (intA r_3))]) (fun _ => []) ?_ ?_
  ·skip
   refine T_regionP 0 mixed rfl ?_
   refine pa tb [0, 1, 2, 3, 4] 3 rfl (by kernel_rfl) rfl ?_
   refine t1 5 (by kernel_rfl) rfl rfl (TOp_callV (call_static ent58 rfl) (m_impl_columnOf_ok _ _ _ _ _ h_2) rfl rfl rfl ?_)
   refine t1 6 (by kernel_rfl) rfl rfl (TOp_callV (call_closure fv1_E rfl rfl) (fv1_H _  _ h_4) (looseL_app rfl fv1_l) rfl rfl ?_)
   refine pa tb [7] 0 rfl (by kernel_rfl) rfl ?_
   exact TA_nil (by kernel_rfl) (joined () (w0 0) trivial)
  ·rintro _ _
   refine T_ret ?_
   obtain rfl := some_inj H
   refine end_ret (.tmp .nil) rfl rfl ⟨?_, rfl⟩
   rfl

set_option maxHeartbeats 1000000 in
theorem m_impl_columnRange_ok (u : Nat) (db0 : Database) (relation1 : Int) (column2 : Int) (nonEmpty3 : Bool) (aggregate4 : ((List Int) → Option Int)) (aggregate4_g : Nat) (aggregate4_c : List A) (aggregate4_E : EnT prg aggregate4_g) (aggregate4_l : looseL aggregate4_c = true) (aggregate4_m : firmL aggregate4_c = true ∧ fzL aggregate4_c = aggregate4_c) (aggregate4_H : ∀ (x0 : (List Int)) r, aggregate4 x0 = some r → FnV prg aggregate4_g ([(sl tInt x0)] ++ aggregate4_c) (intA r)) (r : (Int × Int × Bool)) (H : m_impl_columnRange u db0 relation1 column2 nonEmpty3 aggregate4 = some r) : FnV prg 71 [(.g (tDatabase.enc db0)), (intA relation1), (intA column2), (boolA nonEmpty3), (.f aggregate4_g aggregate4_c)] (.t [(intA r.1), (intA r.2.1), (boolA r.2.2)]) := by
  unfold m_impl_columnRange at H
  refine fnV_of_T Try.func71 rfl rfl (Nat.le_of_ble_eq_true rfl) ?_
  refine te [(0, (.g (tDatabase.enc db0))), (1, (intA relation1)), (2, (intA column2)), (3, (boolA nonEmpty3)), (4, (.f aggregate4_g aggregate4_c))] rfl ?_
  refine sr ?_
  refine TO_cons rfl (TOp_box rfl (boxAll rfl) rfl rfl ?_)
  refine TO_cons rfl (TOp_box rfl (boxAll rfl) rfl rfl ?_)
  refine TO_cons rfl (TOp_box rfl (boxAll rfl) rfl rfl ?_)
  refine TO_cons rfl (TOp_box rfl (boxAll rfl) rfl rfl ?_)
  refine pv tb 3 rfl ?_
  refine TO_nil ?_
  refine T_seq ?_
  obtain ⟨t29_1, J_1, H_2⟩ := bind_inv H
  refine T_cutX (fun x => t29_1 = x) (fun (t29_1 : Bool) => [(5, (.b 0 0)), (6, (.b 1 0)), (7, (.b 2 0)), (9, (.b 3 0)), (29, (boolA t29_1))]) (fun (t29_1 : Bool) => [.box [(sl tRelation db0.relations), (sl tFact db0.facts)], .box [(intA relation1)], .box [(intA column2)], .box [(.f aggregate4_g aggregate4_c)]]) ?_ ?_
  ·replace H := J_1
   refine T_region ?_
   obtain ⟨r_3, h_4, H⟩ := bind_inv H
   refine pv tb 3 rfl ?_
   refine TO_cons rfl (TOp_callV (call_static ent55 rfl) (m_impl_isColumn_ok _ _ _ _ h_4) rfl rfl rfl ?_)
   refine pv tb 2 rfl ?_
   refine TO_split (t := (!r_3)) 20 rfl (fun g_5 => ?_) (fun g_5 => ?_)
   ·replace H := cond_t g_5 H
    refine pv tb 9 rfl ?_
    refine TO_nil ?_
    exact joined true (wp 4 (lb rfl) rfl rfl rfl (by simp [boxesE, boxNames, namesL, A.names, looseL_names aggregate4_l]) rfl) (some_inj H).symm
   ·replace H := cond_f g_5 H
    refine pv tb 2 rfl ?_
    refine TO_split (t := nonEmpty3) 22 rfl (fun g_6 => ?_) (fun g_6 => ?_)
    ·replace H := cond_t g_6 H
     obtain ⟨r_7, h_8, H⟩ := bind_inv H
     refine pv tb 3 rfl ?_
     refine TO_on rfl rfl (by decide) rfl rfl (TOp_callB (call_static ent97 rfl) (frz_cons (frz_loose rfl) (frz_cons (frzOK_f (frz_cons (frzOK_b (xs := [(intA relation1)]) (ys := [(intA relation1)]) rfl rfl rfl) frz_nil).1 (frz_cons (frzOK_b (xs := [(intA relation1)]) (ys := [(intA relation1)]) rfl rfl rfl) frz_nil).2) frz_nil)).1 (frz_cons (frz_loose rfl) (frz_cons (frzOK_f (frz_cons (frzOK_b (xs := [(intA relation1)]) (ys := [(intA relation1)]) rfl rfl rfl) frz_nil).1 (frz_cons (frzOK_b (xs := [(intA relation1)]) (ys := [(intA relation1)]) rfl rfl rfl) frz_nil).2) frz_nil)).2 (m_slices_ContainsFunc_Simpl_Fact_impl_Fact_ok _ (fun x0 => m_impl_columnRange_1 x0 relation1) 98 [(.q [(intA relation1)] 0)] ent98 rfl ⟨rfl, rfl⟩ (fun x0 r h => m_impl_columnRange_1_ok x0 relation1 r h) _ h_8) rfl ?_)
     refine pv tb 3 rfl ?_
     refine TO_nil ?_
     exact joined (!r_7) (wp 4 (lb rfl) rfl rfl rfl (by simp [boxesE, boxNames, namesL, A.names, looseL_names aggregate4_l]) rfl) (some_inj H).symm
    ·replace H := cond_f g_6 H
     refine pv tb 7 rfl ?_
     refine TO_nil ?_
     exact joined false (wp 4 (lb rfl) rfl rfl rfl (by simp [boxesE, boxNames, namesL, A.names, looseL_names aggregate4_l]) rfl) (some_inj H).symm
  ·rintro _ rfl
   replace H := H_2
   refine T_cond (t := t29_1) rfl (fun c_9 => ?_) (fun c_9 => ?_)
   ·replace H := cond_t c_9 H
    refine sr ?_
    refine pv tb 3 rfl ?_
    refine TO_nil ?_
    refine T_ret ?_
    refine then_ret ?_
    obtain rfl := some_inj H
    refine end_ret (.tmp (.tmp (.tmp .nil))) rfl rfl ⟨?_, rfl⟩
    rfl
   ·replace H := cond_f c_9 H
    refine T_skip ?_
    refine sr ?_
    obtain ⟨r_10, h_11, H⟩ := bind_inv H
    refine pv tb 2 rfl ?_
    refine TO_cons rfl (TOp_callOG (call_static ent99 rfl) (frz_cons (frz_loose rfl) (frz_cons (frzOK_f (frz_cons (frzOK_b (xs := [(.f aggregate4_g aggregate4_c)]) (ys := [(.f aggregate4_g aggregate4_c)]) rfl (by simp [firmL, firm, aggregate4_m.1]) (by simp [fzL, fz, aggregate4_m.2])) (frz_cons (frzOK_b (xs := [(sl tRelation db0.relations), (sl tFact db0.facts)]) (ys := [(sl tRelation db0.relations), (sl tFact db0.facts)]) rfl rfl rfl) (frz_cons (frzOK_b (xs := [(intA relation1)]) (ys := [(intA relation1)]) rfl rfl rfl) (frz_cons (frzOK_b (xs := [(intA column2)]) (ys := [(intA column2)]) rfl rfl rfl) frz_nil)))).1 (frz_cons (frzOK_b (xs := [(.f aggregate4_g aggregate4_c)]) (ys := [(.f aggregate4_g aggregate4_c)]) rfl (by simp [firmL, firm, aggregate4_m.1]) (by simp [fzL, fz, aggregate4_m.2])) (frz_cons (frzOK_b (xs := [(sl tRelation db0.relations), (sl tFact db0.facts)]) (ys := [(sl tRelation db0.relations), (sl tFact db0.facts)]) rfl rfl rfl) (frz_cons (frzOK_b (xs := [(intA relation1)]) (ys := [(intA relation1)]) rfl rfl rfl) (frz_cons (frzOK_b (xs := [(intA column2)]) (ys := [(intA column2)]) rfl rfl rfl) frz_nil)))).2) frz_nil)).1 (frz_cons (frz_loose rfl) (frz_cons (frzOK_f (frz_cons (frzOK_b (xs := [(.f aggregate4_g aggregate4_c)]) (ys := [(.f aggregate4_g aggregate4_c)]) rfl (by simp [firmL, firm, aggregate4_m.1]) (by simp [fzL, fz, aggregate4_m.2])) (frz_cons (frzOK_b (xs := [(sl tRelation db0.relations), (sl tFact db0.facts)]) (ys := [(sl tRelation db0.relations), (sl tFact db0.facts)]) rfl rfl rfl) (frz_cons (frzOK_b (xs := [(intA relation1)]) (ys := [(intA relation1)]) rfl rfl rfl) (frz_cons (frzOK_b (xs := [(intA column2)]) (ys := [(intA column2)]) rfl rfl rfl) frz_nil)))).1 (frz_cons (frzOK_b (xs := [(.f aggregate4_g aggregate4_c)]) (ys := [(.f aggregate4_g aggregate4_c)]) rfl (by simp [firmL, firm, aggregate4_m.1]) (by simp [fzL, fz, aggregate4_m.2])) (frz_cons (frzOK_b (xs := [(sl tRelation db0.relations), (sl tFact db0.facts)]) (ys := [(sl tRelation db0.relations), (sl tFact db0.facts)]) rfl rfl rfl) (frz_cons (frzOK_b (xs := [(intA relation1)]) (ys := [(intA relation1)]) rfl rfl rfl) (frz_cons (frzOK_b (xs := [(intA column2)]) (ys := [(intA column2)]) rfl rfl rfl) frz_nil)))).2) frz_nil)).2 (m_impl_rangeOf_ok u _ (fun x0 => m_impl_columnRange_2 x0 aggregate4 db0 relation1 column2) 100 [(.q [(.f aggregate4_g aggregate4_c)] 0), (.q [(sl tRelation db0.relations), (sl tFact db0.facts)] 0), (.q [(intA relation1)] 0), (.q [(intA column2)] 0)] ent100 (by simp only [looseL, A.loose, Bool.true_and, Bool.and_true, Bool.and_self]) ⟨rfl, rfl⟩ (fun x0 r h => m_impl_columnRange_2_ok x0 aggregate4 aggregate4_g aggregate4_c aggregate4_E aggregate4_l aggregate4_m aggregate4_H db0 relation1 column2 r h) _ h_11) rfl (ownC_of ownSB_nil) rfl rfl rfl ?_)
    refine toe [(5, (.b 0 0)), (6, (.b 1 0)), (7, (.b 2 0)), (9, (.b 3 0)), (31, (.g (tDatabase.enc db0))), (32, (.f 100 [(.b 3 0), (.b 0 0), (.b 1 0), (.b 2 0)])), (33, (.t [(intA r_10.1), (intA r_10.2)]))] rfl ?_
    refine TO_st (σ' := [.box [(sl tRelation db0.relations), (sl tFact db0.facts)], .box [(intA relation1)], .box [(intA column2)], .box [(.f aggregate4_g aggregate4_c)]]) rfl ?_
    refine pv tb 5 rfl ?_
    refine TO_nil ?_
    refine sr ?_
    refine pv tb 5 rfl ?_
    refine TO_nil ?_
    refine T_ret ?_
    obtain rfl := some_inj H
    refine end_ret (.tmp (.tmp (.tmp .nil))) rfl rfl ⟨?_, rfl⟩
    rfl

set_option maxHeartbeats 1000000 in
theorem m_slices_Grow_Sint_int_n0_own (n1 : Int) (r : (List Int)) (H : m_slices_Grow_Sint_int_n0 n1 = some r) : FnO prg 123 [.n, (intA n1)] (.m [0] 0 r.length tInt.k) [.row (flat tInt.own r)] := by
  unfold m_slices_Grow_Sint_int_n0 at H
  refine fnO_of_T Try.func123 rfl rfl (Nat.le_of_ble_eq_true rfl) ?_
  refine te [(0, .n), (1, (intA n1))] rfl ?_
  refine sr ?_
  refine pv tb 1 rfl ?_
  refine TO_nil ?_
  refine T_seq ?_
  refine sr ?_
  refine pv tb 2 rfl ?_
  refine TO_nil ?_
  refine T_cond (t := decide (n1 < 0)) rfl (fun c_1 => ?_) (fun c_1 => ?_)
  ·replace H := cond_t c_1 H
   cases H
  ·replace H := cond_f c_1 H
   refine T_skip ?_
   refine T_seq ?_
   refine sr ?_
   refine pv tb 2 rfl ?_
   refine Tp rfl rfl (pur_cap_n sl33 rfl rfl) rfl ?_
   refine pv tb 1 rfl ?_
   refine Tp rfl rfl (pur_len_n sl33 rfl rfl) rfl ?_
   refine pv tb 3 rfl ?_
   refine TO_nil ?_
   refine sr ?_
   refine pv tb 2 rfl ?_
   refine TO_nil ?_
   refine T_cond (t := decide (0 < (w64 (n1 - (w64 (((0 : Nat) : Int) - ((0 : Nat) : Int))))))) rfl (fun c_2 => ?_) (fun c_2 => ?_)
   ·replace H := cond_t c_2 H
    refine T_region ?_
    refine pv tb 2 rfl ?_
    refine Tp rfl rfl (pur_cap_n sl33 rfl rfl) rfl ?_
    refine Tp rfl rfl (pur_cutN (lo := none) (hi := (some (.tmp 19))) sl33 rfl rfl ⟨_, rfl⟩ (by omega) (by omega) rfl) rfl ?_
    obtain ⟨us_3, h_4, H⟩ := bind_inv H
    refine pv tb 1 rfl ?_
    refine TO_cons rfl (TOp_appNZ (T := tInt) (z := (0 : Int)) rfl sl33 Try.underlying3 zero3 rfl bytes3 (by decide) rfl rfl rfl rfl h_4 ?_)
    refine TO_st (σ' := [.row (flat tInt.enc us_3)]) rfl ?_
    refine pv tb 1 rfl ?_
    refine Tp rfl rfl (pur_len_n sl33 rfl rfl) rfl ?_
    obtain ⟨ys_5, h_6, H⟩ := bind_inv H
    obtain ⟨i_7, j_8, hi_9, hj_10, hij_11, hjl_12, hys_13, _⟩ := cutI_inv h_6
    refine Tp rfl rfl (pur_cutM (lo := none) (hi := (some (.tmp 24))) sl33 rfl hi_9.symm ⟨_, congrArg (fun z => A.v (.int .i64 z)) hj_10⟩ hij_11 hjl_12 rfl) rfl ?_
    refine pv tb 1 rfl ?_
    refine TO_nil ?_
    refine te [(0, (.m [0] (i_7 * tInt.k) (j_8 - i_7) tInt.k))] rfl ?_
    refine sr ?_
    refine pv tb 2 rfl ?_
    refine TO_nil ?_
    refine T_env (E' := [(4, (.m [0] 0 ys_5.length tInt.k))]) ⟨(trunc_A (l := 0) (k := tInt.k) (by omega) hjl_12 hys_13), trivial⟩ ?_
    refine T_gh (Ghost.truncT (f := tInt.enc) (s := 0) (i := i_7) (j := j_8) (ys := ys_5) tInt.len rfl (by omega) hys_13 (by exact lb rfl)) ?_
    refine T_st (σ' := [.row (flat tInt.enc ys_5)]) rfl ?_
    refine T_ret ?_
    obtain rfl := some_inj H
    exact end_pick (.tmp .nil) rfl [0] (by decide) rfl rfl rfl rfl rfl rfl
   ·replace H := cond_f c_2 H
    refine T_skip ?_
    refine sr ?_
    refine pv tb 2 rfl ?_
    refine TO_nil ?_
    refine te [(4, .n)] rfl ?_
    refine T_row0 ?_
    refine T_envL (E' := [(4, (.m [0] 0 ([] : (List Int)).length tInt.k))]) ⟨leM, trivial⟩ ?_
    refine T_st (σ' := [.row (flat tInt.own ([] : (List Int)))]) rfl ?_
    refine T_ret ?_
    obtain rfl := some_inj H
    exact end_pick (.tmp .nil) rfl [0] (by decide) rfl rfl rfl rfl rfl rfl
theorem m_slices_Grow_Sint_int_n0_ok (n1 : Int) (r : (List Int)) (H : m_slices_Grow_Sint_int_n0 n1 = some r) : FnV prg 123 [.n, (intA n1)] (sl tInt r) := (m_slices_Grow_Sint_int_n0_own n1 r H).frz (frzT (T := tInt) rfl)

set_option maxHeartbeats 1000000 in
theorem m_slices_Concat_Sint_int_own (slices0 : (List (List Int))) (r : (List Int)) (H : m_slices_Concat_Sint_int slices0 = some r) : FnO prg 106 [(sl (tSl tInt) slices0)] (.m [0] 0 r.length tInt.k) [.row (flat tInt.own r)] := by
  unfold m_slices_Concat_Sint_int at H
  refine fnO_of_T Try.func106 rfl rfl (Nat.le_of_ble_eq_true rfl) ?_
  refine te [(0, (sl (tSl tInt) slices0))] rfl ?_
  refine sr ?_
  refine pv tb 1 rfl ?_
  refine TO_nil ?_
  refine sr ?_
  refine pv tb 1 rfl ?_
  refine TO_nil ?_
  refine T_seq ?_
  refine sr ?_
  refine pv tb 1 rfl ?_
  refine Tp rfl rfl (pur_lenT (T := (tSl tInt)) sl22 rfl rfl) rfl ?_
  refine pv tb 1 rfl ?_
  refine TO_nil ?_
  obtain ⟨O2_, L2_, N2_⟩ := bind_inv H
  clear H
  obtain ⟨B2_, hb2, L2_⟩ := gen_forS L2_
  refine T_block ?_
  refine T_loopX (fun k => fun (⟨t_1, size3⟩ : Nat × Int) => k = slices0.length - t_1 ∧ forS B2_ (slices0.drop t_1) (t_1 : Int) size3 = some O2_) (fun (⟨t_1, size3⟩ : Nat × Int) => [(0, (sl (tSl tInt) slices0)), (3, (intA size3)), (9, (sl (tSl tInt) slices0)), (10, (intA (slices0.length : Int))), (11, (intA (t_1 : Int)))]) (fun (⟨t_1, size3⟩ : Nat × Int) => []) _ (0, 0) (w0 0) ⟨rfl, L2_⟩ ?_
  rintro _ ⟨t_1, size3⟩ ⟨rfl, L2_⟩
  refine T_fact (len_sl (T := (tSl tInt)) (.tmp 0) rfl) (fun hl2 => ?_)
  refine sr ?_
  refine pv tb 1 rfl ?_
  refine TO_nil ?_
  refine T_seq ?_
  refine T_cond (t := decide ((t_1 : Int) < (slices0.length : Int))) rfl (fun d2 => ?_) (fun d2 => ?_)
  ·replace d2 := of_decide_eq_true d2
   obtain ⟨x_t_1, hx_t_1⟩ : ∃ v, (slices0)[t_1]? = some v := ⟨_, List.getElem?_eq_getElem (by omega)⟩
   obtain ⟨C2_, H, K2_⟩ := forS_step L2_ hx_t_1
   rw [hb2] at H
   refine T_skip ?_
   refine T_seq ?_
   refine T_block ?_
   refine sr ?_
   refine Tp rfl rfl (pur_ixT (T := (tSl tInt)) sl22 rfl rfl rfl hx_t_1 rfl) rfl ?_
   refine Tp rfl rfl (pur_ldT (T := (tSl tInt)) (i := t_1) (off := 0) rfl one33 rfl rfl hx_t_1 rfl) rfl ?_
   refine pv tb 1 rfl ?_
   refine TO_nil ?_
   refine sr ?_
   refine pv tb 2 rfl ?_
   refine Tp rfl rfl (pur_lenT (T := tInt) sl33 rfl rfl) rfl ?_
   refine pv tb 2 rfl ?_
   refine TO_nil ?_
   refine sr ?_
   refine pv tb 2 rfl ?_
   refine TO_nil ?_
   refine T_cond (t := decide ((w64 (size3 + (x_t_1.length : Int))) < 0)) rfl (fun c_3 => ?_) (fun c_3 => ?_)
   ·replace H := cond_t c_3 H
    cases H
   ·replace H := cond_f c_3 H
    refine T_skip ?_
    refine T_region ?_
    refine Tp rfl rfl (pur_add rfl rfl rfl (fits64 (by omega) (by omega))) rfl ?_
    refine pv tb 1 rfl ?_
    refine TO_nil ?_
    obtain rfl := some_inj H
    exact again (slices0.length - (t_1 + 1)) (t_1 + 1, (w64 (size3 + (x_t_1.length : Int)))) (by omega) (w0 0) ⟨rfl, K2_⟩
  ·replace d2 := of_decide_eq_false d2
   obtain rfl := forS_end L2_ (by omega)
   refine T_exit ?_
   refine then_exit ?_
   refine then_exit ?_
   refine block_exit ?_
   replace H := N2_
   refine sr ?_
   obtain ⟨r_4, h_5, H⟩ := bind_inv H
   refine pv tb 1 rfl ?_
   refine TO_cons rfl (TOp_callO (call_static ent123 rfl) rfl (m_slices_Grow_Sint_int_n0_own _ _ h_5) rfl rfl rfl ?_)
   refine toe [(0, (sl (tSl tInt) slices0)), (3, (intA size3)), (23, (intA size3)), (24, (.m [0] 0 r_4.length tInt.k))] rfl ?_
   refine TO_st (σ' := [.row (flat tInt.own r_4)]) rfl ?_
   refine pv tb 1 rfl ?_
   refine TO_nil ?_
   refine T_seq ?_
   refine sr ?_
   refine pv tb 1 rfl ?_
   refine Tp rfl rfl (pur_lenT (T := (tSl tInt)) sl22 rfl rfl) rfl ?_
   refine pv tb 1 rfl ?_
   refine TO_nil ?_
   obtain ⟨O7_, L7_, N7_⟩ := bind_inv H
   clear H
   obtain ⟨B7_, hb7, L7_⟩ := gen_forS L7_
   refine T_block ?_
   refine T_loopX (fun k => fun (⟨t_6, newslice6⟩ : Nat × (List Int)) => k = slices0.length - t_6 ∧ forS B7_ (slices0.drop t_6) (t_6 : Int) newslice6 = some O7_) (fun (⟨t_6, newslice6⟩ : Nat × (List Int)) => [(6, (.m [0] 0 newslice6.length tInt.k)), (25, (sl (tSl tInt) slices0)), (26, (intA (slices0.length : Int))), (27, (intA (t_6 : Int)))]) (fun (⟨t_6, newslice6⟩ : Nat × (List Int)) => [.row (flat tInt.own newslice6)]) _ (0, r_4) (w0 1) ⟨rfl, L7_⟩ ?_
   rintro _ ⟨t_6, newslice6⟩ ⟨rfl, L7_⟩
   refine T_fact (len_sl (T := (tSl tInt)) (.tmp 25) rfl) (fun hl7 => ?_)
   refine sr ?_
   refine pv tb 1 rfl ?_
   refine TO_nil ?_
   refine T_seq ?_
   refine T_cond (t := decide ((t_6 : Int) < (slices0.length : Int))) rfl (fun d7 => ?_) (fun d7 => ?_)
   ·replace d7 := of_decide_eq_true d7
    obtain ⟨x_t_6, hx_t_6⟩ : ∃ v, (slices0)[t_6]? = some v := ⟨_, List.getElem?_eq_getElem (by omega)⟩
    obtain ⟨C7_, H, K7_⟩ := forS_step L7_ hx_t_6
    rw [hb7] at H
    refine T_skip ?_
    refine T_seq ?_
    refine T_block ?_
    refine sr ?_
    refine Tp rfl rfl (pur_ixT (T := (tSl tInt)) sl22 rfl rfl rfl hx_t_6 rfl) rfl ?_
    refine Tp rfl rfl (pur_ldT (T := (tSl tInt)) (i := t_6) (off := 0) rfl one33 rfl rfl hx_t_6 rfl) rfl ?_
    refine pv tb 1 rfl ?_
    refine TO_nil ?_
    refine T_region ?_
    obtain ⟨us_8, h_9, H⟩ := bind_inv H
    refine pv tb 2 rfl ?_
    refine TO_cons rfl (TOp_appZ (T := tInt) (f := tInt.own) (xs := newslice6) (ys := x_t_6) tInt.lenO sl33 zero3 rfl bytes3 (by decide) rfl rfl rfl rfl (src_T (T := tInt) rfl) (flat_cell tInt _) h_9 (lb rfl) ?_)
    refine toe [(8, (sl tInt x_t_6)), (25, (sl (tSl tInt) slices0)), (26, (intA (slices0.length : Int))), (27, (intA (t_6 : Int))), (32, (sl tInt x_t_6)), (33, (.m [0] 0 us_8.length tInt.k))] rfl ?_
    refine TO_st (σ' := [.row (flat tInt.own us_8), .dead]) rfl ?_
    refine pv tb 1 rfl ?_
    refine TO_nil ?_
    refine T_region ?_
    refine Tp rfl rfl (pur_add rfl rfl rfl (fits64 (by omega) (by omega))) rfl ?_
    refine pv tb 1 rfl ?_
    refine TO_nil ?_
    obtain rfl := some_inj H
    exact again (slices0.length - (t_6 + 1)) (t_6 + 1, us_8) (by omega) (w0 1) ⟨rfl, K7_⟩
   ·replace d7 := of_decide_eq_false d7
    obtain rfl := forS_end L7_ (by omega)
    refine T_exit ?_
    refine then_exit ?_
    refine then_exit ?_
    refine block_exit ?_
    replace H := N7_
    refine sr ?_
    refine pv tb 2 rfl ?_
    refine TO_nil ?_
    refine T_ret ?_
    obtain rfl := some_inj H
    exact end_pick (.tmp .nil) rfl [0] (by decide) rfl rfl rfl rfl rfl rfl
theorem m_slices_Concat_Sint_int_ok (slices0 : (List (List Int))) (r : (List Int)) (H : m_slices_Concat_Sint_int slices0 = some r) : FnV prg 106 [(sl (tSl tInt) slices0)] (sl tInt r) := (m_slices_Concat_Sint_int_own slices0 r H).frz (frzT (T := tInt) rfl)

theorem m_slices_Sort_Sint_int_mut (s0 : List Int) (r : Unit × List Int) (H : m_slices_Sort_Sint_int s0 = some r) : FnM prg 107 [(.m [0] 0 s0.length tInt.k)] [flat tInt.own s0] (.tuple #[]) [flat tInt.own r.2] := by
  unfold m_slices_Sort_Sint_int at H
  split at H
  case isFalse => cases H
  rename_i h0
  cases H
  exact FnM.ofPut (by simp) (fun ad w e => by subst e; exact Any.slices_Sort_int_none shl189 ad 0 w) (fun b o cap w hH hb _ => Any.slices_Sort_int shl189 b o cap s0 w hH hb h0)


theorem m_slices_Compact_Sint_int_x (s0 : List Int) (r : List Int) (H : m_slices_Compact_Sint_int s0 = some r) : FnS prg 108 [(.m [0] 0 s0.length tInt.k)] [.row (flat tInt.enc s0)] (.m [0] 0 r.length tInt.k) [.row (flat tInt.enc r)] := by
  unfold m_slices_Compact_Sint_int at H
  split at H
  case isFalse => cases H
  rename_i h0
  cases H
  have hc := compact_comp1 s0
  have hl := comp1_le s0
  refine FnS.ofCut (rest := List.replicate (s0.length - (comp1 s0).length) 0) (by simp; omega) (fun ad w e => ?_) (fun b o cap w hH hb hcp => ?_)
  ·exact Calls.mono (Any.slices_Compact_int_empty shl20 ad 0 w) fun e w' h => ⟨⟨ad, h.1⟩, h.2⟩
  ·refine Calls.mono (Any.slices_Compact_int shl20 b o cap s0 w hH (by omega) hcp) fun e w' h => ?_
   rw [hc] at h
   obtain ⟨h1, q, h2⟩ := h
   exact ⟨h1, q, #[], by rw [grow_nil]; exact h2⟩


set_option maxHeartbeats 1000000 in
theorem m_impl_union_own (a0 : (List Int)) (b1 : (List Int)) (r : (List Int)) (H : m_impl_union a0 b1 = some r) : FnO prg 82 [(sl tInt a0), (sl tInt b1)] (.m [0] 0 r.length tInt.k) [.row (flat tInt.own r)] := by
  unfold m_impl_union at H
  refine fnO_of_T Try.func82 rfl rfl (Nat.le_of_ble_eq_true rfl) ?_
  refine te [(0, (sl tInt a0)), (1, (sl tInt b1))] rfl ?_
  refine sr ?_
  refine pv tb 1 rfl ?_
  refine TO_nil ?_
  refine sr ?_
  refine pv tb 2 rfl ?_
  refine TO_cons rfl (TOp_lit (nn := 2) (k := 1) sl22 zero33 rfl rfl rfl rfl (by decide) ?_)
  refine TO_st (σ' := [.row (flat (tSl tInt).enc ([a0, b1] : (List (List Int))))]) rfl ?_
  obtain ⟨r_1, h_2, H⟩ := bind_inv H
  refine TO_cons rfl (TOp_callOG (call_static ent106 rfl) (frz_cons (frzTE (T := (tSl tInt)) (xs := ([a0, b1] : (List (List Int)))) rfl) frz_nil).1 (frz_cons (frzTE (T := (tSl tInt)) (xs := ([a0, b1] : (List (List Int)))) rfl) frz_nil).2 (m_slices_Concat_Sint_int_own _ _ h_2) rfl (ownC_of (ownSB_cons (flat_ownR tInt _) ownSB_nil)) rfl rfl rfl ?_)
  refine toe [(0, (sl tInt a0)), (1, (sl tInt b1)), (6, (sl tInt a0)), (7, (sl tInt b1)), (8, (.m [0] 0 ([a0, b1] : (List (List Int))).length (tSl tInt).k)), (9, (.m [1] 0 r_1.length tInt.k))] rfl ?_
  refine TO_st (σ' := [.row (flat (tSl tInt).enc ([a0, b1] : (List (List Int)))), .row (flat tInt.own r_1)]) rfl ?_
  refine pv tb 1 rfl ?_
  refine TO_nil ?_
  refine sr ?_
  obtain ⟨r_3, h_4, H⟩ := bind_inv H
  refine pv tb 1 rfl ?_
  refine TO_cons rfl (TOp_callG (aa := [(.m [1] 0 r_1.length tInt.k)]) [[1]] (call_static ent107 rfl) rfl (.cons rfl rfl (by decide) .nil) rfl rfl (m_slices_Sort_Sint_int_mut _ _ h_4) rfl (fun hl_5 => ?_))
  obtain ⟨hq_6, hl_5⟩ := sameLens_T (T := tInt) hl_5
  refine TO_env (E' := [(5, (.m [1] 0 r_3.2.length tInt.k)), (10, (.m [1] 0 r_3.2.length tInt.k))]) ⟨(congrArg (fun q => A.m [1] 0 q tInt.k) hq_6.symm), (congrArg (fun q => A.m [1] 0 q tInt.k) hq_6.symm), trivial⟩ ?_
  refine TO_st (σ' := [.row (flat (tSl tInt).enc ([a0, b1] : (List (List Int)))), .row (flat tInt.own r_3.2)]) rfl ?_
  refine TO_nil ?_
  refine sr ?_
  obtain ⟨r_7, h_8, H⟩ := bind_inv H
  refine pv tb 1 rfl ?_
  refine TO_cons rfl (TOp_callS [1] (call_static ent108 rfl) (by decide) rfl rfl rfl rfl rfl rfl (m_slices_Compact_Sint_int_x _ _ h_8) rfl rfl ?_)
  refine toe [(13, (.m [1] 0 r_7.length tInt.k))] rfl ?_
  refine TO_st (σ' := [.row (flat (tSl tInt).enc ([a0, b1] : (List (List Int)))), .row (flat tInt.enc r_7)]) rfl ?_
  refine pv tb 1 rfl ?_
  refine TO_nil ?_
  refine T_ret ?_
  obtain rfl := some_inj H
  exact end_pick (.tmp .nil) rfl [1] (by decide) rfl rfl rfl rfl rfl rfl
theorem m_impl_union_ok (a0 : (List Int)) (b1 : (List Int)) (r : (List Int)) (H : m_impl_union a0 b1 = some r) : FnV prg 82 [(sl tInt a0), (sl tInt b1)] (sl tInt r) := (m_impl_union_own a0 b1 r H).frz (frzT (T := tInt) rfl)

set_option maxHeartbeats 1000000 in
theorem m_impl_DistinctRange_1_ok (values0 : (List Int)) (r : Int) (H : m_impl_DistinctRange_1 values0 = some r) : FnV prg 81 [(sl tInt values0)] (intA r) := by
  unfold m_impl_DistinctRange_1 at H
  refine fnV_of_T Try.func81 rfl rfl (Nat.le_of_ble_eq_true rfl) ?_
  refine te [(0, (sl tInt values0))] rfl ?_
  refine sr ?_
  refine pv tb 1 rfl ?_
  refine TO_nil ?_
  refine sr ?_
  obtain ⟨r_1, h_2, H⟩ := bind_inv H
  refine pv tb 1 rfl ?_
  refine TO_cons rfl (TOp_callV (CallOp.le (call_static ent82 rfl) (leCons (leR rfl) (leCons leN leNil))) (m_impl_union_ok _ _ _ h_2) rfl rfl rfl ?_)
  refine Tp rfl rfl (pur_lenT (T := tInt) sl33 rfl rfl) rfl ?_
  refine pv tb 1 rfl ?_
  refine TO_nil ?_
  refine T_ret ?_
  obtain rfl := some_inj H
  refine end_ret (.tmp .nil) rfl rfl ⟨?_, rfl⟩
  rfl

set_option maxHeartbeats 1000000 in
theorem m_impl_DistinctRange_ok (u : Nat) (db0 : Database) (relation1 : Int) (column2 : Int) (r : (Int × Int × Bool)) (H : m_impl_DistinctRange u db0 relation1 column2 = some r) : FnV prg 44 [(.g (tDatabase.enc db0)), (intA relation1), (intA column2)] (.t [(intA r.1), (intA r.2.1), (boolA r.2.2)]) := by
  unfold m_impl_DistinctRange at H
  refine fnV_of_T Try.func44 rfl rfl (Nat.le_of_ble_eq_true rfl) ?_
  refine te [(0, (.g (tDatabase.enc db0))), (1, (intA relation1)), (2, (intA column2))] rfl ?_
  refine sr ?_
  refine TO_cons rfl (TOp_box rfl (boxAll rfl) rfl rfl ?_)
  refine pv tb 3 rfl ?_
  refine TO_nil ?_
  refine sr ?_
  obtain ⟨r_1, h_2, H⟩ := bind_inv H
  refine pv tb 3 rfl ?_
  refine TO_cons rfl (TOp_callV (call_static ent71 rfl) (m_impl_columnRange_ok u _ _ _ _ (fun x0 => m_impl_DistinctRange_1 x0) 81 [] ent81 rfl ⟨rfl, rfl⟩ (fun x0 r h => m_impl_DistinctRange_1_ok x0  r h) _ h_2) rfl rfl rfl ?_)
  refine pv tb 6 rfl ?_
  refine TO_nil ?_
  refine T_ret ?_
  obtain rfl := some_inj H
  refine end_ret (.tmp (.tmp (.tmp .nil))) rfl rfl ⟨?_, rfl⟩
  rfl

set_option maxHeartbeats 1000000 in
theorem m_laws_FnExactDistinctRange_ok (u : Nat) (aDb0 : Database) (aRelation1 : Int) (aColumn2 : Int) (r : Bool) (H : m_laws_FnExactDistinctRange u aDb0 aRelation1 aColumn2 = some r) : FnV prg 12 [(.g (tDatabase.enc aDb0)), (intA aRelation1), (intA aColumn2)] (boolA r) := by
  unfold m_laws_FnExactDistinctRange at H
  refine fnV_of_T Try.func12 rfl rfl (Nat.le_of_ble_eq_true rfl) ?_
  refine te [(0, (.g (tDatabase.enc aDb0))), (1, (intA aRelation1)), (2, (intA aColumn2))] rfl ?_
  refine sr ?_
  refine TO_cons rfl (TOp_box rfl (boxAll rfl) rfl rfl ?_)
  refine pv tb 1 rfl ?_
  refine TO_nil ?_
  refine sr ?_
  refine pv tb 1 rfl ?_
  refine TO_nil ?_
  refine sr ?_
  obtain ⟨r_1, h_2, H⟩ := bind_inv H
  refine pv tb 2 rfl ?_
  refine TO_cons rfl (TOp_callV (call_static ent26 rfl) (m_laws_szDatabase_ok _ _ _ h_2) rfl rfl rfl ?_)
  refine pv tb 1 rfl ?_
  refine TO_nil ?_
  refine T_seq ?_
  refine sr ?_
  refine pv tb 2 rfl ?_
  refine TO_nil ?_
  refine T_cond (t := decide (r_1 < 0)) rfl (fun c_3 => ?_) (fun c_3 => ?_)
  ·replace H := cond_t c_3 H
   refine sr ?_
   refine pv tb 1 rfl ?_
   refine TO_nil ?_
   refine T_ret ?_
   refine then_ret ?_
   obtain rfl := some_inj H
   refine end_ret (.tmp .nil) rfl rfl ⟨?_, rfl⟩
   rfl
  ·replace H := cond_f c_3 H
   refine T_skip ?_
   refine sr ?_
   obtain ⟨r_4, h_5, H⟩ := bind_inv H
   refine pv tb 1 rfl ?_
   refine TO_cons rfl (TOp_callV (call_static ent27 rfl) (m_laws_toDatabase_ok _ _ h_5) rfl rfl rfl ?_)
   obtain ⟨r_6, h_7, H⟩ := bind_inv H
   refine pv tb 2 rfl ?_
   refine TO_cons rfl (TOp_callV (call_static ent43 rfl) (m_spec_DistinctRange_ok u _ _ _ _ h_7) rfl rfl rfl ?_)
   refine pv tb 7 rfl ?_
   refine TO_nil ?_
   refine te [(1, (intA aRelation1)), (2, (intA aColumn2)), (3, (.b 0 0)), (8, (intA r_6.1)), (9, (intA r_6.2.1)), (10, (boolA r_6.2.2))] rfl ?_
   refine sr ?_
   obtain ⟨r_8, h_9, H⟩ := bind_inv H
   refine pv tb 1 rfl ?_
   refine TO_cons rfl (TOp_callV (call_static ent27 rfl) (m_laws_toDatabase_ok _ _ h_9) rfl rfl rfl ?_)
   refine TO_cons rfl (TOp_alloc zero32 rfl rfl ?_)
   refine TO_cons rfl (TOp_storeB sz32 rfl rfl rfl rfl rfl rfl rfl (by decide) (lb rfl) rfl ?_)
   refine TO_st (σ' := [.box [(sl tRelation aDb0.relations), (sl tFact aDb0.facts)], .box [(sl tRelation r_8.relations), (sl tFact r_8.facts)]]) rfl ?_
   refine TO_nil ?_
   refine sr ?_
   obtain ⟨r_10, h_11, H⟩ := bind_inv H
   refine pv tb 3 rfl ?_
   refine TO_cons rfl (TOp_callV (call_static ent44 rfl) (m_impl_DistinctRange_ok u _ _ _ _ h_11) rfl rfl rfl ?_)
   refine pv tb 7 rfl ?_
   refine TO_nil ?_
   refine T_seq ?_
   refine T_cutX (fun x => ((decide (r_10.1 ≠ r_6.1)) || ((decide (r_10.2.1 ≠ r_6.2.1)) || (r_10.2.2 != r_6.2.2))) = x) (fun (t51_12 : Bool) => [(3, (.b 0 0)), (11, (.b 1 0)), (51, (boolA t51_12))]) (fun (t51_12 : Bool) => [.box [(sl tRelation aDb0.relations), (sl tFact aDb0.facts)], .box [(sl tRelation r_8.relations), (sl tFact r_8.facts)]]) ?_ ?_
   ·skip
    refine T_region ?_
    refine pv tb 4 rfl ?_
    refine TO_split (t := decide (r_10.1 ≠ r_6.1)) 42 rfl (fun g_14 => ?_) (fun g_14 => ?_)
    ·skip
     refine pv tb 9 rfl ?_
     refine TO_nil ?_
     exact joined true (w0 2) (by first | exact Eq.symm ((or_T g_14 rfl)))
    ·skip
     refine pv tb 5 rfl ?_
     refine TO_split (t := decide (r_10.2.1 ≠ r_6.2.1)) 47 rfl (fun g_15 => ?_) (fun g_15 => ?_)
     ·skip
      refine pv tb 4 rfl ?_
      refine TO_nil ?_
      exact joined true (w0 2) (by first | exact Eq.symm ((or_F g_14 (or_T g_15 rfl))))
     ·skip
      refine pv tb 2 rfl ?_
      refine TO_on rfl rfl (by decide) rfl rfl (TOp_pure (pur_neqB (by kernel_rfl) rfl rfl rfl) rfl ?_)
      refine pv tb 1 rfl ?_
      refine TO_nil ?_
      exact joined (r_10.2.2 != r_6.2.2) (w0 2) (by first | exact Eq.symm ((or_F g_14 (or_F g_15 rfl))))
   ·rintro _ rfl
    refine T_cond (t := ((decide (r_10.1 ≠ r_6.1)) || ((decide (r_10.2.1 ≠ r_6.2.1)) || (r_10.2.2 != r_6.2.2)))) rfl (fun c_16 => ?_) (fun c_16 => ?_)
    ·replace H := cond_t c_16 H
     refine sr ?_
     refine pv tb 1 rfl ?_
     refine TO_nil ?_
     refine T_ret ?_
     refine then_ret ?_
     obtain rfl := some_inj H
     refine end_ret (.tmp .nil) rfl rfl ⟨?_, rfl⟩
     rfl
    ·replace H := cond_f c_16 H
     refine T_skip ?_
     refine T_seq ?_
     obtain ⟨r_17, h_18, H⟩ := bind_inv H
     obtain ⟨r_19, h_20, H⟩ := bind_inv H
     refine T_cutX (fun (_ : Unit) => True) (fun _ => [(56, (boolA (!r_19)))]) (fun _ => [.box [(sl tRelation aDb0.relations), (sl tFact aDb0.facts)], .box [(sl tRelation r_8.relations), (sl tFact r_8.facts)]]) ?_ ?_
     ·skip
      refine T_regionP 2 mixed rfl ?_
      refine pa tb [0, 1] 3 rfl (by kernel_rfl) rfl ?_
      refine t1 2 (by kernel_rfl) rfl rfl (TOp_callV (call_static ent27 rfl) (m_laws_toDatabase_ok _ _ h_18) rfl rfl rfl ?_)
      refine t1 3 (by kernel_rfl) rfl rfl (TOp_callV (call_static ent29 rfl) (m_laws_eqDatabase_ok _ _ _ h_20) rfl rfl rfl ?_)
      refine pa tb [4] 0 rfl (by kernel_rfl) rfl ?_
      exact TA_nil (by kernel_rfl) (joined () (w0 2) trivial)
     ·rintro _ _
      refine T_cond (t := (!r_19)) rfl (fun c_21 => ?_) (fun c_21 => ?_)
      ·replace H := cond_t c_21 H
       refine sr ?_
       refine pv tb 1 rfl ?_
       refine TO_nil ?_
       refine T_ret ?_
       refine then_ret ?_
       obtain rfl := some_inj H
       refine end_ret (.tmp .nil) rfl rfl ⟨?_, rfl⟩
       rfl
      ·replace H := cond_f c_21 H
       refine T_skip ?_
       refine sr ?_
       refine pv tb 1 rfl ?_
       refine TO_nil ?_
       refine T_ret ?_
       obtain rfl := some_inj H
       refine end_ret (.tmp .nil) rfl rfl ⟨?_, rfl⟩
       rfl
end Go.Proofs.Ytlcpdlngbofgcaa

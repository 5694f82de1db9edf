/- Walks. -/
import Derived.Test.YtjdpolnakhmkmaaM1
import Derived.Test.YtjdpolnakhmkmaaM2
set_option linter.unusedVariables false
set_option linter.unusedSimpArgs false
set_option maxRecDepth 4000
namespace Go.Proofs.Ytjdpolnakhmkmaa
open Go Go.Proofs Go.Sep
set_option maxHeartbeats 1000000 in
/-- laws.toAtomS -/
theorem m_laws_toAtomS_own (a0 : (List Atom)) (r : (List Atom)) (H : m_laws_toAtomS a0 = some r) : FnO prg 86 [(sl tAtom a0)] (.m [0] 0 r.length tAtom.k) [.row (flat tAtom.own r)] := by
  unfold m_laws_toAtomS at H
  refine fnO_of_T Try.func86 rfl rfl (Nat.le_of_ble_eq_true rfl) ?_
  refine T_env (E' := [(0, (sl tAtom a0))]) ⟨rfl, trivial⟩ ?_
  refine sr ?_
  refine Tp rfl rfl (pur_assign rfl) rfl ?_
  refine TO_nil ?_
  refine T_env (E' := [(0, (sl tAtom a0))]) ⟨rfl, trivial⟩ ?_
  refine sr ?_
  refine Tp rfl rfl (pur_move rfl) rfl ?_
  refine Tp rfl rfl (pur_lenT (T := tAtom) sl22 rfl rfl) rfl ?_
  obtain ⟨us_1, h_2, H⟩ := bind_inv H
  refine TO_cons rfl (TOp_makeN (T := tAtom) (f := tAtom.own) (zs := [.int .i64 0, .slice none 0 0]) (z := (default : Atom)) tAtom.lenO (nilL_cons nilS (nilL_cons nilO nilL_nil)) rfl sl27 zero150 bytes150 rfl rfl rfl rfl h_2 ?_)
  refine TO_st (σ' := [.row (flat tAtom.own us_1)]) rfl ?_
  refine Tp rfl rfl (pur_assign rfl) rfl ?_
  refine TO_nil ?_
  refine T_env (E' := [(0, (sl tAtom a0)), (3, (.m [0] 0 us_1.length tAtom.k))]) ⟨rfl, rfl, trivial⟩ ?_
  refine T_seq ?_
  refine sr ?_
  refine Tp rfl rfl (pur_assign rfl) rfl ?_
  refine TO_nil ?_
  refine T_env (E' := [(0, (sl tAtom a0)), (3, (.m [0] 0 us_1.length tAtom.k)), (4, (intA 0))]) ⟨rfl, rfl, rfl, trivial⟩ ?_
  obtain ⟨O4_, L4_, N4_⟩ := bind_inv H
  clear H
  obtain ⟨B4_, hb4, L4_⟩ := gen_forS L4_
  refine T_block ?_
  refine T_loopX (fun k => fun (x_ : Nat × (List Atom)) => k = a0.length - x_.1 ∧ forS B4_ (a0.drop x_.1) (x_.1 : Int) x_.2 = some O4_) (fun (x_ : Nat × (List Atom)) => [(0, (sl tAtom a0)), (3, (.m [0] 0 x_.2.length tAtom.k)), (4, (intA (x_.1 : Int)))]) (fun (x_ : Nat × (List Atom)) => [.row (flat tAtom.own x_.2)]) _ (0, us_1) (wp 1 (lb rfl) rfl rfl rfl rfl ⟨rfl, rfl, rfl, trivial⟩) ⟨rfl, L4_⟩ ?_
  rintro _ ⟨i_3, out3⟩ ⟨rfl, L4_⟩
  refine T_env (E' := [(0, (sl tAtom a0)), (3, (.m [0] 0 out3.length tAtom.k)), (4, (intA (i_3 : Int)))]) ⟨rfl, rfl, rfl, trivial⟩ ?_
  refine T_st (σ' := [.row (flat tAtom.own out3)]) rfl ?_
  refine T_fact (len_sl (T := tAtom) (.tmp 0) rfl) (fun hl4 => ?_)
  refine T_seq ?_
  refine sr ?_
  refine Tp rfl rfl (pur_move rfl) rfl ?_
  refine Tp rfl rfl (pur_move rfl) rfl ?_
  refine Tp rfl rfl (pur_lenT (T := tAtom) sl22 rfl rfl) rfl ?_
  refine Tp rfl rfl (pur_lss rfl rfl rfl) rfl ?_
  refine TO_nil ?_
  refine T_env (E' := [(0, (sl tAtom a0)), (3, (.m [0] 0 out3.length tAtom.k)), (4, (intA (i_3 : Int))), (11, (boolA (decide ((i_3 : Int) < (a0.length : Int)))))]) ⟨rfl, rfl, rfl, rfl, trivial⟩ ?_
  refine T_cond (t := decide ((i_3 : Int) < (a0.length : Int))) rfl (fun d4 => ?_) (fun d4 => ?_)
  · replace d4 := of_decide_eq_true d4
    obtain ⟨x_i_3, hx_i_3⟩ : ∃ v, (a0)[i_3]? = some v := ⟨_, List.getElem?_eq_getElem (by omega)⟩
    obtain ⟨C4_, H, K4_⟩ := forS_step L4_ hx_i_3
    rw [hb4] at H
    refine T_skip ?_
    refine T_env (E' := [(0, (sl tAtom a0)), (3, (.m [0] 0 out3.length tAtom.k)), (4, (intA (i_3 : Int)))]) ⟨rfl, rfl, rfl, trivial⟩ ?_
    refine T_seq ?_
    refine T_block ?_
    refine T_region ?_
    refine Tp rfl rfl (pur_move rfl) rfl ?_
    refine Tp rfl rfl (pur_move rfl) rfl ?_
    refine Tp rfl rfl (pur_move rfl) rfl ?_
    refine Tp rfl rfl (pur_move rfl) rfl ?_
    refine Tp rfl rfl (pur_ixT (T := tAtom) sl22 rfl rfl rfl hx_i_3 rfl) rfl ?_
    refine Tp rfl rfl (pur_ldTK (T := tAtom) (i := i_3) (off := 0) rfl agg149 rfl rfl hx_i_3 (by decide) rfl) rfl ?_
    obtain ⟨r_5, h_6, H⟩ := bind_inv H
    refine TO_cons rfl (TOp_callO (call_static ent138 rfl) rfl (m_laws_toAtom_own _ _ h_6) rfl rfl rfl ?_)
    refine TO_env (E' := [(0, (sl tAtom a0)), (3, (.m [0] 0 out3.length tAtom.k)), (4, (intA (i_3 : Int))), (14, (.m [0] 0 out3.length tAtom.k)), (15, (intA (i_3 : Int))), (16, (sl tAtom a0)), (17, (intA (i_3 : Int))), (18, (.q (flat tAtom.enc a0) (i_3 * tAtom.k))), (19, (.g (tAtom.enc x_i_3))), (20, (.g [(intA r_5.relation), (.m [1] 0 r_5.terms.length tInt.k)]))]) ⟨rfl, rfl, rfl, rfl, rfl, rfl, rfl, rfl, rfl, rfl, trivial⟩ ?_
    refine TO_st (σ' := [.row (flat tAtom.own out3), .row (flat tInt.own r_5.terms)]) rfl ?_
    obtain ⟨v_7, h_8, H⟩ := bind_inv H
    obtain ⟨n_9, hz_10, hv_11⟩ := getI_inv h_8
    refine Tp rfl rfl (pur_ixM (T := tAtom) sl27 rfl rfl hz_10 hv_11 rfl) rfl ?_
    refine TO_boxify 0 rfl (lb rfl) ?_
    refine TO_cons rfl (TOp_setN (T := tAtom) (i := n_9) (off := 0) (xs := out3) (v := v_7) hz_10 sz150 (by decide) rfl rfl rfl rfl rfl hv_11 rfl rfl (lb rfl) rfl ?_)
    refine TO_env (E' := [(0, (sl tAtom a0)), (3, (.m [0] 0 out3.length tAtom.k)), (4, (intA (i_3 : Int))), (14, (.m [0] 0 out3.length tAtom.k)), (15, (intA (i_3 : Int))), (16, (sl tAtom a0)), (17, (intA (i_3 : Int))), (18, (.q (flat tAtom.enc a0) (i_3 * tAtom.k))), (19, (.g (tAtom.enc x_i_3)))]) ⟨rfl, rfl, rfl, rfl, rfl, rfl, rfl, rfl, rfl, trivial⟩ ?_
    refine TO_st (σ' := [.box (spl (flat tAtom.own out3) (n_9 * tAtom.k) [(intA r_5.relation), (.m [1] 0 r_5.terms.length tInt.k)]), .row (flat tInt.own r_5.terms)]) rfl ?_
    refine TO_absorbS (T := tAtom) (i := n_9) (xs := out3) (v := v_7) 0 1 1 rfl hv_11 rfl rfl rfl (by decide) tInt.pos (flat_len tInt.lenO _) (lb rfl) (lb rfl) rfl (nms_box (namesL_spl namesL_own rfl) (nms_row nms_nil)) ?_
    refine TO_st (σ' := [.box (spl (flat tAtom.own out3) (n_9 * tAtom.k) [(intA r_5.relation), .o tInt.k (flat tInt.own r_5.terms)]), .dead]) rfl ?_
    refine TO_rowifyS (T := tAtom) (i := n_9) (xs := out3) 0 r_5 hz_10 rfl hv_11 rfl (lb rfl) ?_
    refine TO_env (E' := [(0, (sl tAtom a0)), (3, (.m [0] 0 (out3.set ((i_3 : Int)).toNat r_5).length tAtom.k)), (4, (intA (i_3 : Int))), (14, (.m [0] 0 (out3.set ((i_3 : Int)).toNat r_5).length tAtom.k)), (15, (intA (i_3 : Int))), (16, (sl tAtom a0)), (17, (intA (i_3 : Int))), (18, (.q (flat tAtom.enc a0) (i_3 * tAtom.k))), (19, (.g (tAtom.enc x_i_3)))]) ⟨rfl, (congrArg (fun q => A.m [0] 0 q tAtom.k) (List.length_set ..).symm), rfl, (congrArg (fun q => A.m [0] 0 q tAtom.k) (List.length_set ..).symm), rfl, rfl, rfl, rfl, rfl, trivial⟩ ?_
    refine TO_st (σ' := [.row (flat tAtom.own (out3.set ((i_3 : Int)).toNat r_5)), .dead]) rfl ?_
    refine TO_nil ?_
    refine T_env (E' := [(0, (sl tAtom a0)), (3, (.m [0] 0 (out3.set ((i_3 : Int)).toNat r_5).length tAtom.k)), (4, (intA (i_3 : Int)))]) ⟨rfl, rfl, rfl, trivial⟩ ?_
    refine T_region ?_
    refine Tp rfl rfl (pur_move rfl) rfl ?_
    refine Tp rfl rfl (pur_add rfl rfl rfl (fits64 (by omega) (by omega))) rfl ?_
    refine Tp rfl rfl (pur_assign rfl) rfl ?_
    refine TO_nil ?_
    obtain rfl := some_inj H
    exact again (a0.length - (i_3 + 1)) (i_3 + 1, (out3.set ((i_3 : Int)).toNat r_5)) (by omega) (wp 1 (lb rfl) rfl rfl rfl rfl ⟨rfl, rfl, rfl, trivial⟩) ⟨rfl, K4_⟩
  · replace d4 := of_decide_eq_false d4
    obtain rfl := forS_end L4_ (by omega)
    refine T_exit ?_
    refine then_exit ?_
    refine then_exit ?_
    refine block_exit ?_
    replace H := N4_
    refine T_env (E' := [(3, (.m [0] 0 out3.length tAtom.k))]) ⟨rfl, trivial⟩ ?_
    refine sr ?_
    refine Tp rfl rfl (pur_move rfl) rfl ?_
    refine Tp rfl rfl (pur_assign rfl) rfl ?_
    refine TO_nil ?_
    refine T_env (E' := [(2, (.m [0] 0 out3.length tAtom.k))]) ⟨rfl, trivial⟩ ?_
    refine T_ret ?_
    obtain rfl := some_inj H
    exact end_pick (.tmp .nil) rfl [0] (by decide) rfl rfl rfl rfl rfl rfl
theorem m_laws_toAtomS_ok (a0 : (List Atom)) (r : (List Atom)) (H : m_laws_toAtomS a0 = some r) : FnV prg 86 [(sl tAtom a0)] (sl tAtom r) := (m_laws_toAtomS_own a0 r H).frz (frzT (T := tAtom) rfl)

set_option maxHeartbeats 1000000 in
/-- laws.toQuery -/
theorem m_laws_toQuery_own (a0 : Query) (r : Query) (H : m_laws_toQuery a0 = some r) : FnO prg 17 [(.g (tQuery.enc a0))] (.g [(intA r.variableCount), (.m [0] 0 r.atoms.length tAtom.k), (.m [1] 0 r.free.length tInt.k)]) [.row (flat tAtom.own r.atoms), .row (flat tInt.own r.free)] := by
  unfold m_laws_toQuery at H
  refine fnO_of_T Try.func17 rfl rfl (Nat.le_of_ble_eq_true rfl) ?_
  refine T_env (E' := [(0, (.g (tQuery.enc a0)))]) ⟨rfl, trivial⟩ ?_
  refine sr ?_
  refine TO_cons rfl (TOp_box rfl (boxAll rfl) rfl rfl ?_)
  refine TO_cons rfl (TOp_alloc zero29 rfl rfl ?_)
  refine TO_nil ?_
  refine T_env (E' := [(1, (.b 0 0)), (2, (.b 1 0))]) ⟨rfl, rfl, trivial⟩ ?_
  refine sr ?_
  refine TO_cons rfl (TOp_alloc zero29 rfl rfl ?_)
  refine TO_nil ?_
  refine T_env (E' := [(1, (.b 0 0)), (2, (.b 1 0)), (3, (.b 2 0))]) ⟨rfl, rfl, rfl, trivial⟩ ?_
  refine sr ?_
  refine Tp rfl rfl (pur_fa_b fld25_0 rfl rfl) rfl ?_
  refine Tp rfl rfl (pur_ld_b one3 rfl rfl rfl rfl) rfl ?_
  refine Tp rfl rfl (pur_fa_b fld29_0 rfl rfl) rfl ?_
  refine TO_cons rfl (TOp_storeB sz3 rfl rfl rfl rfl rfl rfl rfl (by decide) (lb rfl) rfl ?_)
  refine TO_st (σ' := [.box [(intA a0.variableCount), (sl tAtom a0.atoms), (sl tInt a0.free)], .box [(intA 0), .n, .n], .box [(intA a0.variableCount), .n, .n]]) rfl ?_
  refine TO_nil ?_
  refine T_env (E' := [(1, (.b 0 0)), (2, (.b 1 0)), (3, (.b 2 0))]) ⟨rfl, rfl, rfl, trivial⟩ ?_
  refine sr ?_
  refine Tp rfl rfl (pur_fa_b fld25_1 rfl rfl) rfl ?_
  refine Tp rfl rfl (pur_ld_b one22 rfl rfl rfl rfl) rfl ?_
  obtain ⟨r_1, h_2, H⟩ := bind_inv H
  refine TO_cons rfl (TOp_callO (call_static ent86 rfl) rfl (m_laws_toAtomS_own _ _ h_2) rfl rfl rfl ?_)
  refine TO_env (E' := [(1, (.b 0 0)), (2, (.b 1 0)), (3, (.b 2 0)), (7, (.b 0 1)), (8, (sl tAtom a0.atoms)), (9, (.m [3] 0 r_1.length tAtom.k))]) ⟨rfl, rfl, rfl, rfl, rfl, rfl, trivial⟩ ?_
  refine TO_st (σ' := [.box [(intA a0.variableCount), (sl tAtom a0.atoms), (sl tInt a0.free)], .box [(intA 0), .n, .n], .box [(intA a0.variableCount), .n, .n], .row (flat tAtom.own r_1)]) rfl ?_
  refine Tp rfl rfl (pur_fa_b fld29_1 rfl rfl) rfl ?_
  refine TO_cons rfl (TOp_storeB sz27 rfl rfl rfl rfl rfl rfl rfl (by decide) (lb rfl) rfl ?_)
  refine TO_st (σ' := [.box [(intA a0.variableCount), (sl tAtom a0.atoms), (sl tInt a0.free)], .box [(intA 0), .n, .n], .box [(intA a0.variableCount), (.m [3] 0 r_1.length tAtom.k), .n], .row (flat tAtom.own r_1)]) rfl ?_
  refine TO_nil ?_
  refine T_env (E' := [(1, (.b 0 0)), (2, (.b 1 0)), (3, (.b 2 0))]) ⟨rfl, rfl, rfl, trivial⟩ ?_
  refine sr ?_
  refine Tp rfl rfl (pur_fa_b fld25_2 rfl rfl) rfl ?_
  refine Tp rfl rfl (pur_ld_b one23 rfl rfl rfl rfl) rfl ?_
  obtain ⟨r_3, h_4, H⟩ := bind_inv H
  refine TO_cons rfl (TOp_callO (call_static ent18 rfl) rfl (m_laws_toIntS_own _ _ h_4) rfl rfl rfl ?_)
  refine TO_env (E' := [(1, (.b 0 0)), (2, (.b 1 0)), (3, (.b 2 0)), (11, (.b 0 2)), (12, (sl tInt a0.free)), (13, (.m [4] 0 r_3.length tInt.k))]) ⟨rfl, rfl, rfl, rfl, rfl, rfl, trivial⟩ ?_
  refine TO_st (σ' := [.box [(intA a0.variableCount), (sl tAtom a0.atoms), (sl tInt a0.free)], .box [(intA 0), .n, .n], .box [(intA a0.variableCount), (.m [3] 0 r_1.length tAtom.k), .n], .row (flat tAtom.own r_1), .row (flat tInt.own r_3)]) rfl ?_
  refine Tp rfl rfl (pur_fa_b fld29_2 rfl rfl) rfl ?_
  refine TO_cons rfl (TOp_storeB sz23 rfl rfl rfl rfl rfl rfl rfl (by decide) (lb rfl) rfl ?_)
  refine TO_st (σ' := [.box [(intA a0.variableCount), (sl tAtom a0.atoms), (sl tInt a0.free)], .box [(intA 0), .n, .n], .box [(intA a0.variableCount), (.m [3] 0 r_1.length tAtom.k), (.m [4] 0 r_3.length tInt.k)], .row (flat tAtom.own r_1), .row (flat tInt.own r_3)]) rfl ?_
  refine TO_nil ?_
  refine T_env (E' := [(2, (.b 1 0)), (3, (.b 2 0))]) ⟨rfl, rfl, trivial⟩ ?_
  refine sr ?_
  refine Tp rfl rfl (pur_ldK_b agg29 rfl rfl (lb rfl) rfl) rfl ?_
  refine TO_cons rfl (TOp_storeB sz29 rfl rfl rfl rfl rfl rfl rfl (by decide) (lb rfl) rfl ?_)
  refine TO_st (σ' := [.box [(intA a0.variableCount), (sl tAtom a0.atoms), (sl tInt a0.free)], .box [(intA a0.variableCount), (.m [3] 0 r_1.length tAtom.k), (.m [4] 0 r_3.length tInt.k)], .box [(intA a0.variableCount), (.m [3] 0 r_1.length tAtom.k), (.m [4] 0 r_3.length tInt.k)], .row (flat tAtom.own r_1), .row (flat tInt.own r_3)]) rfl ?_
  refine TO_nil ?_
  refine T_env (E' := [(2, (.b 1 0))]) ⟨rfl, trivial⟩ ?_
  refine T_ret ?_
  obtain rfl := some_inj H
  exact end_pick (.cellK rfl agg29 rfl (lb rfl) .nil) rfl [3, 4] (by decide) rfl rfl rfl rfl rfl rfl
theorem m_laws_toQuery_ok (a0 : Query) (r : Query) (H : m_laws_toQuery a0 = some r) : FnV prg 17 [(.g (tQuery.enc a0))] (.g (tQuery.enc r)) := (m_laws_toQuery_own a0 r H).frz (frzOK_g (frz_cons (frz_loose rfl) (frz_cons (frzT (T := tAtom) rfl) (frz_cons (frzT (T := tInt) rfl) frz_nil))).1 (frz_cons (frz_loose rfl) (frz_cons (frzT (T := tAtom) rfl) (frz_cons (frzT (T := tInt) rfl) frz_nil))).2)

set_option maxHeartbeats 1000000 in
/-- laws.toFact -/
theorem m_laws_toFact_own (a0 : Fact) (r : Fact) (H : m_laws_toFact a0 = some r) : FnO prg 55 [(.g (tFact.enc a0))] (.g [(intA r.relation), (.m [0] 0 r.values.length tInt.k)]) [.row (flat tInt.own r.values)] := by
  unfold m_laws_toFact at H
  refine fnO_of_T Try.func55 rfl rfl (Nat.le_of_ble_eq_true rfl) ?_
  refine T_env (E' := [(0, (.g (tFact.enc a0)))]) ⟨rfl, trivial⟩ ?_
  refine sr ?_
  refine TO_cons rfl (TOp_box rfl (boxAll rfl) rfl rfl ?_)
  refine TO_cons rfl (TOp_alloc zero65 rfl rfl ?_)
  refine TO_nil ?_
  refine T_env (E' := [(1, (.b 0 0)), (2, (.b 1 0))]) ⟨rfl, rfl, trivial⟩ ?_
  refine sr ?_
  refine TO_cons rfl (TOp_alloc zero65 rfl rfl ?_)
  refine TO_nil ?_
  refine T_env (E' := [(1, (.b 0 0)), (2, (.b 1 0)), (3, (.b 2 0))]) ⟨rfl, rfl, rfl, trivial⟩ ?_
  refine sr ?_
  refine Tp rfl rfl (pur_fa_b fld79_0 rfl rfl) rfl ?_
  refine Tp rfl rfl (pur_ld_b one3 rfl rfl rfl rfl) rfl ?_
  refine Tp rfl rfl (pur_fa_b fld65_0 rfl rfl) rfl ?_
  refine TO_cons rfl (TOp_storeB sz3 rfl rfl rfl rfl rfl rfl rfl (by decide) (lb rfl) rfl ?_)
  refine TO_st (σ' := [.box [(intA a0.relation), (sl tInt a0.values)], .box [(intA 0), .n], .box [(intA a0.relation), .n]]) rfl ?_
  refine TO_nil ?_
  refine T_env (E' := [(1, (.b 0 0)), (2, (.b 1 0)), (3, (.b 2 0))]) ⟨rfl, rfl, rfl, trivial⟩ ?_
  refine sr ?_
  refine Tp rfl rfl (pur_fa_b fld79_1 rfl rfl) rfl ?_
  refine Tp rfl rfl (pur_ld_b one23 rfl rfl rfl rfl) rfl ?_
  obtain ⟨r_1, h_2, H⟩ := bind_inv H
  refine TO_cons rfl (TOp_callO (call_static ent18 rfl) rfl (m_laws_toIntS_own _ _ h_2) rfl rfl rfl ?_)
  refine TO_env (E' := [(1, (.b 0 0)), (2, (.b 1 0)), (3, (.b 2 0)), (7, (.b 0 1)), (8, (sl tInt a0.values)), (9, (.m [3] 0 r_1.length tInt.k))]) ⟨rfl, rfl, rfl, rfl, rfl, rfl, trivial⟩ ?_
  refine TO_st (σ' := [.box [(intA a0.relation), (sl tInt a0.values)], .box [(intA 0), .n], .box [(intA a0.relation), .n], .row (flat tInt.own r_1)]) rfl ?_
  refine Tp rfl rfl (pur_fa_b fld65_1 rfl rfl) rfl ?_
  refine TO_cons rfl (TOp_storeB sz23 rfl rfl rfl rfl rfl rfl rfl (by decide) (lb rfl) rfl ?_)
  refine TO_st (σ' := [.box [(intA a0.relation), (sl tInt a0.values)], .box [(intA 0), .n], .box [(intA a0.relation), (.m [3] 0 r_1.length tInt.k)], .row (flat tInt.own r_1)]) rfl ?_
  refine TO_nil ?_
  refine T_env (E' := [(2, (.b 1 0)), (3, (.b 2 0))]) ⟨rfl, rfl, trivial⟩ ?_
  refine sr ?_
  refine Tp rfl rfl (pur_ldK_b agg65 rfl rfl (lb rfl) rfl) rfl ?_
  refine TO_cons rfl (TOp_storeB sz65 rfl rfl rfl rfl rfl rfl rfl (by decide) (lb rfl) rfl ?_)
  refine TO_st (σ' := [.box [(intA a0.relation), (sl tInt a0.values)], .box [(intA a0.relation), (.m [3] 0 r_1.length tInt.k)], .box [(intA a0.relation), (.m [3] 0 r_1.length tInt.k)], .row (flat tInt.own r_1)]) rfl ?_
  refine TO_nil ?_
  refine T_env (E' := [(2, (.b 1 0))]) ⟨rfl, trivial⟩ ?_
  refine T_ret ?_
  obtain rfl := some_inj H
  exact end_pick (.cellK rfl agg65 rfl (lb rfl) .nil) rfl [3] (by decide) rfl rfl rfl rfl rfl rfl
theorem m_laws_toFact_ok (a0 : Fact) (r : Fact) (H : m_laws_toFact a0 = some r) : FnV prg 55 [(.g (tFact.enc a0))] (.g (tFact.enc r)) := (m_laws_toFact_own a0 r H).frz (frzOK_g (frz_cons (frz_loose rfl) (frz_cons (frzT (T := tInt) rfl) frz_nil)).1 (frz_cons (frz_loose rfl) (frz_cons (frzT (T := tInt) rfl) frz_nil)).2)

set_option maxHeartbeats 1000000 in
/-- laws.toFactS -/
theorem m_laws_toFactS_own (a0 : (List Fact)) (r : (List Fact)) (H : m_laws_toFactS a0 = some r) : FnO prg 62 [(sl tFact a0)] (.m [0] 0 r.length tFact.k) [.row (flat tFact.own r)] := by
  unfold m_laws_toFactS at H
  refine fnO_of_T Try.func62 rfl rfl (Nat.le_of_ble_eq_true rfl) ?_
  refine T_env (E' := [(0, (sl tFact a0))]) ⟨rfl, trivial⟩ ?_
  refine sr ?_
  refine Tp rfl rfl (pur_assign rfl) rfl ?_
  refine TO_nil ?_
  refine T_env (E' := [(0, (sl tFact a0))]) ⟨rfl, trivial⟩ ?_
  refine sr ?_
  refine Tp rfl rfl (pur_move rfl) rfl ?_
  refine Tp rfl rfl (pur_lenT (T := tFact) sl40 rfl rfl) rfl ?_
  obtain ⟨us_1, h_2, H⟩ := bind_inv H
  refine TO_cons rfl (TOp_makeN (T := tFact) (f := tFact.own) (zs := [.int .i64 0, .slice none 0 0]) (z := (default : Fact)) tFact.lenO (nilL_cons nilS (nilL_cons nilO nilL_nil)) rfl sl46 zero65 bytes65 rfl rfl rfl rfl h_2 ?_)
  refine TO_st (σ' := [.row (flat tFact.own us_1)]) rfl ?_
  refine Tp rfl rfl (pur_assign rfl) rfl ?_
  refine TO_nil ?_
  refine T_env (E' := [(0, (sl tFact a0)), (3, (.m [0] 0 us_1.length tFact.k))]) ⟨rfl, rfl, trivial⟩ ?_
  refine T_seq ?_
  refine sr ?_
  refine Tp rfl rfl (pur_assign rfl) rfl ?_
  refine TO_nil ?_
  refine T_env (E' := [(0, (sl tFact a0)), (3, (.m [0] 0 us_1.length tFact.k)), (4, (intA 0))]) ⟨rfl, rfl, rfl, trivial⟩ ?_
  obtain ⟨O4_, L4_, N4_⟩ := bind_inv H
  clear H
  obtain ⟨B4_, hb4, L4_⟩ := gen_forS L4_
  refine T_block ?_
  refine T_loopX (fun k => fun (x_ : Nat × (List Fact)) => k = a0.length - x_.1 ∧ forS B4_ (a0.drop x_.1) (x_.1 : Int) x_.2 = some O4_) (fun (x_ : Nat × (List Fact)) => [(0, (sl tFact a0)), (3, (.m [0] 0 x_.2.length tFact.k)), (4, (intA (x_.1 : Int)))]) (fun (x_ : Nat × (List Fact)) => [.row (flat tFact.own x_.2)]) _ (0, us_1) (wp 1 (lb rfl) rfl rfl rfl rfl ⟨rfl, rfl, rfl, trivial⟩) ⟨rfl, L4_⟩ ?_
  rintro _ ⟨i_3, out3⟩ ⟨rfl, L4_⟩
  refine T_env (E' := [(0, (sl tFact a0)), (3, (.m [0] 0 out3.length tFact.k)), (4, (intA (i_3 : Int)))]) ⟨rfl, rfl, rfl, trivial⟩ ?_
  refine T_st (σ' := [.row (flat tFact.own out3)]) rfl ?_
  refine T_fact (len_sl (T := tFact) (.tmp 0) rfl) (fun hl4 => ?_)
  refine T_seq ?_
  refine sr ?_
  refine Tp rfl rfl (pur_move rfl) rfl ?_
  refine Tp rfl rfl (pur_move rfl) rfl ?_
  refine Tp rfl rfl (pur_lenT (T := tFact) sl40 rfl rfl) rfl ?_
  refine Tp rfl rfl (pur_lss rfl rfl rfl) rfl ?_
  refine TO_nil ?_
  refine T_env (E' := [(0, (sl tFact a0)), (3, (.m [0] 0 out3.length tFact.k)), (4, (intA (i_3 : Int))), (11, (boolA (decide ((i_3 : Int) < (a0.length : Int)))))]) ⟨rfl, rfl, rfl, rfl, trivial⟩ ?_
  refine T_cond (t := decide ((i_3 : Int) < (a0.length : Int))) rfl (fun d4 => ?_) (fun d4 => ?_)
  · replace d4 := of_decide_eq_true d4
    obtain ⟨x_i_3, hx_i_3⟩ : ∃ v, (a0)[i_3]? = some v := ⟨_, List.getElem?_eq_getElem (by omega)⟩
    obtain ⟨C4_, H, K4_⟩ := forS_step L4_ hx_i_3
    rw [hb4] at H
    refine T_skip ?_
    refine T_env (E' := [(0, (sl tFact a0)), (3, (.m [0] 0 out3.length tFact.k)), (4, (intA (i_3 : Int)))]) ⟨rfl, rfl, rfl, trivial⟩ ?_
    refine T_seq ?_
    refine T_block ?_
    refine T_region ?_
    refine Tp rfl rfl (pur_move rfl) rfl ?_
    refine Tp rfl rfl (pur_move rfl) rfl ?_
    refine Tp rfl rfl (pur_move rfl) rfl ?_
    refine Tp rfl rfl (pur_move rfl) rfl ?_
    refine Tp rfl rfl (pur_ixT (T := tFact) sl40 rfl rfl rfl hx_i_3 rfl) rfl ?_
    refine Tp rfl rfl (pur_ldTK (T := tFact) (i := i_3) (off := 0) rfl agg79 rfl rfl hx_i_3 (by decide) rfl) rfl ?_
    obtain ⟨r_5, h_6, H⟩ := bind_inv H
    refine TO_cons rfl (TOp_callO (call_static ent55 rfl) rfl (m_laws_toFact_own _ _ h_6) rfl rfl rfl ?_)
    refine TO_env (E' := [(0, (sl tFact a0)), (3, (.m [0] 0 out3.length tFact.k)), (4, (intA (i_3 : Int))), (14, (.m [0] 0 out3.length tFact.k)), (15, (intA (i_3 : Int))), (16, (sl tFact a0)), (17, (intA (i_3 : Int))), (18, (.q (flat tFact.enc a0) (i_3 * tFact.k))), (19, (.g (tFact.enc x_i_3))), (20, (.g [(intA r_5.relation), (.m [1] 0 r_5.values.length tInt.k)]))]) ⟨rfl, rfl, rfl, rfl, rfl, rfl, rfl, rfl, rfl, rfl, trivial⟩ ?_
    refine TO_st (σ' := [.row (flat tFact.own out3), .row (flat tInt.own r_5.values)]) rfl ?_
    obtain ⟨v_7, h_8, H⟩ := bind_inv H
    obtain ⟨n_9, hz_10, hv_11⟩ := getI_inv h_8
    refine Tp rfl rfl (pur_ixM (T := tFact) sl46 rfl rfl hz_10 hv_11 rfl) rfl ?_
    refine TO_boxify 0 rfl (lb rfl) ?_
    refine TO_cons rfl (TOp_setN (T := tFact) (i := n_9) (off := 0) (xs := out3) (v := v_7) hz_10 sz65 (by decide) rfl rfl rfl rfl rfl hv_11 rfl rfl (lb rfl) rfl ?_)
    refine TO_env (E' := [(0, (sl tFact a0)), (3, (.m [0] 0 out3.length tFact.k)), (4, (intA (i_3 : Int))), (14, (.m [0] 0 out3.length tFact.k)), (15, (intA (i_3 : Int))), (16, (sl tFact a0)), (17, (intA (i_3 : Int))), (18, (.q (flat tFact.enc a0) (i_3 * tFact.k))), (19, (.g (tFact.enc x_i_3)))]) ⟨rfl, rfl, rfl, rfl, rfl, rfl, rfl, rfl, rfl, trivial⟩ ?_
    refine TO_st (σ' := [.box (spl (flat tFact.own out3) (n_9 * tFact.k) [(intA r_5.relation), (.m [1] 0 r_5.values.length tInt.k)]), .row (flat tInt.own r_5.values)]) rfl ?_
    refine TO_absorbS (T := tFact) (i := n_9) (xs := out3) (v := v_7) 0 1 1 rfl hv_11 rfl rfl rfl (by decide) tInt.pos (flat_len tInt.lenO _) (lb rfl) (lb rfl) rfl (nms_box (namesL_spl namesL_own rfl) (nms_row nms_nil)) ?_
    refine TO_st (σ' := [.box (spl (flat tFact.own out3) (n_9 * tFact.k) [(intA r_5.relation), .o tInt.k (flat tInt.own r_5.values)]), .dead]) rfl ?_
    refine TO_rowifyS (T := tFact) (i := n_9) (xs := out3) 0 r_5 hz_10 rfl hv_11 rfl (lb rfl) ?_
    refine TO_env (E' := [(0, (sl tFact a0)), (3, (.m [0] 0 (out3.set ((i_3 : Int)).toNat r_5).length tFact.k)), (4, (intA (i_3 : Int))), (14, (.m [0] 0 (out3.set ((i_3 : Int)).toNat r_5).length tFact.k)), (15, (intA (i_3 : Int))), (16, (sl tFact a0)), (17, (intA (i_3 : Int))), (18, (.q (flat tFact.enc a0) (i_3 * tFact.k))), (19, (.g (tFact.enc x_i_3)))]) ⟨rfl, (congrArg (fun q => A.m [0] 0 q tFact.k) (List.length_set ..).symm), rfl, (congrArg (fun q => A.m [0] 0 q tFact.k) (List.length_set ..).symm), rfl, rfl, rfl, rfl, rfl, trivial⟩ ?_
    refine TO_st (σ' := [.row (flat tFact.own (out3.set ((i_3 : Int)).toNat r_5)), .dead]) rfl ?_
    refine TO_nil ?_
    refine T_env (E' := [(0, (sl tFact a0)), (3, (.m [0] 0 (out3.set ((i_3 : Int)).toNat r_5).length tFact.k)), (4, (intA (i_3 : Int)))]) ⟨rfl, rfl, rfl, trivial⟩ ?_
    refine T_region ?_
    refine Tp rfl rfl (pur_move rfl) rfl ?_
    refine Tp rfl rfl (pur_add rfl rfl rfl (fits64 (by omega) (by omega))) rfl ?_
    refine Tp rfl rfl (pur_assign rfl) rfl ?_
    refine TO_nil ?_
    obtain rfl := some_inj H
    exact again (a0.length - (i_3 + 1)) (i_3 + 1, (out3.set ((i_3 : Int)).toNat r_5)) (by omega) (wp 1 (lb rfl) rfl rfl rfl rfl ⟨rfl, rfl, rfl, trivial⟩) ⟨rfl, K4_⟩
  · replace d4 := of_decide_eq_false d4
    obtain rfl := forS_end L4_ (by omega)
    refine T_exit ?_
    refine then_exit ?_
    refine then_exit ?_
    refine block_exit ?_
    replace H := N4_
    refine T_env (E' := [(3, (.m [0] 0 out3.length tFact.k))]) ⟨rfl, trivial⟩ ?_
    refine sr ?_
    refine Tp rfl rfl (pur_move rfl) rfl ?_
    refine Tp rfl rfl (pur_assign rfl) rfl ?_
    refine TO_nil ?_
    refine T_env (E' := [(2, (.m [0] 0 out3.length tFact.k))]) ⟨rfl, trivial⟩ ?_
    refine T_ret ?_
    obtain rfl := some_inj H
    exact end_pick (.tmp .nil) rfl [0] (by decide) rfl rfl rfl rfl rfl rfl
theorem m_laws_toFactS_ok (a0 : (List Fact)) (r : (List Fact)) (H : m_laws_toFactS a0 = some r) : FnV prg 62 [(sl tFact a0)] (sl tFact r) := (m_laws_toFactS_own a0 r H).frz (frzT (T := tFact) rfl)

set_option maxHeartbeats 1000000 in
/-- laws.toRelation -/
theorem m_laws_toRelation_ok (a0 : Relation) (r : Relation) (H : m_laws_toRelation a0 = some r) : FnV prg 145 [(.g (tRelation.enc a0))] (.g (tRelation.enc r)) := by
  unfold m_laws_toRelation at H
  refine fnV_of_T Try.func145 rfl rfl (Nat.le_of_ble_eq_true rfl) ?_
  refine T_env (E' := [(0, (.g (tRelation.enc a0)))]) ⟨rfl, trivial⟩ ?_
  refine sr ?_
  refine TO_cons rfl (TOp_box rfl (boxAll rfl) rfl rfl ?_)
  refine TO_cons rfl (TOp_alloc zero130 rfl rfl ?_)
  refine TO_nil ?_
  refine T_env (E' := [(1, (.b 0 0)), (2, (.b 1 0))]) ⟨rfl, rfl, trivial⟩ ?_
  refine sr ?_
  refine TO_cons rfl (TOp_alloc zero130 rfl rfl ?_)
  refine TO_nil ?_
  refine T_env (E' := [(1, (.b 0 0)), (2, (.b 1 0)), (3, (.b 2 0))]) ⟨rfl, rfl, rfl, trivial⟩ ?_
  refine sr ?_
  refine Tp rfl rfl (pur_fa_b fld158_0 rfl rfl) rfl ?_
  refine Tp rfl rfl (pur_ld_b one9 rfl rfl rfl rfl) rfl ?_
  refine Tp rfl rfl (pur_fa_b fld130_0 rfl rfl) rfl ?_
  refine TO_cons rfl (TOp_storeB sz9 rfl rfl rfl rfl rfl rfl rfl (by decide) (lb rfl) rfl ?_)
  refine TO_st (σ' := [.box [(strA a0.name), (intA a0.arity), (intA a0.keyLength)], .box [(strA ByteArray.empty), (intA 0), (intA 0)], .box [(strA a0.name), (intA 0), (intA 0)]]) rfl ?_
  refine TO_nil ?_
  refine T_env (E' := [(1, (.b 0 0)), (2, (.b 1 0)), (3, (.b 2 0))]) ⟨rfl, rfl, rfl, trivial⟩ ?_
  refine sr ?_
  refine Tp rfl rfl (pur_fa_b fld158_1 rfl rfl) rfl ?_
  refine Tp rfl rfl (pur_ld_b one3 rfl rfl rfl rfl) rfl ?_
  refine Tp rfl rfl (pur_fa_b fld130_1 rfl rfl) rfl ?_
  refine TO_cons rfl (TOp_storeB sz3 rfl rfl rfl rfl rfl rfl rfl (by decide) (lb rfl) rfl ?_)
  refine TO_st (σ' := [.box [(strA a0.name), (intA a0.arity), (intA a0.keyLength)], .box [(strA ByteArray.empty), (intA 0), (intA 0)], .box [(strA a0.name), (intA a0.arity), (intA 0)]]) rfl ?_
  refine TO_nil ?_
  refine T_env (E' := [(1, (.b 0 0)), (2, (.b 1 0)), (3, (.b 2 0))]) ⟨rfl, rfl, rfl, trivial⟩ ?_
  refine sr ?_
  refine Tp rfl rfl (pur_fa_b fld158_2 rfl rfl) rfl ?_
  refine Tp rfl rfl (pur_ld_b one3 rfl rfl rfl rfl) rfl ?_
  refine Tp rfl rfl (pur_fa_b fld130_2 rfl rfl) rfl ?_
  refine TO_cons rfl (TOp_storeB sz3 rfl rfl rfl rfl rfl rfl rfl (by decide) (lb rfl) rfl ?_)
  refine TO_st (σ' := [.box [(strA a0.name), (intA a0.arity), (intA a0.keyLength)], .box [(strA ByteArray.empty), (intA 0), (intA 0)], .box [(strA a0.name), (intA a0.arity), (intA a0.keyLength)]]) rfl ?_
  refine TO_nil ?_
  refine T_env (E' := [(2, (.b 1 0)), (3, (.b 2 0))]) ⟨rfl, rfl, trivial⟩ ?_
  refine sr ?_
  refine Tp rfl rfl (pur_ldK_b agg130 rfl rfl (lb rfl) rfl) rfl ?_
  refine TO_cons rfl (TOp_storeB sz130 rfl rfl rfl rfl rfl rfl rfl (by decide) (lb rfl) rfl ?_)
  refine TO_st (σ' := [.box [(strA a0.name), (intA a0.arity), (intA a0.keyLength)], .box [(strA a0.name), (intA a0.arity), (intA a0.keyLength)], .box [(strA a0.name), (intA a0.arity), (intA a0.keyLength)]]) rfl ?_
  refine TO_nil ?_
  refine T_env (E' := [(2, (.b 1 0))]) ⟨rfl, trivial⟩ ?_
  refine T_ret ?_
  obtain rfl := some_inj H
  refine end_ret (.cellK rfl agg130 rfl (lb rfl) .nil) rfl rfl ⟨?_, rfl⟩
  rfl

set_option maxHeartbeats 1000000 in
/-- laws.toRelationS -/
theorem m_laws_toRelationS_own (a0 : (List Relation)) (r : (List Relation)) (H : m_laws_toRelationS a0 = some r) : FnO prg 93 [(sl tRelation a0)] (.m [0] 0 r.length tRelation.k) [.row (flat tRelation.own r)] := by
  unfold m_laws_toRelationS at H
  refine fnO_of_T Try.func93 rfl rfl (Nat.le_of_ble_eq_true rfl) ?_
  refine T_env (E' := [(0, (sl tRelation a0))]) ⟨rfl, trivial⟩ ?_
  refine sr ?_
  refine Tp rfl rfl (pur_assign rfl) rfl ?_
  refine TO_nil ?_
  refine T_env (E' := [(0, (sl tRelation a0))]) ⟨rfl, trivial⟩ ?_
  refine sr ?_
  refine Tp rfl rfl (pur_move rfl) rfl ?_
  refine Tp rfl rfl (pur_lenT (T := tRelation) sl39 rfl rfl) rfl ?_
  obtain ⟨us_1, h_2, H⟩ := bind_inv H
  refine TO_cons rfl (TOp_makeT (T := tRelation) (z := (default : Relation)) rfl sl45 zero130 rfl bytes130 rfl rfl rfl rfl h_2 ?_)
  refine Tp rfl rfl (pur_assign rfl) rfl ?_
  refine TO_nil ?_
  refine T_env (E' := [(0, (sl tRelation a0)), (3, (.m [0] 0 us_1.length tRelation.k))]) ⟨rfl, rfl, trivial⟩ ?_
  refine T_seq ?_
  refine sr ?_
  refine Tp rfl rfl (pur_assign rfl) rfl ?_
  refine TO_nil ?_
  refine T_env (E' := [(0, (sl tRelation a0)), (3, (.m [0] 0 us_1.length tRelation.k)), (4, (intA 0))]) ⟨rfl, rfl, rfl, trivial⟩ ?_
  obtain ⟨O4_, L4_, N4_⟩ := bind_inv H
  clear H
  obtain ⟨B4_, hb4, L4_⟩ := gen_forS L4_
  refine T_block ?_
  refine T_loopX (fun k => fun (x_ : Nat × (List Relation)) => k = a0.length - x_.1 ∧ forS B4_ (a0.drop x_.1) (x_.1 : Int) x_.2 = some O4_) (fun (x_ : Nat × (List Relation)) => [(0, (sl tRelation a0)), (3, (.m [0] 0 x_.2.length tRelation.k)), (4, (intA (x_.1 : Int)))]) (fun (x_ : Nat × (List Relation)) => [.row (flat tRelation.enc x_.2)]) _ (0, us_1) (wp 1 (lb rfl) rfl rfl rfl rfl ⟨rfl, rfl, rfl, trivial⟩) ⟨rfl, L4_⟩ ?_
  rintro _ ⟨i_3, out3⟩ ⟨rfl, L4_⟩
  refine T_env (E' := [(0, (sl tRelation a0)), (3, (.m [0] 0 out3.length tRelation.k)), (4, (intA (i_3 : Int)))]) ⟨rfl, rfl, rfl, trivial⟩ ?_
  refine T_st (σ' := [.row (flat tRelation.enc out3)]) rfl ?_
  refine T_fact (len_sl (T := tRelation) (.tmp 0) rfl) (fun hl4 => ?_)
  refine T_seq ?_
  refine sr ?_
  refine Tp rfl rfl (pur_move rfl) rfl ?_
  refine Tp rfl rfl (pur_move rfl) rfl ?_
  refine Tp rfl rfl (pur_lenT (T := tRelation) sl39 rfl rfl) rfl ?_
  refine Tp rfl rfl (pur_lss rfl rfl rfl) rfl ?_
  refine TO_nil ?_
  refine T_env (E' := [(0, (sl tRelation a0)), (3, (.m [0] 0 out3.length tRelation.k)), (4, (intA (i_3 : Int))), (11, (boolA (decide ((i_3 : Int) < (a0.length : Int)))))]) ⟨rfl, rfl, rfl, rfl, trivial⟩ ?_
  refine T_cond (t := decide ((i_3 : Int) < (a0.length : Int))) rfl (fun d4 => ?_) (fun d4 => ?_)
  · replace d4 := of_decide_eq_true d4
    obtain ⟨x_i_3, hx_i_3⟩ : ∃ v, (a0)[i_3]? = some v := ⟨_, List.getElem?_eq_getElem (by omega)⟩
    obtain ⟨C4_, H, K4_⟩ := forS_step L4_ hx_i_3
    rw [hb4] at H
    refine T_skip ?_
    refine T_env (E' := [(0, (sl tRelation a0)), (3, (.m [0] 0 out3.length tRelation.k)), (4, (intA (i_3 : Int)))]) ⟨rfl, rfl, rfl, trivial⟩ ?_
    refine T_seq ?_
    refine T_block ?_
    refine T_region ?_
    refine Tp rfl rfl (pur_move rfl) rfl ?_
    refine Tp rfl rfl (pur_move rfl) rfl ?_
    refine Tp rfl rfl (pur_move rfl) rfl ?_
    refine Tp rfl rfl (pur_move rfl) rfl ?_
    refine Tp rfl rfl (pur_ixT (T := tRelation) sl39 rfl rfl rfl hx_i_3 rfl) rfl ?_
    refine Tp rfl rfl (pur_ldTK (T := tRelation) (i := i_3) (off := 0) rfl agg158 rfl rfl hx_i_3 (by decide) rfl) rfl ?_
    obtain ⟨r_5, h_6, H⟩ := bind_inv H
    refine TO_cons rfl (TOp_callV (call_static ent145 rfl) (m_laws_toRelation_ok _ _ h_6) rfl rfl rfl ?_)
    obtain ⟨v_7, h_8, H⟩ := bind_inv H
    obtain ⟨n_9, hz_10, hv_11⟩ := getI_inv h_8
    refine Tp rfl rfl (pur_ixM (T := tRelation) sl45 rfl rfl hz_10 hv_11 rfl) rfl ?_
    refine TO_cons rfl (TOp_setT (f := tRelation.enc) (z := (i_3 : Int)) (y := r_5) tRelation.len tRelation.pos hz_10 sz130 rfl rfl rfl rfl rfl hv_11 rfl rfl ?_)
    refine TO_env (E' := [(0, (sl tRelation a0)), (3, (.m [0] 0 (out3.set ((i_3 : Int)).toNat r_5).length tRelation.k)), (4, (intA (i_3 : Int))), (14, (.m [0] 0 (out3.set ((i_3 : Int)).toNat r_5).length tRelation.k)), (15, (intA (i_3 : Int))), (16, (sl tRelation a0)), (17, (intA (i_3 : Int))), (18, (.q (flat tRelation.enc a0) (i_3 * tRelation.k))), (19, (.g (tRelation.enc x_i_3))), (20, (.g (tRelation.enc r_5)))]) ⟨rfl, (congrArg (fun q => A.m [0] 0 q tRelation.k) (List.length_set ..).symm), rfl, (congrArg (fun q => A.m [0] 0 q tRelation.k) (List.length_set ..).symm), rfl, rfl, rfl, rfl, rfl, rfl, trivial⟩ ?_
    refine TO_st (σ' := [.row (flat tRelation.enc (out3.set ((i_3 : Int)).toNat r_5))]) rfl ?_
    refine TO_nil ?_
    refine T_env (E' := [(0, (sl tRelation a0)), (3, (.m [0] 0 (out3.set ((i_3 : Int)).toNat r_5).length tRelation.k)), (4, (intA (i_3 : Int)))]) ⟨rfl, rfl, rfl, trivial⟩ ?_
    refine T_region ?_
    refine Tp rfl rfl (pur_move rfl) rfl ?_
    refine Tp rfl rfl (pur_add rfl rfl rfl (fits64 (by omega) (by omega))) rfl ?_
    refine Tp rfl rfl (pur_assign rfl) rfl ?_
    refine TO_nil ?_
    obtain rfl := some_inj H
    exact again (a0.length - (i_3 + 1)) (i_3 + 1, (out3.set ((i_3 : Int)).toNat r_5)) (by omega) (wp 1 (lb rfl) rfl rfl rfl rfl ⟨rfl, rfl, rfl, trivial⟩) ⟨rfl, K4_⟩
  · replace d4 := of_decide_eq_false d4
    obtain rfl := forS_end L4_ (by omega)
    refine T_exit ?_
    refine then_exit ?_
    refine then_exit ?_
    refine block_exit ?_
    replace H := N4_
    refine T_env (E' := [(3, (.m [0] 0 out3.length tRelation.k))]) ⟨rfl, trivial⟩ ?_
    refine sr ?_
    refine Tp rfl rfl (pur_move rfl) rfl ?_
    refine Tp rfl rfl (pur_assign rfl) rfl ?_
    refine TO_nil ?_
    refine T_env (E' := [(2, (.m [0] 0 out3.length tRelation.k))]) ⟨rfl, trivial⟩ ?_
    refine T_ret ?_
    obtain rfl := some_inj H
    exact end_pick (.tmp .nil) rfl [0] (by decide) rfl rfl rfl rfl rfl rfl
theorem m_laws_toRelationS_ok (a0 : (List Relation)) (r : (List Relation)) (H : m_laws_toRelationS a0 = some r) : FnV prg 93 [(sl tRelation a0)] (sl tRelation r) := (m_laws_toRelationS_own a0 r H).frz (frzT (T := tRelation) rfl)

set_option maxHeartbeats 1000000 in
/-- laws.toDatabase -/
theorem m_laws_toDatabase_own (a0 : Database) (r : Database) (H : m_laws_toDatabase a0 = some r) : FnO prg 27 [(.g (tDatabase.enc a0))] (.g [(.m [0] 0 r.relations.length tRelation.k), (.m [1] 0 r.facts.length tFact.k)]) [.row (flat tRelation.own r.relations), .row (flat tFact.own r.facts)] := by
  unfold m_laws_toDatabase at H
  refine fnO_of_T Try.func27 rfl rfl (Nat.le_of_ble_eq_true rfl) ?_
  refine T_env (E' := [(0, (.g (tDatabase.enc a0)))]) ⟨rfl, trivial⟩ ?_
  refine sr ?_
  refine TO_cons rfl (TOp_box rfl (boxAll rfl) rfl rfl ?_)
  refine TO_cons rfl (TOp_alloc zero48 rfl rfl ?_)
  refine TO_nil ?_
  refine T_env (E' := [(1, (.b 0 0)), (2, (.b 1 0))]) ⟨rfl, rfl, trivial⟩ ?_
  refine sr ?_
  refine TO_cons rfl (TOp_alloc zero48 rfl rfl ?_)
  refine TO_nil ?_
  refine T_env (E' := [(1, (.b 0 0)), (2, (.b 1 0)), (3, (.b 2 0))]) ⟨rfl, rfl, rfl, trivial⟩ ?_
  refine sr ?_
  refine Tp rfl rfl (pur_fa_b fld42_0 rfl rfl) rfl ?_
  refine Tp rfl rfl (pur_ld_b one39 rfl rfl rfl rfl) rfl ?_
  obtain ⟨r_1, h_2, H⟩ := bind_inv H
  refine TO_cons rfl (TOp_callO (call_static ent93 rfl) rfl (m_laws_toRelationS_own _ _ h_2) rfl rfl rfl ?_)
  refine TO_env (E' := [(1, (.b 0 0)), (2, (.b 1 0)), (3, (.b 2 0)), (4, (.b 0 0)), (5, (sl tRelation a0.relations)), (6, (.m [3] 0 r_1.length tRelation.k))]) ⟨rfl, rfl, rfl, rfl, rfl, rfl, trivial⟩ ?_
  refine TO_st (σ' := [.box [(sl tRelation a0.relations), (sl tFact a0.facts)], .box [.n, .n], .box [.n, .n], .row (flat tRelation.own r_1)]) rfl ?_
  refine Tp rfl rfl (pur_fa_b fld48_0 rfl rfl) rfl ?_
  refine TO_cons rfl (TOp_storeB sz45 rfl rfl rfl rfl rfl rfl rfl (by decide) (lb rfl) rfl ?_)
  refine TO_st (σ' := [.box [(sl tRelation a0.relations), (sl tFact a0.facts)], .box [.n, .n], .box [(.m [3] 0 r_1.length tRelation.k), .n], .row (flat tRelation.own r_1)]) rfl ?_
  refine TO_nil ?_
  refine T_env (E' := [(1, (.b 0 0)), (2, (.b 1 0)), (3, (.b 2 0))]) ⟨rfl, rfl, rfl, trivial⟩ ?_
  refine sr ?_
  refine Tp rfl rfl (pur_fa_b fld42_1 rfl rfl) rfl ?_
  refine Tp rfl rfl (pur_ld_b one40 rfl rfl rfl rfl) rfl ?_
  obtain ⟨r_3, h_4, H⟩ := bind_inv H
  refine TO_cons rfl (TOp_callO (call_static ent62 rfl) rfl (m_laws_toFactS_own _ _ h_4) rfl rfl rfl ?_)
  refine TO_env (E' := [(1, (.b 0 0)), (2, (.b 1 0)), (3, (.b 2 0)), (8, (.b 0 1)), (9, (sl tFact a0.facts)), (10, (.m [4] 0 r_3.length tFact.k))]) ⟨rfl, rfl, rfl, rfl, rfl, rfl, trivial⟩ ?_
  refine TO_st (σ' := [.box [(sl tRelation a0.relations), (sl tFact a0.facts)], .box [.n, .n], .box [(.m [3] 0 r_1.length tRelation.k), .n], .row (flat tRelation.own r_1), .row (flat tFact.own r_3)]) rfl ?_
  refine Tp rfl rfl (pur_fa_b fld48_1 rfl rfl) rfl ?_
  refine TO_cons rfl (TOp_storeB sz46 rfl rfl rfl rfl rfl rfl rfl (by decide) (lb rfl) rfl ?_)
  refine TO_st (σ' := [.box [(sl tRelation a0.relations), (sl tFact a0.facts)], .box [.n, .n], .box [(.m [3] 0 r_1.length tRelation.k), (.m [4] 0 r_3.length tFact.k)], .row (flat tRelation.own r_1), .row (flat tFact.own r_3)]) rfl ?_
  refine TO_nil ?_
  refine T_env (E' := [(2, (.b 1 0)), (3, (.b 2 0))]) ⟨rfl, rfl, trivial⟩ ?_
  refine sr ?_
  refine Tp rfl rfl (pur_ldK_b agg48 rfl rfl (lb rfl) rfl) rfl ?_
  refine TO_cons rfl (TOp_storeB sz48 rfl rfl rfl rfl rfl rfl rfl (by decide) (lb rfl) rfl ?_)
  refine TO_st (σ' := [.box [(sl tRelation a0.relations), (sl tFact a0.facts)], .box [(.m [3] 0 r_1.length tRelation.k), (.m [4] 0 r_3.length tFact.k)], .box [(.m [3] 0 r_1.length tRelation.k), (.m [4] 0 r_3.length tFact.k)], .row (flat tRelation.own r_1), .row (flat tFact.own r_3)]) rfl ?_
  refine TO_nil ?_
  refine T_env (E' := [(2, (.b 1 0))]) ⟨rfl, trivial⟩ ?_
  refine T_ret ?_
  obtain rfl := some_inj H
  exact end_pick (.cellK rfl agg48 rfl (lb rfl) .nil) rfl [3, 4] (by decide) rfl rfl rfl rfl rfl rfl
theorem m_laws_toDatabase_ok (a0 : Database) (r : Database) (H : m_laws_toDatabase a0 = some r) : FnV prg 27 [(.g (tDatabase.enc a0))] (.g (tDatabase.enc r)) := (m_laws_toDatabase_own a0 r H).frz (frzOK_g (frz_cons (frzT (T := tRelation) rfl) (frz_cons (frzT (T := tFact) rfl) frz_nil)).1 (frz_cons (frzT (T := tRelation) rfl) (frz_cons (frzT (T := tFact) rfl) frz_nil)).2)

set_option maxHeartbeats 1000000 in
/-- laws.toIntSS -/
theorem m_laws_toIntSS_own (a0 : (List (List Int))) (r : (List (List Int))) (H : m_laws_toIntSS a0 = some r) : FnO prg 99 [(sl (tSl tInt) a0)] (.m [0] 0 r.length (tSl tInt).k) [.row (flat (tSl tInt).own r)] := by
  unfold m_laws_toIntSS at H
  refine fnO_of_T Try.func99 rfl rfl (Nat.le_of_ble_eq_true rfl) ?_
  refine T_env (E' := [(0, (sl (tSl tInt) a0))]) ⟨rfl, trivial⟩ ?_
  refine sr ?_
  refine Tp rfl rfl (pur_assign rfl) rfl ?_
  refine TO_nil ?_
  refine T_env (E' := [(0, (sl (tSl tInt) a0))]) ⟨rfl, trivial⟩ ?_
  refine sr ?_
  refine Tp rfl rfl (pur_move rfl) rfl ?_
  refine Tp rfl rfl (pur_lenT (T := (tSl tInt)) sl53 rfl rfl) rfl ?_
  obtain ⟨us_1, h_2, H⟩ := bind_inv H
  refine TO_cons rfl (TOp_makeN (T := (tSl tInt)) (f := (tSl tInt).own) (zs := [.slice none 0 0]) (z := []) (tSl tInt).lenO (nilL_cons nilO nilL_nil) rfl sl53 zero23 bytes23 rfl rfl rfl rfl h_2 ?_)
  refine TO_st (σ' := [.row (flat (tSl tInt).own us_1)]) rfl ?_
  refine Tp rfl rfl (pur_assign rfl) rfl ?_
  refine TO_nil ?_
  refine T_env (E' := [(0, (sl (tSl tInt) a0)), (3, (.m [0] 0 us_1.length (tSl tInt).k))]) ⟨rfl, rfl, trivial⟩ ?_
  refine T_seq ?_
  refine sr ?_
  refine Tp rfl rfl (pur_assign rfl) rfl ?_
  refine TO_nil ?_
  refine T_env (E' := [(0, (sl (tSl tInt) a0)), (3, (.m [0] 0 us_1.length (tSl tInt).k)), (4, (intA 0))]) ⟨rfl, rfl, rfl, trivial⟩ ?_
  obtain ⟨O4_, L4_, N4_⟩ := bind_inv H
  clear H
  obtain ⟨B4_, hb4, L4_⟩ := gen_forS L4_
  refine T_block ?_
  refine T_loopX (fun k => fun (x_ : Nat × (List (List Int))) => k = a0.length - x_.1 ∧ forS B4_ (a0.drop x_.1) (x_.1 : Int) x_.2 = some O4_) (fun (x_ : Nat × (List (List Int))) => [(0, (sl (tSl tInt) a0)), (3, (.m [0] 0 x_.2.length (tSl tInt).k)), (4, (intA (x_.1 : Int)))]) (fun (x_ : Nat × (List (List Int))) => [.row (flat (tSl tInt).own x_.2)]) _ (0, us_1) (wp 1 (lb rfl) rfl rfl rfl rfl ⟨rfl, rfl, rfl, trivial⟩) ⟨rfl, L4_⟩ ?_
  rintro _ ⟨i_3, out3⟩ ⟨rfl, L4_⟩
  refine T_env (E' := [(0, (sl (tSl tInt) a0)), (3, (.m [0] 0 out3.length (tSl tInt).k)), (4, (intA (i_3 : Int)))]) ⟨rfl, rfl, rfl, trivial⟩ ?_
  refine T_st (σ' := [.row (flat (tSl tInt).own out3)]) rfl ?_
  refine T_fact (len_sl (T := (tSl tInt)) (.tmp 0) rfl) (fun hl4 => ?_)
  refine T_seq ?_
  refine sr ?_
  refine Tp rfl rfl (pur_move rfl) rfl ?_
  refine Tp rfl rfl (pur_move rfl) rfl ?_
  refine Tp rfl rfl (pur_lenT (T := (tSl tInt)) sl53 rfl rfl) rfl ?_
  refine Tp rfl rfl (pur_lss rfl rfl rfl) rfl ?_
  refine TO_nil ?_
  refine T_env (E' := [(0, (sl (tSl tInt) a0)), (3, (.m [0] 0 out3.length (tSl tInt).k)), (4, (intA (i_3 : Int))), (11, (boolA (decide ((i_3 : Int) < (a0.length : Int)))))]) ⟨rfl, rfl, rfl, rfl, trivial⟩ ?_
  refine T_cond (t := decide ((i_3 : Int) < (a0.length : Int))) rfl (fun d4 => ?_) (fun d4 => ?_)
  · replace d4 := of_decide_eq_true d4
    obtain ⟨x_i_3, hx_i_3⟩ : ∃ v, (a0)[i_3]? = some v := ⟨_, List.getElem?_eq_getElem (by omega)⟩
    obtain ⟨C4_, H, K4_⟩ := forS_step L4_ hx_i_3
    rw [hb4] at H
    refine T_skip ?_
    refine T_env (E' := [(0, (sl (tSl tInt) a0)), (3, (.m [0] 0 out3.length (tSl tInt).k)), (4, (intA (i_3 : Int)))]) ⟨rfl, rfl, rfl, trivial⟩ ?_
    refine T_seq ?_
    refine T_block ?_
    refine T_region ?_
    refine Tp rfl rfl (pur_move rfl) rfl ?_
    refine Tp rfl rfl (pur_move rfl) rfl ?_
    refine Tp rfl rfl (pur_move rfl) rfl ?_
    refine Tp rfl rfl (pur_move rfl) rfl ?_
    refine Tp rfl rfl (pur_ixT (T := (tSl tInt)) sl53 rfl rfl rfl hx_i_3 rfl) rfl ?_
    refine Tp rfl rfl (pur_ldT (T := (tSl tInt)) (i := i_3) (off := 0) rfl one23 rfl rfl hx_i_3 rfl) rfl ?_
    obtain ⟨r_5, h_6, H⟩ := bind_inv H
    refine TO_cons rfl (TOp_callO (call_static ent18 rfl) rfl (m_laws_toIntS_own _ _ h_6) rfl rfl rfl ?_)
    refine TO_env (E' := [(0, (sl (tSl tInt) a0)), (3, (.m [0] 0 out3.length (tSl tInt).k)), (4, (intA (i_3 : Int))), (14, (.m [0] 0 out3.length (tSl tInt).k)), (15, (intA (i_3 : Int))), (16, (sl (tSl tInt) a0)), (17, (intA (i_3 : Int))), (18, (.q (flat (tSl tInt).enc a0) (i_3 * (tSl tInt).k))), (19, (sl tInt x_i_3)), (20, (.m [1] 0 r_5.length tInt.k))]) ⟨rfl, rfl, rfl, rfl, rfl, rfl, rfl, rfl, rfl, rfl, trivial⟩ ?_
    refine TO_st (σ' := [.row (flat (tSl tInt).own out3), .row (flat tInt.own r_5)]) rfl ?_
    obtain ⟨v_7, h_8, H⟩ := bind_inv H
    obtain ⟨n_9, hz_10, hv_11⟩ := getI_inv h_8
    refine Tp rfl rfl (pur_ixM (T := (tSl tInt)) sl53 rfl rfl hz_10 hv_11 rfl) rfl ?_
    refine TO_boxify 0 rfl (lb rfl) ?_
    refine TO_cons rfl (TOp_setN (T := (tSl tInt)) (i := n_9) (off := 0) (xs := out3) (v := v_7) hz_10 sz23 (by decide) rfl rfl rfl rfl rfl hv_11 rfl rfl (lb rfl) rfl ?_)
    refine TO_env (E' := [(0, (sl (tSl tInt) a0)), (3, (.m [0] 0 out3.length (tSl tInt).k)), (4, (intA (i_3 : Int))), (14, (.m [0] 0 out3.length (tSl tInt).k)), (15, (intA (i_3 : Int))), (16, (sl (tSl tInt) a0)), (17, (intA (i_3 : Int))), (18, (.q (flat (tSl tInt).enc a0) (i_3 * (tSl tInt).k))), (19, (sl tInt x_i_3))]) ⟨rfl, rfl, rfl, rfl, rfl, rfl, rfl, rfl, rfl, trivial⟩ ?_
    refine TO_st (σ' := [.box (spl (flat (tSl tInt).own out3) (n_9 * (tSl tInt).k) [(.m [1] 0 r_5.length tInt.k)]), .row (flat tInt.own r_5)]) rfl ?_
    refine TO_absorbS (T := (tSl tInt)) (i := n_9) (xs := out3) (v := v_7) 0 0 1 rfl hv_11 rfl rfl rfl (by decide) tInt.pos (flat_len tInt.lenO _) (lb rfl) (lb rfl) rfl (nms_box (namesL_spl namesL_own rfl) (nms_row nms_nil)) ?_
    refine TO_st (σ' := [.box (spl (flat (tSl tInt).own out3) (n_9 * (tSl tInt).k) [.o tInt.k (flat tInt.own r_5)]), .dead]) rfl ?_
    refine TO_rowifyS (T := (tSl tInt)) (i := n_9) (xs := out3) 0 r_5 hz_10 rfl hv_11 rfl (lb rfl) ?_
    refine TO_env (E' := [(0, (sl (tSl tInt) a0)), (3, (.m [0] 0 (out3.set ((i_3 : Int)).toNat r_5).length (tSl tInt).k)), (4, (intA (i_3 : Int))), (14, (.m [0] 0 (out3.set ((i_3 : Int)).toNat r_5).length (tSl tInt).k)), (15, (intA (i_3 : Int))), (16, (sl (tSl tInt) a0)), (17, (intA (i_3 : Int))), (18, (.q (flat (tSl tInt).enc a0) (i_3 * (tSl tInt).k))), (19, (sl tInt x_i_3))]) ⟨rfl, (congrArg (fun q => A.m [0] 0 q (tSl tInt).k) (List.length_set ..).symm), rfl, (congrArg (fun q => A.m [0] 0 q (tSl tInt).k) (List.length_set ..).symm), rfl, rfl, rfl, rfl, rfl, trivial⟩ ?_
    refine TO_st (σ' := [.row (flat (tSl tInt).own (out3.set ((i_3 : Int)).toNat r_5)), .dead]) rfl ?_
    refine TO_nil ?_
    refine T_env (E' := [(0, (sl (tSl tInt) a0)), (3, (.m [0] 0 (out3.set ((i_3 : Int)).toNat r_5).length (tSl tInt).k)), (4, (intA (i_3 : Int)))]) ⟨rfl, rfl, rfl, trivial⟩ ?_
    refine T_region ?_
    refine Tp rfl rfl (pur_move rfl) rfl ?_
    refine Tp rfl rfl (pur_add rfl rfl rfl (fits64 (by omega) (by omega))) rfl ?_
    refine Tp rfl rfl (pur_assign rfl) rfl ?_
    refine TO_nil ?_
    obtain rfl := some_inj H
    exact again (a0.length - (i_3 + 1)) (i_3 + 1, (out3.set ((i_3 : Int)).toNat r_5)) (by omega) (wp 1 (lb rfl) rfl rfl rfl rfl ⟨rfl, rfl, rfl, trivial⟩) ⟨rfl, K4_⟩
  · replace d4 := of_decide_eq_false d4
    obtain rfl := forS_end L4_ (by omega)
    refine T_exit ?_
    refine then_exit ?_
    refine then_exit ?_
    refine block_exit ?_
    replace H := N4_
    refine T_env (E' := [(3, (.m [0] 0 out3.length (tSl tInt).k))]) ⟨rfl, trivial⟩ ?_
    refine sr ?_
    refine Tp rfl rfl (pur_move rfl) rfl ?_
    refine Tp rfl rfl (pur_assign rfl) rfl ?_
    refine TO_nil ?_
    refine T_env (E' := [(2, (.m [0] 0 out3.length (tSl tInt).k))]) ⟨rfl, trivial⟩ ?_
    refine T_ret ?_
    obtain rfl := some_inj H
    exact end_pick (.tmp .nil) rfl [0] (by decide) rfl rfl rfl rfl rfl rfl
theorem m_laws_toIntSS_ok (a0 : (List (List Int))) (r : (List (List Int))) (H : m_laws_toIntSS a0 = some r) : FnV prg 99 [(sl (tSl tInt) a0)] (sl (tSl tInt) r) := (m_laws_toIntSS_own a0 r H).frz (frzT (T := (tSl tInt)) rfl)

set_option maxHeartbeats 1000000 in
/-- laws.toView -/
theorem m_laws_toView_own (a0 : View) (r : View) (H : m_laws_toView a0 = some r) : FnO prg 34 [(.g (tView.enc a0))] (.g [(.m [0] 0 r.database.relations.length tRelation.k), (.m [1] 0 r.database.facts.length tFact.k), (intA r.query.variableCount), (.m [2] 0 r.query.atoms.length tAtom.k), (.m [3] 0 r.query.free.length tInt.k), (.m [4] 0 r.certainRows.length (tSl tInt).k), (.m [5] 0 r.uncertainRows.length (tSl tInt).k)]) [.row (flat tRelation.own r.database.relations), .row (flat tFact.own r.database.facts), .row (flat tAtom.own r.query.atoms), .row (flat tInt.own r.query.free), .row (flat (tSl tInt).own r.certainRows), .row (flat (tSl tInt).own r.uncertainRows)] := by
  unfold m_laws_toView at H
  refine fnO_of_T Try.func34 rfl rfl (Nat.le_of_ble_eq_true rfl) ?_
  refine T_env (E' := [(0, (.g (tView.enc a0)))]) ⟨rfl, trivial⟩ ?_
  refine sr ?_
  refine TO_cons rfl (TOp_box rfl (boxAll rfl) rfl rfl ?_)
  refine TO_cons rfl (TOp_alloc zero59 rfl rfl ?_)
  refine TO_nil ?_
  refine T_env (E' := [(1, (.b 0 0)), (2, (.b 1 0))]) ⟨rfl, rfl, trivial⟩ ?_
  refine sr ?_
  refine TO_cons rfl (TOp_alloc zero59 rfl rfl ?_)
  refine TO_nil ?_
  refine T_env (E' := [(1, (.b 0 0)), (2, (.b 1 0)), (3, (.b 2 0))]) ⟨rfl, rfl, rfl, trivial⟩ ?_
  refine sr ?_
  refine Tp rfl rfl (pur_fa_b fld55_0 rfl rfl) rfl ?_
  refine Tp rfl rfl (pur_ldK_b agg42 rfl rfl (lb rfl) rfl) rfl ?_
  obtain ⟨r_1, h_2, H⟩ := bind_inv H
  refine TO_cons rfl (TOp_callO (call_static ent27 rfl) rfl (m_laws_toDatabase_own _ _ h_2) rfl rfl rfl ?_)
  refine TO_env (E' := [(1, (.b 0 0)), (2, (.b 1 0)), (3, (.b 2 0)), (4, (.b 0 0)), (5, (.g (tDatabase.enc a0.database))), (6, (.g [(.m [3] 0 r_1.relations.length tRelation.k), (.m [4] 0 r_1.facts.length tFact.k)]))]) ⟨rfl, rfl, rfl, rfl, rfl, rfl, trivial⟩ ?_
  refine TO_st (σ' := [.box [(sl tRelation a0.database.relations), (sl tFact a0.database.facts), (intA a0.query.variableCount), (sl tAtom a0.query.atoms), (sl tInt a0.query.free), (sl (tSl tInt) a0.certainRows), (sl (tSl tInt) a0.uncertainRows)], .box [.n, .n, (intA 0), .n, .n, .n, .n], .box [.n, .n, (intA 0), .n, .n, .n, .n], .row (flat tRelation.own r_1.relations), .row (flat tFact.own r_1.facts)]) rfl ?_
  refine Tp rfl rfl (pur_fa_b fld59_0 rfl rfl) rfl ?_
  refine TO_cons rfl (TOp_storeB sz48 rfl rfl rfl rfl rfl rfl rfl (by decide) (lb rfl) rfl ?_)
  refine TO_st (σ' := [.box [(sl tRelation a0.database.relations), (sl tFact a0.database.facts), (intA a0.query.variableCount), (sl tAtom a0.query.atoms), (sl tInt a0.query.free), (sl (tSl tInt) a0.certainRows), (sl (tSl tInt) a0.uncertainRows)], .box [.n, .n, (intA 0), .n, .n, .n, .n], .box [(.m [3] 0 r_1.relations.length tRelation.k), (.m [4] 0 r_1.facts.length tFact.k), (intA 0), .n, .n, .n, .n], .row (flat tRelation.own r_1.relations), .row (flat tFact.own r_1.facts)]) rfl ?_
  refine TO_nil ?_
  refine T_env (E' := [(1, (.b 0 0)), (2, (.b 1 0)), (3, (.b 2 0))]) ⟨rfl, rfl, rfl, trivial⟩ ?_
  refine sr ?_
  refine Tp rfl rfl (pur_fa_b fld55_1 rfl rfl) rfl ?_
  refine Tp rfl rfl (pur_ldK_b agg25 rfl rfl (lb rfl) rfl) rfl ?_
  obtain ⟨r_3, h_4, H⟩ := bind_inv H
  refine TO_cons rfl (TOp_callO (call_static ent17 rfl) rfl (m_laws_toQuery_own _ _ h_4) rfl rfl rfl ?_)
  refine TO_env (E' := [(1, (.b 0 0)), (2, (.b 1 0)), (3, (.b 2 0)), (8, (.b 0 2)), (9, (.g (tQuery.enc a0.query))), (10, (.g [(intA r_3.variableCount), (.m [5] 0 r_3.atoms.length tAtom.k), (.m [6] 0 r_3.free.length tInt.k)]))]) ⟨rfl, rfl, rfl, rfl, rfl, rfl, trivial⟩ ?_
  refine TO_st (σ' := [.box [(sl tRelation a0.database.relations), (sl tFact a0.database.facts), (intA a0.query.variableCount), (sl tAtom a0.query.atoms), (sl tInt a0.query.free), (sl (tSl tInt) a0.certainRows), (sl (tSl tInt) a0.uncertainRows)], .box [.n, .n, (intA 0), .n, .n, .n, .n], .box [(.m [3] 0 r_1.relations.length tRelation.k), (.m [4] 0 r_1.facts.length tFact.k), (intA 0), .n, .n, .n, .n], .row (flat tRelation.own r_1.relations), .row (flat tFact.own r_1.facts), .row (flat tAtom.own r_3.atoms), .row (flat tInt.own r_3.free)]) rfl ?_
  refine Tp rfl rfl (pur_fa_b fld59_1 rfl rfl) rfl ?_
  refine TO_cons rfl (TOp_storeB sz29 rfl rfl rfl rfl rfl rfl rfl (by decide) (lb rfl) rfl ?_)
  refine TO_st (σ' := [.box [(sl tRelation a0.database.relations), (sl tFact a0.database.facts), (intA a0.query.variableCount), (sl tAtom a0.query.atoms), (sl tInt a0.query.free), (sl (tSl tInt) a0.certainRows), (sl (tSl tInt) a0.uncertainRows)], .box [.n, .n, (intA 0), .n, .n, .n, .n], .box [(.m [3] 0 r_1.relations.length tRelation.k), (.m [4] 0 r_1.facts.length tFact.k), (intA r_3.variableCount), (.m [5] 0 r_3.atoms.length tAtom.k), (.m [6] 0 r_3.free.length tInt.k), .n, .n], .row (flat tRelation.own r_1.relations), .row (flat tFact.own r_1.facts), .row (flat tAtom.own r_3.atoms), .row (flat tInt.own r_3.free)]) rfl ?_
  refine TO_nil ?_
  refine T_env (E' := [(1, (.b 0 0)), (2, (.b 1 0)), (3, (.b 2 0))]) ⟨rfl, rfl, rfl, trivial⟩ ?_
  refine sr ?_
  refine Tp rfl rfl (pur_fa_b fld55_2 rfl rfl) rfl ?_
  refine Tp rfl rfl (pur_ld_b one53 rfl rfl rfl rfl) rfl ?_
  obtain ⟨r_5, h_6, H⟩ := bind_inv H
  refine TO_cons rfl (TOp_callO (call_static ent99 rfl) rfl (m_laws_toIntSS_own _ _ h_6) rfl rfl rfl ?_)
  refine TO_env (E' := [(1, (.b 0 0)), (2, (.b 1 0)), (3, (.b 2 0)), (12, (.b 0 5)), (13, (sl (tSl tInt) a0.certainRows)), (14, (.m [7] 0 r_5.length (tSl tInt).k))]) ⟨rfl, rfl, rfl, rfl, rfl, rfl, trivial⟩ ?_
  refine TO_st (σ' := [.box [(sl tRelation a0.database.relations), (sl tFact a0.database.facts), (intA a0.query.variableCount), (sl tAtom a0.query.atoms), (sl tInt a0.query.free), (sl (tSl tInt) a0.certainRows), (sl (tSl tInt) a0.uncertainRows)], .box [.n, .n, (intA 0), .n, .n, .n, .n], .box [(.m [3] 0 r_1.relations.length tRelation.k), (.m [4] 0 r_1.facts.length tFact.k), (intA r_3.variableCount), (.m [5] 0 r_3.atoms.length tAtom.k), (.m [6] 0 r_3.free.length tInt.k), .n, .n], .row (flat tRelation.own r_1.relations), .row (flat tFact.own r_1.facts), .row (flat tAtom.own r_3.atoms), .row (flat tInt.own r_3.free), .row (flat (tSl tInt).own r_5)]) rfl ?_
  refine Tp rfl rfl (pur_fa_b fld59_2 rfl rfl) rfl ?_
  refine TO_cons rfl (TOp_storeB sz53 rfl rfl rfl rfl rfl rfl rfl (by decide) (lb rfl) rfl ?_)
  refine TO_st (σ' := [.box [(sl tRelation a0.database.relations), (sl tFact a0.database.facts), (intA a0.query.variableCount), (sl tAtom a0.query.atoms), (sl tInt a0.query.free), (sl (tSl tInt) a0.certainRows), (sl (tSl tInt) a0.uncertainRows)], .box [.n, .n, (intA 0), .n, .n, .n, .n], .box [(.m [3] 0 r_1.relations.length tRelation.k), (.m [4] 0 r_1.facts.length tFact.k), (intA r_3.variableCount), (.m [5] 0 r_3.atoms.length tAtom.k), (.m [6] 0 r_3.free.length tInt.k), (.m [7] 0 r_5.length (tSl tInt).k), .n], .row (flat tRelation.own r_1.relations), .row (flat tFact.own r_1.facts), .row (flat tAtom.own r_3.atoms), .row (flat tInt.own r_3.free), .row (flat (tSl tInt).own r_5)]) rfl ?_
  refine TO_nil ?_
  refine T_env (E' := [(1, (.b 0 0)), (2, (.b 1 0)), (3, (.b 2 0))]) ⟨rfl, rfl, rfl, trivial⟩ ?_
  refine sr ?_
  refine Tp rfl rfl (pur_fa_b fld55_3 rfl rfl) rfl ?_
  refine Tp rfl rfl (pur_ld_b one53 rfl rfl rfl rfl) rfl ?_
  obtain ⟨r_7, h_8, H⟩ := bind_inv H
  refine TO_cons rfl (TOp_callO (call_static ent99 rfl) rfl (m_laws_toIntSS_own _ _ h_8) rfl rfl rfl ?_)
  refine TO_env (E' := [(1, (.b 0 0)), (2, (.b 1 0)), (3, (.b 2 0)), (16, (.b 0 6)), (17, (sl (tSl tInt) a0.uncertainRows)), (18, (.m [8] 0 r_7.length (tSl tInt).k))]) ⟨rfl, rfl, rfl, rfl, rfl, rfl, trivial⟩ ?_
  refine TO_st (σ' := [.box [(sl tRelation a0.database.relations), (sl tFact a0.database.facts), (intA a0.query.variableCount), (sl tAtom a0.query.atoms), (sl tInt a0.query.free), (sl (tSl tInt) a0.certainRows), (sl (tSl tInt) a0.uncertainRows)], .box [.n, .n, (intA 0), .n, .n, .n, .n], .box [(.m [3] 0 r_1.relations.length tRelation.k), (.m [4] 0 r_1.facts.length tFact.k), (intA r_3.variableCount), (.m [5] 0 r_3.atoms.length tAtom.k), (.m [6] 0 r_3.free.length tInt.k), (.m [7] 0 r_5.length (tSl tInt).k), .n], .row (flat tRelation.own r_1.relations), .row (flat tFact.own r_1.facts), .row (flat tAtom.own r_3.atoms), .row (flat tInt.own r_3.free), .row (flat (tSl tInt).own r_5), .row (flat (tSl tInt).own r_7)]) rfl ?_
  refine Tp rfl rfl (pur_fa_b fld59_3 rfl rfl) rfl ?_
  refine TO_cons rfl (TOp_storeB sz53 rfl rfl rfl rfl rfl rfl rfl (by decide) (lb rfl) rfl ?_)
  refine TO_st (σ' := [.box [(sl tRelation a0.database.relations), (sl tFact a0.database.facts), (intA a0.query.variableCount), (sl tAtom a0.query.atoms), (sl tInt a0.query.free), (sl (tSl tInt) a0.certainRows), (sl (tSl tInt) a0.uncertainRows)], .box [.n, .n, (intA 0), .n, .n, .n, .n], .box [(.m [3] 0 r_1.relations.length tRelation.k), (.m [4] 0 r_1.facts.length tFact.k), (intA r_3.variableCount), (.m [5] 0 r_3.atoms.length tAtom.k), (.m [6] 0 r_3.free.length tInt.k), (.m [7] 0 r_5.length (tSl tInt).k), (.m [8] 0 r_7.length (tSl tInt).k)], .row (flat tRelation.own r_1.relations), .row (flat tFact.own r_1.facts), .row (flat tAtom.own r_3.atoms), .row (flat tInt.own r_3.free), .row (flat (tSl tInt).own r_5), .row (flat (tSl tInt).own r_7)]) rfl ?_
  refine TO_nil ?_
  refine T_env (E' := [(2, (.b 1 0)), (3, (.b 2 0))]) ⟨rfl, rfl, trivial⟩ ?_
  refine sr ?_
  refine Tp rfl rfl (pur_ldK_b agg59 rfl rfl (lb rfl) rfl) rfl ?_
  refine TO_cons rfl (TOp_storeB sz59 rfl rfl rfl rfl rfl rfl rfl (by decide) (lb rfl) rfl ?_)
  refine TO_st (σ' := [.box [(sl tRelation a0.database.relations), (sl tFact a0.database.facts), (intA a0.query.variableCount), (sl tAtom a0.query.atoms), (sl tInt a0.query.free), (sl (tSl tInt) a0.certainRows), (sl (tSl tInt) a0.uncertainRows)], .box [(.m [3] 0 r_1.relations.length tRelation.k), (.m [4] 0 r_1.facts.length tFact.k), (intA r_3.variableCount), (.m [5] 0 r_3.atoms.length tAtom.k), (.m [6] 0 r_3.free.length tInt.k), (.m [7] 0 r_5.length (tSl tInt).k), (.m [8] 0 r_7.length (tSl tInt).k)], .box [(.m [3] 0 r_1.relations.length tRelation.k), (.m [4] 0 r_1.facts.length tFact.k), (intA r_3.variableCount), (.m [5] 0 r_3.atoms.length tAtom.k), (.m [6] 0 r_3.free.length tInt.k), (.m [7] 0 r_5.length (tSl tInt).k), (.m [8] 0 r_7.length (tSl tInt).k)], .row (flat tRelation.own r_1.relations), .row (flat tFact.own r_1.facts), .row (flat tAtom.own r_3.atoms), .row (flat tInt.own r_3.free), .row (flat (tSl tInt).own r_5), .row (flat (tSl tInt).own r_7)]) rfl ?_
  refine TO_nil ?_
  refine T_env (E' := [(2, (.b 1 0))]) ⟨rfl, trivial⟩ ?_
  refine T_ret ?_
  obtain rfl := some_inj H
  exact end_pick (.cellK rfl agg59 rfl (lb rfl) .nil) rfl [3, 4, 5, 6, 7, 8] (by decide) rfl rfl rfl rfl rfl rfl
theorem m_laws_toView_ok (a0 : View) (r : View) (H : m_laws_toView a0 = some r) : FnV prg 34 [(.g (tView.enc a0))] (.g (tView.enc r)) := (m_laws_toView_own a0 r H).frz (frzOK_g (frz_cons (frzT (T := tRelation) rfl) (frz_cons (frzT (T := tFact) rfl) (frz_cons (frz_loose rfl) (frz_cons (frzT (T := tAtom) rfl) (frz_cons (frzT (T := tInt) rfl) (frz_cons (frzT (T := (tSl tInt)) rfl) (frz_cons (frzT (T := (tSl tInt)) rfl) frz_nil))))))).1 (frz_cons (frzT (T := tRelation) rfl) (frz_cons (frzT (T := tFact) rfl) (frz_cons (frz_loose rfl) (frz_cons (frzT (T := tAtom) rfl) (frz_cons (frzT (T := tInt) rfl) (frz_cons (frzT (T := (tSl tInt)) rfl) (frz_cons (frzT (T := (tSl tInt)) rfl) frz_nil))))))).2)

set_option maxHeartbeats 1000000 in
/-- impl.Relation] -/
theorem m_slices_Equal_Simpl_Relation_impl_Relation_ok (s10 : (List Relation)) (s21 : (List Relation)) (r : Bool) (H : m_slices_Equal_Simpl_Relation_impl_Relation s10 s21 = some r) : FnV prg 149 [(sl tRelation s10), (sl tRelation s21)] (boolA r) := by
  unfold m_slices_Equal_Simpl_Relation_impl_Relation at H
  refine fnV_of_T Try.func149 rfl rfl (Nat.le_of_ble_eq_true rfl) ?_
  refine T_env (E' := [(0, (sl tRelation s10)), (1, (sl tRelation s21))]) ⟨rfl, rfl, trivial⟩ ?_
  refine sr ?_
  refine Tp rfl rfl (pur_assign rfl) rfl ?_
  refine TO_nil ?_
  refine T_env (E' := [(0, (sl tRelation s10)), (1, (sl tRelation s21))]) ⟨rfl, rfl, trivial⟩ ?_
  refine T_seq ?_
  refine sr ?_
  refine Tp rfl rfl (pur_move rfl) rfl ?_
  refine Tp rfl rfl (pur_lenT (T := tRelation) sl45 rfl rfl) rfl ?_
  refine Tp rfl rfl (pur_move rfl) rfl ?_
  refine Tp rfl rfl (pur_lenT (T := tRelation) sl45 rfl rfl) rfl ?_
  refine Tp rfl rfl (pur_neq rfl rfl rfl) rfl ?_
  refine TO_nil ?_
  refine T_env (E' := [(0, (sl tRelation s10)), (1, (sl tRelation s21)), (10, (boolA (decide ((s10.length : Int) ≠ (s21.length : Int)))))]) ⟨rfl, rfl, rfl, trivial⟩ ?_
  refine T_cond (t := decide ((s10.length : Int) ≠ (s21.length : Int))) rfl (fun c_1 => ?_) (fun c_1 => ?_)
  · replace H := cond_t c_1 H
    refine sr ?_
    refine Tp rfl rfl (pur_assign rfl) rfl ?_
    refine TO_nil ?_
    refine T_env (E' := [(4, (boolA false))]) ⟨rfl, trivial⟩ ?_
    refine T_ret ?_
    refine then_ret ?_
    obtain rfl := some_inj H
    refine end_ret (.tmp .nil) rfl rfl ⟨?_, rfl⟩
    rfl
  · replace H := cond_f c_1 H
    refine T_skip ?_
    refine T_env (E' := [(0, (sl tRelation s10)), (1, (sl tRelation s21))]) ⟨rfl, rfl, trivial⟩ ?_
    refine T_seq ?_
    refine sr ?_
    refine Tp rfl rfl (pur_move rfl) rfl ?_
    refine Tp rfl rfl (pur_lenT (T := tRelation) sl45 rfl rfl) rfl ?_
    refine Tp rfl rfl (pur_move rfl) rfl ?_
    refine TO_nil ?_
    refine T_env (E' := [(0, (sl tRelation s10)), (1, (sl tRelation s21)), (12, (intA (s10.length : Int))), (13, (intA 0))]) ⟨rfl, rfl, rfl, rfl, trivial⟩ ?_
    obtain ⟨O3_, L3_, N3_⟩ := bind_inv H
    clear H
    obtain ⟨B3_, hb3, L3_⟩ := gen_forL L3_
    refine T_block ?_
    refine T_loopX (fun k => fun (t_2 : Nat) => k = s10.length - t_2 ∧ forL B3_ (s10.drop t_2) (t_2 : Int) () = some O3_) (fun (t_2 : Nat) => [(0, (sl tRelation s10)), (1, (sl tRelation s21)), (12, (intA (s10.length : Int))), (13, (intA (t_2 : Int)))]) (fun (t_2 : Nat) => []) _ (0 : Nat) (wp 0 (lb rfl) rfl rfl rfl rfl ⟨rfl, rfl, rfl, rfl, trivial⟩) ⟨rfl, L3_⟩ ?_
    rintro _ t_2 ⟨rfl, L3_⟩
    refine T_env (E' := [(0, (sl tRelation s10)), (1, (sl tRelation s21)), (12, (intA (s10.length : Int))), (13, (intA (t_2 : Int)))]) ⟨rfl, rfl, rfl, rfl, trivial⟩ ?_
    refine T_st (σ' := []) rfl ?_
    refine T_fact (len_sl (T := tRelation) (.tmp 0) rfl) (fun hl3 => ?_)
    refine sr ?_
    refine Tp rfl rfl (pur_lss rfl rfl rfl) rfl ?_
    refine TO_nil ?_
    refine T_env (E' := [(0, (sl tRelation s10)), (1, (sl tRelation s21)), (12, (intA (s10.length : Int))), (13, (intA (t_2 : Int))), (14, (boolA (decide ((t_2 : Int) < (s10.length : Int)))))]) ⟨rfl, rfl, rfl, rfl, rfl, trivial⟩ ?_
    refine T_seq ?_
    refine T_cond (t := decide ((t_2 : Int) < (s10.length : Int))) rfl (fun d3 => ?_) (fun d3 => ?_)
    · replace d3 := of_decide_eq_true d3
      obtain ⟨x_t_2, hx_t_2⟩ : ∃ v, (s10)[t_2]? = some v := ⟨_, List.getElem?_eq_getElem (by omega)⟩
      obtain ⟨C3_, H, K3_⟩ := forL_step L3_ hx_t_2
      rw [hb3] at H
      refine T_skip ?_
      refine T_env (E' := [(0, (sl tRelation s10)), (1, (sl tRelation s21)), (12, (intA (s10.length : Int))), (13, (intA (t_2 : Int)))]) ⟨rfl, rfl, rfl, rfl, trivial⟩ ?_
      refine T_seq ?_
      refine T_block ?_
      refine sr ?_
      refine Tp rfl rfl (pur_move rfl) rfl ?_
      refine Tp rfl rfl (pur_assign rfl) rfl ?_
      refine TO_nil ?_
      refine T_env (E' := [(0, (sl tRelation s10)), (1, (sl tRelation s21)), (5, (intA (t_2 : Int))), (12, (intA (s10.length : Int))), (13, (intA (t_2 : Int)))]) ⟨rfl, rfl, rfl, rfl, rfl, trivial⟩ ?_
      refine T_seq ?_
      refine T_regionD mixed (by kernel_rfl) ?_
      refine TQ_pure rfl (pur_move rfl) rfl ?_
      refine TQ_pure rfl (pur_move rfl) rfl ?_
      refine TQ_pure rfl (pur_ixT (T := tRelation) sl45 rfl rfl rfl hx_t_2 rfl) rfl ?_
      refine TQ_pure rfl (pur_ldTK (T := tRelation) (i := t_2) (off := 0) rfl agg130 rfl rfl hx_t_2 (by decide) rfl) rfl ?_
      refine TQ_pure rfl (pur_move rfl) rfl ?_
      refine TQ_pure rfl (pur_move rfl) rfl ?_
      obtain ⟨v_4, h_5, H⟩ := bind_inv H
      obtain ⟨n_6, hz_7, hv_8⟩ := getI_inv h_5
      refine TQ_pure rfl (pur_ixT (T := tRelation) sl45 rfl rfl hz_7 hv_8 rfl) rfl ?_
      refine TQ_pure rfl (pur_ldTK (T := tRelation) (i := n_6) (off := 0) rfl agg130 rfl rfl hv_8 (by decide) rfl) rfl ?_
      refine TQ_pure rfl (pur_neqT [.s x_t_2.name v_4.name, .i x_t_2.arity v_4.arity, .i x_t_2.keyLength v_4.keyLength] eqs130 rfl rfl rfl rfl) rfl ?_
      refine TQ_nil ?_
      refine T_env (E' := [(0, (sl tRelation s10)), (1, (sl tRelation s21)), (12, (intA (s10.length : Int))), (13, (intA (t_2 : Int))), (24, (boolA (!(cmpSc [.s x_t_2.name v_4.name, .i x_t_2.arity v_4.arity, .i x_t_2.keyLength v_4.keyLength]))))]) ⟨rfl, rfl, rfl, rfl, rfl, trivial⟩ ?_
      refine T_cond (t := (!(cmpSc [.s x_t_2.name v_4.name, .i x_t_2.arity v_4.arity, .i x_t_2.keyLength v_4.keyLength]))) rfl (fun c_9 => ?_) (fun c_9 => ?_)
      · replace H := cond_t c_9 H
        refine sr ?_
        refine Tp rfl rfl (pur_assign rfl) rfl ?_
        refine TO_nil ?_
        refine T_env (E' := [(4, (boolA false))]) ⟨rfl, trivial⟩ ?_
        refine T_ret ?_
        refine block_ret ?_
        refine then_ret ?_
        refine then_ret ?_
        refine block_ret ?_
        refine then_ret ?_
        obtain rfl := some_inj H
        obtain rfl := some_inj K3_
        replace H := onS_r N3_
        obtain rfl := some_inj H
        refine end_ret (.tmp .nil) rfl rfl ⟨?_, rfl⟩
        rfl
      · replace H := cond_f c_9 H
        refine T_skip ?_
        refine T_env (E' := [(0, (sl tRelation s10)), (1, (sl tRelation s21)), (12, (intA (s10.length : Int))), (13, (intA (t_2 : Int)))]) ⟨rfl, rfl, rfl, rfl, trivial⟩ ?_
        refine T_region ?_
        refine Tp rfl rfl (pur_add rfl rfl rfl (fits64 (by omega) (by omega))) rfl ?_
        refine Tp rfl rfl (pur_move rfl) rfl ?_
        refine TO_nil ?_
        obtain rfl := some_inj H
        exact again (s10.length - (t_2 + 1)) (t_2 + 1) (by omega) (wp 0 (lb rfl) rfl rfl rfl rfl ⟨rfl, rfl, rfl, rfl, trivial⟩) ⟨rfl, K3_⟩
    · replace d3 := of_decide_eq_false d3
      obtain rfl := forL_end L3_ (by omega)
      refine T_exit ?_
      refine then_exit ?_
      refine then_exit ?_
      refine block_exit ?_
      replace H := onS_l N3_
      refine T_env (E' := []) trivial ?_
      refine sr ?_
      refine Tp rfl rfl (pur_assign rfl) rfl ?_
      refine TO_nil ?_
      refine T_env (E' := [(4, (boolA true))]) ⟨rfl, trivial⟩ ?_
      refine T_ret ?_
      obtain rfl := some_inj H
      refine end_ret (.tmp .nil) rfl rfl ⟨?_, rfl⟩
      rfl

set_option maxHeartbeats 1000000 in
/-- impl.Fact] -/
theorem m_slices_EqualFunc_Simpl_Fact_Simpl_Fact_impl_Fact_impl_Fact_ok (s10 : (List Fact)) (s21 : (List Fact)) (eq2 : (Fact → Fact → Option Bool)) (eq2_g : Nat) (eq2_c : List A) (eq2_E : EnT prg eq2_g) (eq2_l : looseL eq2_c = true) (eq2_m : firmL eq2_c = true ∧ fzL eq2_c = eq2_c) (eq2_H : ∀ (x0 : Fact) (x1 : Fact) r, eq2 x0 x1 = some r → FnV prg eq2_g ([(.g (tFact.enc x0)), (.g (tFact.enc x1))] ++ eq2_c) (boolA r)) (r : Bool) (H : m_slices_EqualFunc_Simpl_Fact_Simpl_Fact_impl_Fact_impl_Fact s10 s21 eq2 = some r) : FnV prg 150 [(sl tFact s10), (sl tFact s21), (.f eq2_g eq2_c)] (boolA r) := by
  unfold m_slices_EqualFunc_Simpl_Fact_Simpl_Fact_impl_Fact_impl_Fact at H
  refine fnV_of_T Try.func150 rfl rfl (Nat.le_of_ble_eq_true rfl) ?_
  refine T_env (E' := [(0, (sl tFact s10)), (1, (sl tFact s21)), (2, (.f eq2_g eq2_c))]) ⟨rfl, rfl, rfl, trivial⟩ ?_
  refine sr ?_
  refine Tp rfl rfl (pur_assign rfl) rfl ?_
  refine TO_nil ?_
  refine T_env (E' := [(0, (sl tFact s10)), (1, (sl tFact s21)), (2, (.f eq2_g eq2_c))]) ⟨rfl, rfl, rfl, trivial⟩ ?_
  refine T_seq ?_
  refine sr ?_
  refine Tp rfl rfl (pur_move rfl) rfl ?_
  refine Tp rfl rfl (pur_lenT (T := tFact) sl46 rfl rfl) rfl ?_
  refine Tp rfl rfl (pur_move rfl) rfl ?_
  refine Tp rfl rfl (pur_lenT (T := tFact) sl46 rfl rfl) rfl ?_
  refine Tp rfl rfl (pur_neq rfl rfl rfl) rfl ?_
  refine TO_nil ?_
  refine T_env (E' := [(0, (sl tFact s10)), (1, (sl tFact s21)), (2, (.f eq2_g eq2_c)), (14, (boolA (decide ((s10.length : Int) ≠ (s21.length : Int)))))]) ⟨rfl, rfl, rfl, rfl, trivial⟩ ?_
  refine T_cond (t := decide ((s10.length : Int) ≠ (s21.length : Int))) rfl (fun c_1 => ?_) (fun c_1 => ?_)
  · replace H := cond_t c_1 H
    refine sr ?_
    refine Tp rfl rfl (pur_assign rfl) rfl ?_
    refine TO_nil ?_
    refine T_env (E' := [(6, (boolA false))]) ⟨rfl, trivial⟩ ?_
    refine T_ret ?_
    refine then_ret ?_
    obtain rfl := some_inj H
    refine end_ret (.tmp .nil) rfl rfl ⟨?_, rfl⟩
    rfl
  · replace H := cond_f c_1 H
    refine T_skip ?_
    refine T_env (E' := [(0, (sl tFact s10)), (1, (sl tFact s21)), (2, (.f eq2_g eq2_c))]) ⟨rfl, rfl, rfl, trivial⟩ ?_
    refine T_seq ?_
    refine sr ?_
    refine Tp rfl rfl (pur_move rfl) rfl ?_
    refine Tp rfl rfl (pur_lenT (T := tFact) sl46 rfl rfl) rfl ?_
    refine Tp rfl rfl (pur_move rfl) rfl ?_
    refine TO_nil ?_
    refine T_env (E' := [(1, (sl tFact s21)), (2, (.f eq2_g eq2_c)), (15, (sl tFact s10)), (16, (intA (s10.length : Int))), (17, (intA 0))]) ⟨rfl, rfl, rfl, rfl, rfl, trivial⟩ ?_
    obtain ⟨O3_, L3_, N3_⟩ := bind_inv H
    clear H
    obtain ⟨B3_, hb3, L3_⟩ := gen_forL L3_
    refine T_block ?_
    refine T_loopX (fun k => fun (t_2 : Nat) => k = s10.length - t_2 ∧ forL B3_ (s10.drop t_2) (t_2 : Int) () = some O3_) (fun (t_2 : Nat) => [(1, (sl tFact s21)), (2, (.f eq2_g eq2_c)), (15, (sl tFact s10)), (16, (intA (s10.length : Int))), (17, (intA (t_2 : Int)))]) (fun (t_2 : Nat) => []) _ (0 : Nat) (wp 0 (lb rfl) rfl rfl (by simp only [namesE, A.names, namesL_enc, Bool.false_or, Bool.or_false, looseL_names eq2_l]) rfl ⟨rfl, rfl, rfl, rfl, rfl, trivial⟩) ⟨rfl, L3_⟩ ?_
    rintro _ t_2 ⟨rfl, L3_⟩
    refine T_env (E' := [(1, (sl tFact s21)), (2, (.f eq2_g eq2_c)), (15, (sl tFact s10)), (16, (intA (s10.length : Int))), (17, (intA (t_2 : Int)))]) ⟨rfl, rfl, rfl, rfl, rfl, trivial⟩ ?_
    refine T_st (σ' := []) rfl ?_
    refine T_fact (len_sl (T := tFact) (.tmp 15) rfl) (fun hl3 => ?_)
    refine sr ?_
    refine Tp rfl rfl (pur_lss rfl rfl rfl) rfl ?_
    refine TO_nil ?_
    refine T_env (E' := [(1, (sl tFact s21)), (2, (.f eq2_g eq2_c)), (15, (sl tFact s10)), (16, (intA (s10.length : Int))), (17, (intA (t_2 : Int))), (18, (boolA (decide ((t_2 : Int) < (s10.length : Int)))))]) ⟨rfl, rfl, rfl, rfl, rfl, rfl, trivial⟩ ?_
    refine T_seq ?_
    refine T_cond (t := decide ((t_2 : Int) < (s10.length : Int))) rfl (fun d3 => ?_) (fun d3 => ?_)
    · replace d3 := of_decide_eq_true d3
      obtain ⟨x_t_2, hx_t_2⟩ : ∃ v, (s10)[t_2]? = some v := ⟨_, List.getElem?_eq_getElem (by omega)⟩
      obtain ⟨C3_, H, K3_⟩ := forL_step L3_ hx_t_2
      rw [hb3] at H
      refine T_skip ?_
      refine T_env (E' := [(1, (sl tFact s21)), (2, (.f eq2_g eq2_c)), (15, (sl tFact s10)), (16, (intA (s10.length : Int))), (17, (intA (t_2 : Int)))]) ⟨rfl, rfl, rfl, rfl, rfl, trivial⟩ ?_
      refine T_seq ?_
      refine T_block ?_
      refine sr ?_
      refine Tp rfl rfl (pur_move rfl) rfl ?_
      refine Tp rfl rfl (pur_ixT (T := tFact) sl46 rfl rfl rfl hx_t_2 rfl) rfl ?_
      refine Tp rfl rfl (pur_ldTK (T := tFact) (i := t_2) (off := 0) rfl agg65 rfl rfl hx_t_2 (by decide) rfl) rfl ?_
      refine TO_cons rfl (TOp_alloc zero65 rfl rfl ?_)
      refine Tp rfl rfl (pur_assign rfl) rfl ?_
      refine TO_cons rfl (TOp_storeB sz65 rfl rfl rfl rfl rfl rfl rfl (by decide) (lb rfl) rfl ?_)
      refine TO_st (σ' := [.box [(intA x_t_2.relation), (sl tInt x_t_2.values)]]) rfl ?_
      refine TO_nil ?_
      refine T_env (E' := [(1, (sl tFact s21)), (2, (.f eq2_g eq2_c)), (7, (intA (t_2 : Int))), (8, (.b 0 0)), (15, (sl tFact s10)), (16, (intA (s10.length : Int))), (17, (intA (t_2 : Int)))]) ⟨rfl, rfl, rfl, rfl, rfl, rfl, rfl, trivial⟩ ?_
      refine sr ?_
      refine Tp rfl rfl (pur_move rfl) rfl ?_
      refine Tp rfl rfl (pur_move rfl) rfl ?_
      obtain ⟨v_4, h_5, H⟩ := bind_inv H
      obtain ⟨n_6, hz_7, hv_8⟩ := getI_inv h_5
      refine Tp rfl rfl (pur_ixT (T := tFact) sl46 rfl rfl hz_7 hv_8 rfl) rfl ?_
      refine Tp rfl rfl (pur_ldTK (T := tFact) (i := n_6) (off := 0) rfl agg65 rfl rfl hv_8 (by decide) rfl) rfl ?_
      refine TO_cons rfl (TOp_alloc zero65 rfl rfl ?_)
      refine TO_cons rfl (TOp_storeB sz65 rfl rfl rfl rfl rfl rfl rfl (by decide) (lb rfl) rfl ?_)
      refine TO_st (σ' := [.box [(intA x_t_2.relation), (sl tInt x_t_2.values)], .box [(intA v_4.relation), (sl tInt v_4.values)]]) rfl ?_
      refine TO_nil ?_
      refine T_env (E' := [(1, (sl tFact s21)), (2, (.f eq2_g eq2_c)), (8, (.b 0 0)), (9, (.b 1 0)), (15, (sl tFact s10)), (16, (intA (s10.length : Int))), (17, (intA (t_2 : Int)))]) ⟨rfl, rfl, rfl, rfl, rfl, rfl, rfl, trivial⟩ ?_
      refine sr ?_
      refine Tp rfl rfl (pur_move rfl) rfl ?_
      refine Tp rfl rfl (pur_ldK_b agg65 rfl rfl (lb rfl) rfl) rfl ?_
      refine Tp rfl rfl (pur_ldK_b agg65 rfl rfl (lb rfl) rfl) rfl ?_
      obtain ⟨r_9, h_10, H⟩ := bind_inv H
      refine TO_cons rfl (TOp_callV (call_closure eq2_E rfl rfl) (eq2_H _ _  _ h_10) (looseL_app rfl eq2_l) rfl rfl ?_)
      refine Tp rfl rfl (pur_not rfl rfl) rfl ?_
      refine TO_nil ?_
      refine T_env (E' := [(1, (sl tFact s21)), (2, (.f eq2_g eq2_c)), (15, (sl tFact s10)), (16, (intA (s10.length : Int))), (17, (intA (t_2 : Int))), (30, (boolA (!r_9)))]) ⟨rfl, rfl, rfl, rfl, rfl, rfl, trivial⟩ ?_
      refine T_cond (t := (!r_9)) rfl (fun c_11 => ?_) (fun c_11 => ?_)
      · replace H := cond_t c_11 H
        refine sr ?_
        refine Tp rfl rfl (pur_assign rfl) rfl ?_
        refine TO_nil ?_
        refine T_env (E' := [(6, (boolA false))]) ⟨rfl, trivial⟩ ?_
        refine T_ret ?_
        refine block_ret ?_
        refine then_ret ?_
        refine then_ret ?_
        refine block_ret ?_
        refine then_ret ?_
        obtain rfl := some_inj H
        obtain rfl := some_inj K3_
        replace H := onS_r N3_
        obtain rfl := some_inj H
        refine end_ret (.tmp .nil) rfl rfl ⟨?_, rfl⟩
        rfl
      · replace H := cond_f c_11 H
        refine T_skip ?_
        refine T_env (E' := [(1, (sl tFact s21)), (2, (.f eq2_g eq2_c)), (15, (sl tFact s10)), (16, (intA (s10.length : Int))), (17, (intA (t_2 : Int)))]) ⟨rfl, rfl, rfl, rfl, rfl, trivial⟩ ?_
        refine T_region ?_
        refine Tp rfl rfl (pur_add rfl rfl rfl (fits64 (by omega) (by omega))) rfl ?_
        refine Tp rfl rfl (pur_move rfl) rfl ?_
        refine TO_nil ?_
        obtain rfl := some_inj H
        exact again (s10.length - (t_2 + 1)) (t_2 + 1) (by omega) (wp 0 (lb rfl) rfl rfl (by simp only [namesE, A.names, namesL_enc, Bool.false_or, Bool.or_false, looseL_names eq2_l]) rfl ⟨rfl, rfl, rfl, rfl, rfl, trivial⟩) ⟨rfl, K3_⟩
    · replace d3 := of_decide_eq_false d3
      obtain rfl := forL_end L3_ (by omega)
      refine T_exit ?_
      refine then_exit ?_
      refine then_exit ?_
      refine block_exit ?_
      replace H := onS_l N3_
      refine T_env (E' := []) trivial ?_
      refine sr ?_
      refine Tp rfl rfl (pur_assign rfl) rfl ?_
      refine TO_nil ?_
      refine T_env (E' := [(6, (boolA true))]) ⟨rfl, trivial⟩ ?_
      refine T_ret ?_
      obtain rfl := some_inj H
      refine end_ret (.tmp .nil) rfl rfl ⟨?_, rfl⟩
      rfl

set_option maxHeartbeats 1000000 in
/-- impl.compare -/
theorem m_impl_compare_ok (a0 : Int) (b1 : Int) (r : Int) (H : m_impl_compare a0 b1 = some r) : FnV prg 175 [(intA a0), (intA b1)] (intA r) := by
  unfold m_impl_compare at H
  refine fnV_of_T Try.func175 rfl rfl (Nat.le_of_ble_eq_true rfl) ?_
  refine T_env (E' := [(0, (intA a0)), (1, (intA b1))]) ⟨rfl, rfl, trivial⟩ ?_
  refine sr ?_
  refine Tp rfl rfl (pur_assign rfl) rfl ?_
  refine TO_nil ?_
  refine T_env (E' := [(0, (intA a0)), (1, (intA b1))]) ⟨rfl, rfl, trivial⟩ ?_
  refine T_seq ?_
  refine T_block ?_
  refine sr ?_
  refine Tp rfl rfl (pur_move rfl) rfl ?_
  refine Tp rfl rfl (pur_move rfl) rfl ?_
  refine Tp rfl rfl (pur_lss rfl rfl rfl) rfl ?_
  refine Tp rfl rfl (pur_assign rfl) rfl ?_
  refine TO_nil ?_
  refine T_env (E' := [(0, (intA a0)), (1, (intA b1)), (5, (boolA (decide (a0 < b1))))]) ⟨rfl, rfl, rfl, trivial⟩ ?_
  refine T_cond (t := decide (a0 < b1)) rfl (fun c_1 => ?_) (fun c_1 => ?_)
  · replace H := cond_t c_1 H
    refine sr ?_
    refine Tp rfl rfl (pur_assign rfl) rfl ?_
    refine TO_nil ?_
    refine T_env (E' := [(4, (intA (-1)))]) ⟨rfl, trivial⟩ ?_
    refine T_ret ?_
    refine block_ret ?_
    refine then_ret ?_
    obtain rfl := some_inj H
    refine end_ret (.tmp .nil) rfl rfl ⟨?_, rfl⟩
    rfl
  · replace H := cond_f c_1 H
    refine sr ?_
    refine Tp rfl rfl (pur_move rfl) rfl ?_
    refine Tp rfl rfl (pur_move rfl) rfl ?_
    refine Tp rfl rfl (pur_gtr rfl rfl rfl) rfl ?_
    refine Tp rfl rfl (pur_assign rfl) rfl ?_
    refine TO_nil ?_
    refine T_env (E' := [(9, (boolA (decide (b1 < a0))))]) ⟨rfl, trivial⟩ ?_
    refine T_cond (t := decide (b1 < a0)) rfl (fun c_2 => ?_) (fun c_2 => ?_)
    · replace H := cond_t c_2 H
      refine sr ?_
      refine Tp rfl rfl (pur_assign rfl) rfl ?_
      refine TO_nil ?_
      refine T_env (E' := [(4, (intA 1))]) ⟨rfl, trivial⟩ ?_
      refine T_ret ?_
      refine block_ret ?_
      refine then_ret ?_
      obtain rfl := some_inj H
      refine end_ret (.tmp .nil) rfl rfl ⟨?_, rfl⟩
      rfl
    · replace H := cond_f c_2 H
      refine T_skip ?_
      refine T_env (E' := []) trivial ?_
      refine sr ?_
      refine Tp rfl rfl (pur_assign rfl) rfl ?_
      refine TO_nil ?_
      refine T_env (E' := [(4, (intA 0))]) ⟨rfl, trivial⟩ ?_
      refine T_ret ?_
      obtain rfl := some_inj H
      refine end_ret (.tmp .nil) rfl rfl ⟨?_, rfl⟩
      rfl

set_option maxHeartbeats 1000000 in
/-- cmp.isNaN[int] -/
theorem m_cmp_isNaN_int_ok (x0 : Int) (r : Bool) (H : m_cmp_isNaN_int x0 = some r) : FnV prg 191 [(intA x0)] (boolA r) := by
  unfold m_cmp_isNaN_int at H
  refine fnV_of_T Try.func191 rfl rfl (Nat.le_of_ble_eq_true rfl) ?_
  refine T_env (E' := [(0, (intA x0))]) ⟨rfl, trivial⟩ ?_
  refine sr ?_
  refine Tp rfl rfl (pur_assign rfl) rfl ?_
  refine TO_nil ?_
  refine T_env (E' := [(0, (intA x0))]) ⟨rfl, trivial⟩ ?_
  refine sr ?_
  refine Tp rfl rfl (pur_move rfl) rfl ?_
  refine Tp rfl rfl (pur_move rfl) rfl ?_
  refine Tp rfl rfl (pur_neq rfl rfl rfl) rfl ?_
  refine Tp rfl rfl (pur_assign rfl) rfl ?_
  refine TO_nil ?_
  refine T_env (E' := [(2, (boolA (decide (x0 ≠ x0))))]) ⟨rfl, trivial⟩ ?_
  refine T_ret ?_
  obtain rfl := some_inj H
  refine end_ret (.tmp .nil) rfl rfl ⟨?_, rfl⟩
  rfl

set_option maxHeartbeats 1000000 in
/-- cmp.Compare[int] -/
theorem m_cmp_Compare_int_ok (x0 : Int) (y1 : Int) (r : Int) (H : m_cmp_Compare_int x0 y1 = some r) : FnV prg 187 [(intA x0), (intA y1)] (intA r) := by
  unfold m_cmp_Compare_int at H
  refine fnV_of_T Try.func187 rfl rfl (Nat.le_of_ble_eq_true rfl) ?_
  refine T_env (E' := [(0, (intA x0)), (1, (intA y1))]) ⟨rfl, rfl, trivial⟩ ?_
  refine sr ?_
  refine Tp rfl rfl (pur_assign rfl) rfl ?_
  refine TO_nil ?_
  refine T_env (E' := [(0, (intA x0)), (1, (intA y1))]) ⟨rfl, rfl, trivial⟩ ?_
  refine sr ?_
  refine Tp rfl rfl (pur_move rfl) rfl ?_
  obtain ⟨r_1, h_2, H⟩ := bind_inv H
  refine TO_cons rfl (TOp_callV (call_static ent191 rfl) (m_cmp_isNaN_int_ok _ _ h_2) rfl rfl rfl ?_)
  refine Tp rfl rfl (pur_assign rfl) rfl ?_
  refine TO_nil ?_
  refine T_env (E' := [(0, (intA x0)), (1, (intA y1)), (5, (boolA r_1))]) ⟨rfl, rfl, rfl, trivial⟩ ?_
  refine sr ?_
  refine Tp rfl rfl (pur_move rfl) rfl ?_
  obtain ⟨r_3, h_4, H⟩ := bind_inv H
  refine TO_cons rfl (TOp_callV (call_static ent191 rfl) (m_cmp_isNaN_int_ok _ _ h_4) rfl rfl rfl ?_)
  refine Tp rfl rfl (pur_assign rfl) rfl ?_
  refine TO_nil ?_
  refine T_env (E' := [(0, (intA x0)), (1, (intA y1)), (5, (boolA r_1)), (6, (boolA r_3))]) ⟨rfl, rfl, rfl, rfl, trivial⟩ ?_
  refine T_seq ?_
  refine sr ?_
  refine Tp rfl rfl (pur_move rfl) rfl ?_
  refine TO_nil ?_
  refine T_env (E' := [(0, (intA x0)), (1, (intA y1)), (6, (boolA r_3)), (11, (boolA r_1))]) ⟨rfl, rfl, rfl, rfl, trivial⟩ ?_
  refine T_cond (t := r_1) rfl (fun c_5 => ?_) (fun c_5 => ?_)
  · replace H := cond_t c_5 H
    refine T_seq ?_
    refine sr ?_
    refine Tp rfl rfl (pur_move rfl) rfl ?_
    refine TO_nil ?_
    refine T_env (E' := [(12, (boolA r_3))]) ⟨rfl, trivial⟩ ?_
    refine T_cond (t := r_3) rfl (fun c_6 => ?_) (fun c_6 => ?_)
    · replace H := cond_t c_6 H
      refine sr ?_
      refine Tp rfl rfl (pur_assign rfl) rfl ?_
      refine TO_nil ?_
      refine T_env (E' := [(4, (intA 0))]) ⟨rfl, trivial⟩ ?_
      refine T_ret ?_
      refine then_ret ?_
      refine then_ret ?_
      obtain rfl := some_inj H
      refine end_ret (.tmp .nil) rfl rfl ⟨?_, rfl⟩
      rfl
    · replace H := cond_f c_6 H
      refine T_skip ?_
      refine T_env (E' := []) trivial ?_
      refine sr ?_
      refine Tp rfl rfl (pur_assign rfl) rfl ?_
      refine TO_nil ?_
      refine T_env (E' := [(4, (intA (-1)))]) ⟨rfl, trivial⟩ ?_
      refine T_ret ?_
      refine then_ret ?_
      obtain rfl := some_inj H
      refine end_ret (.tmp .nil) rfl rfl ⟨?_, rfl⟩
      rfl
  · replace H := cond_f c_5 H
    refine T_skip ?_
    refine T_env (E' := [(0, (intA x0)), (1, (intA y1)), (6, (boolA r_3))]) ⟨rfl, rfl, rfl, trivial⟩ ?_
    refine T_seq ?_
    refine sr ?_
    refine Tp rfl rfl (pur_move rfl) rfl ?_
    refine TO_nil ?_
    refine T_env (E' := [(0, (intA x0)), (1, (intA y1)), (13, (boolA r_3))]) ⟨rfl, rfl, rfl, trivial⟩ ?_
    refine T_cond (t := r_3) rfl (fun c_7 => ?_) (fun c_7 => ?_)
    · replace H := cond_t c_7 H
      refine sr ?_
      refine Tp rfl rfl (pur_assign rfl) rfl ?_
      refine TO_nil ?_
      refine T_env (E' := [(4, (intA 1))]) ⟨rfl, trivial⟩ ?_
      refine T_ret ?_
      refine then_ret ?_
      obtain rfl := some_inj H
      refine end_ret (.tmp .nil) rfl rfl ⟨?_, rfl⟩
      rfl
    · replace H := cond_f c_7 H
      refine T_skip ?_
      refine T_env (E' := [(0, (intA x0)), (1, (intA y1))]) ⟨rfl, rfl, trivial⟩ ?_
      refine T_seq ?_
      refine sr ?_
      refine Tp rfl rfl (pur_move rfl) rfl ?_
      refine Tp rfl rfl (pur_move rfl) rfl ?_
      refine Tp rfl rfl (pur_lss rfl rfl rfl) rfl ?_
      refine TO_nil ?_
      refine T_env (E' := [(0, (intA x0)), (1, (intA y1)), (16, (boolA (decide (x0 < y1))))]) ⟨rfl, rfl, rfl, trivial⟩ ?_
      refine T_cond (t := decide (x0 < y1)) rfl (fun c_8 => ?_) (fun c_8 => ?_)
      · replace H := cond_t c_8 H
        refine sr ?_
        refine Tp rfl rfl (pur_assign rfl) rfl ?_
        refine TO_nil ?_
        refine T_env (E' := [(4, (intA (-1)))]) ⟨rfl, trivial⟩ ?_
        refine T_ret ?_
        refine then_ret ?_
        obtain rfl := some_inj H
        refine end_ret (.tmp .nil) rfl rfl ⟨?_, rfl⟩
        rfl
      · replace H := cond_f c_8 H
        refine T_skip ?_
        refine T_env (E' := [(0, (intA x0)), (1, (intA y1))]) ⟨rfl, rfl, trivial⟩ ?_
        refine T_seq ?_
        refine sr ?_
        refine Tp rfl rfl (pur_move rfl) rfl ?_
        refine Tp rfl rfl (pur_move rfl) rfl ?_
        refine Tp rfl rfl (pur_gtr rfl rfl rfl) rfl ?_
        refine TO_nil ?_
        refine T_env (E' := [(19, (boolA (decide (y1 < x0))))]) ⟨rfl, trivial⟩ ?_
        refine T_cond (t := decide (y1 < x0)) rfl (fun c_9 => ?_) (fun c_9 => ?_)
        · replace H := cond_t c_9 H
          refine sr ?_
          refine Tp rfl rfl (pur_assign rfl) rfl ?_
          refine TO_nil ?_
          refine T_env (E' := [(4, (intA 1))]) ⟨rfl, trivial⟩ ?_
          refine T_ret ?_
          refine then_ret ?_
          obtain rfl := some_inj H
          refine end_ret (.tmp .nil) rfl rfl ⟨?_, rfl⟩
          rfl
        · replace H := cond_f c_9 H
          refine T_skip ?_
          refine T_env (E' := []) trivial ?_
          refine sr ?_
          refine Tp rfl rfl (pur_assign rfl) rfl ?_
          refine TO_nil ?_
          refine T_env (E' := [(4, (intA 0))]) ⟨rfl, trivial⟩ ?_
          refine T_ret ?_
          obtain rfl := some_inj H
          refine end_ret (.tmp .nil) rfl rfl ⟨?_, rfl⟩
          rfl

set_option maxHeartbeats 1000000 in
/-- slices.Compare[[]int,int] -/
theorem m_slices_Compare_Sint_int_ok (s10 : (List Int)) (s21 : (List Int)) (r : Int) (H : m_slices_Compare_Sint_int s10 s21 = some r) : FnV prg 176 [(sl tInt s10), (sl tInt s21)] (intA r) := by
  unfold m_slices_Compare_Sint_int at H
  refine fnV_of_T Try.func176 rfl rfl (Nat.le_of_ble_eq_true rfl) ?_
  refine T_env (E' := [(0, (sl tInt s10)), (1, (sl tInt s21))]) ⟨rfl, rfl, trivial⟩ ?_
  refine sr ?_
  refine Tp rfl rfl (pur_assign rfl) rfl ?_
  refine TO_nil ?_
  refine T_env (E' := [(0, (sl tInt s10)), (1, (sl tInt s21))]) ⟨rfl, rfl, trivial⟩ ?_
  refine T_seq ?_
  refine sr ?_
  refine Tp rfl rfl (pur_move rfl) rfl ?_
  refine Tp rfl rfl (pur_lenT (T := tInt) sl23 rfl rfl) rfl ?_
  refine Tp rfl rfl (pur_move rfl) rfl ?_
  refine TO_nil ?_
  refine T_env (E' := [(0, (sl tInt s10)), (1, (sl tInt s21)), (9, (sl tInt s10)), (10, (intA (s10.length : Int))), (11, (intA 0))]) ⟨rfl, rfl, rfl, rfl, rfl, trivial⟩ ?_
  obtain ⟨O2_, L2_, N2_⟩ := bind_inv H
  clear H
  obtain ⟨B2_, hb2, L2_⟩ := gen_forL L2_
  refine T_block ?_
  refine T_loopX (fun k => fun (t_1 : Nat) => k = s10.length - t_1 ∧ forL B2_ (s10.drop t_1) (t_1 : Int) () = some O2_) (fun (t_1 : Nat) => [(0, (sl tInt s10)), (1, (sl tInt s21)), (9, (sl tInt s10)), (10, (intA (s10.length : Int))), (11, (intA (t_1 : Int)))]) (fun (t_1 : Nat) => []) _ (0 : Nat) (wp 0 (lb rfl) rfl rfl rfl rfl ⟨rfl, rfl, rfl, rfl, rfl, trivial⟩) ⟨rfl, L2_⟩ ?_
  rintro _ t_1 ⟨rfl, L2_⟩
  refine T_env (E' := [(0, (sl tInt s10)), (1, (sl tInt s21)), (9, (sl tInt s10)), (10, (intA (s10.length : Int))), (11, (intA (t_1 : Int)))]) ⟨rfl, rfl, rfl, rfl, rfl, trivial⟩ ?_
  refine T_st (σ' := []) rfl ?_
  refine T_fact (len_sl (T := tInt) (.tmp 0) rfl) (fun hl2 => ?_)
  refine sr ?_
  refine Tp rfl rfl (pur_lss rfl rfl rfl) rfl ?_
  refine TO_nil ?_
  refine T_env (E' := [(0, (sl tInt s10)), (1, (sl tInt s21)), (9, (sl tInt s10)), (10, (intA (s10.length : Int))), (11, (intA (t_1 : Int))), (12, (boolA (decide ((t_1 : Int) < (s10.length : Int)))))]) ⟨rfl, rfl, rfl, rfl, rfl, rfl, trivial⟩ ?_
  refine T_seq ?_
  refine T_cond (t := decide ((t_1 : Int) < (s10.length : Int))) rfl (fun d2 => ?_) (fun d2 => ?_)
  · replace d2 := of_decide_eq_true d2
    obtain ⟨x_t_1, hx_t_1⟩ : ∃ v, (s10)[t_1]? = some v := ⟨_, List.getElem?_eq_getElem (by omega)⟩
    obtain ⟨C2_, H, K2_⟩ := forL_step L2_ hx_t_1
    rw [hb2] at H
    refine T_skip ?_
    refine T_env (E' := [(0, (sl tInt s10)), (1, (sl tInt s21)), (9, (sl tInt s10)), (10, (intA (s10.length : Int))), (11, (intA (t_1 : Int)))]) ⟨rfl, rfl, rfl, rfl, rfl, trivial⟩ ?_
    refine T_seq ?_
    refine T_block ?_
    refine sr ?_
    refine Tp rfl rfl (pur_move rfl) rfl ?_
    refine Tp rfl rfl (pur_ixT (T := tInt) sl23 rfl rfl rfl hx_t_1 rfl) rfl ?_
    refine Tp rfl rfl (pur_ldT (T := tInt) (i := t_1) (off := 0) rfl one3 rfl rfl hx_t_1 rfl) rfl ?_
    refine Tp rfl rfl (pur_assign rfl) rfl ?_
    refine Tp rfl rfl (pur_assign rfl) rfl ?_
    refine TO_nil ?_
    refine T_env (E' := [(0, (sl tInt s10)), (1, (sl tInt s21)), (5, (intA (t_1 : Int))), (6, (intA x_t_1)), (9, (sl tInt s10)), (10, (intA (s10.length : Int))), (11, (intA (t_1 : Int)))]) ⟨rfl, rfl, rfl, rfl, rfl, rfl, rfl, trivial⟩ ?_
    refine T_seq ?_
    refine sr ?_
    refine Tp rfl rfl (pur_move rfl) rfl ?_
    refine Tp rfl rfl (pur_move rfl) rfl ?_
    refine Tp rfl rfl (pur_lenT (T := tInt) sl23 rfl rfl) rfl ?_
    refine Tp rfl rfl (pur_geq rfl rfl rfl) rfl ?_
    refine TO_nil ?_
    refine T_env (E' := [(0, (sl tInt s10)), (1, (sl tInt s21)), (5, (intA (t_1 : Int))), (6, (intA x_t_1)), (9, (sl tInt s10)), (10, (intA (s10.length : Int))), (11, (intA (t_1 : Int))), (19, (boolA (decide ((s21.length : Int) ≤ (t_1 : Int)))))]) ⟨rfl, rfl, rfl, rfl, rfl, rfl, rfl, rfl, trivial⟩ ?_
    refine T_cond (t := decide ((s21.length : Int) ≤ (t_1 : Int))) rfl (fun c_3 => ?_) (fun c_3 => ?_)
    · replace H := cond_t c_3 H
      refine sr ?_
      refine Tp rfl rfl (pur_assign rfl) rfl ?_
      refine TO_nil ?_
      refine T_env (E' := [(4, (intA 1))]) ⟨rfl, trivial⟩ ?_
      refine T_ret ?_
      refine then_ret ?_
      refine block_ret ?_
      refine then_ret ?_
      refine then_ret ?_
      refine block_ret ?_
      refine then_ret ?_
      obtain rfl := some_inj H
      obtain rfl := some_inj K2_
      replace H := onS_r N2_
      obtain rfl := some_inj H
      refine end_ret (.tmp .nil) rfl rfl ⟨?_, rfl⟩
      rfl
    · replace H := cond_f c_3 H
      refine T_skip ?_
      refine T_env (E' := [(0, (sl tInt s10)), (1, (sl tInt s21)), (5, (intA (t_1 : Int))), (6, (intA x_t_1)), (9, (sl tInt s10)), (10, (intA (s10.length : Int))), (11, (intA (t_1 : Int)))]) ⟨rfl, rfl, rfl, rfl, rfl, rfl, rfl, trivial⟩ ?_
      refine sr ?_
      refine Tp rfl rfl (pur_move rfl) rfl ?_
      refine Tp rfl rfl (pur_move rfl) rfl ?_
      obtain ⟨v_4, h_5, H⟩ := bind_inv H
      obtain ⟨n_6, hz_7, hv_8⟩ := getI_inv h_5
      refine Tp rfl rfl (pur_ixT (T := tInt) sl23 rfl rfl hz_7 hv_8 rfl) rfl ?_
      refine Tp rfl rfl (pur_ldT (T := tInt) (i := n_6) (off := 0) rfl one3 rfl rfl hv_8 rfl) rfl ?_
      refine Tp rfl rfl (pur_assign rfl) rfl ?_
      refine TO_nil ?_
      refine T_env (E' := [(0, (sl tInt s10)), (1, (sl tInt s21)), (6, (intA x_t_1)), (7, (intA v_4)), (9, (sl tInt s10)), (10, (intA (s10.length : Int))), (11, (intA (t_1 : Int)))]) ⟨rfl, rfl, rfl, rfl, rfl, rfl, rfl, trivial⟩ ?_
      refine sr ?_
      refine Tp rfl rfl (pur_move rfl) rfl ?_
      refine Tp rfl rfl (pur_move rfl) rfl ?_
      obtain ⟨r_9, h_10, H⟩ := bind_inv H
      refine TO_cons rfl (TOp_callV (call_static ent187 rfl) (m_cmp_Compare_int_ok _ _ _ h_10) rfl rfl rfl ?_)
      refine Tp rfl rfl (pur_assign rfl) rfl ?_
      refine TO_nil ?_
      refine T_env (E' := [(0, (sl tInt s10)), (1, (sl tInt s21)), (8, (intA r_9)), (9, (sl tInt s10)), (10, (intA (s10.length : Int))), (11, (intA (t_1 : Int)))]) ⟨rfl, rfl, rfl, rfl, rfl, rfl, trivial⟩ ?_
      refine sr ?_
      refine Tp rfl rfl (pur_move rfl) rfl ?_
      refine Tp rfl rfl (pur_neq rfl rfl rfl) rfl ?_
      refine TO_nil ?_
      refine T_env (E' := [(0, (sl tInt s10)), (1, (sl tInt s21)), (8, (intA r_9)), (9, (sl tInt s10)), (10, (intA (s10.length : Int))), (11, (intA (t_1 : Int))), (28, (boolA (decide (r_9 ≠ 0))))]) ⟨rfl, rfl, rfl, rfl, rfl, rfl, rfl, trivial⟩ ?_
      refine T_cond (t := decide (r_9 ≠ 0)) rfl (fun c_11 => ?_) (fun c_11 => ?_)
      · replace H := cond_t c_11 H
        refine sr ?_
        refine Tp rfl rfl (pur_move rfl) rfl ?_
        refine Tp rfl rfl (pur_assign rfl) rfl ?_
        refine TO_nil ?_
        refine T_env (E' := [(4, (intA r_9))]) ⟨rfl, trivial⟩ ?_
        refine T_ret ?_
        refine block_ret ?_
        refine then_ret ?_
        refine then_ret ?_
        refine block_ret ?_
        refine then_ret ?_
        obtain rfl := some_inj H
        obtain rfl := some_inj K2_
        replace H := onS_r N2_
        obtain rfl := some_inj H
        refine end_ret (.tmp .nil) rfl rfl ⟨?_, rfl⟩
        rfl
      · replace H := cond_f c_11 H
        refine T_skip ?_
        refine T_env (E' := [(0, (sl tInt s10)), (1, (sl tInt s21)), (9, (sl tInt s10)), (10, (intA (s10.length : Int))), (11, (intA (t_1 : Int)))]) ⟨rfl, rfl, rfl, rfl, rfl, trivial⟩ ?_
        refine T_region ?_
        refine Tp rfl rfl (pur_add rfl rfl rfl (fits64 (by omega) (by omega))) rfl ?_
        refine Tp rfl rfl (pur_move rfl) rfl ?_
        refine TO_nil ?_
        obtain rfl := some_inj H
        exact again (s10.length - (t_1 + 1)) (t_1 + 1) (by omega) (wp 0 (lb rfl) rfl rfl rfl rfl ⟨rfl, rfl, rfl, rfl, rfl, trivial⟩) ⟨rfl, K2_⟩
  · replace d2 := of_decide_eq_false d2
    obtain rfl := forL_end L2_ (by omega)
    refine T_exit ?_
    refine then_exit ?_
    refine then_exit ?_
    refine block_exit ?_
    replace H := onS_l N2_
    refine T_env (E' := [(0, (sl tInt s10)), (1, (sl tInt s21))]) ⟨rfl, rfl, trivial⟩ ?_
    refine T_seq ?_
    refine sr ?_
    refine Tp rfl rfl (pur_move rfl) rfl ?_
    refine Tp rfl rfl (pur_lenT (T := tInt) sl23 rfl rfl) rfl ?_
    refine Tp rfl rfl (pur_move rfl) rfl ?_
    refine Tp rfl rfl (pur_lenT (T := tInt) sl23 rfl rfl) rfl ?_
    refine Tp rfl rfl (pur_lss rfl rfl rfl) rfl ?_
    refine TO_nil ?_
    refine T_env (E' := [(35, (boolA (decide ((s10.length : Int) < (s21.length : Int)))))]) ⟨rfl, trivial⟩ ?_
    refine T_cond (t := decide ((s10.length : Int) < (s21.length : Int))) rfl (fun c_12 => ?_) (fun c_12 => ?_)
    · replace H := cond_t c_12 H
      refine sr ?_
      refine Tp rfl rfl (pur_assign rfl) rfl ?_
      refine TO_nil ?_
      refine T_env (E' := [(4, (intA (-1)))]) ⟨rfl, trivial⟩ ?_
      refine T_ret ?_
      refine then_ret ?_
      obtain rfl := some_inj H
      refine end_ret (.tmp .nil) rfl rfl ⟨?_, rfl⟩
      rfl
    · replace H := cond_f c_12 H
      refine T_skip ?_
      refine T_env (E' := []) trivial ?_
      refine sr ?_
      refine Tp rfl rfl (pur_assign rfl) rfl ?_
      refine TO_nil ?_
      refine T_env (E' := [(4, (intA 0))]) ⟨rfl, trivial⟩ ?_
      refine T_ret ?_
      obtain rfl := some_inj H
      refine end_ret (.tmp .nil) rfl rfl ⟨?_, rfl⟩
      rfl

set_option maxHeartbeats 1000000 in
/-- impl.CompareFacts -/
theorem m_impl_CompareFacts_ok (a0 : Fact) (b1 : Fact) (r : Int) (H : m_impl_CompareFacts a0 b1 = some r) : FnV prg 152 [(.g (tFact.enc a0)), (.g (tFact.enc b1))] (intA r) := by
  unfold m_impl_CompareFacts at H
  refine fnV_of_T Try.func152 rfl rfl (Nat.le_of_ble_eq_true rfl) ?_
  refine T_env (E' := [(0, (.g (tFact.enc a0))), (1, (.g (tFact.enc b1)))]) ⟨rfl, rfl, trivial⟩ ?_
  refine sr ?_
  refine TO_cons rfl (TOp_box rfl (boxAll rfl) rfl rfl ?_)
  refine TO_cons rfl (TOp_box rfl (boxAll rfl) rfl rfl ?_)
  refine Tp rfl rfl (pur_assign rfl) rfl ?_
  refine TO_nil ?_
  refine T_env (E' := [(2, (.b 0 0)), (3, (.b 1 0))]) ⟨rfl, rfl, trivial⟩ ?_
  refine T_seq ?_
  refine sr ?_
  refine Tp rfl rfl (pur_fa_b fld65_0 rfl rfl) rfl ?_
  refine Tp rfl rfl (pur_ld_b one3 rfl rfl rfl rfl) rfl ?_
  refine Tp rfl rfl (pur_fa_b fld65_0 rfl rfl) rfl ?_
  refine Tp rfl rfl (pur_ld_b one3 rfl rfl rfl rfl) rfl ?_
  refine Tp rfl rfl (pur_neq rfl rfl rfl) rfl ?_
  refine TO_nil ?_
  refine T_env (E' := [(2, (.b 0 0)), (3, (.b 1 0)), (9, (boolA (decide (a0.relation ≠ b1.relation))))]) ⟨rfl, rfl, rfl, trivial⟩ ?_
  refine T_cond (t := decide (a0.relation ≠ b1.relation)) rfl (fun c_1 => ?_) (fun c_1 => ?_)
  · replace H := cond_t c_1 H
    refine sr ?_
    refine Tp rfl rfl (pur_fa_b fld65_0 rfl rfl) rfl ?_
    refine Tp rfl rfl (pur_ld_b one3 rfl rfl rfl rfl) rfl ?_
    refine Tp rfl rfl (pur_fa_b fld65_0 rfl rfl) rfl ?_
    refine Tp rfl rfl (pur_ld_b one3 rfl rfl rfl rfl) rfl ?_
    obtain ⟨r_2, h_3, H⟩ := bind_inv H
    refine TO_cons rfl (TOp_callV (call_static ent175 rfl) (m_impl_compare_ok _ _ _ h_3) rfl rfl rfl ?_)
    refine Tp rfl rfl (pur_assign rfl) rfl ?_
    refine TO_nil ?_
    refine T_env (E' := [(4, (intA r_2))]) ⟨rfl, trivial⟩ ?_
    refine T_ret ?_
    refine then_ret ?_
    obtain rfl := some_inj H
    refine end_ret (.tmp .nil) rfl rfl ⟨?_, rfl⟩
    rfl
  · replace H := cond_f c_1 H
    refine T_skip ?_
    refine T_env (E' := [(2, (.b 0 0)), (3, (.b 1 0))]) ⟨rfl, rfl, trivial⟩ ?_
    refine sr ?_
    refine Tp rfl rfl (pur_fa_b fld65_1 rfl rfl) rfl ?_
    refine Tp rfl rfl (pur_ld_b one23 rfl rfl rfl rfl) rfl ?_
    refine Tp rfl rfl (pur_fa_b fld65_1 rfl rfl) rfl ?_
    refine Tp rfl rfl (pur_ld_b one23 rfl rfl rfl rfl) rfl ?_
    obtain ⟨r_4, h_5, H⟩ := bind_inv H
    refine TO_cons rfl (TOp_callV (call_static ent176 rfl) (m_slices_Compare_Sint_int_ok _ _ _ h_5) rfl rfl rfl ?_)
    refine Tp rfl rfl (pur_assign rfl) rfl ?_
    refine TO_nil ?_
    refine T_env (E' := [(4, (intA r_4))]) ⟨rfl, trivial⟩ ?_
    refine T_ret ?_
    obtain rfl := some_inj H
    refine end_ret (.tmp .nil) rfl rfl ⟨?_, rfl⟩
    rfl

set_option maxHeartbeats 1000000 in
/-- impl.EqualDatabases$1 -/
theorem m_impl_EqualDatabases_1_ok (x0 : Fact) (y1 : Fact) (r : Bool) (H : m_impl_EqualDatabases_1 x0 y1 = some r) : FnV prg 151 [(.g (tFact.enc x0)), (.g (tFact.enc y1))] (boolA r) := by
  unfold m_impl_EqualDatabases_1 at H
  refine fnV_of_T Try.func151 rfl rfl (Nat.le_of_ble_eq_true rfl) ?_
  refine T_env (E' := [(0, (.g (tFact.enc x0))), (1, (.g (tFact.enc y1)))]) ⟨rfl, rfl, trivial⟩ ?_
  refine sr ?_
  refine TO_cons rfl (TOp_box rfl (boxAll rfl) rfl rfl ?_)
  refine TO_cons rfl (TOp_box rfl (boxAll rfl) rfl rfl ?_)
  refine Tp rfl rfl (pur_assign rfl) rfl ?_
  refine TO_nil ?_
  refine T_env (E' := [(2, (.b 0 0)), (3, (.b 1 0))]) ⟨rfl, rfl, trivial⟩ ?_
  refine sr ?_
  refine Tp rfl rfl (pur_ldK_b agg65 rfl rfl (lb rfl) rfl) rfl ?_
  refine Tp rfl rfl (pur_ldK_b agg65 rfl rfl (lb rfl) rfl) rfl ?_
  obtain ⟨r_1, h_2, H⟩ := bind_inv H
  refine TO_cons rfl (TOp_callV (call_static ent152 rfl) (m_impl_CompareFacts_ok _ _ _ h_2) rfl rfl rfl ?_)
  refine Tp rfl rfl (pur_eql rfl rfl rfl) rfl ?_
  refine Tp rfl rfl (pur_assign rfl) rfl ?_
  refine TO_nil ?_
  refine T_env (E' := [(4, (boolA (decide (r_1 = 0))))]) ⟨rfl, trivial⟩ ?_
  refine T_ret ?_
  obtain rfl := some_inj H
  refine end_ret (.tmp .nil) rfl rfl ⟨?_, rfl⟩
  rfl

set_option maxHeartbeats 1000000 in
/-- impl.EqualDatabases -/
theorem m_impl_EqualDatabases_ok (a0 : Database) (b1 : Database) (r : Bool) (H : m_impl_EqualDatabases a0 b1 = some r) : FnV prg 100 [(.g (tDatabase.enc a0)), (.g (tDatabase.enc b1))] (boolA r) := by
  unfold m_impl_EqualDatabases at H
  refine fnV_of_T Try.func100 rfl rfl (Nat.le_of_ble_eq_true rfl) ?_
  refine T_env (E' := [(0, (.g (tDatabase.enc a0))), (1, (.g (tDatabase.enc b1)))]) ⟨rfl, rfl, trivial⟩ ?_
  refine sr ?_
  refine TO_cons rfl (TOp_box rfl (boxAll rfl) rfl rfl ?_)
  refine TO_cons rfl (TOp_box rfl (boxAll rfl) rfl rfl ?_)
  refine Tp rfl rfl (pur_assign rfl) rfl ?_
  refine TO_nil ?_
  refine T_env (E' := [(2, (.b 0 0)), (3, (.b 1 0))]) ⟨rfl, rfl, trivial⟩ ?_
  obtain ⟨t4_1, J_1, H_2⟩ := bind_inv H
  refine T_cutX (fun x => t4_1 = x) (fun (t4_1 : Bool) => [(4, (boolA t4_1))]) (fun (t4_1 : Bool) => []) ?_ ?_
  · replace H := J_1
    refine T_region ?_
    refine Tp rfl rfl (pur_fa_b fld48_0 rfl rfl) rfl ?_
    refine Tp rfl rfl (pur_ld_b one45 rfl rfl rfl rfl) rfl ?_
    refine Tp rfl rfl (pur_fa_b fld48_0 rfl rfl) rfl ?_
    refine Tp rfl rfl (pur_ld_b one45 rfl rfl rfl rfl) rfl ?_
    obtain ⟨r_3, h_4, H⟩ := bind_inv H
    refine TO_cons rfl (TOp_callV (call_static ent149 rfl) (m_slices_Equal_Simpl_Relation_impl_Relation_ok _ _ _ h_4) rfl rfl rfl ?_)
    refine Tp rfl rfl (pur_move rfl) rfl ?_
    refine TO_split (t := r_3) 10 rfl (fun g_5 => ?_) (fun g_5 => ?_)
    · replace H := cond_t g_5 H
      refine TO_on rfl rfl (by decide) rfl rfl (TOp_pure (pur_fa_b fld48_1 rfl rfl) rfl ?_)
      refine TO_on rfl rfl (by decide) rfl rfl (TOp_pure (pur_ld_b one46 rfl rfl rfl rfl) rfl ?_)
      refine TO_on rfl rfl (by decide) rfl rfl (TOp_pure (pur_fa_b fld48_1 rfl rfl) rfl ?_)
      refine TO_on rfl rfl (by decide) rfl rfl (TOp_pure (pur_ld_b one46 rfl rfl rfl rfl) rfl ?_)
      obtain ⟨r_6, h_7, H⟩ := bind_inv H
      refine TO_on rfl rfl (by decide) rfl rfl (TOp_callV (call_static ent150 rfl) (m_slices_EqualFunc_Simpl_Fact_Simpl_Fact_impl_Fact_impl_Fact_ok _ _ (fun x0 x1 => m_impl_EqualDatabases_1 x0 x1) 151 [] ent151 rfl ⟨rfl, rfl⟩ (fun x0 x1 r h => m_impl_EqualDatabases_1_ok x0 x1  r h) _ h_7) rfl rfl rfl ?_)
      refine Tp rfl rfl (pur_pick (t := true) rfl rfl rfl) rfl ?_
      refine Tp rfl rfl (pur_assign rfl) rfl ?_
      refine TO_nil ?_
      exact joined r_6 (wp 0 (lb rfl) rfl rfl rfl rfl ⟨rfl, trivial⟩) (some_inj H).symm
    · replace H := cond_f g_5 H
      refine TO_off rfl rfl (by decide) rfl rfl rfl ?_
      refine TO_off rfl rfl (by decide) rfl rfl rfl ?_
      refine TO_off rfl rfl (by decide) rfl rfl rfl ?_
      refine TO_off rfl rfl (by decide) rfl rfl rfl ?_
      refine TO_off rfl rfl (by decide) rfl rfl rfl ?_
      refine Tp rfl rfl (pur_pick (t := false) rfl rfl rfl) rfl ?_
      refine Tp rfl rfl (pur_assign rfl) rfl ?_
      refine TO_nil ?_
      exact joined false (wp 0 (lb rfl) rfl rfl rfl rfl ⟨rfl, trivial⟩) (some_inj H).symm
  · rintro _ rfl
    replace H := H_2
    refine T_env (E' := [(4, (boolA t4_1))]) ⟨rfl, trivial⟩ ?_
    refine T_ret ?_
    obtain rfl := some_inj H
    refine end_ret (.tmp .nil) rfl rfl ⟨?_, rfl⟩
    rfl

set_option maxHeartbeats 1000000 in
/-- impl.Atom] -/
theorem m_slices_EqualFunc_Simpl_Atom_Simpl_Atom_impl_Atom_impl_Atom_ok (s10 : (List Atom)) (s21 : (List Atom)) (eq2 : (Atom → Atom → Option Bool)) (eq2_g : Nat) (eq2_c : List A) (eq2_E : EnT prg eq2_g) (eq2_l : looseL eq2_c = true) (eq2_m : firmL eq2_c = true ∧ fzL eq2_c = eq2_c) (eq2_H : ∀ (x0 : Atom) (x1 : Atom) r, eq2 x0 x1 = some r → FnV prg eq2_g ([(.g (tAtom.enc x0)), (.g (tAtom.enc x1))] ++ eq2_c) (boolA r)) (r : Bool) (H : m_slices_EqualFunc_Simpl_Atom_Simpl_Atom_impl_Atom_impl_Atom s10 s21 eq2 = some r) : FnV prg 153 [(sl tAtom s10), (sl tAtom s21), (.f eq2_g eq2_c)] (boolA r) := by
  unfold m_slices_EqualFunc_Simpl_Atom_Simpl_Atom_impl_Atom_impl_Atom at H
  refine fnV_of_T Try.func153 rfl rfl (Nat.le_of_ble_eq_true rfl) ?_
  refine T_env (E' := [(0, (sl tAtom s10)), (1, (sl tAtom s21)), (2, (.f eq2_g eq2_c))]) ⟨rfl, rfl, rfl, trivial⟩ ?_
  refine sr ?_
  refine Tp rfl rfl (pur_assign rfl) rfl ?_
  refine TO_nil ?_
  refine T_env (E' := [(0, (sl tAtom s10)), (1, (sl tAtom s21)), (2, (.f eq2_g eq2_c))]) ⟨rfl, rfl, rfl, trivial⟩ ?_
  refine T_seq ?_
  refine sr ?_
  refine Tp rfl rfl (pur_move rfl) rfl ?_
  refine Tp rfl rfl (pur_lenT (T := tAtom) sl27 rfl rfl) rfl ?_
  refine Tp rfl rfl (pur_move rfl) rfl ?_
  refine Tp rfl rfl (pur_lenT (T := tAtom) sl27 rfl rfl) rfl ?_
  refine Tp rfl rfl (pur_neq rfl rfl rfl) rfl ?_
  refine TO_nil ?_
  refine T_env (E' := [(0, (sl tAtom s10)), (1, (sl tAtom s21)), (2, (.f eq2_g eq2_c)), (14, (boolA (decide ((s10.length : Int) ≠ (s21.length : Int)))))]) ⟨rfl, rfl, rfl, rfl, trivial⟩ ?_
  refine T_cond (t := decide ((s10.length : Int) ≠ (s21.length : Int))) rfl (fun c_1 => ?_) (fun c_1 => ?_)
  · replace H := cond_t c_1 H
    refine sr ?_
    refine Tp rfl rfl (pur_assign rfl) rfl ?_
    refine TO_nil ?_
    refine T_env (E' := [(6, (boolA false))]) ⟨rfl, trivial⟩ ?_
    refine T_ret ?_
    refine then_ret ?_
    obtain rfl := some_inj H
    refine end_ret (.tmp .nil) rfl rfl ⟨?_, rfl⟩
    rfl
  · replace H := cond_f c_1 H
    refine T_skip ?_
    refine T_env (E' := [(0, (sl tAtom s10)), (1, (sl tAtom s21)), (2, (.f eq2_g eq2_c))]) ⟨rfl, rfl, rfl, trivial⟩ ?_
    refine T_seq ?_
    refine sr ?_
    refine Tp rfl rfl (pur_move rfl) rfl ?_
    refine Tp rfl rfl (pur_lenT (T := tAtom) sl27 rfl rfl) rfl ?_
    refine Tp rfl rfl (pur_move rfl) rfl ?_
    refine TO_nil ?_
    refine T_env (E' := [(1, (sl tAtom s21)), (2, (.f eq2_g eq2_c)), (15, (sl tAtom s10)), (16, (intA (s10.length : Int))), (17, (intA 0))]) ⟨rfl, rfl, rfl, rfl, rfl, trivial⟩ ?_
    obtain ⟨O3_, L3_, N3_⟩ := bind_inv H
    clear H
    obtain ⟨B3_, hb3, L3_⟩ := gen_forL L3_
    refine T_block ?_
    refine T_loopX (fun k => fun (t_2 : Nat) => k = s10.length - t_2 ∧ forL B3_ (s10.drop t_2) (t_2 : Int) () = some O3_) (fun (t_2 : Nat) => [(1, (sl tAtom s21)), (2, (.f eq2_g eq2_c)), (15, (sl tAtom s10)), (16, (intA (s10.length : Int))), (17, (intA (t_2 : Int)))]) (fun (t_2 : Nat) => []) _ (0 : Nat) (wp 0 (lb rfl) rfl rfl (by simp only [namesE, A.names, namesL_enc, Bool.false_or, Bool.or_false, looseL_names eq2_l]) rfl ⟨rfl, rfl, rfl, rfl, rfl, trivial⟩) ⟨rfl, L3_⟩ ?_
    rintro _ t_2 ⟨rfl, L3_⟩
    refine T_env (E' := [(1, (sl tAtom s21)), (2, (.f eq2_g eq2_c)), (15, (sl tAtom s10)), (16, (intA (s10.length : Int))), (17, (intA (t_2 : Int)))]) ⟨rfl, rfl, rfl, rfl, rfl, trivial⟩ ?_
    refine T_st (σ' := []) rfl ?_
    refine T_fact (len_sl (T := tAtom) (.tmp 15) rfl) (fun hl3 => ?_)
    refine sr ?_
    refine Tp rfl rfl (pur_lss rfl rfl rfl) rfl ?_
    refine TO_nil ?_
    refine T_env (E' := [(1, (sl tAtom s21)), (2, (.f eq2_g eq2_c)), (15, (sl tAtom s10)), (16, (intA (s10.length : Int))), (17, (intA (t_2 : Int))), (18, (boolA (decide ((t_2 : Int) < (s10.length : Int)))))]) ⟨rfl, rfl, rfl, rfl, rfl, rfl, trivial⟩ ?_
    refine T_seq ?_
    refine T_cond (t := decide ((t_2 : Int) < (s10.length : Int))) rfl (fun d3 => ?_) (fun d3 => ?_)
    · replace d3 := of_decide_eq_true d3
      obtain ⟨x_t_2, hx_t_2⟩ : ∃ v, (s10)[t_2]? = some v := ⟨_, List.getElem?_eq_getElem (by omega)⟩
      obtain ⟨C3_, H, K3_⟩ := forL_step L3_ hx_t_2
      rw [hb3] at H
      refine T_skip ?_
      refine T_env (E' := [(1, (sl tAtom s21)), (2, (.f eq2_g eq2_c)), (15, (sl tAtom s10)), (16, (intA (s10.length : Int))), (17, (intA (t_2 : Int)))]) ⟨rfl, rfl, rfl, rfl, rfl, trivial⟩ ?_
      refine T_seq ?_
      refine T_block ?_
      refine sr ?_
      refine Tp rfl rfl (pur_move rfl) rfl ?_
      refine Tp rfl rfl (pur_ixT (T := tAtom) sl27 rfl rfl rfl hx_t_2 rfl) rfl ?_
      refine Tp rfl rfl (pur_ldTK (T := tAtom) (i := t_2) (off := 0) rfl agg150 rfl rfl hx_t_2 (by decide) rfl) rfl ?_
      refine TO_cons rfl (TOp_alloc zero150 rfl rfl ?_)
      refine Tp rfl rfl (pur_assign rfl) rfl ?_
      refine TO_cons rfl (TOp_storeB sz150 rfl rfl rfl rfl rfl rfl rfl (by decide) (lb rfl) rfl ?_)
      refine TO_st (σ' := [.box [(intA x_t_2.relation), (sl tInt x_t_2.terms)]]) rfl ?_
      refine TO_nil ?_
      refine T_env (E' := [(1, (sl tAtom s21)), (2, (.f eq2_g eq2_c)), (7, (intA (t_2 : Int))), (8, (.b 0 0)), (15, (sl tAtom s10)), (16, (intA (s10.length : Int))), (17, (intA (t_2 : Int)))]) ⟨rfl, rfl, rfl, rfl, rfl, rfl, rfl, trivial⟩ ?_
      refine sr ?_
      refine Tp rfl rfl (pur_move rfl) rfl ?_
      refine Tp rfl rfl (pur_move rfl) rfl ?_
      obtain ⟨v_4, h_5, H⟩ := bind_inv H
      obtain ⟨n_6, hz_7, hv_8⟩ := getI_inv h_5
      refine Tp rfl rfl (pur_ixT (T := tAtom) sl27 rfl rfl hz_7 hv_8 rfl) rfl ?_
      refine Tp rfl rfl (pur_ldTK (T := tAtom) (i := n_6) (off := 0) rfl agg150 rfl rfl hv_8 (by decide) rfl) rfl ?_
      refine TO_cons rfl (TOp_alloc zero150 rfl rfl ?_)
      refine TO_cons rfl (TOp_storeB sz150 rfl rfl rfl rfl rfl rfl rfl (by decide) (lb rfl) rfl ?_)
      refine TO_st (σ' := [.box [(intA x_t_2.relation), (sl tInt x_t_2.terms)], .box [(intA v_4.relation), (sl tInt v_4.terms)]]) rfl ?_
      refine TO_nil ?_
      refine T_env (E' := [(1, (sl tAtom s21)), (2, (.f eq2_g eq2_c)), (8, (.b 0 0)), (9, (.b 1 0)), (15, (sl tAtom s10)), (16, (intA (s10.length : Int))), (17, (intA (t_2 : Int)))]) ⟨rfl, rfl, rfl, rfl, rfl, rfl, rfl, trivial⟩ ?_
      refine sr ?_
      refine Tp rfl rfl (pur_move rfl) rfl ?_
      refine Tp rfl rfl (pur_ldK_b agg150 rfl rfl (lb rfl) rfl) rfl ?_
      refine Tp rfl rfl (pur_ldK_b agg150 rfl rfl (lb rfl) rfl) rfl ?_
      obtain ⟨r_9, h_10, H⟩ := bind_inv H
      refine TO_cons rfl (TOp_callV (call_closure eq2_E rfl rfl) (eq2_H _ _  _ h_10) (looseL_app rfl eq2_l) rfl rfl ?_)
      refine Tp rfl rfl (pur_not rfl rfl) rfl ?_
      refine TO_nil ?_
      refine T_env (E' := [(1, (sl tAtom s21)), (2, (.f eq2_g eq2_c)), (15, (sl tAtom s10)), (16, (intA (s10.length : Int))), (17, (intA (t_2 : Int))), (30, (boolA (!r_9)))]) ⟨rfl, rfl, rfl, rfl, rfl, rfl, trivial⟩ ?_
      refine T_cond (t := (!r_9)) rfl (fun c_11 => ?_) (fun c_11 => ?_)
      · replace H := cond_t c_11 H
        refine sr ?_
        refine Tp rfl rfl (pur_assign rfl) rfl ?_
        refine TO_nil ?_
        refine T_env (E' := [(6, (boolA false))]) ⟨rfl, trivial⟩ ?_
        refine T_ret ?_
        refine block_ret ?_
        refine then_ret ?_
        refine then_ret ?_
        refine block_ret ?_
        refine then_ret ?_
        obtain rfl := some_inj H
        obtain rfl := some_inj K3_
        replace H := onS_r N3_
        obtain rfl := some_inj H
        refine end_ret (.tmp .nil) rfl rfl ⟨?_, rfl⟩
        rfl
      · replace H := cond_f c_11 H
        refine T_skip ?_
        refine T_env (E' := [(1, (sl tAtom s21)), (2, (.f eq2_g eq2_c)), (15, (sl tAtom s10)), (16, (intA (s10.length : Int))), (17, (intA (t_2 : Int)))]) ⟨rfl, rfl, rfl, rfl, rfl, trivial⟩ ?_
        refine T_region ?_
        refine Tp rfl rfl (pur_add rfl rfl rfl (fits64 (by omega) (by omega))) rfl ?_
        refine Tp rfl rfl (pur_move rfl) rfl ?_
        refine TO_nil ?_
        obtain rfl := some_inj H
        exact again (s10.length - (t_2 + 1)) (t_2 + 1) (by omega) (wp 0 (lb rfl) rfl rfl (by simp only [namesE, A.names, namesL_enc, Bool.false_or, Bool.or_false, looseL_names eq2_l]) rfl ⟨rfl, rfl, rfl, rfl, rfl, trivial⟩) ⟨rfl, K3_⟩
    · replace d3 := of_decide_eq_false d3
      obtain rfl := forL_end L3_ (by omega)
      refine T_exit ?_
      refine then_exit ?_
      refine then_exit ?_
      refine block_exit ?_
      replace H := onS_l N3_
      refine T_env (E' := []) trivial ?_
      refine sr ?_
      refine Tp rfl rfl (pur_assign rfl) rfl ?_
      refine TO_nil ?_
      refine T_env (E' := [(6, (boolA true))]) ⟨rfl, trivial⟩ ?_
      refine T_ret ?_
      obtain rfl := some_inj H
      refine end_ret (.tmp .nil) rfl rfl ⟨?_, rfl⟩
      rfl

set_option maxHeartbeats 1000000 in
/-- slices.Equal[[]int,int] -/
theorem m_slices_Equal_Sint_int_ok (s10 : (List Int)) (s21 : (List Int)) (r : Bool) (H : m_slices_Equal_Sint_int s10 s21 = some r) : FnV prg 155 [(sl tInt s10), (sl tInt s21)] (boolA r) := by
  unfold m_slices_Equal_Sint_int at H
  refine fnV_of_T Try.func155 rfl rfl (Nat.le_of_ble_eq_true rfl) ?_
  refine T_env (E' := [(0, (sl tInt s10)), (1, (sl tInt s21))]) ⟨rfl, rfl, trivial⟩ ?_
  refine sr ?_
  refine Tp rfl rfl (pur_assign rfl) rfl ?_
  refine TO_nil ?_
  refine T_env (E' := [(0, (sl tInt s10)), (1, (sl tInt s21))]) ⟨rfl, rfl, trivial⟩ ?_
  refine T_seq ?_
  refine sr ?_
  refine Tp rfl rfl (pur_move rfl) rfl ?_
  refine Tp rfl rfl (pur_lenT (T := tInt) sl23 rfl rfl) rfl ?_
  refine Tp rfl rfl (pur_move rfl) rfl ?_
  refine Tp rfl rfl (pur_lenT (T := tInt) sl23 rfl rfl) rfl ?_
  refine Tp rfl rfl (pur_neq rfl rfl rfl) rfl ?_
  refine TO_nil ?_
  refine T_env (E' := [(0, (sl tInt s10)), (1, (sl tInt s21)), (10, (boolA (decide ((s10.length : Int) ≠ (s21.length : Int)))))]) ⟨rfl, rfl, rfl, trivial⟩ ?_
  refine T_cond (t := decide ((s10.length : Int) ≠ (s21.length : Int))) rfl (fun c_1 => ?_) (fun c_1 => ?_)
  · replace H := cond_t c_1 H
    refine sr ?_
    refine Tp rfl rfl (pur_assign rfl) rfl ?_
    refine TO_nil ?_
    refine T_env (E' := [(4, (boolA false))]) ⟨rfl, trivial⟩ ?_
    refine T_ret ?_
    refine then_ret ?_
    obtain rfl := some_inj H
    refine end_ret (.tmp .nil) rfl rfl ⟨?_, rfl⟩
    rfl
  · replace H := cond_f c_1 H
    refine T_skip ?_
    refine T_env (E' := [(0, (sl tInt s10)), (1, (sl tInt s21))]) ⟨rfl, rfl, trivial⟩ ?_
    refine T_seq ?_
    refine sr ?_
    refine Tp rfl rfl (pur_move rfl) rfl ?_
    refine Tp rfl rfl (pur_lenT (T := tInt) sl23 rfl rfl) rfl ?_
    refine Tp rfl rfl (pur_move rfl) rfl ?_
    refine TO_nil ?_
    refine T_env (E' := [(0, (sl tInt s10)), (1, (sl tInt s21)), (12, (intA (s10.length : Int))), (13, (intA 0))]) ⟨rfl, rfl, rfl, rfl, trivial⟩ ?_
    obtain ⟨O3_, L3_, N3_⟩ := bind_inv H
    clear H
    obtain ⟨B3_, hb3, L3_⟩ := gen_forL L3_
    refine T_block ?_
    refine T_loopX (fun k => fun (t_2 : Nat) => k = s10.length - t_2 ∧ forL B3_ (s10.drop t_2) (t_2 : Int) () = some O3_) (fun (t_2 : Nat) => [(0, (sl tInt s10)), (1, (sl tInt s21)), (12, (intA (s10.length : Int))), (13, (intA (t_2 : Int)))]) (fun (t_2 : Nat) => []) _ (0 : Nat) (wp 0 (lb rfl) rfl rfl rfl rfl ⟨rfl, rfl, rfl, rfl, trivial⟩) ⟨rfl, L3_⟩ ?_
    rintro _ t_2 ⟨rfl, L3_⟩
    refine T_env (E' := [(0, (sl tInt s10)), (1, (sl tInt s21)), (12, (intA (s10.length : Int))), (13, (intA (t_2 : Int)))]) ⟨rfl, rfl, rfl, rfl, trivial⟩ ?_
    refine T_st (σ' := []) rfl ?_
    refine T_fact (len_sl (T := tInt) (.tmp 0) rfl) (fun hl3 => ?_)
    refine sr ?_
    refine Tp rfl rfl (pur_lss rfl rfl rfl) rfl ?_
    refine TO_nil ?_
    refine T_env (E' := [(0, (sl tInt s10)), (1, (sl tInt s21)), (12, (intA (s10.length : Int))), (13, (intA (t_2 : Int))), (14, (boolA (decide ((t_2 : Int) < (s10.length : Int)))))]) ⟨rfl, rfl, rfl, rfl, rfl, trivial⟩ ?_
    refine T_seq ?_
    refine T_cond (t := decide ((t_2 : Int) < (s10.length : Int))) rfl (fun d3 => ?_) (fun d3 => ?_)
    · replace d3 := of_decide_eq_true d3
      obtain ⟨x_t_2, hx_t_2⟩ : ∃ v, (s10)[t_2]? = some v := ⟨_, List.getElem?_eq_getElem (by omega)⟩
      obtain ⟨C3_, H, K3_⟩ := forL_step L3_ hx_t_2
      rw [hb3] at H
      refine T_skip ?_
      refine T_env (E' := [(0, (sl tInt s10)), (1, (sl tInt s21)), (12, (intA (s10.length : Int))), (13, (intA (t_2 : Int)))]) ⟨rfl, rfl, rfl, rfl, trivial⟩ ?_
      refine T_seq ?_
      refine T_block ?_
      refine sr ?_
      refine Tp rfl rfl (pur_move rfl) rfl ?_
      refine Tp rfl rfl (pur_assign rfl) rfl ?_
      refine TO_nil ?_
      refine T_env (E' := [(0, (sl tInt s10)), (1, (sl tInt s21)), (5, (intA (t_2 : Int))), (12, (intA (s10.length : Int))), (13, (intA (t_2 : Int)))]) ⟨rfl, rfl, rfl, rfl, rfl, trivial⟩ ?_
      refine T_seq ?_
      refine T_regionD mixed (by kernel_rfl) ?_
      refine TQ_pure rfl (pur_move rfl) rfl ?_
      refine TQ_pure rfl (pur_move rfl) rfl ?_
      refine TQ_pure rfl (pur_ixT (T := tInt) sl23 rfl rfl rfl hx_t_2 rfl) rfl ?_
      refine TQ_pure rfl (pur_ldT (T := tInt) (i := t_2) (off := 0) rfl one3 rfl rfl hx_t_2 rfl) rfl ?_
      refine TQ_pure rfl (pur_move rfl) rfl ?_
      refine TQ_pure rfl (pur_move rfl) rfl ?_
      obtain ⟨v_4, h_5, H⟩ := bind_inv H
      obtain ⟨n_6, hz_7, hv_8⟩ := getI_inv h_5
      refine TQ_pure rfl (pur_ixT (T := tInt) sl23 rfl rfl hz_7 hv_8 rfl) rfl ?_
      refine TQ_pure rfl (pur_ldT (T := tInt) (i := n_6) (off := 0) rfl one3 rfl rfl hv_8 rfl) rfl ?_
      refine TQ_pure rfl (pur_neq rfl rfl rfl) rfl ?_
      refine TQ_nil ?_
      refine T_env (E' := [(0, (sl tInt s10)), (1, (sl tInt s21)), (12, (intA (s10.length : Int))), (13, (intA (t_2 : Int))), (24, (boolA (decide (x_t_2 ≠ v_4))))]) ⟨rfl, rfl, rfl, rfl, rfl, trivial⟩ ?_
      refine T_cond (t := decide (x_t_2 ≠ v_4)) rfl (fun c_9 => ?_) (fun c_9 => ?_)
      · replace H := cond_t c_9 H
        refine sr ?_
        refine Tp rfl rfl (pur_assign rfl) rfl ?_
        refine TO_nil ?_
        refine T_env (E' := [(4, (boolA false))]) ⟨rfl, trivial⟩ ?_
        refine T_ret ?_
        refine block_ret ?_
        refine then_ret ?_
        refine then_ret ?_
        refine block_ret ?_
        refine then_ret ?_
        obtain rfl := some_inj H
        obtain rfl := some_inj K3_
        replace H := onS_r N3_
        obtain rfl := some_inj H
        refine end_ret (.tmp .nil) rfl rfl ⟨?_, rfl⟩
        rfl
      · replace H := cond_f c_9 H
        refine T_skip ?_
        refine T_env (E' := [(0, (sl tInt s10)), (1, (sl tInt s21)), (12, (intA (s10.length : Int))), (13, (intA (t_2 : Int)))]) ⟨rfl, rfl, rfl, rfl, trivial⟩ ?_
        refine T_region ?_
        refine Tp rfl rfl (pur_add rfl rfl rfl (fits64 (by omega) (by omega))) rfl ?_
        refine Tp rfl rfl (pur_move rfl) rfl ?_
        refine TO_nil ?_
        obtain rfl := some_inj H
        exact again (s10.length - (t_2 + 1)) (t_2 + 1) (by omega) (wp 0 (lb rfl) rfl rfl rfl rfl ⟨rfl, rfl, rfl, rfl, trivial⟩) ⟨rfl, K3_⟩
    · replace d3 := of_decide_eq_false d3
      obtain rfl := forL_end L3_ (by omega)
      refine T_exit ?_
      refine then_exit ?_
      refine then_exit ?_
      refine block_exit ?_
      replace H := onS_l N3_
      refine T_env (E' := []) trivial ?_
      refine sr ?_
      refine Tp rfl rfl (pur_assign rfl) rfl ?_
      refine TO_nil ?_
      refine T_env (E' := [(4, (boolA true))]) ⟨rfl, trivial⟩ ?_
      refine T_ret ?_
      obtain rfl := some_inj H
      refine end_ret (.tmp .nil) rfl rfl ⟨?_, rfl⟩
      rfl

set_option maxHeartbeats 1000000 in
/-- impl.equalAtoms -/
theorem m_impl_equalAtoms_ok (a0 : Atom) (b1 : Atom) (r : Bool) (H : m_impl_equalAtoms a0 b1 = some r) : FnV prg 154 [(.g (tAtom.enc a0)), (.g (tAtom.enc b1))] (boolA r) := by
  unfold m_impl_equalAtoms at H
  refine fnV_of_T Try.func154 rfl rfl (Nat.le_of_ble_eq_true rfl) ?_
  refine T_env (E' := [(0, (.g (tAtom.enc a0))), (1, (.g (tAtom.enc b1)))]) ⟨rfl, rfl, trivial⟩ ?_
  refine sr ?_
  refine TO_cons rfl (TOp_box rfl (boxAll rfl) rfl rfl ?_)
  refine TO_cons rfl (TOp_box rfl (boxAll rfl) rfl rfl ?_)
  refine Tp rfl rfl (pur_assign rfl) rfl ?_
  refine TO_nil ?_
  refine T_env (E' := [(2, (.b 0 0)), (3, (.b 1 0))]) ⟨rfl, rfl, trivial⟩ ?_
  obtain ⟨t4_1, J_1, H_2⟩ := bind_inv H
  refine T_cutX (fun x => t4_1 = x) (fun (t4_1 : Bool) => [(4, (boolA t4_1))]) (fun (t4_1 : Bool) => []) ?_ ?_
  · replace H := J_1
    refine T_region ?_
    refine Tp rfl rfl (pur_fa_b fld150_0 rfl rfl) rfl ?_
    refine Tp rfl rfl (pur_ld_b one3 rfl rfl rfl rfl) rfl ?_
    refine Tp rfl rfl (pur_fa_b fld150_0 rfl rfl) rfl ?_
    refine Tp rfl rfl (pur_ld_b one3 rfl rfl rfl rfl) rfl ?_
    refine Tp rfl rfl (pur_eql rfl rfl rfl) rfl ?_
    refine Tp rfl rfl (pur_move rfl) rfl ?_
    refine TO_split (t := decide (a0.relation = b1.relation)) 10 rfl (fun g_3 => ?_) (fun g_3 => ?_)
    · replace H := cond_t g_3 H
      refine TO_on rfl rfl (by decide) rfl rfl (TOp_pure (pur_fa_b fld150_1 rfl rfl) rfl ?_)
      refine TO_on rfl rfl (by decide) rfl rfl (TOp_pure (pur_ld_b one23 rfl rfl rfl rfl) rfl ?_)
      refine TO_on rfl rfl (by decide) rfl rfl (TOp_pure (pur_fa_b fld150_1 rfl rfl) rfl ?_)
      refine TO_on rfl rfl (by decide) rfl rfl (TOp_pure (pur_ld_b one23 rfl rfl rfl rfl) rfl ?_)
      obtain ⟨r_4, h_5, H⟩ := bind_inv H
      refine TO_on rfl rfl (by decide) rfl rfl (TOp_callV (call_static ent155 rfl) (m_slices_Equal_Sint_int_ok _ _ _ h_5) rfl rfl rfl ?_)
      refine Tp rfl rfl (pur_pick (t := true) rfl rfl rfl) rfl ?_
      refine Tp rfl rfl (pur_assign rfl) rfl ?_
      refine TO_nil ?_
      exact joined r_4 (wp 0 (lb rfl) rfl rfl rfl rfl ⟨rfl, trivial⟩) (some_inj H).symm
    · replace H := cond_f g_3 H
      refine TO_off rfl rfl (by decide) rfl rfl rfl ?_
      refine TO_off rfl rfl (by decide) rfl rfl rfl ?_
      refine TO_off rfl rfl (by decide) rfl rfl rfl ?_
      refine TO_off rfl rfl (by decide) rfl rfl rfl ?_
      refine TO_off rfl rfl (by decide) rfl rfl rfl ?_
      refine Tp rfl rfl (pur_pick (t := false) rfl rfl rfl) rfl ?_
      refine Tp rfl rfl (pur_assign rfl) rfl ?_
      refine TO_nil ?_
      exact joined false (wp 0 (lb rfl) rfl rfl rfl rfl ⟨rfl, trivial⟩) (some_inj H).symm
  · rintro _ rfl
    replace H := H_2
    refine T_env (E' := [(4, (boolA t4_1))]) ⟨rfl, trivial⟩ ?_
    refine T_ret ?_
    obtain rfl := some_inj H
    refine end_ret (.tmp .nil) rfl rfl ⟨?_, rfl⟩
    rfl
end Go.Proofs.Ytjdpolnakhmkmaa

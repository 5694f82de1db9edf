import Derived.Test.YtjdpolnakhmkmaaM1
set_option linter.unusedVariables false
set_option linter.unusedSimpArgs false
set_option maxRecDepth 4000
namespace Go.Proofs.Ytjdpolnakhmkmaa
open Go Go.Proofs Go.Sep
set_option maxHeartbeats 1000000 in
theorem m_laws_szIntS_ok (a0 : (List Int)) (left1 : Int) (r : Int) (H : m_laws_szIntS a0 left1 = some r) : FnV prg 83 [(sl tInt a0), (intA left1)] (intA r) := by
  unfold m_laws_szIntS at H
  refine fnV_of_T Try.func83 rfl rfl (Nat.le_of_ble_eq_true rfl) ?_
  refine te [(0, (sl tInt a0)), (1, (intA left1))] rfl ?_
  refine sr ?_
  refine pv tb 1 rfl ?_
  refine TO_nil ?_
  refine sr ?_
  refine pv tb 2 rfl ?_
  refine Tp rfl rfl (pur_lenT (T := tInt) sl23 rfl rfl) rfl ?_
  refine pv tb 2 rfl ?_
  refine TO_nil ?_
  refine T_seq ?_
  refine sr ?_
  refine pv tb 2 rfl ?_
  refine TO_nil ?_
  refine T_cond (t := decide ((w64 (left1 - (a0.length : Int))) < 0)) rfl (fun c_1 => ?_) (fun c_1 => ?_)
  ·replace H := cond_t c_1 H
   refine sr ?_
   refine pv tb 1 rfl ?_
   refine TO_nil ?_
   refine T_ret ?_
   refine then_ret ?_
   obtain rfl := some_inj H
   refine end_ret (.tmp .nil) rfl rfl ⟨?_, rfl⟩
   rfl
  ·replace H := cond_f c_1 H
   refine T_skip ?_
   refine sr ?_
   refine pv tb 2 rfl ?_
   refine TO_nil ?_
   refine T_ret ?_
   obtain rfl := some_inj H
   refine end_ret (.tmp .nil) rfl rfl ⟨?_, rfl⟩
   rfl

set_option maxHeartbeats 1000000 in
theorem m_laws_szAtom_ok (a0 : Atom) (left1 : Int) (r : Int) (H : m_laws_szAtom a0 left1 = some r) : FnV prg 136 [(.g (tAtom.enc a0)), (intA left1)] (intA r) := by
  unfold m_laws_szAtom at H
  refine fnV_of_T Try.func136 rfl rfl (Nat.le_of_ble_eq_true rfl) ?_
  refine te [(0, (.g (tAtom.enc a0))), (1, (intA left1))] rfl ?_
  refine sr ?_
  refine TO_cons rfl (TOp_box rfl (boxAll rfl) rfl rfl ?_)
  refine pv tb 1 rfl ?_
  refine TO_nil ?_
  refine sr ?_
  obtain ⟨r_1, h_2, H⟩ := bind_inv H
  refine pv tb 3 rfl ?_
  refine TO_cons rfl (TOp_callV (call_static ent83 rfl) (m_laws_szIntS_ok _ _ _ h_2) rfl rfl rfl ?_)
  refine pv tb 1 rfl ?_
  refine TO_nil ?_
  refine T_seq ?_
  refine sr ?_
  refine pv tb 2 rfl ?_
  refine TO_nil ?_
  refine T_cond (t := decide (r_1 < 0)) rfl (fun c_3 => ?_) (fun c_3 => ?_)
  ·replace H := cond_t c_3 H
   refine sr ?_
   refine pv tb 1 rfl ?_
   refine TO_nil ?_
   refine T_ret ?_
   refine then_ret ?_
   obtain rfl := some_inj H
   refine end_ret (.tmp .nil) rfl rfl ⟨?_, rfl⟩
   rfl
  ·replace H := cond_f c_3 H
   refine T_skip ?_
   refine sr ?_
   refine pv tb 2 rfl ?_
   refine TO_nil ?_
   refine T_ret ?_
   obtain rfl := some_inj H
   refine end_ret (.tmp .nil) rfl rfl ⟨?_, rfl⟩
   rfl

set_option maxHeartbeats 1000000 in
theorem m_laws_szAtomS_ok (a0 : (List Atom)) (left1 : Int) (r : Int) (H : m_laws_szAtomS a0 left1 = some r) : FnV prg 82 [(sl tAtom a0), (intA left1)] (intA r) := by
  unfold m_laws_szAtomS at H
  refine fnV_of_T Try.func82 rfl rfl (Nat.le_of_ble_eq_true rfl) ?_
  refine te [(0, (sl tAtom a0)), (1, (intA left1))] rfl ?_
  refine sr ?_
  refine pv tb 1 rfl ?_
  refine TO_nil ?_
  refine sr ?_
  refine pv tb 2 rfl ?_
  refine Tp rfl rfl (pur_lenT (T := tAtom) sl22 rfl rfl) rfl ?_
  refine pv tb 2 rfl ?_
  refine TO_nil ?_
  refine T_seq ?_
  refine sr ?_
  refine pv tb 2 rfl ?_
  refine TO_nil ?_
  refine T_cond (t := decide ((w64 (left1 - (a0.length : Int))) < 0)) rfl (fun c_1 => ?_) (fun c_1 => ?_)
  ·replace H := cond_t c_1 H
   refine sr ?_
   refine pv tb 1 rfl ?_
   refine TO_nil ?_
   refine T_ret ?_
   refine then_ret ?_
   obtain rfl := some_inj H
   refine end_ret (.tmp .nil) rfl rfl ⟨?_, rfl⟩
   rfl
  ·replace H := cond_f c_1 H
   refine T_skip ?_
   refine T_seq ?_
   refine sr ?_
   refine pv tb 1 rfl ?_
   refine TO_nil ?_
   obtain ⟨O3_, L3_, N3_⟩ := bind_inv H
   clear H
   obtain ⟨B3_, hb3, L3_⟩ := gen_forL L3_
   refine T_block ?_
   refine T_loopX (fun k => fun (⟨i_2, left1⟩ : Nat × Int) => k = a0.length - i_2 ∧ forL B3_ (a0.drop i_2) (i_2 : Int) left1 = some O3_) (fun (⟨i_2, left1⟩ : Nat × Int) => [(0, (sl tAtom a0)), (1, (intA left1)), (5, (intA (i_2 : Int)))]) (fun (⟨i_2, left1⟩ : Nat × Int) => []) _ (0, (w64 (left1 - (a0.length : Int)))) (w0 0) ⟨rfl, L3_⟩ ?_
   rintro _ ⟨i_2, left1⟩ ⟨rfl, L3_⟩
   refine T_fact (len_sl (T := tAtom) (.tmp 0) rfl) (fun hl3 => ?_)
   refine T_seq ?_
   refine sr ?_
   refine pv tb 2 rfl ?_
   refine Tp rfl rfl (pur_lenT (T := tAtom) sl22 rfl rfl) rfl ?_
   refine pv tb 1 rfl ?_
   refine TO_nil ?_
   refine T_cond (t := decide ((i_2 : Int) < (a0.length : Int))) rfl (fun d3 => ?_) (fun d3 => ?_)
   ·replace d3 := of_decide_eq_true d3
    obtain ⟨x_i_2, hx_i_2⟩ : ∃ v, (a0)[i_2]? = some v := ⟨_, List.getElem?_eq_getElem (by omega)⟩
    obtain ⟨C3_, H, K3_⟩ := forL_step L3_ hx_i_2
    rw [hb3] at H
    refine T_skip ?_
    refine T_seq ?_
    refine T_block ?_
    refine sr ?_
    refine pv tb 2 rfl ?_
    refine Tp rfl rfl (pur_ixT (T := tAtom) sl22 rfl rfl rfl hx_i_2 rfl) rfl ?_
    refine Tp rfl rfl (pur_ldTK (T := tAtom) (i := i_2) (off := 0) rfl agg149 rfl rfl hx_i_2 (by decide) rfl) rfl ?_
    obtain ⟨r_4, h_5, H⟩ := bind_inv H
    refine pv tb 1 rfl ?_
    refine TO_cons rfl (TOp_callV (call_static ent136 rfl) (m_laws_szAtom_ok _ _ _ h_5) rfl rfl rfl ?_)
    refine pv tb 1 rfl ?_
    refine TO_nil ?_
    refine sr ?_
    refine pv tb 2 rfl ?_
    refine TO_nil ?_
    refine T_cond (t := decide (r_4 < 0)) rfl (fun c_6 => ?_) (fun c_6 => ?_)
    ·replace H := cond_t c_6 H
     refine sr ?_
     refine pv tb 1 rfl ?_
     refine TO_nil ?_
     refine te [(4, (intA (-1)))] rfl ?_
     refine T_ret ?_
     refine block_ret ?_
     refine then_ret ?_
     refine then_ret ?_
     refine block_ret ?_
     refine then_ret ?_
     obtain rfl := some_inj H
     obtain rfl := some_inj K3_
     replace H := onS_r N3_
     obtain rfl := some_inj H
     refine end_ret (.tmp .nil) rfl rfl ⟨?_, rfl⟩
     rfl
    ·replace H := cond_f c_6 H
     refine T_skip ?_
     refine T_region ?_
     refine pv tb 1 rfl ?_
     refine Tp rfl rfl (pur_add rfl rfl rfl (fits64 (by omega) (by omega))) rfl ?_
     refine pv tb 1 rfl ?_
     refine TO_nil ?_
     obtain rfl := some_inj H
     exact again (a0.length - (i_2 + 1)) (i_2 + 1, r_4) (by omega) (w0 0) ⟨rfl, K3_⟩
   ·replace d3 := of_decide_eq_false d3
    obtain rfl := forL_end L3_ (by omega)
    refine T_exit ?_
    refine then_exit ?_
    refine then_exit ?_
    refine block_exit ?_
    replace H := onS_l N3_
    refine sr ?_
    refine pv tb 2 rfl ?_
    refine TO_nil ?_
    refine T_ret ?_
    obtain rfl := some_inj H
    refine end_ret (.tmp .nil) rfl rfl ⟨?_, rfl⟩
    rfl

set_option maxHeartbeats 1000000 in
theorem m_laws_szQuery_ok (a0 : Query) (left1 : Int) (r : Int) (H : m_laws_szQuery a0 left1 = some r) : FnV prg 15 [(.g (tQuery.enc a0)), (intA left1)] (intA r) := by
  unfold m_laws_szQuery at H
  refine fnV_of_T Try.func15 rfl rfl (Nat.le_of_ble_eq_true rfl) ?_
  refine te [(0, (.g (tQuery.enc a0))), (1, (intA left1))] rfl ?_
  refine sr ?_
  refine TO_cons rfl (TOp_box rfl (boxAll rfl) rfl rfl ?_)
  refine pv tb 1 rfl ?_
  refine TO_nil ?_
  refine sr ?_
  obtain ⟨r_1, h_2, H⟩ := bind_inv H
  refine pv tb 3 rfl ?_
  refine TO_cons rfl (TOp_callV (call_static ent82 rfl) (m_laws_szAtomS_ok _ _ _ h_2) rfl rfl rfl ?_)
  refine pv tb 1 rfl ?_
  refine TO_nil ?_
  refine T_seq ?_
  refine sr ?_
  refine pv tb 2 rfl ?_
  refine TO_nil ?_
  refine T_cond (t := decide (r_1 < 0)) rfl (fun c_3 => ?_) (fun c_3 => ?_)
  ·replace H := cond_t c_3 H
   refine sr ?_
   refine pv tb 1 rfl ?_
   refine TO_nil ?_
   refine T_ret ?_
   refine then_ret ?_
   obtain rfl := some_inj H
   refine end_ret (.tmp .nil) rfl rfl ⟨?_, rfl⟩
   rfl
  ·replace H := cond_f c_3 H
   refine T_skip ?_
   refine sr ?_
   obtain ⟨r_4, h_5, H⟩ := bind_inv H
   refine pv tb 3 rfl ?_
   refine TO_cons rfl (TOp_callV (call_static ent83 rfl) (m_laws_szIntS_ok _ _ _ h_5) rfl rfl rfl ?_)
   refine pv tb 1 rfl ?_
   refine TO_nil ?_
   refine T_seq ?_
   refine sr ?_
   refine pv tb 2 rfl ?_
   refine TO_nil ?_
   refine T_cond (t := decide (r_4 < 0)) rfl (fun c_6 => ?_) (fun c_6 => ?_)
   ·replace H := cond_t c_6 H
    refine sr ?_
    refine pv tb 1 rfl ?_
    refine TO_nil ?_
    refine te [(4, (intA (-1)))] rfl ?_
    refine T_ret ?_
    refine then_ret ?_
    obtain rfl := some_inj H
    refine end_ret (.tmp .nil) rfl rfl ⟨?_, rfl⟩
    rfl
   ·replace H := cond_f c_6 H
    refine T_skip ?_
    refine te [(1, (intA r_4))] rfl ?_
    refine sr ?_
    refine pv tb 2 rfl ?_
    refine TO_nil ?_
    refine T_ret ?_
    obtain rfl := some_inj H
    refine end_ret (.tmp .nil) rfl rfl ⟨?_, rfl⟩
    rfl

set_option maxHeartbeats 1000000 in
theorem m_spec_l11Copy_own (u : Nat) (q0 : Query) (r : Query) (H : m_spec_l11Copy u q0 = some r) : FnO prg 84 [(.g (tQuery.enc q0))] (.g [(intA r.variableCount), (.m [0] 0 r.atoms.length tAtom.k), (.m [1] 0 r.free.length tInt.k)]) [.row (flat tAtom.own r.atoms), .row (flat tInt.own r.free)] := by
  unfold m_spec_l11Copy at H
  refine fnO_of_T Try.func84 rfl rfl (Nat.le_of_ble_eq_true rfl) ?_
  refine te [(0, (.g (tQuery.enc q0)))] rfl ?_
  refine sr ?_
  refine TO_cons rfl (TOp_box rfl (boxAll rfl) rfl rfl ?_)
  refine TO_cons rfl (TOp_alloc zero29 rfl rfl ?_)
  refine TO_nil ?_
  obtain ⟨us_1, h_2, H⟩ := bind_inv H
  refine T_pad ?_
  refine T_pad ?_
  refine T_pad ?_
  refine T_cutX (fun (_ : Unit) => True) (fun _ => [(1, (.b 0 0)), (2, (.b 1 0)), (3, (.b 5 0))]) (fun _ => [.box [(intA q0.variableCount), (sl tAtom q0.atoms), (sl tInt q0.free)], .box [(intA 0), .n, .n], .row (flat tInt.enc us_1), .dead, .dead, .box [(intA q0.variableCount), .n, (.m [2] 0 us_1.length tInt.k)]]) ?_ ?_
  ·skip
   refine T_regionP 2 mixed rfl ?_
   refine TA_have 1 #[true, true, true, true, true, true, true, true, false] [(1, (.b 0 0)), (2, (.b 1 0)), (3, (.b 5 0)), (11, (.g [(intA q0.variableCount), .n, (.m [3] 0 us_1.length tInt.k)]))] [.dead, .dead, .dead, .row (flat tInt.enc us_1), .dead, .box [(intA 0), .n, .n]] ?_ (fun hj0_1 => ?_)
   ·skip
    refine t1 8 (by kernel_rfl) rfl rfl (TOp_storeB sz29 rfl rfl rfl rfl rfl rfl rfl (by decide) (lb rfl) rfl ?_)
    refine TA_st (σ' := [.dead, .dead, .dead, .row (flat tInt.enc us_1), .dead, .box [(intA q0.variableCount), .n, (.m [3] 0 us_1.length tInt.k)]]) rfl ?_
    refine TA_ghost (E' := [(1, (.b 0 0)), (2, (.b 1 0)), (3, (.b 5 0))]) (σ' := [.dead, .dead, .row (flat tInt.enc us_1), .dead, .dead, .box [(intA q0.variableCount), .n, (.m [2] 0 us_1.length tInt.k)]]) (Ghost.move 2 3 (by decide) (lb rfl) rfl rfl (lb rfl) (Ghost.weak (WeakL.to 6 (lb rfl) rfl rfl rfl rfl ⟨leR rfl, leR rfl, leR rfl, trivial⟩))) ?_
    exact TA_nil (by kernel_rfl) (joined () (w0 6) trivial)
   refine TA_have 3 #[true, true, true, true, true, false, false, true, false] [(1, (.b 0 0)), (2, (.b 1 0)), (3, (.b 5 0)), (6, (intA q0.variableCount)), (7, (.m [3] 0 ([] : (List Int)).length tInt.k)), (9, (sl tInt q0.free))] [.dead, .dead, .dead, .row (flat tInt.enc ([] : (List Int))), .dead, .box [(intA 0), .n, .n]] ?_ (fun hj1_1 => ?_)
   ·skip
    refine t1 5 (by kernel_rfl) rfl rfl (TOp_appY (T := tInt) (f := tInt.enc) (xs := ([] : (List Int))) (ys := q0.free) tInt.len sl23 zero3 rfl bytes3 (by decide) rfl rfl rfl rfl (src_T (T := tInt) rfl) (flat_cell tInt _) h_2 ?_)
    refine tmw 3 6 (by decide) (lb rfl) rfl rfl (lb rfl) rfl ?_
    refine tf 6 rfl (pur_build bld29 rfl rfl) rfl rfl (by kernel_rfl) ?_
    exact tj hj0_1 rfl (w0 6)
   refine pa tb [0, 1, 3, 4] 5 rfl (by kernel_rfl) rfl ?_
   refine TA_all [2, 7] (by kernel_rfl) (by decide) ⟨?_, ?_, trivial⟩
   ·skip
    refine ⟨_, rfl, rfl, (TOp_lit (nn := 0) (k := 1) sl23 zero3 rfl rfl rfl rfl (by decide) ?_)⟩
    refine TA_ghost (E' := [(1, (.b 0 0)), (2, (.b 1 0)), (5, (.b 0 0)), (6, (intA q0.variableCount)), (7, (.m [3] 0 ([] : (List Int)).length tInt.k)), (8, (.b 0 2)), (9, (sl tInt q0.free))]) (σ' := [.dead, .dead, .dead, .row (flat tInt.enc ([] : (List Int))), .dead]) (Ghost.move 3 5 (by decide) (lb rfl) rfl rfl (lb rfl) (Ghost.weak (WeakL.to 5 (lb rfl) rfl rfl rfl rfl ⟨leR rfl, leR rfl, leR rfl, leR rfl, leR rfl, leR rfl, leR rfl, trivial⟩))) ?_
    refine TA_all [5, 7] (by kernel_rfl) (by decide) ⟨?_, ?_, trivial⟩
    ·skip
     refine ⟨_, rfl, rfl, (TOp_appY (T := tInt) (f := tInt.enc) (xs := ([] : (List Int))) (ys := q0.free) tInt.len sl23 zero3 rfl bytes3 (by decide) rfl rfl rfl rfl (src_T (T := tInt) rfl) (flat_cell tInt _) h_2 ?_)⟩
     refine tmw 3 5 (by decide) (lb rfl) rfl rfl (lb rfl) rfl ?_
     refine tae [(1, (.b 0 0)), (2, (.b 1 0)), (6, (intA q0.variableCount)), (10, (.m [3] 0 us_1.length tInt.k))] rfl ?_
     refine TA_st (σ' := [.dead, .dead, .dead, .row (flat tInt.enc us_1), .dead, .dead]) rfl ?_
     refine tf 6 rfl (pur_build bld29 rfl rfl) rfl rfl (by kernel_rfl) ?_
     refine TA_ghost (E' := [(1, (.b 0 0)), (2, (.b 1 0)), (11, (.g [(intA q0.variableCount), .n, (.m [3] 0 us_1.length tInt.k)]))]) (σ' := [.dead, .dead, .dead, .row (flat tInt.enc us_1), .dead]) (Ghost.weak (WeakL.to 5 (lb rfl) rfl rfl rfl rfl ⟨leR rfl, leR rfl, leR rfl, trivial⟩)) ?_
     refine t1 7 (by kernel_rfl) rfl rfl (TOp_alloc zero29 rfl rfl ?_)
     exact tj hj0_1 rfl (w0 6)
    ·skip
     refine ⟨_, rfl, rfl, (TOp_alloc zero29 rfl rfl ?_)⟩
     refine tae [(1, (.b 0 0)), (2, (.b 1 0)), (3, (.b 5 0)), (6, (intA q0.variableCount)), (7, (.m [3] 0 ([] : (List Int)).length tInt.k)), (9, (sl tInt q0.free))] rfl ?_
     refine TA_st (σ' := [.dead, .dead, .dead, .row (flat tInt.enc ([] : (List Int))), .dead, .box [(intA 0), .n, .n]]) rfl ?_
     exact tj hj1_1 rfl (w0 6)
   ·skip
    refine ⟨_, rfl, rfl, (TOp_alloc zero29 rfl rfl ?_)⟩
    refine t1 2 (by kernel_rfl) rfl rfl (TOp_lit (nn := 0) (k := 1) sl23 zero3 rfl rfl rfl rfl (by decide) ?_)
    refine TA_ghost (E' := [(1, (.b 0 0)), (2, (.b 1 0)), (3, (.b 5 0)), (5, (.b 0 0)), (6, (intA q0.variableCount)), (7, (.m [3] 0 ([] : (List Int)).length tInt.k)), (8, (.b 0 2)), (9, (sl tInt q0.free))]) (σ' := [.dead, .dead, .dead, .row (flat tInt.enc ([] : (List Int))), .dead, .box [(intA 0), .n, .n]]) (Ghost.move 3 6 (by decide) (lb rfl) rfl rfl (lb rfl) (Ghost.weak (WeakL.to 6 (lb rfl) rfl rfl rfl rfl ⟨leR rfl, leR rfl, leR rfl, leR rfl, leR rfl, leR rfl, leR rfl, leR rfl, trivial⟩))) ?_
    refine tae [(1, (.b 0 0)), (2, (.b 1 0)), (3, (.b 5 0)), (6, (intA q0.variableCount)), (7, (.m [3] 0 ([] : (List Int)).length tInt.k)), (9, (sl tInt q0.free))] rfl ?_
    refine TA_st (σ' := [.dead, .dead, .dead, .row (flat tInt.enc ([] : (List Int))), .dead, .box [(intA 0), .n, .n]]) rfl ?_
    exact tj hj1_1 rfl (w0 6)
  ·rintro _ _
   refine T_seq ?_
   refine sr ?_
   refine pv tb 1 rfl ?_
   refine TO_nil ?_
   refine T_row0 ?_
   refine T_boxle (xs := [(intA q0.variableCount), .n, (.m [2] 0 us_1.length tInt.k)]) (ys := [(intA q0.variableCount), (.m [6] 0 ([] : (List Atom)).length tAtom.k), (.m [2] 0 us_1.length tInt.k)]) 5 rfl (leCons (leR rfl) (leCons leM (leCons (leR rfl) leNil))) ?_
   refine T_st (σ' := [.box [(intA q0.variableCount), (sl tAtom q0.atoms), (sl tInt q0.free)], .box [(intA 0), .n, .n], .row (flat tInt.enc us_1), .dead, .dead, .box [(intA q0.variableCount), (.m [6] 0 ([] : (List Atom)).length tAtom.k), (.m [2] 0 us_1.length tInt.k)], .row (flat tAtom.own ([] : (List Atom)))]) rfl ?_
   obtain ⟨O3_, L3_, N3_⟩ := bind_inv H
   clear H
   obtain ⟨B3_, hb3, L3_⟩ := gen_whileF L3_
   refine T_block ?_
   refine T_loopX (fun k => fun (⟨i4, box5_atoms⟩ : Int × (List Atom)) => whileF B3_ k (i4, box5_atoms) = some O3_) (fun (⟨i4, box5_atoms⟩ : Int × (List Atom)) => [(1, (.b 0 0)), (2, (.b 1 0)), (3, (.b 5 0)), (4, (intA i4))]) (fun (⟨i4, box5_atoms⟩ : Int × (List Atom)) => [.box [(intA q0.variableCount), (sl tAtom q0.atoms), (sl tInt q0.free)], .box [(intA 0), .n, .n], .row (flat tInt.enc us_1), .dead, .dead, .box [(intA q0.variableCount), (.m [6] 0 box5_atoms.length tAtom.k), (.m [2] 0 us_1.length tInt.k)], .row (flat tAtom.own box5_atoms)]) u (0, ([] : (List Atom))) (w0 7) L3_ ?_
   rintro _ ⟨i4, box5_atoms⟩ L3_
   obtain ⟨k3, rfl, C3_, H, K3_⟩ := while_step L3_
   rw [hb3] at H
   refine T_seq ?_
   refine sr ?_
   refine pv tb 3 rfl ?_
   refine Tp rfl rfl (pur_lenT (T := tAtom) sl27 rfl rfl) rfl ?_
   refine pv tb 1 rfl ?_
   refine TO_nil ?_
   refine T_cond (t := decide (i4 < (q0.atoms.length : Int))) rfl (fun c_4 => ?_) (fun c_4 => ?_)
   ·replace H := cond_t c_4 H
    refine T_skip ?_
    refine T_seq ?_
    refine T_block ?_
    obtain ⟨v_5, h_6, H⟩ := bind_inv H
    obtain ⟨n_7, hz_8, hv_9⟩ := getI_inv h_6
    obtain ⟨us_10, h_11, H⟩ := bind_inv H
    obtain ⟨us_12, h_13, H⟩ := bind_inv H
    refine T_pad ?_
    refine T_pad ?_
    refine T_pad ?_
    refine T_pad ?_
    refine T_regionPh 7 20 mixed rfl (by kernel_rfl) ?_
    refine pa tb [0, 1, 2, 3, 4] 15 rfl (by kernel_rfl) rfl ?_
    refine tf 5 rfl (pur_ixT (T := tAtom) sl27 rfl rfl hz_8 hv_9 rfl) rfl rfl (by kernel_rfl) ?_
    refine pa tb [6] 13 rfl (by kernel_rfl) rfl ?_
    refine tf 7 rfl (pur_ldT (T := tAtom) (i := n_7) (off := 0) rfl one3 rfl rfl hv_9 rfl) rfl rfl (by kernel_rfl) ?_
    refine pa tb [9, 10, 11] 9 rfl (by kernel_rfl) rfl ?_
    refine tf 12 rfl (pur_ixT (T := tAtom) sl27 rfl rfl hz_8 hv_9 rfl) rfl rfl (by kernel_rfl) ?_
    refine pa tb [13] 7 rfl (by kernel_rfl) rfl ?_
    refine tf 14 rfl (pur_ldT (T := tAtom) (i := n_7) (off := 1) rfl one23 rfl rfl hv_9 rfl) rfl rfl (by kernel_rfl) ?_
    refine t1 8 (by kernel_rfl) rfl rfl (TOp_lit (nn := 0) (k := 1) sl23 zero3 rfl rfl rfl rfl (by decide) ?_)
    refine tmw 7 11 (by decide) (lb rfl) rfl rfl (lb rfl) rfl ?_
    refine t1 15 (by kernel_rfl) rfl rfl (TOp_appY (T := tInt) (f := tInt.enc) (xs := ([] : (List Int))) (ys := v_5.terms) tInt.len sl23 zero3 rfl bytes3 (by decide) rfl rfl rfl rfl (src_T (T := tInt) rfl) (flat_cell tInt _) h_11 ?_)
    refine tmw 7 12 (by decide) (lb rfl) rfl rfl (lb rfl) rfl ?_
    refine tae [(1, (.b 0 0)), (2, (.b 1 0)), (3, (.b 5 0)), (4, (intA i4)), (20, (.m [6] 0 box5_atoms.length tAtom.k)), (26, (intA v_5.relation)), (34, (.m [7] 0 us_10.length tInt.k))] rfl ?_
    refine TA_st (σ' := [.dead, .dead, .row (flat tInt.enc us_1), .dead, .dead, .dead, .row (flat tAtom.own box5_atoms), .row (flat tInt.enc us_10), .dead, .dead, .dead, .dead, .dead]) rfl ?_
    refine tf 16 rfl (pur_build bld150 rfl rfl) rfl rfl (by kernel_rfl) ?_
    refine t1 17 (by kernel_rfl) rfl rfl (TOp_ghost (E' := [(1, (.b 0 0)), (2, (.b 1 0)), (3, (.b 5 0)), (4, (intA i4)), (20, (.m [6] 0 box5_atoms.length tAtom.k)), (35, (.g [(intA v_5.relation), (.m [7] 0 us_10.length tInt.k)]))]) (σ' := [.dead, .dead, .row (flat tInt.enc us_1), .dead, .dead, .dead, .row (flat tAtom.own box5_atoms), .row (flat tInt.enc us_10), .dead, .dead, .dead]) (by exact Ghost.weak (w0 11)) (TOp_litB (nn := 1) (k := 2) sl27 zero150 rfl rfl rfl rfl (by decide) ?_))
    refine TA_st (σ' := [.dead, .dead, .row (flat tInt.enc us_1), .dead, .dead, .dead, .row (flat tAtom.own box5_atoms), .row (flat tInt.enc us_10), .dead, .dead, .dead, .box [(intA v_5.relation), (.m [7] 0 us_10.length tInt.k)]]) rfl ?_
    refine tmw 10 6 (by decide) (lb rfl) rfl rfl (lb rfl) rfl ?_
    refine t1 18 (by kernel_rfl) rfl rfl (TOp_boxify 10 rfl (lb rfl) (TOp_appB (T := tAtom) (xs := box5_atoms) (v := ({ relation := v_5.relation, terms := us_10 } : Atom)) sl27 zero150 rfl bytes150 (by decide) rfl rfl rfl rfl rfl rfl rfl rfl h_13 (lb rfl) ?_))
    refine tae [(1, (.b 0 0)), (2, (.b 1 0)), (3, (.b 5 0)), (4, (intA i4)), (37, .m [12] 0 (box5_atoms.length + 1) tAtom.k)] rfl ?_
    refine TA_st (σ' := [.dead, .dead, .row (flat tInt.enc us_1), .dead, .dead, .dead, .dead, .row (flat tInt.enc us_10), .dead, .dead, .dead, .box [(intA v_5.relation), (.m [7] 0 us_10.length tInt.k)], .box (flat tAtom.own box5_atoms ++ [(intA v_5.relation), (.m [7] 0 us_10.length tInt.k)])]) rfl ?_
    refine TA_absorbA (pr := flat tAtom.own box5_atoms) 12 1 7 rfl rfl rfl (by decide) tInt.pos (flat_len tInt.len _) (lb rfl) (lb rfl) rfl (nms_dead (nms_dead (nms_row (nms_dead (nms_dead (nms_dead (nms_dead (nms_row (nms_dead (nms_dead (nms_dead (nms_box rfl (nms_box (namesA namesL_own rfl) nms_nil))))))))))))) ?_
    refine TA_st (σ' := [.dead, .dead, .row (flat tInt.enc us_1), .dead, .dead, .dead, .dead, .dead, .dead, .dead, .dead, .box [(intA v_5.relation), (.m [7] 0 us_10.length tInt.k)], .box (flat tAtom.own box5_atoms ++ [(intA v_5.relation), .o tInt.k (flat tInt.enc us_10)])]) rfl ?_
    refine TA_rowifyT (T := tAtom) (xs := box5_atoms) (v := ({ relation := v_5.relation, terms := us_10 } : Atom)) 12 rfl rfl h_13 (lb rfl) ?_
    refine TA_st (σ' := [.dead, .dead, .row (flat tInt.enc us_1), .dead, .dead, .dead, .dead, .dead, .dead, .dead, .dead, .box [(intA v_5.relation), (.m [7] 0 us_10.length tInt.k)], .row (flat tAtom.own us_12)]) rfl ?_
    refine TA_move 10 12 (by decide) (lb rfl) rfl rfl (lb rfl) ?_
    refine TA_env (E' := [(1, (.b 0 0)), (2, (.b 1 0)), (3, (.b 5 0)), (4, (intA i4)), (37, (.m [10] 0 us_12.length tAtom.k))]) ⟨rfl, rfl, rfl, rfl, (congrArg (fun q => A.m [10] 0 q tAtom.k) (app_len h_13)), trivial⟩ ?_
    refine TA_kill 11 (lb rfl) ?_
    refine TA_st (σ' := [.dead, .dead, .row (flat tInt.enc us_1), .dead, .dead, .dead, .dead, .dead, .dead, .dead, .row (flat tAtom.own us_12), .dead, .dead]) rfl ?_
    refine pa tb [19] 0 rfl (by kernel_rfl) rfl ?_
    refine TA_nil (by kernel_rfl) ?_
    refine TA_st (σ' := [.box [(intA q0.variableCount), (sl tAtom q0.atoms), (sl tInt q0.free)], .box [(intA 0), .n, .n], .row (flat tInt.enc us_1), .dead, .dead, .box [(intA q0.variableCount), (.m [6] 0 box5_atoms.length tAtom.k), (.m [2] 0 us_1.length tInt.k)], .dead, .dead, .dead, .dead, .row (flat tAtom.own us_12), .dead, .dead]) rfl ?_
    refine tmv 6 10 (by decide) (lb rfl) rfl rfl (lb rfl) ?_
    refine TA_st (σ' := [.box [(intA q0.variableCount), (sl tAtom q0.atoms), (sl tInt q0.free)], .box [(intA 0), .n, .n], .row (flat tInt.enc us_1), .dead, .dead, .box [(intA q0.variableCount), .j, (.m [2] 0 us_1.length tInt.k)], .row (flat tAtom.own us_12), .dead, .dead, .dead, .dead, .dead, .dead]) rfl ?_
    refine t1 20 (by kernel_rfl) rfl rfl (TOp_storeB sz27 rfl rfl rfl rfl rfl rfl rfl (by decide) (lb rfl) rfl ?_)
    refine TA_st (σ' := [.box [(intA q0.variableCount), (sl tAtom q0.atoms), (sl tInt q0.free)], .box [(intA 0), .n, .n], .row (flat tInt.enc us_1), .dead, .dead, .box [(intA q0.variableCount), (.m [6] 0 us_12.length tAtom.k), (.m [2] 0 us_1.length tInt.k)], .row (flat tAtom.own us_12), .dead, .dead, .dead, .dead, .dead, .dead]) rfl ?_
    refine TA_nil (by kernel_rfl) ?_
    refine T_region ?_
    refine pv tb 3 rfl ?_
    refine TO_nil ?_
    obtain rfl := some_inj H
    exact again k3 ((w64 (i4 + 1)), us_12) (Nat.lt_succ_self _) (w0 7) K3_
   ·replace H := cond_f c_4 H
    refine T_exit ?_
    refine then_exit ?_
    refine then_exit ?_
    refine block_exit ?_
    obtain rfl := some_inj H
    obtain rfl := some_inj K3_
    replace H := onS_l N3_
    refine sr ?_
    refine pv tb 1 rfl ?_
    refine TO_cons rfl (TOp_storeB sz29 rfl rfl rfl rfl rfl rfl rfl (by decide) (lb rfl) rfl ?_)
    refine TO_st (σ' := [.box [(intA q0.variableCount), (sl tAtom q0.atoms), (sl tInt q0.free)], .box [(intA q0.variableCount), (.m [6] 0 box5_atoms.length tAtom.k), (.m [2] 0 us_1.length tInt.k)], .row (flat tInt.enc us_1), .dead, .dead, .box [(intA q0.variableCount), (.m [6] 0 box5_atoms.length tAtom.k), (.m [2] 0 us_1.length tInt.k)], .row (flat tAtom.own box5_atoms)]) rfl ?_
    refine TO_nil ?_
    refine T_ret ?_
    obtain rfl := some_inj H
    exact end_pick (.cellK rfl agg29 rfl (lb rfl) .nil) rfl [6, 2] (by decide) rfl rfl rfl rfl rfl rfl
theorem m_spec_l11Copy_ok (u : Nat) (q0 : Query) (r : Query) (H : m_spec_l11Copy u q0 = some r) : FnV prg 84 [(.g (tQuery.enc q0))] (.g (tQuery.enc r)) := (m_spec_l11Copy_own u q0 r H).frz (frzOK_g (frz_cons (frz_loose rfl) (frz_cons (frzT (T := tAtom) rfl) (frz_cons (frzT (T := tInt) rfl) frz_nil))).1 (frz_cons (frz_loose rfl) (frz_cons (frzT (T := tAtom) rfl) (frz_cons (frzT (T := tInt) rfl) frz_nil))).2)

set_option maxHeartbeats 1000000 in
theorem m_spec_l1In_ok (x0 : Int) (low1 : Int) (high2 : Int) (r : Bool) (H : m_spec_l1In x0 low1 high2 = some r) : FnV prg 137 [(intA x0), (intA low1), (intA high2)] (boolA r) := by
  unfold m_spec_l1In at H
  refine fnV_of_T Try.func137 rfl rfl (Nat.le_of_ble_eq_true rfl) ?_
  refine te [(0, (intA x0)), (1, (intA low1)), (2, (intA high2))] rfl ?_
  refine sr ?_
  refine pv tb 1 rfl ?_
  refine TO_nil ?_
  refine T_cutX (fun x => ((decide (low1 ≤ x0)) && (decide (x0 ≤ high2))) = x) (fun (t6_1 : Bool) => [(6, (boolA t6_1))]) (fun (t6_1 : Bool) => []) ?_ ?_
  ·skip
   refine T_region ?_
   refine pv tb 4 rfl ?_
   refine TO_split (t := decide (low1 ≤ x0)) 10 rfl (fun g_3 => ?_) (fun g_3 => ?_)
   ·skip
    refine pv tb 5 rfl ?_
    refine TO_nil ?_
    exact joined (decide (x0 ≤ high2)) (w0 0) (by first | exact Eq.symm ((and_T g_3 rfl)))
   ·skip
    refine pv tb 5 rfl ?_
    refine TO_nil ?_
    exact joined false (w0 0) (by first | exact Eq.symm ((and_F g_3 rfl)))
  ·rintro _ rfl
   refine T_ret ?_
   obtain rfl := some_inj H
   refine end_ret (.tmp .nil) rfl rfl ⟨?_, rfl⟩
   rfl

set_option maxHeartbeats 1000000 in
theorem m_spec_BindVariable_own (u : Nat) (q0 : Query) (v1 : Int) (val2 : Int) (r : (Query × Bool)) (H : m_spec_BindVariable u q0 v1 val2 = some r) : FnO prg 85 [(.g (tQuery.enc q0)), (intA v1), (intA val2)] (.t [(.g [(intA r.1.variableCount), (.m [0] 0 r.1.atoms.length tAtom.k), (.m [1] 0 r.1.free.length tInt.k)]), (boolA r.2)]) [.row (flat tAtom.own r.1.atoms), .row (flat tInt.own r.1.free)] := by
  unfold m_spec_BindVariable at H
  refine fnO_of_T Try.func85 rfl rfl (Nat.le_of_ble_eq_true rfl) ?_
  refine te [(0, (.g (tQuery.enc q0))), (1, (intA v1)), (2, (intA val2))] rfl ?_
  refine sr ?_
  refine TO_cons rfl (TOp_box rfl (boxAll rfl) rfl rfl ?_)
  refine TO_cons rfl (TOp_alloc zero29 rfl rfl ?_)
  refine pv tb 1 rfl ?_
  refine TO_nil ?_
  refine sr ?_
  obtain ⟨r_1, h_2, H⟩ := bind_inv H
  refine pv tb 1 rfl ?_
  refine TO_cons rfl (TOp_callO (call_static ent84 rfl) rfl (m_spec_l11Copy_own u _ _ h_2) rfl rfl rfl ?_)
  refine toe [(1, (intA v1)), (2, (intA val2)), (3, (.b 0 0)), (6, (.b 1 0)), (13, (.g (tQuery.enc q0))), (14, (.g [(intA r_1.variableCount), (.m [2] 0 r_1.atoms.length tAtom.k), (.m [3] 0 r_1.free.length tInt.k)]))] rfl ?_
  refine TO_st (σ' := [.box [(intA q0.variableCount), (sl tAtom q0.atoms), (sl tInt q0.free)], .box [(intA 0), .n, .n], .row (flat tAtom.own r_1.atoms), .row (flat tInt.own r_1.free)]) rfl ?_
  refine TO_cons rfl (TOp_alloc zero29 rfl rfl ?_)
  refine TO_cons rfl (TOp_storeB sz29 rfl rfl rfl rfl rfl rfl rfl (by decide) (lb rfl) rfl ?_)
  refine TO_st (σ' := [.box [(intA q0.variableCount), (sl tAtom q0.atoms), (sl tInt q0.free)], .box [(intA 0), .n, .n], .row (flat tAtom.own r_1.atoms), .row (flat tInt.own r_1.free), .box [(intA r_1.variableCount), (.m [2] 0 r_1.atoms.length tAtom.k), (.m [3] 0 r_1.free.length tInt.k)]]) rfl ?_
  refine TO_nil ?_
  refine T_seq ?_
  obtain ⟨t25_3, J_3, H_4⟩ := bind_inv H
  refine T_cutX (fun x => t25_3 = x) (fun (t25_3 : Bool) => [(1, (intA v1)), (2, (intA val2)), (3, (.b 0 0)), (6, (.b 1 0)), (8, (.b 4 0)), (25, (boolA t25_3))]) (fun (t25_3 : Bool) => [.box [(intA q0.variableCount), (sl tAtom q0.atoms), (sl tInt q0.free)], .box [(intA 0), .n, .n], .row (flat tAtom.own r_1.atoms), .row (flat tInt.own r_1.free), .box [(intA r_1.variableCount), (.m [2] 0 r_1.atoms.length tAtom.k), (.m [3] 0 r_1.free.length tInt.k)]]) ?_ ?_
  ·replace H := J_3
   refine T_region ?_
   obtain ⟨r_5, h_6, H⟩ := bind_inv H
   refine pv tb 4 rfl ?_
   refine TO_cons rfl (TOp_callV (call_static ent137 rfl) (m_spec_l1In_ok _ _ _ _ h_6) rfl rfl rfl ?_)
   refine pv tb 2 rfl ?_
   refine TO_split (t := (!r_5)) 21 rfl (fun g_7 => ?_) (fun g_7 => ?_)
   ·replace H := cond_t g_7 H
    refine pv tb 4 rfl ?_
    refine TO_nil ?_
    exact joined true (w0 5) (some_inj H).symm
   ·replace H := cond_f g_7 H
    obtain ⟨r_8, h_9, H⟩ := bind_inv H
    refine pv tb 1 rfl ?_
    refine TO_on rfl rfl (by decide) rfl rfl (TOp_callV (call_static ent137 rfl) (m_spec_l1In_ok _ _ _ _ h_9) rfl rfl rfl ?_)
    refine pv tb 2 rfl ?_
    refine TO_nil ?_
    exact joined (!r_8) (w0 5) (some_inj H).symm
  ·rintro _ rfl
   replace H := H_4
   refine T_cond (t := t25_3) rfl (fun c_10 => ?_) (fun c_10 => ?_)
   ·replace H := cond_t c_10 H
    refine sr ?_
    refine pv tb 1 rfl ?_
    refine TO_cons rfl (TOp_storeB sz29 rfl rfl rfl rfl rfl rfl rfl (by decide) (lb rfl) rfl ?_)
    refine TO_st (σ' := [.box [(intA q0.variableCount), (sl tAtom q0.atoms), (sl tInt q0.free)], .box [(intA r_1.variableCount), (.m [2] 0 r_1.atoms.length tAtom.k), (.m [3] 0 r_1.free.length tInt.k)], .row (flat tAtom.own r_1.atoms), .row (flat tInt.own r_1.free), .box [(intA r_1.variableCount), (.m [2] 0 r_1.atoms.length tAtom.k), (.m [3] 0 r_1.free.length tInt.k)]]) rfl ?_
    refine pv tb 1 rfl ?_
    refine TO_nil ?_
    refine T_ret ?_
    refine then_ret ?_
    obtain rfl := some_inj H
    exact end_pick (.cellK rfl agg29 rfl (lb rfl) (.tmp .nil)) rfl [2, 3] (by decide) rfl rfl rfl rfl rfl rfl
   ·replace H := cond_f c_10 H
    refine T_skip ?_
    refine sr ?_
    refine pv tb 4 rfl ?_
    refine TO_cons rfl (TOp_storeB sz3 rfl rfl rfl rfl rfl rfl rfl (by decide) (lb rfl) rfl ?_)
    refine TO_st (σ' := [.box [(intA q0.variableCount), (sl tAtom q0.atoms), (sl tInt q0.free)], .box [(intA 0), .n, .n], .row (flat tAtom.own r_1.atoms), .row (flat tInt.own r_1.free), .box [(intA (w64 (q0.variableCount - 1))), (.m [2] 0 r_1.atoms.length tAtom.k), (.m [3] 0 r_1.free.length tInt.k)]]) rfl ?_
    refine TO_nil ?_
    refine T_seq ?_
    refine sr ?_
    refine pv tb 1 rfl ?_
    refine TO_nil ?_
    obtain ⟨O11_, L11_, N11_⟩ := bind_inv H
    clear H
    obtain ⟨B11_, hb11, L11_⟩ := gen_whileF L11_
    refine T_block ?_
    refine T_loopX (fun k => fun (⟨i9, box4_atoms⟩ : Int × (List Atom)) => whileF B11_ k (i9, box4_atoms) = some O11_) (fun (⟨i9, box4_atoms⟩ : Int × (List Atom)) => [(1, (intA v1)), (2, (intA val2)), (3, (.b 0 0)), (6, (.b 1 0)), (8, (.b 4 0)), (9, (intA i9))]) (fun (⟨i9, box4_atoms⟩ : Int × (List Atom)) => [.box [(intA q0.variableCount), (sl tAtom q0.atoms), (sl tInt q0.free)], .box [(intA 0), .n, .n], .row (flat tAtom.own box4_atoms), .row (flat tInt.own r_1.free), .box [(intA (w64 (q0.variableCount - 1))), (.m [2] 0 box4_atoms.length tAtom.k), (.m [3] 0 r_1.free.length tInt.k)]]) u (0, r_1.atoms) (w0 5) L11_ ?_
    rintro _ ⟨i9, box4_atoms⟩ L11_
    obtain ⟨k11, rfl, C11_, H, K11_⟩ := while_step L11_
    rw [hb11] at H
    refine T_seq ?_
    refine sr ?_
    refine pv tb 3 rfl ?_
    refine Tp rfl rfl (pur_len_m sl27 rfl rfl) rfl ?_
    refine pv tb 1 rfl ?_
    refine TO_nil ?_
    refine T_cond (t := decide (i9 < (box4_atoms.length : Int))) rfl (fun c_12 => ?_) (fun c_12 => ?_)
    ·replace H := cond_t c_12 H
     refine T_skip ?_
     refine T_seq ?_
     refine T_block ?_
     refine sr ?_
     refine pv tb 1 rfl ?_
     refine TO_nil ?_
     obtain ⟨O13_, L13_, N13_⟩ := bind_inv H
     clear H
     obtain ⟨B13_, hb13, L13_⟩ := gen_whileF L13_
     refine T_block ?_
     refine T_loopX (fun k => fun (⟨k10, box4_atoms⟩ : Int × (List Atom)) => whileF B13_ k (k10, box4_atoms) = some O13_) (fun (⟨k10, box4_atoms⟩ : Int × (List Atom)) => [(1, (intA v1)), (2, (intA val2)), (3, (.b 0 0)), (6, (.b 1 0)), (8, (.b 4 0)), (9, (intA i9)), (10, (intA k10))]) (fun (⟨k10, box4_atoms⟩ : Int × (List Atom)) => [.box [(intA q0.variableCount), (sl tAtom q0.atoms), (sl tInt q0.free)], .box [(intA 0), .n, .n], .row (flat tAtom.own box4_atoms), .row (flat tInt.own r_1.free), .box [(intA (w64 (q0.variableCount - 1))), (.m [2] 0 box4_atoms.length tAtom.k), (.m [3] 0 r_1.free.length tInt.k)]]) u (0, box4_atoms) (w0 5) L13_ ?_
     rintro _ ⟨k10, box4_atoms⟩ L13_
     obtain ⟨k13, rfl, C13_, H, K13_⟩ := while_step L13_
     rw [hb13] at H
     refine T_seq ?_
     refine sr ?_
     obtain ⟨v_14, h_15, H⟩ := bind_inv H
     obtain ⟨n_16, hz_17, hv_18⟩ := getI_inv h_15
     refine pv tb 4 rfl ?_
     refine Tp rfl rfl (pur_ixM (T := tAtom) sl27 rfl rfl hz_17 hv_18 rfl) rfl ?_
     refine pv tb 1 rfl ?_
     refine Tp rfl rfl (pur_ldE (f := tAtom.own) (k := tAtom.k) (i := n_16) (off := 1) tAtom.lenO rfl one23 rfl rfl rfl hv_18 rfl cellVal_sl) rfl ?_
     refine Tp rfl rfl (pur_len_m sl23 rfl rfl) rfl ?_
     refine pv tb 1 rfl ?_
     refine TO_nil ?_
     refine T_cond (t := decide (k10 < (v_14.terms.length : Int))) rfl (fun c_19 => ?_) (fun c_19 => ?_)
     ·replace H := cond_t c_19 H
      refine T_skip ?_
      refine T_seq ?_
      refine T_block ?_
      refine sr ?_
      refine pv tb 3 rfl ?_
      refine Tp rfl rfl (pur_ixM (T := tAtom) sl27 rfl rfl hz_17 hv_18 rfl) rfl ?_
      refine pv tb 1 rfl ?_
      refine Tp rfl rfl (pur_ldE (f := tAtom.own) (k := tAtom.k) (i := n_16) (off := 1) tAtom.lenO rfl one23 rfl rfl rfl hv_18 rfl cellVal_sl) rfl ?_
      obtain ⟨v_20, h_21, H⟩ := bind_inv H
      obtain ⟨n_22, hz_23, hv_24⟩ := getI_inv h_21
      refine pv tb 1 rfl ?_
      refine Tp rfl rfl (pur_ixM (T := tInt) sl23 rfl rfl hz_23 hv_24 rfl) rfl ?_
      refine Tp rfl rfl (pur_ldE (f := tInt.own) (k := tInt.k) (i := n_22) (off := 0) tInt.lenO rfl one3 rfl (rowAt_el (f := tAtom.own) (i := n_16) (off := 1) tAtom.lenO rfl hv_18 rfl) rfl hv_24 rfl rfl) rfl ?_
      refine pv tb 1 rfl ?_
      refine TO_nil ?_
      refine te [(1, (intA v1)), (2, (intA val2)), (3, (.b 0 0)), (6, (.b 1 0)), (8, (.b 4 0)), (9, (intA i9)), (10, (intA k10)), (11, (intA v_20))] rfl ?_
      refine T_seq ?_
      refine sr ?_
      refine pv tb 3 rfl ?_
      refine TO_nil ?_
      refine T_cond (t := decide (v_20 = v1)) rfl (fun c_25 => ?_) (fun c_25 => ?_)
      ·replace H := cond_t c_25 H
       refine T_region ?_
       refine pv tb 3 rfl ?_
       refine Tp rfl rfl (pur_ixM (T := tAtom) sl27 rfl rfl hz_17 hv_18 rfl) rfl ?_
       refine pv tb 1 rfl ?_
       refine Tp rfl rfl (pur_ldE (f := tAtom.own) (k := tAtom.k) (i := n_16) (off := 1) tAtom.lenO rfl one23 rfl rfl rfl hv_18 rfl cellVal_sl) rfl ?_
       refine pv tb 3 rfl ?_
       refine Tp rfl rfl (pur_ixM (T := tInt) sl23 rfl rfl hz_23 hv_24 rfl) rfl ?_
       refine TO_cons rfl (TOp_setR (T := tAtom) (T2 := tInt) (i := n_16) (off := 1) (v := v_14) (v' := ({ relation := v_14.relation, terms := (v_14.terms.set (k10).toNat (w64 (-1 - val2))) } : Atom)) hz_17 hz_23 sz3 rfl rfl rfl rfl rfl hv_18 rfl hv_24 rfl rfl rfl ?_)
       refine TO_env (E' := [(1, (intA v1)), (2, (intA val2)), (3, (.b 0 0)), (6, (.b 1 0)), (8, (.b 4 0)), (9, (intA i9)), (10, (intA k10)), (11, (intA v_20)), (66, (.m [2, n_16 * tAtom.k + 1] 0 (v_14.terms.set (k10).toNat (w64 (-1 - val2))).length tInt.k)), (67, (intA k10)), (68, (intA val2)), (69, (intA (w64 (-1 - val2))))]) ⟨rfl, rfl, rfl, rfl, rfl, rfl, rfl, rfl, (congrArg (fun q => A.m [2, n_16 * tAtom.k + 1] 0 q tInt.k) (List.length_set ..).symm), rfl, rfl, rfl, trivial⟩ ?_
       refine TO_st (σ' := [.box [(intA q0.variableCount), (sl tAtom q0.atoms), (sl tInt q0.free)], .box [(intA 0), .n, .n], .row (flat tAtom.own (box4_atoms.set (i9).toNat ({ relation := v_14.relation, terms := (v_14.terms.set (k10).toNat (w64 (-1 - val2))) } : Atom))), .row (flat tInt.own r_1.free), .box [(intA (w64 (q0.variableCount - 1))), (.m [2] 0 box4_atoms.length tAtom.k), (.m [3] 0 r_1.free.length tInt.k)]]) rfl ?_
       refine TO_st (σ' := [.box [(intA q0.variableCount), (sl tAtom q0.atoms), (sl tInt q0.free)], .box [(intA 0), .n, .n], .row (flat tAtom.own (box4_atoms.set (i9).toNat ({ relation := v_14.relation, terms := (v_14.terms.set (k10).toNat (w64 (-1 - val2))) } : Atom))), .row (flat tInt.own r_1.free), .box [(intA (w64 (q0.variableCount - 1))), (.m [2] 0 (box4_atoms.set (i9).toNat ({ relation := v_14.relation, terms := (v_14.terms.set (k10).toNat (w64 (-1 - val2))) } : Atom)).length tAtom.k), (.m [3] 0 r_1.free.length tInt.k)]]) (by simp only [List.length_set]) ?_
       refine TO_nil ?_
       refine sr ?_
       refine pv tb 3 rfl ?_
       refine TO_nil ?_
       refine T_cond (t := decide (v1 < v_20)) rfl (fun c_26 => ?_) (fun c_26 => ?_)
       ·replace H := cond_t c_26 H
        refine T_region ?_
        refine pv tb 3 rfl ?_
        refine Tp rfl rfl (pur_ixM (T := tAtom) sl27 rfl rfl hz_17 (set_el hz_17 hv_18) rfl) rfl ?_
        refine pv tb 1 rfl ?_
        refine Tp rfl rfl (pur_ldE (f := tAtom.own) (k := tAtom.k) (i := n_16) (off := 1) tAtom.lenO rfl one23 rfl rfl rfl (set_el hz_17 hv_18) rfl cellVal_sl) rfl ?_
        refine pv tb 2 rfl ?_
        refine toe [(1, (intA v1)), (2, (intA val2)), (3, (.b 0 0)), (6, (.b 1 0)), (8, (.b 4 0)), (9, (intA i9)), (10, (intA k10)), (79, (.m [2, n_16 * tAtom.k + 1] 0 (({ relation := v_14.relation, terms := (v_14.terms.set (k10).toNat (w64 (-1 - val2))) } : Atom).terms).length tInt.k)), (80, (intA k10)), (81, (intA v_20))] rfl ?_
        obtain ⟨v_27, h_28, H⟩ := bind_inv H
        obtain ⟨n_29, hz_30, hv_31⟩ := getI_inv h_28
        refine pv tb 1 rfl ?_
        refine Tp rfl rfl (pur_ixM (T := tInt) sl23 rfl rfl hz_30 hv_31 rfl) rfl ?_
        refine TO_cons rfl (TOp_setR (T := tAtom) (T2 := tInt) (i := n_16) (off := 1) (v := ({ relation := v_14.relation, terms := (v_14.terms.set (k10).toNat (w64 (-1 - val2))) } : Atom)) (v' := ({ relation := v_14.relation, terms := ((({ relation := v_14.relation, terms := (v_14.terms.set (k10).toNat (w64 (-1 - val2))) } : Atom).terms).set (k10).toNat (w64 (v_20 - 1))) } : Atom)) hz_17 hz_30 sz3 rfl rfl rfl rfl rfl (set_el hz_17 hv_18) rfl hv_31 rfl rfl rfl ?_)
        refine TO_env (E' := [(1, (intA v1)), (2, (intA val2)), (3, (.b 0 0)), (6, (.b 1 0)), (8, (.b 4 0)), (9, (intA i9)), (10, (intA k10)), (79, (.m [2, n_16 * tAtom.k + 1] 0 ((({ relation := v_14.relation, terms := (v_14.terms.set (k10).toNat (w64 (-1 - val2))) } : Atom).terms).set (k10).toNat (w64 (v_20 - 1))).length tInt.k)), (80, (intA k10)), (81, (intA v_20)), (82, (intA (w64 (v_20 - 1))))]) ⟨rfl, rfl, rfl, rfl, rfl, rfl, rfl, (congrArg (fun q => A.m [2, n_16 * tAtom.k + 1] 0 q tInt.k) (List.length_set ..).symm), rfl, rfl, rfl, trivial⟩ ?_
        refine TO_st (σ' := [.box [(intA q0.variableCount), (sl tAtom q0.atoms), (sl tInt q0.free)], .box [(intA 0), .n, .n], .row (flat tAtom.own ((box4_atoms.set (i9).toNat ({ relation := v_14.relation, terms := (v_14.terms.set (k10).toNat (w64 (-1 - val2))) } : Atom)).set (i9).toNat ({ relation := v_14.relation, terms := ((({ relation := v_14.relation, terms := (v_14.terms.set (k10).toNat (w64 (-1 - val2))) } : Atom).terms).set (k10).toNat (w64 (v_20 - 1))) } : Atom))), .row (flat tInt.own r_1.free), .box [(intA (w64 (q0.variableCount - 1))), (.m [2] 0 (box4_atoms.set (i9).toNat ({ relation := v_14.relation, terms := (v_14.terms.set (k10).toNat (w64 (-1 - val2))) } : Atom)).length tAtom.k), (.m [3] 0 r_1.free.length tInt.k)]]) rfl ?_
        refine TO_st (σ' := [.box [(intA q0.variableCount), (sl tAtom q0.atoms), (sl tInt q0.free)], .box [(intA 0), .n, .n], .row (flat tAtom.own (box4_atoms.set (i9).toNat ({ relation := v_14.relation, terms := ((({ relation := v_14.relation, terms := (v_14.terms.set (k10).toNat (w64 (-1 - val2))) } : Atom).terms).set (k10).toNat (w64 (v_20 - 1))) } : Atom))), .row (flat tInt.own r_1.free), .box [(intA (w64 (q0.variableCount - 1))), (.m [2] 0 (box4_atoms.set (i9).toNat ({ relation := v_14.relation, terms := ((({ relation := v_14.relation, terms := (v_14.terms.set (k10).toNat (w64 (-1 - val2))) } : Atom).terms).set (k10).toNat (w64 (v_20 - 1))) } : Atom)).length tAtom.k), (.m [3] 0 r_1.free.length tInt.k)]]) (by simp only [List.set_set, List.length_set]) ?_
        refine TO_nil ?_
        refine T_region ?_
        refine pv tb 3 rfl ?_
        refine TO_nil ?_
        obtain rfl := some_inj H
        exact again k13 ((w64 (k10 + 1)), (box4_atoms.set (i9).toNat ({ relation := v_14.relation, terms := ((({ relation := v_14.relation, terms := (v_14.terms.set (k10).toNat (w64 (-1 - val2))) } : Atom).terms).set (k10).toNat (w64 (v_20 - 1))) } : Atom))) (Nat.lt_succ_self _) (w0 5) K13_
       ·replace H := cond_f c_26 H
        refine T_skip ?_
        refine te [(1, (intA v1)), (2, (intA val2)), (3, (.b 0 0)), (6, (.b 1 0)), (8, (.b 4 0)), (9, (intA i9)), (10, (intA k10))] rfl ?_
        refine T_region ?_
        refine pv tb 3 rfl ?_
        refine TO_nil ?_
        obtain rfl := some_inj H
        exact again k13 ((w64 (k10 + 1)), (box4_atoms.set (i9).toNat ({ relation := v_14.relation, terms := (v_14.terms.set (k10).toNat (w64 (-1 - val2))) } : Atom))) (Nat.lt_succ_self _) (w0 5) K13_
      ·replace H := cond_f c_25 H
       refine T_skip ?_
       refine sr ?_
       refine pv tb 3 rfl ?_
       refine TO_nil ?_
       refine T_cond (t := decide (v1 < v_20)) rfl (fun c_32 => ?_) (fun c_32 => ?_)
       ·replace H := cond_t c_32 H
        refine T_region ?_
        refine pv tb 3 rfl ?_
        refine Tp rfl rfl (pur_ixM (T := tAtom) sl27 rfl rfl hz_17 hv_18 rfl) rfl ?_
        refine pv tb 1 rfl ?_
        refine Tp rfl rfl (pur_ldE (f := tAtom.own) (k := tAtom.k) (i := n_16) (off := 1) tAtom.lenO rfl one23 rfl rfl rfl hv_18 rfl cellVal_sl) rfl ?_
        refine pv tb 3 rfl ?_
        refine Tp rfl rfl (pur_ixM (T := tInt) sl23 rfl rfl hz_23 hv_24 rfl) rfl ?_
        refine TO_cons rfl (TOp_setR (T := tAtom) (T2 := tInt) (i := n_16) (off := 1) (v := v_14) (v' := ({ relation := v_14.relation, terms := (v_14.terms.set (k10).toNat (w64 (v_20 - 1))) } : Atom)) hz_17 hz_23 sz3 rfl rfl rfl rfl rfl hv_18 rfl hv_24 rfl rfl rfl ?_)
        refine TO_env (E' := [(1, (intA v1)), (2, (intA val2)), (3, (.b 0 0)), (6, (.b 1 0)), (8, (.b 4 0)), (9, (intA i9)), (10, (intA k10)), (79, (.m [2, n_16 * tAtom.k + 1] 0 (v_14.terms.set (k10).toNat (w64 (v_20 - 1))).length tInt.k)), (80, (intA k10)), (81, (intA v_20)), (82, (intA (w64 (v_20 - 1))))]) ⟨rfl, rfl, rfl, rfl, rfl, rfl, rfl, (congrArg (fun q => A.m [2, n_16 * tAtom.k + 1] 0 q tInt.k) (List.length_set ..).symm), rfl, rfl, rfl, trivial⟩ ?_
        refine TO_st (σ' := [.box [(intA q0.variableCount), (sl tAtom q0.atoms), (sl tInt q0.free)], .box [(intA 0), .n, .n], .row (flat tAtom.own (box4_atoms.set (i9).toNat ({ relation := v_14.relation, terms := (v_14.terms.set (k10).toNat (w64 (v_20 - 1))) } : Atom))), .row (flat tInt.own r_1.free), .box [(intA (w64 (q0.variableCount - 1))), (.m [2] 0 box4_atoms.length tAtom.k), (.m [3] 0 r_1.free.length tInt.k)]]) rfl ?_
        refine TO_st (σ' := [.box [(intA q0.variableCount), (sl tAtom q0.atoms), (sl tInt q0.free)], .box [(intA 0), .n, .n], .row (flat tAtom.own (box4_atoms.set (i9).toNat ({ relation := v_14.relation, terms := (v_14.terms.set (k10).toNat (w64 (v_20 - 1))) } : Atom))), .row (flat tInt.own r_1.free), .box [(intA (w64 (q0.variableCount - 1))), (.m [2] 0 (box4_atoms.set (i9).toNat ({ relation := v_14.relation, terms := (v_14.terms.set (k10).toNat (w64 (v_20 - 1))) } : Atom)).length tAtom.k), (.m [3] 0 r_1.free.length tInt.k)]]) (by simp only [List.length_set]) ?_
        refine TO_nil ?_
        refine te [(1, (intA v1)), (2, (intA val2)), (3, (.b 0 0)), (6, (.b 1 0)), (8, (.b 4 0)), (9, (intA i9)), (10, (intA k10))] rfl ?_
        refine T_region ?_
        refine pv tb 3 rfl ?_
        refine TO_nil ?_
        obtain rfl := some_inj H
        exact again k13 ((w64 (k10 + 1)), (box4_atoms.set (i9).toNat ({ relation := v_14.relation, terms := (v_14.terms.set (k10).toNat (w64 (v_20 - 1))) } : Atom))) (Nat.lt_succ_self _) (w0 5) K13_
       ·replace H := cond_f c_32 H
        refine T_skip ?_
        refine T_region ?_
        refine pv tb 3 rfl ?_
        refine TO_nil ?_
        obtain rfl := some_inj H
        exact again k13 ((w64 (k10 + 1)), box4_atoms) (Nat.lt_succ_self _) (w0 5) K13_
     ·replace H := cond_f c_19 H
      refine T_exit ?_
      refine then_exit ?_
      refine then_exit ?_
      refine block_exit ?_
      obtain rfl := some_inj H
      obtain rfl := some_inj K13_
      replace H := onS_l N13_
      refine T_region ?_
      refine pv tb 3 rfl ?_
      refine TO_nil ?_
      obtain rfl := some_inj H
      exact again k11 ((w64 (i9 + 1)), box4_atoms) (Nat.lt_succ_self _) (w0 5) K11_
    ·replace H := cond_f c_12 H
     refine T_exit ?_
     refine then_exit ?_
     refine then_exit ?_
     refine block_exit ?_
     obtain rfl := some_inj H
     obtain rfl := some_inj K11_
     replace H := onS_l N11_
     refine sr ?_
     refine TO_cons rfl (TOp_lit (nn := 0) (k := 1) sl23 zero3 rfl rfl rfl rfl (by decide) ?_)
     refine TO_st (σ' := [.box [(intA q0.variableCount), (sl tAtom q0.atoms), (sl tInt q0.free)], .box [(intA 0), .n, .n], .row (flat tAtom.own box4_atoms), .row (flat tInt.own r_1.free), .box [(intA (w64 (q0.variableCount - 1))), (.m [2] 0 box4_atoms.length tAtom.k), (.m [3] 0 r_1.free.length tInt.k)], .row (flat tInt.enc ([] : (List Int)))]) rfl ?_
     refine pv tb 1 rfl ?_
     refine TO_cons rfl (TOp_storeB sz23 rfl rfl rfl rfl rfl rfl rfl (by decide) (lb rfl) rfl ?_)
     refine TO_st (σ' := [.box [(intA q0.variableCount), (sl tAtom q0.atoms), (sl tInt q0.free)], .box [(intA 0), .n, .n], .row (flat tAtom.own box4_atoms), .row (flat tInt.own r_1.free), .box [(intA (w64 (q0.variableCount - 1))), (.m [2] 0 box4_atoms.length tAtom.k), (.m [5] 0 ([] : (List Int)).length tInt.k)], .row (flat tInt.enc ([] : (List Int)))]) rfl ?_
     refine TO_nil ?_
     refine T_seq ?_
     refine sr ?_
     refine pv tb 1 rfl ?_
     refine TO_nil ?_
     obtain ⟨O33_, L33_, N33_⟩ := bind_inv H
     clear H
     obtain ⟨B33_, hb33, L33_⟩ := gen_whileF L33_
     refine T_block ?_
     refine T_loopX (fun k => fun (⟨i12, box4_free⟩ : Int × (List Int)) => whileF B33_ k (i12, box4_free) = some O33_) (fun (⟨i12, box4_free⟩ : Int × (List Int)) => [(1, (intA v1)), (3, (.b 0 0)), (6, (.b 1 0)), (8, (.b 4 0)), (12, (intA i12))]) (fun (⟨i12, box4_free⟩ : Int × (List Int)) => [.box [(intA q0.variableCount), (sl tAtom q0.atoms), (sl tInt q0.free)], .box [(intA 0), .n, .n], .row (flat tAtom.own box4_atoms), .row (flat tInt.own r_1.free), .box [(intA (w64 (q0.variableCount - 1))), (.m [2] 0 box4_atoms.length tAtom.k), (.m [5] 0 box4_free.length tInt.k)], .row (flat tInt.enc box4_free)]) u (0, ([] : (List Int))) (w0 6) L33_ ?_
     rintro _ ⟨i12, box4_free⟩ L33_
     obtain ⟨k33, rfl, C33_, H, K33_⟩ := while_step L33_
     rw [hb33] at H
     refine T_seq ?_
     refine sr ?_
     refine pv tb 3 rfl ?_
     refine Tp rfl rfl (pur_lenT (T := tInt) sl23 rfl rfl) rfl ?_
     refine pv tb 1 rfl ?_
     refine TO_nil ?_
     refine T_cond (t := decide (i12 < (q0.free.length : Int))) rfl (fun c_34 => ?_) (fun c_34 => ?_)
     ·replace H := cond_t c_34 H
      refine T_skip ?_
      refine T_seq ?_
      refine T_block ?_
      refine T_seq ?_
      refine sr ?_
      obtain ⟨v_35, h_36, H⟩ := bind_inv H
      obtain ⟨n_37, hz_38, hv_39⟩ := getI_inv h_36
      refine pv tb 3 rfl ?_
      refine Tp rfl rfl (pur_ixT (T := tInt) sl23 rfl rfl hz_38 hv_39 rfl) rfl ?_
      refine Tp rfl rfl (pur_ldT (T := tInt) (i := n_37) (off := 0) rfl one3 rfl rfl hv_39 rfl) rfl ?_
      refine pv tb 2 rfl ?_
      refine TO_nil ?_
      refine T_cond (t := decide (v_35 < v1)) rfl (fun c_40 => ?_) (fun c_40 => ?_)
      ·replace H := cond_t c_40 H
       obtain ⟨us_41, h_42, H⟩ := bind_inv H
       refine T_pad ?_
       refine T_pad ?_
       refine T_regionPh 6 10 mixed rfl (by kernel_rfl) ?_
       refine pa tb [0, 1, 2, 3, 4] 5 rfl (by kernel_rfl) rfl ?_
       refine tf 5 rfl (pur_ixT (T := tInt) sl23 rfl rfl hz_38 hv_39 rfl) rfl rfl (by kernel_rfl) ?_
       refine tae [(1, (intA v1)), (3, (.b 0 0)), (6, (.b 1 0)), (8, (.b 4 0)), (12, (intA i12)), (101, (.m [5] 0 box4_free.length tInt.k)), (105, (.q (flat tInt.enc q0.free) (n_37 * tInt.k)))] rfl ?_
       refine tf 6 rfl (pur_ldT (T := tInt) (i := n_37) (off := 0) rfl one3 rfl rfl hv_39 rfl) rfl rfl (by kernel_rfl) ?_
       refine t1 7 (by kernel_rfl) rfl rfl (TOp_lit (nn := 1) (k := 1) sl23 zero3 rfl rfl rfl rfl (by decide) ?_)
       refine tmw 6 8 (by decide) (lb rfl) rfl rfl (lb rfl) rfl ?_
       refine t1 8 (by kernel_rfl) rfl rfl (TOp_appY (T := tInt) (f := tInt.enc) (xs := box4_free) (ys := ([v_35] : (List Int))) tInt.len sl23 zero3 rfl bytes3 (by decide) rfl rfl rfl rfl (src_mT (f := tInt.enc) tInt.len rfl rfl (flat_cell tInt _)) (flat_cell tInt _) h_42 ?_)
       refine tmw 7 9 (by decide) (lb rfl) rfl rfl (lb rfl) rfl ?_
       refine tae [(1, (intA v1)), (3, (.b 0 0)), (6, (.b 1 0)), (8, (.b 4 0)), (12, (intA i12)), (108, (.m [7] 0 us_41.length tInt.k))] rfl ?_
       refine TA_st (σ' := [.dead, .dead, .row (flat tAtom.own box4_atoms), .row (flat tInt.own r_1.free), .dead, .dead, .row (flat tInt.enc ([v_35] : (List Int))), .row (flat tInt.enc us_41), .dead, .dead]) rfl ?_
       refine pa tb [9] 0 rfl (by kernel_rfl) rfl ?_
       refine TA_nil (by kernel_rfl) ?_
       refine TA_st (σ' := [.box [(intA q0.variableCount), (sl tAtom q0.atoms), (sl tInt q0.free)], .box [(intA 0), .n, .n], .row (flat tAtom.own box4_atoms), .row (flat tInt.own r_1.free), .box [(intA (w64 (q0.variableCount - 1))), (.m [2] 0 box4_atoms.length tAtom.k), (.m [5] 0 box4_free.length tInt.k)], .dead, .row (flat tInt.enc ([v_35] : (List Int))), .row (flat tInt.enc us_41), .dead, .dead]) rfl ?_
       refine tmv 5 7 (by decide) (lb rfl) rfl rfl (lb rfl) ?_
       refine TA_st (σ' := [.box [(intA q0.variableCount), (sl tAtom q0.atoms), (sl tInt q0.free)], .box [(intA 0), .n, .n], .row (flat tAtom.own box4_atoms), .row (flat tInt.own r_1.free), .box [(intA (w64 (q0.variableCount - 1))), (.m [2] 0 box4_atoms.length tAtom.k), .j], .row (flat tInt.enc us_41), .row (flat tInt.enc ([v_35] : (List Int))), .dead, .dead, .dead]) rfl ?_
       refine t1 10 (by kernel_rfl) rfl rfl (TOp_storeB sz23 rfl rfl rfl rfl rfl rfl rfl (by decide) (lb rfl) rfl ?_)
       refine TA_st (σ' := [.box [(intA q0.variableCount), (sl tAtom q0.atoms), (sl tInt q0.free)], .box [(intA 0), .n, .n], .row (flat tAtom.own box4_atoms), .row (flat tInt.own r_1.free), .box [(intA (w64 (q0.variableCount - 1))), (.m [2] 0 box4_atoms.length tAtom.k), (.m [5] 0 us_41.length tInt.k)], .row (flat tInt.enc us_41), .row (flat tInt.enc ([v_35] : (List Int))), .dead, .dead, .dead]) rfl ?_
       refine TA_nil (by kernel_rfl) ?_
       refine sr ?_
       refine pv tb 3 rfl ?_
       refine Tp rfl rfl (pur_ixT (T := tInt) sl23 rfl rfl hz_38 hv_39 rfl) rfl ?_
       refine Tp rfl rfl (pur_ldT (T := tInt) (i := n_37) (off := 0) rfl one3 rfl rfl hv_39 rfl) rfl ?_
       refine pv tb 2 rfl ?_
       refine TO_nil ?_
       refine T_cond (t := decide (v1 < v_35)) rfl (fun c_43 => ?_) (fun c_43 => ?_)
       ·replace H := cond_t c_43 H
        obtain ⟨us_44, h_45, H⟩ := bind_inv H
        refine T_pad ?_
        refine T_pad ?_
        refine T_regionPh 10 11 mixed rfl (by kernel_rfl) ?_
        refine pa tb [0, 1, 2, 3, 4] 6 rfl (by kernel_rfl) rfl ?_
        refine tf 5 rfl (pur_ixT (T := tInt) sl23 rfl rfl hz_38 hv_39 rfl) rfl rfl (by kernel_rfl) ?_
        refine tf 6 rfl (pur_ldT (T := tInt) (i := n_37) (off := 0) rfl one3 rfl rfl hv_39 rfl) rfl rfl (by kernel_rfl) ?_
        refine pa tb [7] 3 rfl (by kernel_rfl) rfl ?_
        refine t1 8 (by kernel_rfl) rfl rfl (TOp_lit (nn := 1) (k := 1) sl23 zero3 rfl rfl rfl rfl (by decide) ?_)
        refine tmw 10 12 (by decide) (lb rfl) rfl rfl (lb rfl) rfl ?_
        refine tae [(1, (intA v1)), (3, (.b 0 0)), (6, (.b 1 0)), (8, (.b 4 0)), (12, (intA i12)), (118, (.m [5] 0 us_41.length tInt.k)), (125, (.m [10] 0 ([(w64 (v_35 - 1))] : (List Int)).length tInt.k))] rfl ?_
        refine TA_st (σ' := [.dead, .dead, .row (flat tAtom.own box4_atoms), .row (flat tInt.own r_1.free), .dead, .row (flat tInt.enc us_41), .row (flat tInt.enc ([v_35] : (List Int))), .dead, .dead, .dead, .row (flat tInt.enc ([(w64 (v_35 - 1))] : (List Int))), .dead, .dead]) rfl ?_
        refine t1 9 (by kernel_rfl) rfl rfl (TOp_appY (T := tInt) (f := tInt.enc) (xs := us_41) (ys := ([(w64 (v_35 - 1))] : (List Int))) tInt.len sl23 zero3 rfl bytes3 (by decide) rfl rfl rfl rfl (src_mT (f := tInt.enc) tInt.len rfl rfl (flat_cell tInt _)) (flat_cell tInt _) h_45 ?_)
        refine tmw 11 13 (by decide) (lb rfl) rfl rfl (lb rfl) rfl ?_
        refine pa tb [10] 0 rfl (by kernel_rfl) rfl ?_
        refine TA_nil (by kernel_rfl) ?_
        refine TA_st (σ' := [.box [(intA q0.variableCount), (sl tAtom q0.atoms), (sl tInt q0.free)], .box [(intA 0), .n, .n], .row (flat tAtom.own box4_atoms), .row (flat tInt.own r_1.free), .box [(intA (w64 (q0.variableCount - 1))), (.m [2] 0 box4_atoms.length tAtom.k), (.m [5] 0 us_41.length tInt.k)], .dead, .row (flat tInt.enc ([v_35] : (List Int))), .dead, .dead, .dead, .row (flat tInt.enc ([(w64 (v_35 - 1))] : (List Int))), .row (flat tInt.enc us_44), .dead, .dead]) rfl ?_
        refine tmv 5 11 (by decide) (lb rfl) rfl rfl (lb rfl) ?_
        refine TA_st (σ' := [.box [(intA q0.variableCount), (sl tAtom q0.atoms), (sl tInt q0.free)], .box [(intA 0), .n, .n], .row (flat tAtom.own box4_atoms), .row (flat tInt.own r_1.free), .box [(intA (w64 (q0.variableCount - 1))), (.m [2] 0 box4_atoms.length tAtom.k), .j], .row (flat tInt.enc us_44), .row (flat tInt.enc ([v_35] : (List Int))), .dead, .dead, .dead, .row (flat tInt.enc ([(w64 (v_35 - 1))] : (List Int))), .dead, .dead, .dead]) rfl ?_
        refine t1 11 (by kernel_rfl) rfl rfl (TOp_storeB sz23 rfl rfl rfl rfl rfl rfl rfl (by decide) (lb rfl) rfl ?_)
        refine TA_st (σ' := [.box [(intA q0.variableCount), (sl tAtom q0.atoms), (sl tInt q0.free)], .box [(intA 0), .n, .n], .row (flat tAtom.own box4_atoms), .row (flat tInt.own r_1.free), .box [(intA (w64 (q0.variableCount - 1))), (.m [2] 0 box4_atoms.length tAtom.k), (.m [5] 0 us_44.length tInt.k)], .row (flat tInt.enc us_44), .row (flat tInt.enc ([v_35] : (List Int))), .dead, .dead, .dead, .row (flat tInt.enc ([(w64 (v_35 - 1))] : (List Int))), .dead, .dead, .dead]) rfl ?_
        refine TA_nil (by kernel_rfl) ?_
        refine T_region ?_
        refine pv tb 3 rfl ?_
        refine TO_nil ?_
        obtain rfl := some_inj H
        exact again k33 ((w64 (i12 + 1)), us_44) (Nat.lt_succ_self _) (w0 6) K33_
       ·replace H := cond_f c_43 H
        refine T_skip ?_
        refine T_region ?_
        refine pv tb 3 rfl ?_
        refine TO_nil ?_
        obtain rfl := some_inj H
        exact again k33 ((w64 (i12 + 1)), us_41) (Nat.lt_succ_self _) (w0 6) K33_
      ·replace H := cond_f c_40 H
       refine T_skip ?_
       refine sr ?_
       refine pv tb 3 rfl ?_
       refine Tp rfl rfl (pur_ixT (T := tInt) sl23 rfl rfl hz_38 hv_39 rfl) rfl ?_
       refine Tp rfl rfl (pur_ldT (T := tInt) (i := n_37) (off := 0) rfl one3 rfl rfl hv_39 rfl) rfl ?_
       refine pv tb 2 rfl ?_
       refine TO_nil ?_
       refine te [(1, (intA v1)), (3, (.b 0 0)), (6, (.b 1 0)), (8, (.b 4 0)), (12, (intA i12)), (116, (boolA (decide (v1 < v_35))))] rfl ?_
       refine T_cond (t := decide (v1 < v_35)) rfl (fun c_43 => ?_) (fun c_43 => ?_)
       ·replace H := cond_t c_43 H
        obtain ⟨us_44, h_45, H⟩ := bind_inv H
        refine T_pad ?_
        refine T_pad ?_
        refine T_regionPh 6 11 mixed rfl (by kernel_rfl) ?_
        refine pa tb [0, 1, 2, 3, 4] 6 rfl (by kernel_rfl) rfl ?_
        refine tf 5 rfl (pur_ixT (T := tInt) sl23 rfl rfl hz_38 hv_39 rfl) rfl rfl (by kernel_rfl) ?_
        refine tf 6 rfl (pur_ldT (T := tInt) (i := n_37) (off := 0) rfl one3 rfl rfl hv_39 rfl) rfl rfl (by kernel_rfl) ?_
        refine pa tb [7] 3 rfl (by kernel_rfl) rfl ?_
        refine t1 8 (by kernel_rfl) rfl rfl (TOp_lit (nn := 1) (k := 1) sl23 zero3 rfl rfl rfl rfl (by decide) ?_)
        refine tmw 6 8 (by decide) (lb rfl) rfl rfl (lb rfl) rfl ?_
        refine t1 9 (by kernel_rfl) rfl rfl (TOp_appY (T := tInt) (f := tInt.enc) (xs := box4_free) (ys := ([(w64 (v_35 - 1))] : (List Int))) tInt.len sl23 zero3 rfl bytes3 (by decide) rfl rfl rfl rfl (src_mT (f := tInt.enc) tInt.len rfl rfl (flat_cell tInt _)) (flat_cell tInt _) h_45 ?_)
        refine tmw 7 9 (by decide) (lb rfl) rfl rfl (lb rfl) rfl ?_
        refine tae [(1, (intA v1)), (3, (.b 0 0)), (6, (.b 1 0)), (8, (.b 4 0)), (12, (intA i12)), (126, (.m [7] 0 us_44.length tInt.k))] rfl ?_
        refine TA_st (σ' := [.dead, .dead, .row (flat tAtom.own box4_atoms), .row (flat tInt.own r_1.free), .dead, .dead, .row (flat tInt.enc ([(w64 (v_35 - 1))] : (List Int))), .row (flat tInt.enc us_44), .dead, .dead]) rfl ?_
        refine pa tb [10] 0 rfl (by kernel_rfl) rfl ?_
        refine TA_nil (by kernel_rfl) ?_
        refine TA_st (σ' := [.box [(intA q0.variableCount), (sl tAtom q0.atoms), (sl tInt q0.free)], .box [(intA 0), .n, .n], .row (flat tAtom.own box4_atoms), .row (flat tInt.own r_1.free), .box [(intA (w64 (q0.variableCount - 1))), (.m [2] 0 box4_atoms.length tAtom.k), (.m [5] 0 box4_free.length tInt.k)], .dead, .row (flat tInt.enc ([(w64 (v_35 - 1))] : (List Int))), .row (flat tInt.enc us_44), .dead, .dead]) rfl ?_
        refine tmv 5 7 (by decide) (lb rfl) rfl rfl (lb rfl) ?_
        refine TA_st (σ' := [.box [(intA q0.variableCount), (sl tAtom q0.atoms), (sl tInt q0.free)], .box [(intA 0), .n, .n], .row (flat tAtom.own box4_atoms), .row (flat tInt.own r_1.free), .box [(intA (w64 (q0.variableCount - 1))), (.m [2] 0 box4_atoms.length tAtom.k), .j], .row (flat tInt.enc us_44), .row (flat tInt.enc ([(w64 (v_35 - 1))] : (List Int))), .dead, .dead, .dead]) rfl ?_
        refine t1 11 (by kernel_rfl) rfl rfl (TOp_storeB sz23 rfl rfl rfl rfl rfl rfl rfl (by decide) (lb rfl) rfl ?_)
        refine TA_st (σ' := [.box [(intA q0.variableCount), (sl tAtom q0.atoms), (sl tInt q0.free)], .box [(intA 0), .n, .n], .row (flat tAtom.own box4_atoms), .row (flat tInt.own r_1.free), .box [(intA (w64 (q0.variableCount - 1))), (.m [2] 0 box4_atoms.length tAtom.k), (.m [5] 0 us_44.length tInt.k)], .row (flat tInt.enc us_44), .row (flat tInt.enc ([(w64 (v_35 - 1))] : (List Int))), .dead, .dead, .dead]) rfl ?_
        refine TA_nil (by kernel_rfl) ?_
        refine T_region ?_
        refine pv tb 3 rfl ?_
        refine TO_nil ?_
        obtain rfl := some_inj H
        exact again k33 ((w64 (i12 + 1)), us_44) (Nat.lt_succ_self _) (w0 6) K33_
       ·replace H := cond_f c_43 H
        refine T_skip ?_
        refine T_region ?_
        refine pv tb 3 rfl ?_
        refine TO_nil ?_
        obtain rfl := some_inj H
        exact again k33 ((w64 (i12 + 1)), box4_free) (Nat.lt_succ_self _) (w0 6) K33_
     ·replace H := cond_f c_34 H
      refine T_exit ?_
      refine then_exit ?_
      refine then_exit ?_
      refine block_exit ?_
      obtain rfl := some_inj H
      obtain rfl := some_inj K33_
      replace H := onS_l N33_
      refine sr ?_
      refine pv tb 1 rfl ?_
      refine TO_cons rfl (TOp_storeB sz29 rfl rfl rfl rfl rfl rfl rfl (by decide) (lb rfl) rfl ?_)
      refine TO_st (σ' := [.box [(intA q0.variableCount), (sl tAtom q0.atoms), (sl tInt q0.free)], .box [(intA (w64 (q0.variableCount - 1))), (.m [2] 0 box4_atoms.length tAtom.k), (.m [5] 0 box4_free.length tInt.k)], .row (flat tAtom.own box4_atoms), .row (flat tInt.own r_1.free), .box [(intA (w64 (q0.variableCount - 1))), (.m [2] 0 box4_atoms.length tAtom.k), (.m [5] 0 box4_free.length tInt.k)], .row (flat tInt.enc box4_free)]) rfl ?_
      refine pv tb 1 rfl ?_
      refine TO_nil ?_
      refine T_ret ?_
      obtain rfl := some_inj H
      exact end_pick (.cellK rfl agg29 rfl (lb rfl) (.tmp .nil)) rfl [2, 5] (by decide) rfl rfl rfl rfl rfl rfl
theorem m_spec_BindVariable_ok (u : Nat) (q0 : Query) (v1 : Int) (val2 : Int) (r : (Query × Bool)) (H : m_spec_BindVariable u q0 v1 val2 = some r) : FnV prg 85 [(.g (tQuery.enc q0)), (intA v1), (intA val2)] (.t [(.g (tQuery.enc r.1)), (boolA r.2)]) := (m_spec_BindVariable_own u q0 v1 val2 r H).frz (frzOK_t (frz_cons (frzOK_g (frz_cons (frz_loose rfl) (frz_cons (frzT (T := tAtom) rfl) (frz_cons (frzT (T := tInt) rfl) frz_nil))).1 (frz_cons (frz_loose rfl) (frz_cons (frzT (T := tAtom) rfl) (frz_cons (frzT (T := tInt) rfl) frz_nil))).2) (frz_cons (frz_loose rfl) frz_nil)).1 (frz_cons (frzOK_g (frz_cons (frz_loose rfl) (frz_cons (frzT (T := tAtom) rfl) (frz_cons (frzT (T := tInt) rfl) frz_nil))).1 (frz_cons (frz_loose rfl) (frz_cons (frzT (T := tAtom) rfl) (frz_cons (frzT (T := tInt) rfl) frz_nil))).2) (frz_cons (frz_loose rfl) frz_nil)).2)

set_option maxHeartbeats 1000000 in
theorem m_spec_BindAnswer_own (u : Nat) (q0 : Query) (row1 : (List Int)) (r : (Query × Bool)) (H : m_spec_BindAnswer u q0 row1 = some r) : FnO prg 16 [(.g (tQuery.enc q0)), (sl tInt row1)] (.t [(.g [(intA r.1.variableCount), (.m [0] 0 r.1.atoms.length tAtom.k), (.m [1] 0 r.1.free.length tInt.k)]), (boolA r.2)]) [.row (flat tAtom.own r.1.atoms), .row (flat tInt.own r.1.free)] := by
  unfold m_spec_BindAnswer at H
  refine fnO_of_T Try.func16 rfl rfl (Nat.le_of_ble_eq_true rfl) ?_
  refine te [(0, (.g (tQuery.enc q0))), (1, (sl tInt row1))] rfl ?_
  refine sr ?_
  refine TO_cons rfl (TOp_box rfl (boxAll rfl) rfl rfl ?_)
  refine TO_cons rfl (TOp_alloc zero29 rfl rfl ?_)
  refine pv tb 1 rfl ?_
  refine TO_nil ?_
  refine T_seq ?_
  refine sr ?_
  refine pv tb 1 rfl ?_
  refine Tp rfl rfl (pur_lenT (T := tInt) sl23 rfl rfl) rfl ?_
  refine pv tb 2 rfl ?_
  refine Tp rfl rfl (pur_lenT (T := tInt) sl23 rfl rfl) rfl ?_
  refine pv tb 1 rfl ?_
  refine TO_nil ?_
  refine T_cond (t := decide ((row1.length : Int) ≠ (q0.free.length : Int))) rfl (fun c_1 => ?_) (fun c_1 => ?_)
  ·replace H := cond_t c_1 H
   refine sr ?_
   obtain ⟨r_2, h_3, H⟩ := bind_inv H
   refine pv tb 1 rfl ?_
   refine TO_cons rfl (TOp_callO (call_static ent84 rfl) rfl (m_spec_l11Copy_own u _ _ h_3) rfl rfl rfl ?_)
   refine toe [(1, (sl tInt row1)), (2, (.b 0 0)), (4, (.b 1 0)), (15, (boolA (decide ((row1.length : Int) ≠ (q0.free.length : Int))))), (16, (.g (tQuery.enc q0))), (17, (.g [(intA r_2.variableCount), (.m [2] 0 r_2.atoms.length tAtom.k), (.m [3] 0 r_2.free.length tInt.k)]))] rfl ?_
   refine TO_st (σ' := [.box [(intA q0.variableCount), (sl tAtom q0.atoms), (sl tInt q0.free)], .box [(intA 0), .n, .n], .row (flat tAtom.own r_2.atoms), .row (flat tInt.own r_2.free)]) rfl ?_
   refine TO_cons rfl (TOp_storeB sz29 rfl rfl rfl rfl rfl rfl rfl (by decide) (lb rfl) rfl ?_)
   refine TO_st (σ' := [.box [(intA q0.variableCount), (sl tAtom q0.atoms), (sl tInt q0.free)], .box [(intA r_2.variableCount), (.m [2] 0 r_2.atoms.length tAtom.k), (.m [3] 0 r_2.free.length tInt.k)], .row (flat tAtom.own r_2.atoms), .row (flat tInt.own r_2.free)]) rfl ?_
   refine pv tb 1 rfl ?_
   refine TO_nil ?_
   refine T_ret ?_
   refine then_ret ?_
   obtain rfl := some_inj H
   exact end_pick (.cellK rfl agg29 rfl (lb rfl) (.tmp .nil)) rfl [2, 3] (by decide) rfl rfl rfl rfl rfl rfl
  ·replace H := cond_f c_1 H
   refine T_skip ?_
   refine sr ?_
   obtain ⟨r_4, h_5, H⟩ := bind_inv H
   refine pv tb 1 rfl ?_
   refine TO_cons rfl (TOp_callO (call_static ent84 rfl) rfl (m_spec_l11Copy_own u _ _ h_5) rfl rfl rfl ?_)
   refine toe [(1, (sl tInt row1)), (2, (.b 0 0)), (4, (.b 1 0)), (18, (.g (tQuery.enc q0))), (19, (.g [(intA r_4.variableCount), (.m [2] 0 r_4.atoms.length tAtom.k), (.m [3] 0 r_4.free.length tInt.k)]))] rfl ?_
   refine TO_st (σ' := [.box [(intA q0.variableCount), (sl tAtom q0.atoms), (sl tInt q0.free)], .box [(intA 0), .n, .n], .row (flat tAtom.own r_4.atoms), .row (flat tInt.own r_4.free)]) rfl ?_
   refine TO_cons rfl (TOp_alloc zero29 rfl rfl ?_)
   refine TO_cons rfl (TOp_storeB sz29 rfl rfl rfl rfl rfl rfl rfl (by decide) (lb rfl) rfl ?_)
   refine TO_st (σ' := [.box [(intA q0.variableCount), (sl tAtom q0.atoms), (sl tInt q0.free)], .box [(intA 0), .n, .n], .row (flat tAtom.own r_4.atoms), .row (flat tInt.own r_4.free), .box [(intA r_4.variableCount), (.m [2] 0 r_4.atoms.length tAtom.k), (.m [3] 0 r_4.free.length tInt.k)]]) rfl ?_
   refine TO_nil ?_
   refine T_seq ?_
   refine sr ?_
   refine pv tb 1 rfl ?_
   refine Tp rfl rfl (pur_lenT (T := tInt) sl23 rfl rfl) rfl ?_
   refine TO_fact (len_sl (T := tInt) (.tmp 1) rfl) (fun hl_6 => ?_)
   refine Tp rfl rfl (pur_sub rfl rfl rfl (fits64 (by omega) (by omega))) rfl ?_
   refine pv tb 1 rfl ?_
   refine TO_nil ?_
   obtain ⟨O7_, L7_, N7_⟩ := bind_inv H
   clear H
   obtain ⟨B7_, hb7, L7_⟩ := gen_whileF L7_
   refine T_block ?_
   refine T_loopX (fun k => fun (⟨i7, box4_variableCount, box4_atoms, box4_free⟩ : Int × Int × (List Atom) × (List Int)) => whileF B7_ k (i7, box4_variableCount, box4_atoms, box4_free) = some O7_) (fun (⟨i7, box4_variableCount, box4_atoms, box4_free⟩ : Int × Int × (List Atom) × (List Int)) => [(1, (sl tInt row1)), (2, (.b 0 0)), (4, (.b 1 0)), (6, (.b 4 0)), (7, (intA i7))]) (fun (⟨i7, box4_variableCount, box4_atoms, box4_free⟩ : Int × Int × (List Atom) × (List Int)) => [.box [(intA q0.variableCount), (sl tAtom q0.atoms), (sl tInt q0.free)], .box [(intA 0), .n, .n], .row (flat tAtom.own box4_atoms), .row (flat tInt.own box4_free), .box [(intA box4_variableCount), (.m [2] 0 box4_atoms.length tAtom.k), (.m [3] 0 box4_free.length tInt.k)]]) u (((row1.length : Int) - 1), r_4.variableCount, r_4.atoms, r_4.free) (w0 5) L7_ ?_
   rintro _ ⟨i7, box4_variableCount, box4_atoms, box4_free⟩ L7_
   obtain ⟨k7, rfl, C7_, H, K7_⟩ := while_step L7_
   rw [hb7] at H
   refine T_seq ?_
   refine sr ?_
   refine pv tb 2 rfl ?_
   refine TO_nil ?_
   refine T_cond (t := decide (0 ≤ i7)) rfl (fun c_8 => ?_) (fun c_8 => ?_)
   ·replace H := cond_t c_8 H
    refine T_skip ?_
    refine T_seq ?_
    refine T_block ?_
    obtain ⟨v_9, h_10, H⟩ := bind_inv H
    obtain ⟨n_11, hz_12, hv_13⟩ := getI_inv h_10
    obtain ⟨v_14, h_15, H⟩ := bind_inv H
    obtain ⟨n_16, hz_17, hv_18⟩ := getI_inv h_15
    obtain ⟨r_19, h_20, H⟩ := bind_inv H
    refine T_pad ?_
    refine T_pad ?_
    refine T_pad ?_
    refine T_pad ?_
    refine T_pad ?_
    refine T_cutX (fun (_ : Unit) => True) (fun _ => [(1, (sl tInt row1)), (2, (.b 0 0)), (4, (.b 1 0)), (6, (.b 4 0)), (7, (intA i7)), (8, (.b 10 0)), (9, (boolA r_19.2))]) (fun _ => [.box [(intA q0.variableCount), (sl tAtom q0.atoms), (sl tInt q0.free)], .box [(intA 0), .n, .n], .row (flat tAtom.own box4_atoms), .row (flat tInt.own box4_free), .box [(intA box4_variableCount), (.m [2] 0 box4_atoms.length tAtom.k), (.m [3] 0 box4_free.length tInt.k)], .row (flat tAtom.own r_19.1.atoms), .row (flat tInt.own r_19.1.free), .dead, .dead, .dead, .box [(intA r_19.1.variableCount), (.m [5] 0 r_19.1.atoms.length tAtom.k), (.m [6] 0 r_19.1.free.length tInt.k)]]) ?_ ?_
    ·skip
     refine T_regionP 5 mixed rfl ?_
     refine TA_have 2 #[true, true, true, true, true, true, true, true, true, true, true, true, true, true, true, false, false] [(1, (sl tInt row1)), (2, (.b 0 0)), (4, (.b 1 0)), (6, (.b 4 0)), (7, (intA i7)), (8, (.b 10 0)), (39, (.g [(intA r_19.1.variableCount), (.m [7] 0 r_19.1.atoms.length tAtom.k), (.m [8] 0 r_19.1.free.length tInt.k)])), (40, (boolA r_19.2))] [.dead, .dead, .row (flat tAtom.own box4_atoms), .row (flat tInt.own box4_free), .dead, .dead, .dead, .row (flat tAtom.own r_19.1.atoms), .row (flat tInt.own r_19.1.free), .dead, .box [(intA 0), .n, .n]] ?_ (fun hj0_7 => ?_)
     ·skip
      refine t1 15 (by kernel_rfl) rfl rfl (TOp_storeB sz29 rfl rfl rfl rfl rfl rfl rfl (by decide) (lb rfl) rfl ?_)
      refine TA_st (σ' := [.dead, .dead, .row (flat tAtom.own box4_atoms), .row (flat tInt.own box4_free), .dead, .dead, .dead, .row (flat tAtom.own r_19.1.atoms), .row (flat tInt.own r_19.1.free), .dead, .box [(intA r_19.1.variableCount), (.m [7] 0 r_19.1.atoms.length tAtom.k), (.m [8] 0 r_19.1.free.length tInt.k)]]) rfl ?_
      refine pa tb [16] 0 rfl (by kernel_rfl) rfl ?_
      refine TA_ghost (E' := [(1, (sl tInt row1)), (2, (.b 0 0)), (4, (.b 1 0)), (6, (.b 4 0)), (7, (intA i7)), (8, (.b 10 0)), (9, (boolA r_19.2))]) (σ' := [.dead, .dead, .row (flat tAtom.own box4_atoms), .row (flat tInt.own box4_free), .dead, .row (flat tAtom.own r_19.1.atoms), .dead, .dead, .row (flat tInt.own r_19.1.free), .dead, .box [(intA r_19.1.variableCount), (.m [5] 0 r_19.1.atoms.length tAtom.k), (.m [8] 0 r_19.1.free.length tInt.k)]]) (Ghost.move 5 7 (by decide) (lb rfl) rfl rfl (lb rfl) (Ghost.weak (WeakL.to 11 (lb rfl) rfl rfl rfl rfl ⟨leR rfl, leR rfl, leR rfl, leR rfl, leR rfl, leR rfl, leR rfl, trivial⟩))) ?_
      refine TA_ghost (E' := [(1, (sl tInt row1)), (2, (.b 0 0)), (4, (.b 1 0)), (6, (.b 4 0)), (7, (intA i7)), (8, (.b 10 0)), (9, (boolA r_19.2))]) (σ' := [.dead, .dead, .row (flat tAtom.own box4_atoms), .row (flat tInt.own box4_free), .dead, .row (flat tAtom.own r_19.1.atoms), .row (flat tInt.own r_19.1.free), .dead, .dead, .dead, .box [(intA r_19.1.variableCount), (.m [5] 0 r_19.1.atoms.length tAtom.k), (.m [6] 0 r_19.1.free.length tInt.k)]]) (Ghost.move 6 8 (by decide) (lb rfl) rfl rfl (lb rfl) (Ghost.weak (WeakL.to 11 (lb rfl) rfl rfl rfl rfl ⟨leR rfl, leR rfl, leR rfl, leR rfl, leR rfl, leR rfl, leR rfl, trivial⟩))) ?_
      exact TA_nil (by kernel_rfl) (joined () (w0 11) trivial)
     refine pa tb [0, 1, 2, 3] 13 rfl (by kernel_rfl) rfl ?_
     refine tf 4 rfl (pur_ixT (T := tInt) sl23 rfl rfl hz_12 hv_13 rfl) rfl rfl (by kernel_rfl) ?_
     refine tf 5 rfl (pur_ldT (T := tInt) (i := n_11) (off := 0) rfl one3 rfl rfl hv_13 rfl) rfl rfl (by kernel_rfl) ?_
     refine pa tb [6, 7] 9 rfl (by kernel_rfl) rfl ?_
     refine tf 8 rfl (pur_ixT (T := tInt) sl23 rfl rfl hz_17 hv_18 rfl) rfl rfl (by kernel_rfl) ?_
     refine tf 9 rfl (pur_ldT (T := tInt) (i := n_16) (off := 0) rfl one3 rfl rfl hv_18 rfl) rfl rfl (by kernel_rfl) ?_
     refine TA_all [10, 14] (by kernel_rfl) (by decide) ⟨?_, ?_, trivial⟩
     ·skip
      refine ⟨_, rfl, rfl, (TOp_callOG (call_static ent85 rfl) (frz_cons (frzOK_g (frz_cons (frz_loose rfl) (frz_cons (frzT (T := tAtom) rfl) (frz_cons (frzT (T := tInt) rfl) frz_nil))).1 (frz_cons (frz_loose rfl) (frz_cons (frzT (T := tAtom) rfl) (frz_cons (frzT (T := tInt) rfl) frz_nil))).2) (frz_cons (frz_loose rfl) (frz_cons (frz_loose rfl) frz_nil))).1 (frz_cons (frzOK_g (frz_cons (frz_loose rfl) (frz_cons (frzT (T := tAtom) rfl) (frz_cons (frzT (T := tInt) rfl) frz_nil))).1 (frz_cons (frz_loose rfl) (frz_cons (frzT (T := tAtom) rfl) (frz_cons (frzT (T := tInt) rfl) frz_nil))).2) (frz_cons (frz_loose rfl) (frz_cons (frz_loose rfl) frz_nil))).2 (m_spec_BindVariable_own u _ _ _ _ h_20) rfl (ownC_of (ownSB_cons (flat_ownR tAtom _) (ownSB_cons (flat_ownR tInt _) ownSB_nil))) rfl rfl rfl ?_)⟩
      refine tae [(1, (sl tInt row1)), (2, (.b 0 0)), (4, (.b 1 0)), (6, (.b 4 0)), (7, (intA i7)), (28, (.g [(intA box4_variableCount), (.m [2] 0 box4_atoms.length tAtom.k), (.m [3] 0 box4_free.length tInt.k)])), (33, (intA v_9)), (34, (sl tInt row1)), (35, (intA i7)), (36, (.q (flat tInt.enc row1) (n_16 * tInt.k))), (37, (intA v_14)), (38, (.t [(.g [(intA r_19.1.variableCount), (.m [10] 0 r_19.1.atoms.length tAtom.k), (.m [11] 0 r_19.1.free.length tInt.k)]), (boolA r_19.2)]))] rfl ?_
      refine TA_st (σ' := [.dead, .dead, .row (flat tAtom.own box4_atoms), .row (flat tInt.own box4_free), .dead, .dead, .dead, .dead, .dead, .dead, .row (flat tAtom.own r_19.1.atoms), .row (flat tInt.own r_19.1.free)]) rfl ?_
      refine TA_ghost (E' := [(1, (sl tInt row1)), (2, (.b 0 0)), (4, (.b 1 0)), (6, (.b 4 0)), (7, (intA i7)), (28, (.g [(intA box4_variableCount), (.m [2] 0 box4_atoms.length tAtom.k), (.m [3] 0 box4_free.length tInt.k)])), (33, (intA v_9)), (34, (sl tInt row1)), (35, (intA i7)), (36, (.q (flat tInt.enc row1) (n_16 * tInt.k))), (37, (intA v_14)), (38, (.t [(.g [(intA r_19.1.variableCount), (.m [7] 0 r_19.1.atoms.length tAtom.k), (.m [11] 0 r_19.1.free.length tInt.k)]), (boolA r_19.2)]))]) (σ' := [.dead, .dead, .row (flat tAtom.own box4_atoms), .row (flat tInt.own box4_free), .dead, .dead, .dead, .row (flat tAtom.own r_19.1.atoms), .dead, .dead, .dead, .row (flat tInt.own r_19.1.free)]) (Ghost.move 7 10 (by decide) (lb rfl) rfl rfl (lb rfl) (Ghost.weak (WeakL.to 12 (lb rfl) rfl rfl rfl rfl ⟨leR rfl, leR rfl, leR rfl, leR rfl, leR rfl, leR rfl, leR rfl, leR rfl, leR rfl, leR rfl, leR rfl, leR rfl, trivial⟩))) ?_
      refine TA_ghost (E' := [(1, (sl tInt row1)), (2, (.b 0 0)), (4, (.b 1 0)), (6, (.b 4 0)), (7, (intA i7)), (28, (.g [(intA box4_variableCount), (.m [2] 0 box4_atoms.length tAtom.k), (.m [3] 0 box4_free.length tInt.k)])), (33, (intA v_9)), (34, (sl tInt row1)), (35, (intA i7)), (36, (.q (flat tInt.enc row1) (n_16 * tInt.k))), (37, (intA v_14)), (38, (.t [(.g [(intA r_19.1.variableCount), (.m [7] 0 r_19.1.atoms.length tAtom.k), (.m [8] 0 r_19.1.free.length tInt.k)]), (boolA r_19.2)]))]) (σ' := [.dead, .dead, .row (flat tAtom.own box4_atoms), .row (flat tInt.own box4_free), .dead, .dead, .dead, .row (flat tAtom.own r_19.1.atoms), .row (flat tInt.own r_19.1.free), .dead]) (Ghost.move 8 11 (by decide) (lb rfl) rfl rfl (lb rfl) (Ghost.weak (WeakL.to 10 (lb rfl) rfl rfl rfl rfl ⟨leR rfl, leR rfl, leR rfl, leR rfl, leR rfl, leR rfl, leR rfl, leR rfl, leR rfl, leR rfl, leR rfl, leR rfl, trivial⟩))) ?_
      refine pa tb [11, 12, 13] 3 rfl (by kernel_rfl) rfl ?_
      refine t1 14 (by kernel_rfl) rfl rfl (TOp_alloc zero29 rfl rfl ?_)
      refine tae [(1, (sl tInt row1)), (2, (.b 0 0)), (4, (.b 1 0)), (6, (.b 4 0)), (7, (intA i7)), (8, (.b 10 0)), (39, (.g [(intA r_19.1.variableCount), (.m [7] 0 r_19.1.atoms.length tAtom.k), (.m [8] 0 r_19.1.free.length tInt.k)])), (40, (boolA r_19.2))] rfl ?_
      refine TA_st (σ' := [.dead, .dead, .row (flat tAtom.own box4_atoms), .row (flat tInt.own box4_free), .dead, .dead, .dead, .row (flat tAtom.own r_19.1.atoms), .row (flat tInt.own r_19.1.free), .dead, .box [(intA 0), .n, .n]]) rfl ?_
      exact tj hj0_7 rfl (w0 11)
     ·skip
      refine ⟨_, rfl, rfl, (TOp_alloc zero29 rfl rfl ?_)⟩
      refine t1 10 (by kernel_rfl) rfl rfl (TOp_callOG (call_static ent85 rfl) (frz_cons (frzOK_g (frz_cons (frz_loose rfl) (frz_cons (frzT (T := tAtom) rfl) (frz_cons (frzT (T := tInt) rfl) frz_nil))).1 (frz_cons (frz_loose rfl) (frz_cons (frzT (T := tAtom) rfl) (frz_cons (frzT (T := tInt) rfl) frz_nil))).2) (frz_cons (frz_loose rfl) (frz_cons (frz_loose rfl) frz_nil))).1 (frz_cons (frzOK_g (frz_cons (frz_loose rfl) (frz_cons (frzT (T := tAtom) rfl) (frz_cons (frzT (T := tInt) rfl) frz_nil))).1 (frz_cons (frz_loose rfl) (frz_cons (frzT (T := tAtom) rfl) (frz_cons (frzT (T := tInt) rfl) frz_nil))).2) (frz_cons (frz_loose rfl) (frz_cons (frz_loose rfl) frz_nil))).2 (m_spec_BindVariable_own u _ _ _ _ h_20) rfl (ownC_of (ownSB_cons (flat_ownR tAtom _) (ownSB_cons (flat_ownR tInt _) ownSB_nil))) rfl rfl rfl ?_)
      refine tae [(1, (sl tInt row1)), (2, (.b 0 0)), (4, (.b 1 0)), (6, (.b 4 0)), (7, (intA i7)), (8, (.b 10 0)), (28, (.g [(intA box4_variableCount), (.m [2] 0 box4_atoms.length tAtom.k), (.m [3] 0 box4_free.length tInt.k)])), (33, (intA v_9)), (34, (sl tInt row1)), (35, (intA i7)), (36, (.q (flat tInt.enc row1) (n_16 * tInt.k))), (37, (intA v_14)), (38, (.t [(.g [(intA r_19.1.variableCount), (.m [11] 0 r_19.1.atoms.length tAtom.k), (.m [12] 0 r_19.1.free.length tInt.k)]), (boolA r_19.2)]))] rfl ?_
      refine TA_st (σ' := [.dead, .dead, .row (flat tAtom.own box4_atoms), .row (flat tInt.own box4_free), .dead, .dead, .dead, .dead, .dead, .dead, .box [(intA 0), .n, .n], .row (flat tAtom.own r_19.1.atoms), .row (flat tInt.own r_19.1.free)]) rfl ?_
      refine TA_ghost (E' := [(1, (sl tInt row1)), (2, (.b 0 0)), (4, (.b 1 0)), (6, (.b 4 0)), (7, (intA i7)), (8, (.b 10 0)), (28, (.g [(intA box4_variableCount), (.m [2] 0 box4_atoms.length tAtom.k), (.m [3] 0 box4_free.length tInt.k)])), (33, (intA v_9)), (34, (sl tInt row1)), (35, (intA i7)), (36, (.q (flat tInt.enc row1) (n_16 * tInt.k))), (37, (intA v_14)), (38, (.t [(.g [(intA r_19.1.variableCount), (.m [7] 0 r_19.1.atoms.length tAtom.k), (.m [12] 0 r_19.1.free.length tInt.k)]), (boolA r_19.2)]))]) (σ' := [.dead, .dead, .row (flat tAtom.own box4_atoms), .row (flat tInt.own box4_free), .dead, .dead, .dead, .row (flat tAtom.own r_19.1.atoms), .dead, .dead, .box [(intA 0), .n, .n], .dead, .row (flat tInt.own r_19.1.free)]) (Ghost.move 7 11 (by decide) (lb rfl) rfl rfl (lb rfl) (Ghost.weak (WeakL.to 13 (lb rfl) rfl rfl rfl rfl ⟨leR rfl, leR rfl, leR rfl, leR rfl, leR rfl, leR rfl, leR rfl, leR rfl, leR rfl, leR rfl, leR rfl, leR rfl, leR rfl, trivial⟩))) ?_
      refine TA_ghost (E' := [(1, (sl tInt row1)), (2, (.b 0 0)), (4, (.b 1 0)), (6, (.b 4 0)), (7, (intA i7)), (8, (.b 10 0)), (28, (.g [(intA box4_variableCount), (.m [2] 0 box4_atoms.length tAtom.k), (.m [3] 0 box4_free.length tInt.k)])), (33, (intA v_9)), (34, (sl tInt row1)), (35, (intA i7)), (36, (.q (flat tInt.enc row1) (n_16 * tInt.k))), (37, (intA v_14)), (38, (.t [(.g [(intA r_19.1.variableCount), (.m [7] 0 r_19.1.atoms.length tAtom.k), (.m [8] 0 r_19.1.free.length tInt.k)]), (boolA r_19.2)]))]) (σ' := [.dead, .dead, .row (flat tAtom.own box4_atoms), .row (flat tInt.own box4_free), .dead, .dead, .dead, .row (flat tAtom.own r_19.1.atoms), .row (flat tInt.own r_19.1.free), .dead, .box [(intA 0), .n, .n]]) (Ghost.move 8 12 (by decide) (lb rfl) rfl rfl (lb rfl) (Ghost.weak (WeakL.to 11 (lb rfl) rfl rfl rfl rfl ⟨leR rfl, leR rfl, leR rfl, leR rfl, leR rfl, leR rfl, leR rfl, leR rfl, leR rfl, leR rfl, leR rfl, leR rfl, leR rfl, trivial⟩))) ?_
      refine pa tb [11, 12, 13] 2 rfl (by kernel_rfl) rfl ?_
      exact tj hj0_7 rfl (w0 11)
    ·rintro _ _
     refine T_seq ?_
     refine sr ?_
     refine pv tb 2 rfl ?_
     refine TO_nil ?_
     refine T_cond (t := (!r_19.2)) rfl (fun c_21 => ?_) (fun c_21 => ?_)
     ·replace H := cond_t c_21 H
      refine sr ?_
      obtain ⟨r_22, h_23, H⟩ := bind_inv H
      refine pv tb 1 rfl ?_
      refine TO_cons rfl (TOp_callO (call_static ent84 rfl) rfl (m_spec_l11Copy_own u _ _ h_23) rfl rfl rfl ?_)
      refine toe [(1, (sl tInt row1)), (2, (.b 0 0)), (4, (.b 1 0)), (6, (.b 4 0)), (7, (intA i7)), (8, (.b 10 0)), (42, (boolA (!r_19.2))), (43, (.g (tQuery.enc q0))), (44, (.g [(intA r_22.variableCount), (.m [11] 0 r_22.atoms.length tAtom.k), (.m [12] 0 r_22.free.length tInt.k)]))] rfl ?_
      refine TO_st (σ' := [.box [(intA q0.variableCount), (sl tAtom q0.atoms), (sl tInt q0.free)], .box [(intA 0), .n, .n], .row (flat tAtom.own box4_atoms), .row (flat tInt.own box4_free), .box [(intA box4_variableCount), (.m [2] 0 box4_atoms.length tAtom.k), (.m [3] 0 box4_free.length tInt.k)], .row (flat tAtom.own r_19.1.atoms), .row (flat tInt.own r_19.1.free), .dead, .dead, .dead, .box [(intA r_19.1.variableCount), (.m [5] 0 r_19.1.atoms.length tAtom.k), (.m [6] 0 r_19.1.free.length tInt.k)], .row (flat tAtom.own r_22.atoms), .row (flat tInt.own r_22.free)]) rfl ?_
      refine TO_cons rfl (TOp_storeB sz29 rfl rfl rfl rfl rfl rfl rfl (by decide) (lb rfl) rfl ?_)
      refine TO_st (σ' := [.box [(intA q0.variableCount), (sl tAtom q0.atoms), (sl tInt q0.free)], .box [(intA r_22.variableCount), (.m [11] 0 r_22.atoms.length tAtom.k), (.m [12] 0 r_22.free.length tInt.k)], .row (flat tAtom.own box4_atoms), .row (flat tInt.own box4_free), .box [(intA box4_variableCount), (.m [2] 0 box4_atoms.length tAtom.k), (.m [3] 0 box4_free.length tInt.k)], .row (flat tAtom.own r_19.1.atoms), .row (flat tInt.own r_19.1.free), .dead, .dead, .dead, .box [(intA r_19.1.variableCount), (.m [5] 0 r_19.1.atoms.length tAtom.k), (.m [6] 0 r_19.1.free.length tInt.k)], .row (flat tAtom.own r_22.atoms), .row (flat tInt.own r_22.free)]) rfl ?_
      refine pv tb 1 rfl ?_
      refine TO_nil ?_
      refine T_ret ?_
      refine then_ret ?_
      refine block_ret ?_
      refine then_ret ?_
      refine then_ret ?_
      refine block_ret ?_
      refine then_ret ?_
      obtain rfl := some_inj H
      obtain rfl := some_inj K7_
      replace H := onS_r N7_
      obtain rfl := some_inj H
      exact end_pick (.cellK rfl agg29 rfl (lb rfl) (.tmp .nil)) rfl [11, 12] (by decide) rfl rfl rfl rfl rfl rfl
     ·replace H := cond_f c_21 H
      refine T_skip ?_
      refine T_region ?_
      refine pv tb 1 rfl ?_
      refine TO_cons rfl (TOp_storeB sz29 rfl rfl rfl rfl rfl rfl rfl (by decide) (lb rfl) rfl ?_)
      refine TO_st (σ' := [.box [(intA q0.variableCount), (sl tAtom q0.atoms), (sl tInt q0.free)], .box [(intA 0), .n, .n], .row (flat tAtom.own box4_atoms), .row (flat tInt.own box4_free), .box [(intA r_19.1.variableCount), (.m [5] 0 r_19.1.atoms.length tAtom.k), (.m [6] 0 r_19.1.free.length tInt.k)], .row (flat tAtom.own r_19.1.atoms), .row (flat tInt.own r_19.1.free), .dead, .dead, .dead, .box [(intA r_19.1.variableCount), (.m [5] 0 r_19.1.atoms.length tAtom.k), (.m [6] 0 r_19.1.free.length tInt.k)]]) rfl ?_
      refine TO_nil ?_
      refine T_move' 2 5 (by decide) (lb rfl) rfl rfl (lb rfl) ?_
      refine te [(1, (sl tInt row1)), (2, (.b 0 0)), (4, (.b 1 0)), (6, (.b 4 0)), (7, (intA i7))] rfl ?_
      refine T_st (σ' := [.box [(intA q0.variableCount), (sl tAtom q0.atoms), (sl tInt q0.free)], .box [(intA 0), .n, .n], .row (flat tAtom.own r_19.1.atoms), .row (flat tInt.own box4_free), .box [(intA r_19.1.variableCount), (.m [2] 0 r_19.1.atoms.length tAtom.k), (.m [6] 0 r_19.1.free.length tInt.k)], .dead, .row (flat tInt.own r_19.1.free), .dead, .dead, .dead, .box [(intA r_19.1.variableCount), (.m [2] 0 r_19.1.atoms.length tAtom.k), (.m [6] 0 r_19.1.free.length tInt.k)]]) rfl ?_
      refine T_move' 3 6 (by decide) (lb rfl) rfl rfl (lb rfl) ?_
      refine te [(1, (sl tInt row1)), (2, (.b 0 0)), (4, (.b 1 0)), (6, (.b 4 0)), (7, (intA i7))] rfl ?_
      refine T_st (σ' := [.box [(intA q0.variableCount), (sl tAtom q0.atoms), (sl tInt q0.free)], .box [(intA 0), .n, .n], .row (flat tAtom.own r_19.1.atoms), .row (flat tInt.own r_19.1.free), .box [(intA r_19.1.variableCount), (.m [2] 0 r_19.1.atoms.length tAtom.k), (.m [3] 0 r_19.1.free.length tInt.k)], .dead, .dead, .dead, .dead, .dead, .box [(intA r_19.1.variableCount), (.m [2] 0 r_19.1.atoms.length tAtom.k), (.m [3] 0 r_19.1.free.length tInt.k)]]) rfl ?_
      refine T_region ?_
      refine pv tb 3 rfl ?_
      refine TO_nil ?_
      obtain rfl := some_inj H
      exact again k7 ((w64 (i7 - 1)), r_19.1.variableCount, r_19.1.atoms, r_19.1.free) (Nat.lt_succ_self _) (w0 5) K7_
   ·replace H := cond_f c_8 H
    refine T_exit ?_
    refine then_exit ?_
    refine then_exit ?_
    refine block_exit ?_
    obtain rfl := some_inj H
    obtain rfl := some_inj K7_
    replace H := onS_l N7_
    refine sr ?_
    refine pv tb 1 rfl ?_
    refine TO_cons rfl (TOp_storeB sz29 rfl rfl rfl rfl rfl rfl rfl (by decide) (lb rfl) rfl ?_)
    refine TO_st (σ' := [.box [(intA q0.variableCount), (sl tAtom q0.atoms), (sl tInt q0.free)], .box [(intA box4_variableCount), (.m [2] 0 box4_atoms.length tAtom.k), (.m [3] 0 box4_free.length tInt.k)], .row (flat tAtom.own box4_atoms), .row (flat tInt.own box4_free), .box [(intA box4_variableCount), (.m [2] 0 box4_atoms.length tAtom.k), (.m [3] 0 box4_free.length tInt.k)]]) rfl ?_
    refine pv tb 1 rfl ?_
    refine TO_nil ?_
    refine T_ret ?_
    obtain rfl := some_inj H
    exact end_pick (.cellK rfl agg29 rfl (lb rfl) (.tmp .nil)) rfl [2, 3] (by decide) rfl rfl rfl rfl rfl rfl
theorem m_spec_BindAnswer_ok (u : Nat) (q0 : Query) (row1 : (List Int)) (r : (Query × Bool)) (H : m_spec_BindAnswer u q0 row1 = some r) : FnV prg 16 [(.g (tQuery.enc q0)), (sl tInt row1)] (.t [(.g (tQuery.enc r.1)), (boolA r.2)]) := (m_spec_BindAnswer_own u q0 row1 r H).frz (frzOK_t (frz_cons (frzOK_g (frz_cons (frz_loose rfl) (frz_cons (frzT (T := tAtom) rfl) (frz_cons (frzT (T := tInt) rfl) frz_nil))).1 (frz_cons (frz_loose rfl) (frz_cons (frzT (T := tAtom) rfl) (frz_cons (frzT (T := tInt) rfl) frz_nil))).2) (frz_cons (frz_loose rfl) frz_nil)).1 (frz_cons (frzOK_g (frz_cons (frz_loose rfl) (frz_cons (frzT (T := tAtom) rfl) (frz_cons (frzT (T := tInt) rfl) frz_nil))).1 (frz_cons (frz_loose rfl) (frz_cons (frzT (T := tAtom) rfl) (frz_cons (frzT (T := tInt) rfl) frz_nil))).2) (frz_cons (frz_loose rfl) frz_nil)).2)

set_option maxHeartbeats 1000000 in
theorem m_laws_toIntS_own (a0 : (List Int)) (r : (List Int)) (H : m_laws_toIntS a0 = some r) : FnO prg 18 [(sl tInt a0)] (.m [0] 0 r.length tInt.k) [.row (flat tInt.own r)] := by
  unfold m_laws_toIntS at H
  refine fnO_of_T Try.func18 rfl rfl (Nat.le_of_ble_eq_true rfl) ?_
  refine te [(0, (sl tInt a0))] rfl ?_
  refine sr ?_
  refine pv tb 1 rfl ?_
  refine TO_nil ?_
  refine sr ?_
  refine pv tb 1 rfl ?_
  refine Tp rfl rfl (pur_lenT (T := tInt) sl23 rfl rfl) rfl ?_
  obtain ⟨us_1, h_2, H⟩ := bind_inv H
  refine TO_cons rfl (TOp_makeT (T := tInt) (z := (0 : Int)) rfl sl23 zero3 rfl bytes3 rfl rfl rfl rfl h_2 ?_)
  refine pv tb 1 rfl ?_
  refine TO_nil ?_
  refine T_seq ?_
  refine sr ?_
  refine pv tb 1 rfl ?_
  refine TO_nil ?_
  obtain ⟨O4_, L4_, N4_⟩ := bind_inv H
  clear H
  obtain ⟨B4_, hb4, L4_⟩ := gen_forS L4_
  refine T_block ?_
  refine T_loopX (fun k => fun (⟨i_3, out3⟩ : Nat × (List Int)) => k = a0.length - i_3 ∧ forS B4_ (a0.drop i_3) (i_3 : Int) out3 = some O4_) (fun (⟨i_3, out3⟩ : Nat × (List Int)) => [(0, (sl tInt a0)), (3, (.m [0] 0 out3.length tInt.k)), (4, (intA (i_3 : Int)))]) (fun (⟨i_3, out3⟩ : Nat × (List Int)) => [.row (flat tInt.enc out3)]) _ (0, us_1) (w0 1) ⟨rfl, L4_⟩ ?_
  rintro _ ⟨i_3, out3⟩ ⟨rfl, L4_⟩
  refine T_fact (len_sl (T := tInt) (.tmp 0) rfl) (fun hl4 => ?_)
  refine T_seq ?_
  refine sr ?_
  refine pv tb 2 rfl ?_
  refine Tp rfl rfl (pur_lenT (T := tInt) sl23 rfl rfl) rfl ?_
  refine pv tb 1 rfl ?_
  refine TO_nil ?_
  refine T_cond (t := decide ((i_3 : Int) < (a0.length : Int))) rfl (fun d4 => ?_) (fun d4 => ?_)
  ·replace d4 := of_decide_eq_true d4
   obtain ⟨x_i_3, hx_i_3⟩ : ∃ v, (a0)[i_3]? = some v := ⟨_, List.getElem?_eq_getElem (by omega)⟩
   obtain ⟨C4_, H, K4_⟩ := forS_step L4_ hx_i_3
   rw [hb4] at H
   refine T_skip ?_
   refine T_seq ?_
   refine T_block ?_
   refine T_region ?_
   refine pv tb 4 rfl ?_
   refine Tp rfl rfl (pur_ixT (T := tInt) sl23 rfl rfl rfl hx_i_3 rfl) rfl ?_
   refine Tp rfl rfl (pur_ldT (T := tInt) (i := i_3) (off := 0) rfl one3 rfl rfl hx_i_3 rfl) rfl ?_
   obtain ⟨v_5, h_6, H⟩ := bind_inv H
   obtain ⟨n_7, hz_8, hv_9⟩ := getI_inv h_6
   refine Tp rfl rfl (pur_ixM (T := tInt) sl23 rfl rfl hz_8 hv_9 rfl) rfl ?_
   refine TO_cons rfl (TOp_setT (f := tInt.enc) (z := (i_3 : Int)) (y := x_i_3) tInt.len tInt.pos hz_8 sz3 rfl rfl rfl rfl rfl hv_9 rfl rfl ?_)
   refine TO_env (E' := [(0, (sl tInt a0)), (3, (.m [0] 0 (out3.set ((i_3 : Int)).toNat x_i_3).length tInt.k)), (4, (intA (i_3 : Int))), (14, (.m [0] 0 (out3.set ((i_3 : Int)).toNat x_i_3).length tInt.k)), (15, (intA (i_3 : Int))), (16, (sl tInt a0)), (17, (intA (i_3 : Int))), (18, (.q (flat tInt.enc a0) (i_3 * tInt.k))), (19, (intA x_i_3))]) ⟨rfl, (congrArg (fun q => A.m [0] 0 q tInt.k) (List.length_set ..).symm), rfl, (congrArg (fun q => A.m [0] 0 q tInt.k) (List.length_set ..).symm), rfl, rfl, rfl, rfl, rfl, trivial⟩ ?_
   refine TO_st (σ' := [.row (flat tInt.enc (out3.set ((i_3 : Int)).toNat x_i_3))]) rfl ?_
   refine TO_nil ?_
   refine T_region ?_
   refine pv tb 1 rfl ?_
   refine Tp rfl rfl (pur_add rfl rfl rfl (fits64 (by omega) (by omega))) rfl ?_
   refine pv tb 1 rfl ?_
   refine TO_nil ?_
   obtain rfl := some_inj H
   exact again (a0.length - (i_3 + 1)) (i_3 + 1, (out3.set ((i_3 : Int)).toNat x_i_3)) (by omega) (w0 1) ⟨rfl, K4_⟩
  ·replace d4 := of_decide_eq_false d4
   obtain rfl := forS_end L4_ (by omega)
   refine T_exit ?_
   refine then_exit ?_
   refine then_exit ?_
   refine block_exit ?_
   replace H := N4_
   refine sr ?_
   refine pv tb 2 rfl ?_
   refine TO_nil ?_
   refine T_ret ?_
   obtain rfl := some_inj H
   exact end_pick (.tmp .nil) rfl [0] (by decide) rfl rfl rfl rfl rfl rfl
theorem m_laws_toIntS_ok (a0 : (List Int)) (r : (List Int)) (H : m_laws_toIntS a0 = some r) : FnV prg 18 [(sl tInt a0)] (sl tInt r) := (m_laws_toIntS_own a0 r H).frz (frzT (T := tInt) rfl)

set_option maxHeartbeats 1000000 in
theorem m_laws_toAtom_own (a0 : Atom) (r : Atom) (H : m_laws_toAtom a0 = some r) : FnO prg 138 [(.g (tAtom.enc a0))] (.g [(intA r.relation), (.m [0] 0 r.terms.length tInt.k)]) [.row (flat tInt.own r.terms)] := by
  unfold m_laws_toAtom at H
  refine fnO_of_T Try.func138 rfl rfl (Nat.le_of_ble_eq_true rfl) ?_
  refine te [(0, (.g (tAtom.enc a0)))] rfl ?_
  refine sr ?_
  refine TO_cons rfl (TOp_box rfl (boxAll rfl) rfl rfl ?_)
  refine TO_cons rfl (TOp_alloc zero150 rfl rfl ?_)
  refine TO_nil ?_
  refine sr ?_
  refine TO_cons rfl (TOp_alloc zero150 rfl rfl ?_)
  refine TO_nil ?_
  refine sr ?_
  refine pv tb 3 rfl ?_
  refine TO_cons rfl (TOp_storeB sz3 rfl rfl rfl rfl rfl rfl rfl (by decide) (lb rfl) rfl ?_)
  refine TO_st (σ' := [.box [(intA a0.relation), (sl tInt a0.terms)], .box [(intA 0), .n], .box [(intA a0.relation), .n]]) rfl ?_
  refine TO_nil ?_
  refine sr ?_
  obtain ⟨r_1, h_2, H⟩ := bind_inv H
  refine pv tb 2 rfl ?_
  refine TO_cons rfl (TOp_callO (call_static ent18 rfl) rfl (m_laws_toIntS_own _ _ h_2) rfl rfl rfl ?_)
  refine toe [(1, (.b 0 0)), (2, (.b 1 0)), (3, (.b 2 0)), (7, (.b 0 1)), (8, (sl tInt a0.terms)), (9, (.m [3] 0 r_1.length tInt.k))] rfl ?_
  refine TO_st (σ' := [.box [(intA a0.relation), (sl tInt a0.terms)], .box [(intA 0), .n], .box [(intA a0.relation), .n], .row (flat tInt.own r_1)]) rfl ?_
  refine pv tb 1 rfl ?_
  refine TO_cons rfl (TOp_storeB sz23 rfl rfl rfl rfl rfl rfl rfl (by decide) (lb rfl) rfl ?_)
  refine TO_st (σ' := [.box [(intA a0.relation), (sl tInt a0.terms)], .box [(intA 0), .n], .box [(intA a0.relation), (.m [3] 0 r_1.length tInt.k)], .row (flat tInt.own r_1)]) rfl ?_
  refine TO_nil ?_
  refine sr ?_
  refine pv tb 1 rfl ?_
  refine TO_cons rfl (TOp_storeB sz150 rfl rfl rfl rfl rfl rfl rfl (by decide) (lb rfl) rfl ?_)
  refine TO_st (σ' := [.box [(intA a0.relation), (sl tInt a0.terms)], .box [(intA a0.relation), (.m [3] 0 r_1.length tInt.k)], .box [(intA a0.relation), (.m [3] 0 r_1.length tInt.k)], .row (flat tInt.own r_1)]) rfl ?_
  refine TO_nil ?_
  refine T_ret ?_
  obtain rfl := some_inj H
  exact end_pick (.cellK rfl agg150 rfl (lb rfl) .nil) rfl [3] (by decide) rfl rfl rfl rfl rfl rfl
theorem m_laws_toAtom_ok (a0 : Atom) (r : Atom) (H : m_laws_toAtom a0 = some r) : FnV prg 138 [(.g (tAtom.enc a0))] (.g (tAtom.enc r)) := (m_laws_toAtom_own a0 r H).frz (frzOK_g (frz_cons (frz_loose rfl) (frz_cons (frzT (T := tInt) rfl) frz_nil)).1 (frz_cons (frz_loose rfl) (frz_cons (frzT (T := tInt) rfl) frz_nil)).2)

set_option maxHeartbeats 1000000 in
theorem m_laws_toAtomS_own (a0 : (List Atom)) (r : (List Atom)) (H : m_laws_toAtomS a0 = some r) : FnO prg 86 [(sl tAtom a0)] (.m [0] 0 r.length tAtom.k) [.row (flat tAtom.own r)] := by
  unfold m_laws_toAtomS at H
  refine fnO_of_T Try.func86 rfl rfl (Nat.le_of_ble_eq_true rfl) ?_
  refine te [(0, (sl tAtom a0))] rfl ?_
  refine sr ?_
  refine pv tb 1 rfl ?_
  refine TO_nil ?_
  refine sr ?_
  refine pv tb 1 rfl ?_
  refine Tp rfl rfl (pur_lenT (T := tAtom) sl22 rfl rfl) rfl ?_
  obtain ⟨us_1, h_2, H⟩ := bind_inv H
  refine TO_cons rfl (TOp_makeN (T := tAtom) (f := tAtom.own) (zs := [.int .i64 0, .slice none 0 0]) (z := (default : Atom)) tAtom.lenO (nilL_cons nilS (nilL_cons nilO nilL_nil)) rfl sl27 zero150 bytes150 rfl rfl rfl rfl h_2 ?_)
  refine TO_st (σ' := [.row (flat tAtom.own us_1)]) rfl ?_
  refine pv tb 1 rfl ?_
  refine TO_nil ?_
  refine T_seq ?_
  refine sr ?_
  refine pv tb 1 rfl ?_
  refine TO_nil ?_
  obtain ⟨O4_, L4_, N4_⟩ := bind_inv H
  clear H
  obtain ⟨B4_, hb4, L4_⟩ := gen_forS L4_
  refine T_block ?_
  refine T_loopX (fun k => fun (⟨i_3, out3⟩ : Nat × (List Atom)) => k = a0.length - i_3 ∧ forS B4_ (a0.drop i_3) (i_3 : Int) out3 = some O4_) (fun (⟨i_3, out3⟩ : Nat × (List Atom)) => [(0, (sl tAtom a0)), (3, (.m [0] 0 out3.length tAtom.k)), (4, (intA (i_3 : Int)))]) (fun (⟨i_3, out3⟩ : Nat × (List Atom)) => [.row (flat tAtom.own out3)]) _ (0, us_1) (w0 1) ⟨rfl, L4_⟩ ?_
  rintro _ ⟨i_3, out3⟩ ⟨rfl, L4_⟩
  refine T_fact (len_sl (T := tAtom) (.tmp 0) rfl) (fun hl4 => ?_)
  refine T_seq ?_
  refine sr ?_
  refine pv tb 2 rfl ?_
  refine Tp rfl rfl (pur_lenT (T := tAtom) sl22 rfl rfl) rfl ?_
  refine pv tb 1 rfl ?_
  refine TO_nil ?_
  refine T_cond (t := decide ((i_3 : Int) < (a0.length : Int))) rfl (fun d4 => ?_) (fun d4 => ?_)
  ·replace d4 := of_decide_eq_true d4
   obtain ⟨x_i_3, hx_i_3⟩ : ∃ v, (a0)[i_3]? = some v := ⟨_, List.getElem?_eq_getElem (by omega)⟩
   obtain ⟨C4_, H, K4_⟩ := forS_step L4_ hx_i_3
   rw [hb4] at H
   refine T_skip ?_
   refine T_seq ?_
   refine T_block ?_
   refine T_region ?_
   refine pv tb 4 rfl ?_
   refine Tp rfl rfl (pur_ixT (T := tAtom) sl22 rfl rfl rfl hx_i_3 rfl) rfl ?_
   refine Tp rfl rfl (pur_ldTK (T := tAtom) (i := i_3) (off := 0) rfl agg149 rfl rfl hx_i_3 (by decide) rfl) rfl ?_
   obtain ⟨r_5, h_6, H⟩ := bind_inv H
   refine TO_cons rfl (TOp_callO (call_static ent138 rfl) rfl (m_laws_toAtom_own _ _ h_6) rfl rfl rfl ?_)
   refine toe [(0, (sl tAtom a0)), (3, (.m [0] 0 out3.length tAtom.k)), (4, (intA (i_3 : Int))), (14, (.m [0] 0 out3.length tAtom.k)), (15, (intA (i_3 : Int))), (16, (sl tAtom a0)), (17, (intA (i_3 : Int))), (18, (.q (flat tAtom.enc a0) (i_3 * tAtom.k))), (19, (.g (tAtom.enc x_i_3))), (20, (.g [(intA r_5.relation), (.m [1] 0 r_5.terms.length tInt.k)]))] rfl ?_
   refine TO_st (σ' := [.row (flat tAtom.own out3), .row (flat tInt.own r_5.terms)]) rfl ?_
   obtain ⟨v_7, h_8, H⟩ := bind_inv H
   obtain ⟨n_9, hz_10, hv_11⟩ := getI_inv h_8
   refine Tp rfl rfl (pur_ixM (T := tAtom) sl27 rfl rfl hz_10 hv_11 rfl) rfl ?_
   refine TO_boxify 0 rfl (lb rfl) ?_
   refine TO_cons rfl (TOp_setN (T := tAtom) (i := n_9) (off := 0) (xs := out3) (v := v_7) hz_10 sz150 (by decide) rfl rfl rfl rfl rfl hv_11 rfl rfl (lb rfl) rfl ?_)
   refine toe [(0, (sl tAtom a0)), (3, (.m [0] 0 out3.length tAtom.k)), (4, (intA (i_3 : Int))), (14, (.m [0] 0 out3.length tAtom.k)), (15, (intA (i_3 : Int))), (16, (sl tAtom a0)), (17, (intA (i_3 : Int))), (18, (.q (flat tAtom.enc a0) (i_3 * tAtom.k))), (19, (.g (tAtom.enc x_i_3)))] rfl ?_
   refine TO_st (σ' := [.box (spl (flat tAtom.own out3) (n_9 * tAtom.k) [(intA r_5.relation), (.m [1] 0 r_5.terms.length tInt.k)]), .row (flat tInt.own r_5.terms)]) rfl ?_
   refine TO_absorbS (T := tAtom) (i := n_9) (xs := out3) (v := v_7) 0 1 1 rfl hv_11 rfl rfl rfl (by decide) tInt.pos (flat_len tInt.lenO _) (lb rfl) (lb rfl) rfl (nms_box (namesL_spl namesL_own rfl) (nms_row nms_nil)) ?_
   refine TO_st (σ' := [.box (spl (flat tAtom.own out3) (n_9 * tAtom.k) [(intA r_5.relation), .o tInt.k (flat tInt.own r_5.terms)]), .dead]) rfl ?_
   refine TO_rowifyS (T := tAtom) (i := n_9) (xs := out3) 0 r_5 hz_10 rfl hv_11 rfl (lb rfl) ?_
   refine TO_env (E' := [(0, (sl tAtom a0)), (3, (.m [0] 0 (out3.set ((i_3 : Int)).toNat r_5).length tAtom.k)), (4, (intA (i_3 : Int))), (14, (.m [0] 0 (out3.set ((i_3 : Int)).toNat r_5).length tAtom.k)), (15, (intA (i_3 : Int))), (16, (sl tAtom a0)), (17, (intA (i_3 : Int))), (18, (.q (flat tAtom.enc a0) (i_3 * tAtom.k))), (19, (.g (tAtom.enc x_i_3)))]) ⟨rfl, (congrArg (fun q => A.m [0] 0 q tAtom.k) (List.length_set ..).symm), rfl, (congrArg (fun q => A.m [0] 0 q tAtom.k) (List.length_set ..).symm), rfl, rfl, rfl, rfl, rfl, trivial⟩ ?_
   refine TO_st (σ' := [.row (flat tAtom.own (out3.set ((i_3 : Int)).toNat r_5)), .dead]) rfl ?_
   refine TO_nil ?_
   refine T_region ?_
   refine pv tb 1 rfl ?_
   refine Tp rfl rfl (pur_add rfl rfl rfl (fits64 (by omega) (by omega))) rfl ?_
   refine pv tb 1 rfl ?_
   refine TO_nil ?_
   obtain rfl := some_inj H
   exact again (a0.length - (i_3 + 1)) (i_3 + 1, (out3.set ((i_3 : Int)).toNat r_5)) (by omega) (w0 1) ⟨rfl, K4_⟩
  ·replace d4 := of_decide_eq_false d4
   obtain rfl := forS_end L4_ (by omega)
   refine T_exit ?_
   refine then_exit ?_
   refine then_exit ?_
   refine block_exit ?_
   replace H := N4_
   refine sr ?_
   refine pv tb 2 rfl ?_
   refine TO_nil ?_
   refine T_ret ?_
   obtain rfl := some_inj H
   exact end_pick (.tmp .nil) rfl [0] (by decide) rfl rfl rfl rfl rfl rfl
theorem m_laws_toAtomS_ok (a0 : (List Atom)) (r : (List Atom)) (H : m_laws_toAtomS a0 = some r) : FnV prg 86 [(sl tAtom a0)] (sl tAtom r) := (m_laws_toAtomS_own a0 r H).frz (frzT (T := tAtom) rfl)

set_option maxHeartbeats 1000000 in
theorem m_laws_toQuery_own (a0 : Query) (r : Query) (H : m_laws_toQuery a0 = some r) : FnO prg 17 [(.g (tQuery.enc a0))] (.g [(intA r.variableCount), (.m [0] 0 r.atoms.length tAtom.k), (.m [1] 0 r.free.length tInt.k)]) [.row (flat tAtom.own r.atoms), .row (flat tInt.own r.free)] := by
  unfold m_laws_toQuery at H
  refine fnO_of_T Try.func17 rfl rfl (Nat.le_of_ble_eq_true rfl) ?_
  refine te [(0, (.g (tQuery.enc a0)))] rfl ?_
  refine sr ?_
  refine TO_cons rfl (TOp_box rfl (boxAll rfl) rfl rfl ?_)
  refine TO_cons rfl (TOp_alloc zero29 rfl rfl ?_)
  refine TO_nil ?_
  refine sr ?_
  refine TO_cons rfl (TOp_alloc zero29 rfl rfl ?_)
  refine TO_nil ?_
  refine sr ?_
  refine pv tb 3 rfl ?_
  refine TO_cons rfl (TOp_storeB sz3 rfl rfl rfl rfl rfl rfl rfl (by decide) (lb rfl) rfl ?_)
  refine TO_st (σ' := [.box [(intA a0.variableCount), (sl tAtom a0.atoms), (sl tInt a0.free)], .box [(intA 0), .n, .n], .box [(intA a0.variableCount), .n, .n]]) rfl ?_
  refine TO_nil ?_
  refine sr ?_
  obtain ⟨r_1, h_2, H⟩ := bind_inv H
  refine pv tb 2 rfl ?_
  refine TO_cons rfl (TOp_callO (call_static ent86 rfl) rfl (m_laws_toAtomS_own _ _ h_2) rfl rfl rfl ?_)
  refine toe [(1, (.b 0 0)), (2, (.b 1 0)), (3, (.b 2 0)), (7, (.b 0 1)), (8, (sl tAtom a0.atoms)), (9, (.m [3] 0 r_1.length tAtom.k))] rfl ?_
  refine TO_st (σ' := [.box [(intA a0.variableCount), (sl tAtom a0.atoms), (sl tInt a0.free)], .box [(intA 0), .n, .n], .box [(intA a0.variableCount), .n, .n], .row (flat tAtom.own r_1)]) rfl ?_
  refine pv tb 1 rfl ?_
  refine TO_cons rfl (TOp_storeB sz27 rfl rfl rfl rfl rfl rfl rfl (by decide) (lb rfl) rfl ?_)
  refine TO_st (σ' := [.box [(intA a0.variableCount), (sl tAtom a0.atoms), (sl tInt a0.free)], .box [(intA 0), .n, .n], .box [(intA a0.variableCount), (.m [3] 0 r_1.length tAtom.k), .n], .row (flat tAtom.own r_1)]) rfl ?_
  refine TO_nil ?_
  refine sr ?_
  obtain ⟨r_3, h_4, H⟩ := bind_inv H
  refine pv tb 2 rfl ?_
  refine TO_cons rfl (TOp_callO (call_static ent18 rfl) rfl (m_laws_toIntS_own _ _ h_4) rfl rfl rfl ?_)
  refine toe [(1, (.b 0 0)), (2, (.b 1 0)), (3, (.b 2 0)), (11, (.b 0 2)), (12, (sl tInt a0.free)), (13, (.m [4] 0 r_3.length tInt.k))] rfl ?_
  refine TO_st (σ' := [.box [(intA a0.variableCount), (sl tAtom a0.atoms), (sl tInt a0.free)], .box [(intA 0), .n, .n], .box [(intA a0.variableCount), (.m [3] 0 r_1.length tAtom.k), .n], .row (flat tAtom.own r_1), .row (flat tInt.own r_3)]) rfl ?_
  refine pv tb 1 rfl ?_
  refine TO_cons rfl (TOp_storeB sz23 rfl rfl rfl rfl rfl rfl rfl (by decide) (lb rfl) rfl ?_)
  refine TO_st (σ' := [.box [(intA a0.variableCount), (sl tAtom a0.atoms), (sl tInt a0.free)], .box [(intA 0), .n, .n], .box [(intA a0.variableCount), (.m [3] 0 r_1.length tAtom.k), (.m [4] 0 r_3.length tInt.k)], .row (flat tAtom.own r_1), .row (flat tInt.own r_3)]) rfl ?_
  refine TO_nil ?_
  refine sr ?_
  refine pv tb 1 rfl ?_
  refine TO_cons rfl (TOp_storeB sz29 rfl rfl rfl rfl rfl rfl rfl (by decide) (lb rfl) rfl ?_)
  refine TO_st (σ' := [.box [(intA a0.variableCount), (sl tAtom a0.atoms), (sl tInt a0.free)], .box [(intA a0.variableCount), (.m [3] 0 r_1.length tAtom.k), (.m [4] 0 r_3.length tInt.k)], .box [(intA a0.variableCount), (.m [3] 0 r_1.length tAtom.k), (.m [4] 0 r_3.length tInt.k)], .row (flat tAtom.own r_1), .row (flat tInt.own r_3)]) rfl ?_
  refine TO_nil ?_
  refine T_ret ?_
  obtain rfl := some_inj H
  exact end_pick (.cellK rfl agg29 rfl (lb rfl) .nil) rfl [3, 4] (by decide) rfl rfl rfl rfl rfl rfl
theorem m_laws_toQuery_ok (a0 : Query) (r : Query) (H : m_laws_toQuery a0 = some r) : FnV prg 17 [(.g (tQuery.enc a0))] (.g (tQuery.enc r)) := (m_laws_toQuery_own a0 r H).frz (frzOK_g (frz_cons (frz_loose rfl) (frz_cons (frzT (T := tAtom) rfl) (frz_cons (frzT (T := tInt) rfl) frz_nil))).1 (frz_cons (frz_loose rfl) (frz_cons (frzT (T := tAtom) rfl) (frz_cons (frzT (T := tInt) rfl) frz_nil))).2)

set_option maxHeartbeats 1000000 in
theorem m_impl_copyAtom_own (atom0 : Atom) (r : Atom) (H : m_impl_copyAtom atom0 = some r) : FnO prg 139 [(.g (tAtom.enc atom0))] (.g [(intA r.relation), (.m [0] 0 r.terms.length tInt.k)]) [.row (flat tInt.own r.terms)] := by
  unfold m_impl_copyAtom at H
  refine fnO_of_T Try.func139 rfl rfl (Nat.le_of_ble_eq_true rfl) ?_
  refine te [(0, (.g (tAtom.enc atom0)))] rfl ?_
  refine sr ?_
  refine TO_cons rfl (TOp_box rfl (boxAll rfl) rfl rfl ?_)
  refine TO_cons rfl (TOp_alloc zero150 rfl rfl ?_)
  refine TO_nil ?_
  obtain ⟨us_1, h_2, H⟩ := bind_inv H
  refine T_pad ?_
  refine T_cutX (fun (_ : Unit) => True) (fun _ => [(2, (.b 1 0))]) (fun _ => [.box [(intA atom0.relation), (sl tInt atom0.terms)], .box [(intA atom0.relation), (.m [2] 0 us_1.length tInt.k)], .row (flat tInt.enc us_1)]) ?_ ?_
  ·skip
   refine T_regionP 1 mixed rfl ?_
   refine pa tb [0, 1, 3, 4] 4 rfl (by kernel_rfl) rfl ?_
   refine t1 2 (by kernel_rfl) rfl rfl (TOp_lit (nn := 0) (k := 1) sl23 zero3 rfl rfl rfl rfl (by decide) ?_)
   refine t1 5 (by kernel_rfl) rfl rfl (TOp_appY (T := tInt) (f := tInt.enc) (xs := ([] : (List Int))) (ys := atom0.terms) tInt.len sl23 zero3 rfl bytes3 (by decide) rfl rfl rfl rfl (src_T (T := tInt) rfl) (flat_cell tInt _) h_2 ?_)
   refine tmw 3 4 (by decide) (lb rfl) rfl rfl (lb rfl) rfl ?_
   refine tf 6 rfl (pur_build bld150 rfl rfl) rfl rfl (by kernel_rfl) ?_
   refine t1 7 (by kernel_rfl) rfl rfl (TOp_storeB sz150 rfl rfl rfl rfl rfl rfl rfl (by decide) (lb rfl) rfl ?_)
   refine TA_st (σ' := [.dead, .box [(intA atom0.relation), (.m [3] 0 us_1.length tInt.k)], .dead, .row (flat tInt.enc us_1), .dead]) rfl ?_
   refine TA_ghost (E' := [(2, (.b 1 0))]) (σ' := [.dead, .box [(intA atom0.relation), (.m [2] 0 us_1.length tInt.k)], .row (flat tInt.enc us_1), .dead, .dead]) (Ghost.move 2 3 (by decide) (lb rfl) rfl rfl (lb rfl) (Ghost.weak (WeakL.to 5 (lb rfl) rfl rfl rfl rfl ⟨leR rfl, trivial⟩))) ?_
   exact TA_nil (by kernel_rfl) (joined () (w0 3) trivial)
  ·rintro _ _
   refine T_ret ?_
   obtain rfl := some_inj H
   exact end_pick (.cellK rfl agg150 rfl (lb rfl) .nil) rfl [2] (by decide) rfl rfl rfl rfl rfl rfl
theorem m_impl_copyAtom_ok (atom0 : Atom) (r : Atom) (H : m_impl_copyAtom atom0 = some r) : FnV prg 139 [(.g (tAtom.enc atom0))] (.g (tAtom.enc r)) := (m_impl_copyAtom_own atom0 r H).frz (frzOK_g (frz_cons (frz_loose rfl) (frz_cons (frzT (T := tInt) rfl) frz_nil)).1 (frz_cons (frz_loose rfl) (frz_cons (frzT (T := tInt) rfl) frz_nil)).2)

set_option maxHeartbeats 1000000 in
theorem m_impl_copyQuery_own (query0 : Query) (r : Query) (H : m_impl_copyQuery query0 = some r) : FnO prg 87 [(.g (tQuery.enc query0))] (.g [(intA r.variableCount), (.m [0] 0 r.atoms.length tAtom.k), (.m [1] 0 r.free.length tInt.k)]) [.row (flat tAtom.own r.atoms), .row (flat tInt.own r.free)] := by
  unfold m_impl_copyQuery at H
  refine fnO_of_T Try.func87 rfl rfl (Nat.le_of_ble_eq_true rfl) ?_
  refine te [(0, (.g (tQuery.enc query0)))] rfl ?_
  refine sr ?_
  refine TO_cons rfl (TOp_box rfl (boxAll rfl) rfl rfl ?_)
  refine TO_cons rfl (TOp_alloc zero29 rfl rfl ?_)
  refine TO_nil ?_
  obtain ⟨us_1, h_2, H⟩ := bind_inv H
  refine T_pad ?_
  refine T_pad ?_
  refine T_pad ?_
  refine T_cutX (fun (_ : Unit) => True) (fun _ => [(1, (.b 0 0)), (2, (.b 1 0)), (3, (.b 5 0))]) (fun _ => [.box [(intA query0.variableCount), (sl tAtom query0.atoms), (sl tInt query0.free)], .box [(intA 0), .n, .n], .row (flat tInt.enc us_1), .dead, .dead, .box [(intA query0.variableCount), .n, (.m [2] 0 us_1.length tInt.k)]]) ?_ ?_
  ·skip
   refine T_regionP 2 mixed rfl ?_
   refine TA_have 1 #[true, true, true, true, true, true, true, true, false] [(1, (.b 0 0)), (2, (.b 1 0)), (3, (.b 5 0)), (12, (.g [(intA query0.variableCount), .n, (.m [3] 0 us_1.length tInt.k)]))] [.dead, .dead, .dead, .row (flat tInt.enc us_1), .dead, .box [(intA 0), .n, .n]] ?_ (fun hj0_1 => ?_)
   ·skip
    refine t1 8 (by kernel_rfl) rfl rfl (TOp_storeB sz29 rfl rfl rfl rfl rfl rfl rfl (by decide) (lb rfl) rfl ?_)
    refine TA_st (σ' := [.dead, .dead, .dead, .row (flat tInt.enc us_1), .dead, .box [(intA query0.variableCount), .n, (.m [3] 0 us_1.length tInt.k)]]) rfl ?_
    refine TA_ghost (E' := [(1, (.b 0 0)), (2, (.b 1 0)), (3, (.b 5 0))]) (σ' := [.dead, .dead, .row (flat tInt.enc us_1), .dead, .dead, .box [(intA query0.variableCount), .n, (.m [2] 0 us_1.length tInt.k)]]) (Ghost.move 2 3 (by decide) (lb rfl) rfl rfl (lb rfl) (Ghost.weak (WeakL.to 6 (lb rfl) rfl rfl rfl rfl ⟨leR rfl, leR rfl, leR rfl, trivial⟩))) ?_
    exact TA_nil (by kernel_rfl) (joined () (w0 6) trivial)
   refine TA_have 3 #[true, true, true, true, true, false, false, true, false] [(1, (.b 0 0)), (2, (.b 1 0)), (3, (.b 5 0)), (7, (intA query0.variableCount)), (8, (.m [3] 0 ([] : (List Int)).length tInt.k)), (10, (sl tInt query0.free))] [.dead, .dead, .dead, .row (flat tInt.enc ([] : (List Int))), .dead, .box [(intA 0), .n, .n]] ?_ (fun hj1_1 => ?_)
   ·skip
    refine t1 5 (by kernel_rfl) rfl rfl (TOp_appY (T := tInt) (f := tInt.enc) (xs := ([] : (List Int))) (ys := query0.free) tInt.len sl23 zero3 rfl bytes3 (by decide) rfl rfl rfl rfl (src_T (T := tInt) rfl) (flat_cell tInt _) h_2 ?_)
    refine tmw 3 6 (by decide) (lb rfl) rfl rfl (lb rfl) rfl ?_
    refine tf 6 rfl (pur_build bld29 rfl rfl) rfl rfl (by kernel_rfl) ?_
    exact tj hj0_1 rfl (w0 6)
   refine pa tb [0, 1, 3, 4] 5 rfl (by kernel_rfl) rfl ?_
   refine TA_all [2, 7] (by kernel_rfl) (by decide) ⟨?_, ?_, trivial⟩
   ·skip
    refine ⟨_, rfl, rfl, (TOp_lit (nn := 0) (k := 1) sl23 zero3 rfl rfl rfl rfl (by decide) ?_)⟩
    refine TA_ghost (E' := [(1, (.b 0 0)), (2, (.b 1 0)), (6, (.b 0 0)), (7, (intA query0.variableCount)), (8, (.m [3] 0 ([] : (List Int)).length tInt.k)), (9, (.b 0 2)), (10, (sl tInt query0.free))]) (σ' := [.dead, .dead, .dead, .row (flat tInt.enc ([] : (List Int))), .dead]) (Ghost.move 3 5 (by decide) (lb rfl) rfl rfl (lb rfl) (Ghost.weak (WeakL.to 5 (lb rfl) rfl rfl rfl rfl ⟨leR rfl, leR rfl, leR rfl, leR rfl, leR rfl, leR rfl, leR rfl, trivial⟩))) ?_
    refine TA_all [5, 7] (by kernel_rfl) (by decide) ⟨?_, ?_, trivial⟩
    ·skip
     refine ⟨_, rfl, rfl, (TOp_appY (T := tInt) (f := tInt.enc) (xs := ([] : (List Int))) (ys := query0.free) tInt.len sl23 zero3 rfl bytes3 (by decide) rfl rfl rfl rfl (src_T (T := tInt) rfl) (flat_cell tInt _) h_2 ?_)⟩
     refine tmw 3 5 (by decide) (lb rfl) rfl rfl (lb rfl) rfl ?_
     refine tae [(1, (.b 0 0)), (2, (.b 1 0)), (7, (intA query0.variableCount)), (11, (.m [3] 0 us_1.length tInt.k))] rfl ?_
     refine TA_st (σ' := [.dead, .dead, .dead, .row (flat tInt.enc us_1), .dead, .dead]) rfl ?_
     refine tf 6 rfl (pur_build bld29 rfl rfl) rfl rfl (by kernel_rfl) ?_
     refine TA_ghost (E' := [(1, (.b 0 0)), (2, (.b 1 0)), (12, (.g [(intA query0.variableCount), .n, (.m [3] 0 us_1.length tInt.k)]))]) (σ' := [.dead, .dead, .dead, .row (flat tInt.enc us_1), .dead]) (Ghost.weak (WeakL.to 5 (lb rfl) rfl rfl rfl rfl ⟨leR rfl, leR rfl, leR rfl, trivial⟩)) ?_
     refine t1 7 (by kernel_rfl) rfl rfl (TOp_alloc zero29 rfl rfl ?_)
     exact tj hj0_1 rfl (w0 6)
    ·skip
     refine ⟨_, rfl, rfl, (TOp_alloc zero29 rfl rfl ?_)⟩
     refine tae [(1, (.b 0 0)), (2, (.b 1 0)), (3, (.b 5 0)), (7, (intA query0.variableCount)), (8, (.m [3] 0 ([] : (List Int)).length tInt.k)), (10, (sl tInt query0.free))] rfl ?_
     refine TA_st (σ' := [.dead, .dead, .dead, .row (flat tInt.enc ([] : (List Int))), .dead, .box [(intA 0), .n, .n]]) rfl ?_
     exact tj hj1_1 rfl (w0 6)
   ·skip
    refine ⟨_, rfl, rfl, (TOp_alloc zero29 rfl rfl ?_)⟩
    refine t1 2 (by kernel_rfl) rfl rfl (TOp_lit (nn := 0) (k := 1) sl23 zero3 rfl rfl rfl rfl (by decide) ?_)
    refine TA_ghost (E' := [(1, (.b 0 0)), (2, (.b 1 0)), (3, (.b 5 0)), (6, (.b 0 0)), (7, (intA query0.variableCount)), (8, (.m [3] 0 ([] : (List Int)).length tInt.k)), (9, (.b 0 2)), (10, (sl tInt query0.free))]) (σ' := [.dead, .dead, .dead, .row (flat tInt.enc ([] : (List Int))), .dead, .box [(intA 0), .n, .n]]) (Ghost.move 3 6 (by decide) (lb rfl) rfl rfl (lb rfl) (Ghost.weak (WeakL.to 6 (lb rfl) rfl rfl rfl rfl ⟨leR rfl, leR rfl, leR rfl, leR rfl, leR rfl, leR rfl, leR rfl, leR rfl, trivial⟩))) ?_
    refine tae [(1, (.b 0 0)), (2, (.b 1 0)), (3, (.b 5 0)), (7, (intA query0.variableCount)), (8, (.m [3] 0 ([] : (List Int)).length tInt.k)), (10, (sl tInt query0.free))] rfl ?_
    refine TA_st (σ' := [.dead, .dead, .dead, .row (flat tInt.enc ([] : (List Int))), .dead, .box [(intA 0), .n, .n]]) rfl ?_
    exact tj hj1_1 rfl (w0 6)
  ·rintro _ _
   refine T_seq ?_
   refine sr ?_
   refine pv tb 2 rfl ?_
   refine Tp rfl rfl (pur_lenT (T := tAtom) sl27 rfl rfl) rfl ?_
   refine pv tb 1 rfl ?_
   refine TO_nil ?_
   refine T_row0 ?_
   refine T_boxle (xs := [(intA query0.variableCount), .n, (.m [2] 0 us_1.length tInt.k)]) (ys := [(intA query0.variableCount), (.m [6] 0 ([] : (List Atom)).length tAtom.k), (.m [2] 0 us_1.length tInt.k)]) 5 rfl (leCons (leR rfl) (leCons leM (leCons (leR rfl) leNil))) ?_
   refine T_st (σ' := [.box [(intA query0.variableCount), (sl tAtom query0.atoms), (sl tInt query0.free)], .box [(intA 0), .n, .n], .row (flat tInt.enc us_1), .dead, .dead, .box [(intA query0.variableCount), (.m [6] 0 ([] : (List Atom)).length tAtom.k), (.m [2] 0 us_1.length tInt.k)], .row (flat tAtom.own ([] : (List Atom)))]) rfl ?_
   obtain ⟨O4_, L4_, N4_⟩ := bind_inv H
   clear H
   obtain ⟨B4_, hb4, L4_⟩ := gen_forS L4_
   refine T_block ?_
   refine T_loopX (fun k => fun (⟨t_3, box5_atoms⟩ : Nat × (List Atom)) => k = query0.atoms.length - t_3 ∧ forS B4_ (query0.atoms.drop t_3) (t_3 : Int) box5_atoms = some O4_) (fun (⟨t_3, box5_atoms⟩ : Nat × (List Atom)) => [(2, (.b 1 0)), (3, (.b 5 0)), (14, (sl tAtom query0.atoms)), (15, (intA (query0.atoms.length : Int))), (16, (intA (t_3 : Int)))]) (fun (⟨t_3, box5_atoms⟩ : Nat × (List Atom)) => [.box [(intA query0.variableCount), (sl tAtom query0.atoms), (sl tInt query0.free)], .box [(intA 0), .n, .n], .row (flat tInt.enc us_1), .dead, .dead, .box [(intA query0.variableCount), (.m [6] 0 box5_atoms.length tAtom.k), (.m [2] 0 us_1.length tInt.k)], .row (flat tAtom.own box5_atoms)]) _ (0, ([] : (List Atom))) (w0 7) ⟨rfl, L4_⟩ ?_
   rintro _ ⟨t_3, box5_atoms⟩ ⟨rfl, L4_⟩
   refine T_fact (len_sl (T := tAtom) (.tmp 14) rfl) (fun hl4 => ?_)
   refine sr ?_
   refine pv tb 1 rfl ?_
   refine TO_nil ?_
   refine T_seq ?_
   refine T_cond (t := decide ((t_3 : Int) < (query0.atoms.length : Int))) rfl (fun d4 => ?_) (fun d4 => ?_)
   ·replace d4 := of_decide_eq_true d4
    obtain ⟨x_t_3, hx_t_3⟩ : ∃ v, (query0.atoms)[t_3]? = some v := ⟨_, List.getElem?_eq_getElem (by omega)⟩
    obtain ⟨C4_, H, K4_⟩ := forS_step L4_ hx_t_3
    rw [hb4] at H
    refine T_skip ?_
    refine T_seq ?_
    refine T_block ?_
    refine sr ?_
    refine Tp rfl rfl (pur_ixT (T := tAtom) sl27 rfl rfl rfl hx_t_3 rfl) rfl ?_
    refine Tp rfl rfl (pur_ldTK (T := tAtom) (i := t_3) (off := 0) rfl agg150 rfl rfl hx_t_3 (by decide) rfl) rfl ?_
    refine TO_cons rfl (TOp_alloc zero150 rfl rfl ?_)
    refine TO_cons rfl (TOp_storeB sz150 rfl rfl rfl rfl rfl rfl rfl (by decide) (lb rfl) rfl ?_)
    refine TO_st (σ' := [.box [(intA query0.variableCount), (sl tAtom query0.atoms), (sl tInt query0.free)], .box [(intA 0), .n, .n], .row (flat tInt.enc us_1), .dead, .dead, .box [(intA query0.variableCount), (.m [6] 0 box5_atoms.length tAtom.k), (.m [2] 0 us_1.length tInt.k)], .row (flat tAtom.own box5_atoms), .box [(intA x_t_3.relation), (sl tInt x_t_3.terms)]]) rfl ?_
    refine TO_nil ?_
    obtain ⟨r_5, h_6, H⟩ := bind_inv H
    obtain ⟨us_7, h_8, H⟩ := bind_inv H
    refine T_pad ?_
    refine T_pad ?_
    refine T_pad ?_
    refine T_regionPh 8 7 mixed rfl (by kernel_rfl) ?_
    refine pa tb [0, 1, 2] 4 rfl (by kernel_rfl) rfl ?_
    refine t1 3 (by kernel_rfl) rfl rfl (TOp_callO (call_static ent139 rfl) rfl (m_impl_copyAtom_own _ _ h_6) rfl rfl rfl ?_)
    refine tae [(2, (.b 1 0)), (3, (.b 5 0)), (5, (.b 7 0)), (14, (sl tAtom query0.atoms)), (15, (intA (query0.atoms.length : Int))), (16, (intA (t_3 : Int))), (20, (.b 5 1)), (21, (.m [6] 0 box5_atoms.length tAtom.k)), (22, (.g (tAtom.enc x_t_3))), (23, (.g [(intA r_5.relation), (.m [11] 0 r_5.terms.length tInt.k)]))] rfl ?_
    refine TA_st (σ' := [.dead, .dead, .row (flat tInt.enc us_1), .dead, .dead, .dead, .row (flat tAtom.own box5_atoms), .dead, .dead, .dead, .dead, .row (flat tInt.own r_5.terms)]) rfl ?_
    refine tmw 8 11 (by decide) (lb rfl) rfl rfl (lb rfl) rfl ?_
    refine t1 4 (by kernel_rfl) rfl rfl (TOp_ghost (E' := [(2, (.b 1 0)), (3, (.b 5 0)), (5, (.b 7 0)), (14, (sl tAtom query0.atoms)), (15, (intA (query0.atoms.length : Int))), (16, (intA (t_3 : Int))), (20, (.b 5 1)), (21, (.m [6] 0 box5_atoms.length tAtom.k)), (22, (.g (tAtom.enc x_t_3))), (23, (.g [(intA r_5.relation), (.m [8] 0 r_5.terms.length tInt.k)]))]) (σ' := [.dead, .dead, .row (flat tInt.enc us_1), .dead, .dead, .dead, .row (flat tAtom.own box5_atoms), .dead, .row (flat tInt.own r_5.terms), .dead, .dead]) (by exact Ghost.weak (w0 11)) (TOp_litB (nn := 1) (k := 2) sl27 zero150 rfl rfl rfl rfl (by decide) ?_))
    refine TA_st (σ' := [.dead, .dead, .row (flat tInt.enc us_1), .dead, .dead, .dead, .row (flat tAtom.own box5_atoms), .dead, .row (flat tInt.own r_5.terms), .dead, .dead, .box [(intA r_5.relation), (.m [8] 0 r_5.terms.length tInt.k)]]) rfl ?_
    refine tmw 10 6 (by decide) (lb rfl) rfl rfl (lb rfl) rfl ?_
    refine t1 5 (by kernel_rfl) rfl rfl (TOp_boxify 10 rfl (lb rfl) (TOp_appB (T := tAtom) (xs := box5_atoms) (v := r_5) sl27 zero150 rfl bytes150 (by decide) rfl rfl rfl rfl rfl rfl rfl rfl h_8 (lb rfl) ?_))
    refine tae [(2, (.b 1 0)), (3, (.b 5 0)), (5, (.b 7 0)), (14, (sl tAtom query0.atoms)), (15, (intA (query0.atoms.length : Int))), (16, (intA (t_3 : Int))), (20, (.b 5 1)), (22, (.g (tAtom.enc x_t_3))), (25, .m [12] 0 (box5_atoms.length + 1) tAtom.k)] rfl ?_
    refine TA_st (σ' := [.dead, .dead, .row (flat tInt.enc us_1), .dead, .dead, .dead, .dead, .dead, .row (flat tInt.own r_5.terms), .dead, .dead, .box [(intA r_5.relation), (.m [8] 0 r_5.terms.length tInt.k)], .box (flat tAtom.own box5_atoms ++ [(intA r_5.relation), (.m [8] 0 r_5.terms.length tInt.k)])]) rfl ?_
    refine TA_absorbA (pr := flat tAtom.own box5_atoms) 12 1 8 rfl rfl rfl (by decide) tInt.pos (flat_len tInt.lenO _) (lb rfl) (lb rfl) rfl (nms_dead (nms_dead (nms_row (nms_dead (nms_dead (nms_dead (nms_dead (nms_dead (nms_row (nms_dead (nms_dead (nms_box rfl (nms_box (namesA namesL_own rfl) nms_nil))))))))))))) ?_
    refine TA_st (σ' := [.dead, .dead, .row (flat tInt.enc us_1), .dead, .dead, .dead, .dead, .dead, .dead, .dead, .dead, .box [(intA r_5.relation), (.m [8] 0 r_5.terms.length tInt.k)], .box (flat tAtom.own box5_atoms ++ [(intA r_5.relation), .o tInt.k (flat tInt.own r_5.terms)])]) rfl ?_
    refine TA_rowifyT (T := tAtom) (xs := box5_atoms) (v := r_5) 12 rfl rfl h_8 (lb rfl) ?_
    refine TA_st (σ' := [.dead, .dead, .row (flat tInt.enc us_1), .dead, .dead, .dead, .dead, .dead, .dead, .dead, .dead, .box [(intA r_5.relation), (.m [8] 0 r_5.terms.length tInt.k)], .row (flat tAtom.own us_7)]) rfl ?_
    refine TA_move 10 12 (by decide) (lb rfl) rfl rfl (lb rfl) ?_
    refine TA_env (E' := [(2, (.b 1 0)), (3, (.b 5 0)), (5, (.b 7 0)), (14, (sl tAtom query0.atoms)), (15, (intA (query0.atoms.length : Int))), (16, (intA (t_3 : Int))), (20, (.b 5 1)), (22, (.g (tAtom.enc x_t_3))), (25, (.m [10] 0 us_7.length tAtom.k))]) ⟨rfl, rfl, rfl, rfl, rfl, rfl, rfl, rfl, (congrArg (fun q => A.m [10] 0 q tAtom.k) (app_len h_8)), trivial⟩ ?_
    refine TA_kill 11 (lb rfl) ?_
    refine TA_st (σ' := [.dead, .dead, .row (flat tInt.enc us_1), .dead, .dead, .dead, .dead, .dead, .dead, .dead, .row (flat tAtom.own us_7), .dead, .dead]) rfl ?_
    refine pa tb [6] 0 rfl (by kernel_rfl) rfl ?_
    refine TA_nil (by kernel_rfl) ?_
    refine TA_st (σ' := [.box [(intA query0.variableCount), (sl tAtom query0.atoms), (sl tInt query0.free)], .box [(intA 0), .n, .n], .row (flat tInt.enc us_1), .dead, .dead, .box [(intA query0.variableCount), (.m [6] 0 box5_atoms.length tAtom.k), (.m [2] 0 us_1.length tInt.k)], .dead, .box [(intA x_t_3.relation), (sl tInt x_t_3.terms)], .dead, .dead, .row (flat tAtom.own us_7), .dead, .dead]) rfl ?_
    refine tmv 6 10 (by decide) (lb rfl) rfl rfl (lb rfl) ?_
    refine TA_st (σ' := [.box [(intA query0.variableCount), (sl tAtom query0.atoms), (sl tInt query0.free)], .box [(intA 0), .n, .n], .row (flat tInt.enc us_1), .dead, .dead, .box [(intA query0.variableCount), .j, (.m [2] 0 us_1.length tInt.k)], .row (flat tAtom.own us_7), .box [(intA x_t_3.relation), (sl tInt x_t_3.terms)], .dead, .dead, .dead, .dead, .dead]) rfl ?_
    refine t1 7 (by kernel_rfl) rfl rfl (TOp_storeB sz27 rfl rfl rfl rfl rfl rfl rfl (by decide) (lb rfl) rfl ?_)
    refine TA_st (σ' := [.box [(intA query0.variableCount), (sl tAtom query0.atoms), (sl tInt query0.free)], .box [(intA 0), .n, .n], .row (flat tInt.enc us_1), .dead, .dead, .box [(intA query0.variableCount), (.m [6] 0 us_7.length tAtom.k), (.m [2] 0 us_1.length tInt.k)], .row (flat tAtom.own us_7), .box [(intA x_t_3.relation), (sl tInt x_t_3.terms)], .dead, .dead, .dead, .dead, .dead]) rfl ?_
    refine TA_nil (by kernel_rfl) ?_
    refine T_region ?_
    refine Tp rfl rfl (pur_add rfl rfl rfl (fits64 (by omega) (by omega))) rfl ?_
    refine pv tb 1 rfl ?_
    refine TO_nil ?_
    obtain rfl := some_inj H
    exact again (query0.atoms.length - (t_3 + 1)) (t_3 + 1, us_7) (by omega) (w0 7) ⟨rfl, K4_⟩
   ·replace d4 := of_decide_eq_false d4
    obtain rfl := forS_end L4_ (by omega)
    refine T_exit ?_
    refine then_exit ?_
    refine then_exit ?_
    refine block_exit ?_
    replace H := N4_
    refine sr ?_
    refine pv tb 1 rfl ?_
    refine TO_cons rfl (TOp_storeB sz29 rfl rfl rfl rfl rfl rfl rfl (by decide) (lb rfl) rfl ?_)
    refine TO_st (σ' := [.box [(intA query0.variableCount), (sl tAtom query0.atoms), (sl tInt query0.free)], .box [(intA query0.variableCount), (.m [6] 0 box5_atoms.length tAtom.k), (.m [2] 0 us_1.length tInt.k)], .row (flat tInt.enc us_1), .dead, .dead, .box [(intA query0.variableCount), (.m [6] 0 box5_atoms.length tAtom.k), (.m [2] 0 us_1.length tInt.k)], .row (flat tAtom.own box5_atoms)]) rfl ?_
    refine TO_nil ?_
    refine T_ret ?_
    obtain rfl := some_inj H
    exact end_pick (.cellK rfl agg29 rfl (lb rfl) .nil) rfl [6, 2] (by decide) rfl rfl rfl rfl rfl rfl
theorem m_impl_copyQuery_ok (query0 : Query) (r : Query) (H : m_impl_copyQuery query0 = some r) : FnV prg 87 [(.g (tQuery.enc query0))] (.g (tQuery.enc r)) := (m_impl_copyQuery_own query0 r H).frz (frzOK_g (frz_cons (frz_loose rfl) (frz_cons (frzT (T := tAtom) rfl) (frz_cons (frzT (T := tInt) rfl) frz_nil))).1 (frz_cons (frz_loose rfl) (frz_cons (frzT (T := tAtom) rfl) (frz_cons (frzT (T := tInt) rfl) frz_nil))).2)
end Go.Proofs.Ytjdpolnakhmkmaa

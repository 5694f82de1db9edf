/- Walks. -/
import Derived.Test.YtjdpolnakhmkmaaM1
set_option linter.unusedVariables false
set_option linter.unusedSimpArgs false
set_option maxRecDepth 4000
namespace Go.Proofs.Ytjdpolnakhmkmaa
open Go Go.Proofs Go.Sep
set_option maxHeartbeats 1000000 in
/-- laws.szIntS -/
theorem m_laws_szIntS_ok (a0 : (List Int)) (left1 : Int) (r : Int) (H : m_laws_szIntS a0 left1 = some r) : FnV prg 83 [(sl tInt a0), (intA left1)] (intA r) := by
  unfold m_laws_szIntS at H
  refine fnV_of_T Try.func83 rfl rfl (Nat.le_of_ble_eq_true rfl) ?_
  refine T_env (E' := [(0, (sl tInt a0)), (1, (intA left1))]) ⟨rfl, rfl, trivial⟩ ?_
  refine sr ?_
  refine Tp rfl rfl (pur_assign rfl) rfl ?_
  refine TO_nil ?_
  refine T_env (E' := [(0, (sl tInt a0)), (1, (intA left1))]) ⟨rfl, rfl, trivial⟩ ?_
  refine sr ?_
  refine Tp rfl rfl (pur_move rfl) rfl ?_
  refine Tp rfl rfl (pur_move rfl) rfl ?_
  refine Tp rfl rfl (pur_lenT (T := tInt) sl23 rfl rfl) rfl ?_
  refine Tp rfl rfl (pur_wsub rfl rfl rfl) rfl ?_
  refine Tp rfl rfl (pur_assign rfl) rfl ?_
  refine TO_nil ?_
  refine T_env (E' := [(1, (intA (w64 (left1 - (a0.length : Int)))))]) ⟨rfl, trivial⟩ ?_
  refine T_seq ?_
  refine sr ?_
  refine Tp rfl rfl (pur_move rfl) rfl ?_
  refine Tp rfl rfl (pur_lss rfl rfl rfl) rfl ?_
  refine TO_nil ?_
  refine T_env (E' := [(1, (intA (w64 (left1 - (a0.length : Int))))), (10, (boolA (decide ((w64 (left1 - (a0.length : Int))) < 0))))]) ⟨rfl, rfl, trivial⟩ ?_
  refine T_cond (t := decide ((w64 (left1 - (a0.length : Int))) < 0)) rfl (fun c_1 => ?_) (fun c_1 => ?_)
  · replace H := cond_t c_1 H
    refine sr ?_
    refine Tp rfl rfl (pur_assign rfl) rfl ?_
    refine TO_nil ?_
    refine T_env (E' := [(4, (intA (-1)))]) ⟨rfl, trivial⟩ ?_
    refine T_ret ?_
    refine then_ret ?_
    obtain rfl := some_inj H
    refine end_ret (.tmp .nil) rfl rfl ⟨?_, rfl⟩
    rfl
  · replace H := cond_f c_1 H
    refine T_skip ?_
    refine T_env (E' := [(1, (intA (w64 (left1 - (a0.length : Int)))))]) ⟨rfl, trivial⟩ ?_
    refine sr ?_
    refine Tp rfl rfl (pur_move rfl) rfl ?_
    refine Tp rfl rfl (pur_assign rfl) rfl ?_
    refine TO_nil ?_
    refine T_env (E' := [(4, (intA (w64 (left1 - (a0.length : Int)))))]) ⟨rfl, trivial⟩ ?_
    refine T_ret ?_
    obtain rfl := some_inj H
    refine end_ret (.tmp .nil) rfl rfl ⟨?_, rfl⟩
    rfl

set_option maxHeartbeats 1000000 in
/-- laws.szAtom -/
theorem m_laws_szAtom_ok (a0 : Atom) (left1 : Int) (r : Int) (H : m_laws_szAtom a0 left1 = some r) : FnV prg 136 [(.g (tAtom.enc a0)), (intA left1)] (intA r) := by
  unfold m_laws_szAtom at H
  refine fnV_of_T Try.func136 rfl rfl (Nat.le_of_ble_eq_true rfl) ?_
  refine T_env (E' := [(0, (.g (tAtom.enc a0))), (1, (intA left1))]) ⟨rfl, rfl, trivial⟩ ?_
  refine sr ?_
  refine TO_cons rfl (TOp_box rfl (boxAll rfl) rfl rfl ?_)
  refine Tp rfl rfl (pur_assign rfl) rfl ?_
  refine TO_nil ?_
  refine T_env (E' := [(1, (intA left1)), (2, (.b 0 0))]) ⟨rfl, rfl, trivial⟩ ?_
  refine sr ?_
  refine Tp rfl rfl (pur_fa_b fld149_1 rfl rfl) rfl ?_
  refine Tp rfl rfl (pur_ld_b one23 rfl rfl rfl rfl) rfl ?_
  refine Tp rfl rfl (pur_move rfl) rfl ?_
  obtain ⟨r_1, h_2, H⟩ := bind_inv H
  refine TO_cons rfl (TOp_callV (call_static ent83 rfl) (m_laws_szIntS_ok _ _ _ h_2) rfl rfl rfl ?_)
  refine Tp rfl rfl (pur_assign rfl) rfl ?_
  refine TO_nil ?_
  refine T_env (E' := [(1, (intA r_1))]) ⟨rfl, trivial⟩ ?_
  refine T_seq ?_
  refine sr ?_
  refine Tp rfl rfl (pur_move rfl) rfl ?_
  refine Tp rfl rfl (pur_lss rfl rfl rfl) rfl ?_
  refine TO_nil ?_
  refine T_env (E' := [(1, (intA r_1)), (10, (boolA (decide (r_1 < 0))))]) ⟨rfl, rfl, trivial⟩ ?_
  refine T_cond (t := decide (r_1 < 0)) rfl (fun c_3 => ?_) (fun c_3 => ?_)
  · replace H := cond_t c_3 H
    refine sr ?_
    refine Tp rfl rfl (pur_assign rfl) rfl ?_
    refine TO_nil ?_
    refine T_env (E' := [(4, (intA (-1)))]) ⟨rfl, trivial⟩ ?_
    refine T_ret ?_
    refine then_ret ?_
    obtain rfl := some_inj H
    refine end_ret (.tmp .nil) rfl rfl ⟨?_, rfl⟩
    rfl
  · replace H := cond_f c_3 H
    refine T_skip ?_
    refine T_env (E' := [(1, (intA r_1))]) ⟨rfl, trivial⟩ ?_
    refine sr ?_
    refine Tp rfl rfl (pur_move rfl) rfl ?_
    refine Tp rfl rfl (pur_assign rfl) rfl ?_
    refine TO_nil ?_
    refine T_env (E' := [(4, (intA r_1))]) ⟨rfl, trivial⟩ ?_
    refine T_ret ?_
    obtain rfl := some_inj H
    refine end_ret (.tmp .nil) rfl rfl ⟨?_, rfl⟩
    rfl

set_option maxHeartbeats 1000000 in
/-- laws.szAtomS -/
theorem m_laws_szAtomS_ok (a0 : (List Atom)) (left1 : Int) (r : Int) (H : m_laws_szAtomS a0 left1 = some r) : FnV prg 82 [(sl tAtom a0), (intA left1)] (intA r) := by
  unfold m_laws_szAtomS at H
  refine fnV_of_T Try.func82 rfl rfl (Nat.le_of_ble_eq_true rfl) ?_
  refine T_env (E' := [(0, (sl tAtom a0)), (1, (intA left1))]) ⟨rfl, rfl, trivial⟩ ?_
  refine sr ?_
  refine Tp rfl rfl (pur_assign rfl) rfl ?_
  refine TO_nil ?_
  refine T_env (E' := [(0, (sl tAtom a0)), (1, (intA left1))]) ⟨rfl, rfl, trivial⟩ ?_
  refine sr ?_
  refine Tp rfl rfl (pur_move rfl) rfl ?_
  refine Tp rfl rfl (pur_move rfl) rfl ?_
  refine Tp rfl rfl (pur_lenT (T := tAtom) sl22 rfl rfl) rfl ?_
  refine Tp rfl rfl (pur_wsub rfl rfl rfl) rfl ?_
  refine Tp rfl rfl (pur_assign rfl) rfl ?_
  refine TO_nil ?_
  refine T_env (E' := [(0, (sl tAtom a0)), (1, (intA (w64 (left1 - (a0.length : Int)))))]) ⟨rfl, rfl, trivial⟩ ?_
  refine T_seq ?_
  refine sr ?_
  refine Tp rfl rfl (pur_move rfl) rfl ?_
  refine Tp rfl rfl (pur_lss rfl rfl rfl) rfl ?_
  refine TO_nil ?_
  refine T_env (E' := [(0, (sl tAtom a0)), (1, (intA (w64 (left1 - (a0.length : Int))))), (11, (boolA (decide ((w64 (left1 - (a0.length : Int))) < 0))))]) ⟨rfl, rfl, rfl, trivial⟩ ?_
  refine T_cond (t := decide ((w64 (left1 - (a0.length : Int))) < 0)) rfl (fun c_1 => ?_) (fun c_1 => ?_)
  · replace H := cond_t c_1 H
    refine sr ?_
    refine Tp rfl rfl (pur_assign rfl) rfl ?_
    refine TO_nil ?_
    refine T_env (E' := [(4, (intA (-1)))]) ⟨rfl, trivial⟩ ?_
    refine T_ret ?_
    refine then_ret ?_
    obtain rfl := some_inj H
    refine end_ret (.tmp .nil) rfl rfl ⟨?_, rfl⟩
    rfl
  · replace H := cond_f c_1 H
    refine T_skip ?_
    refine T_env (E' := [(0, (sl tAtom a0)), (1, (intA (w64 (left1 - (a0.length : Int)))))]) ⟨rfl, rfl, trivial⟩ ?_
    refine T_seq ?_
    refine sr ?_
    refine Tp rfl rfl (pur_assign rfl) rfl ?_
    refine TO_nil ?_
    refine T_env (E' := [(0, (sl tAtom a0)), (1, (intA (w64 (left1 - (a0.length : Int))))), (5, (intA 0))]) ⟨rfl, rfl, rfl, trivial⟩ ?_
    obtain ⟨O3_, L3_, N3_⟩ := bind_inv H
    clear H
    obtain ⟨B3_, hb3, L3_⟩ := gen_forL L3_
    refine T_block ?_
    refine T_loopX (fun k => fun (x_ : Nat × Int) => k = a0.length - x_.1 ∧ forL B3_ (a0.drop x_.1) (x_.1 : Int) x_.2 = some O3_) (fun (x_ : Nat × Int) => [(0, (sl tAtom a0)), (1, (intA x_.2)), (5, (intA (x_.1 : Int)))]) (fun (x_ : Nat × Int) => []) _ (0, (w64 (left1 - (a0.length : Int)))) (wp 0 (lb rfl) rfl rfl rfl rfl ⟨rfl, rfl, rfl, trivial⟩) ⟨rfl, L3_⟩ ?_
    rintro _ ⟨i_2, left1⟩ ⟨rfl, L3_⟩
    refine T_env (E' := [(0, (sl tAtom a0)), (1, (intA left1)), (5, (intA (i_2 : Int)))]) ⟨rfl, rfl, rfl, trivial⟩ ?_
    refine T_st (σ' := []) rfl ?_
    refine T_fact (len_sl (T := tAtom) (.tmp 0) rfl) (fun hl3 => ?_)
    refine T_seq ?_
    refine sr ?_
    refine Tp rfl rfl (pur_move rfl) rfl ?_
    refine Tp rfl rfl (pur_move rfl) rfl ?_
    refine Tp rfl rfl (pur_lenT (T := tAtom) sl22 rfl rfl) rfl ?_
    refine Tp rfl rfl (pur_lss rfl rfl rfl) rfl ?_
    refine TO_nil ?_
    refine T_env (E' := [(0, (sl tAtom a0)), (1, (intA left1)), (5, (intA (i_2 : Int))), (15, (boolA (decide ((i_2 : Int) < (a0.length : Int)))))]) ⟨rfl, rfl, rfl, rfl, trivial⟩ ?_
    refine T_cond (t := decide ((i_2 : Int) < (a0.length : Int))) rfl (fun d3 => ?_) (fun d3 => ?_)
    · replace d3 := of_decide_eq_true d3
      obtain ⟨x_i_2, hx_i_2⟩ : ∃ v, (a0)[i_2]? = some v := ⟨_, List.getElem?_eq_getElem (by omega)⟩
      obtain ⟨C3_, H, K3_⟩ := forL_step L3_ hx_i_2
      rw [hb3] at H
      refine T_skip ?_
      refine T_env (E' := [(0, (sl tAtom a0)), (1, (intA left1)), (5, (intA (i_2 : Int)))]) ⟨rfl, rfl, rfl, trivial⟩ ?_
      refine T_seq ?_
      refine T_block ?_
      refine sr ?_
      refine Tp rfl rfl (pur_move rfl) rfl ?_
      refine Tp rfl rfl (pur_move rfl) rfl ?_
      refine Tp rfl rfl (pur_ixT (T := tAtom) sl22 rfl rfl rfl hx_i_2 rfl) rfl ?_
      refine Tp rfl rfl (pur_ldTK (T := tAtom) (i := i_2) (off := 0) rfl agg149 rfl rfl hx_i_2 (by decide) rfl) rfl ?_
      refine Tp rfl rfl (pur_move rfl) rfl ?_
      obtain ⟨r_4, h_5, H⟩ := bind_inv H
      refine TO_cons rfl (TOp_callV (call_static ent136 rfl) (m_laws_szAtom_ok _ _ _ h_5) rfl rfl rfl ?_)
      refine Tp rfl rfl (pur_assign rfl) rfl ?_
      refine TO_nil ?_
      refine T_env (E' := [(0, (sl tAtom a0)), (1, (intA r_4)), (5, (intA (i_2 : Int)))]) ⟨rfl, rfl, rfl, trivial⟩ ?_
      refine sr ?_
      refine Tp rfl rfl (pur_move rfl) rfl ?_
      refine Tp rfl rfl (pur_lss rfl rfl rfl) rfl ?_
      refine TO_nil ?_
      refine T_env (E' := [(0, (sl tAtom a0)), (1, (intA r_4)), (5, (intA (i_2 : Int))), (25, (boolA (decide (r_4 < 0))))]) ⟨rfl, rfl, rfl, rfl, trivial⟩ ?_
      refine T_cond (t := decide (r_4 < 0)) rfl (fun c_6 => ?_) (fun c_6 => ?_)
      · replace H := cond_t c_6 H
        refine sr ?_
        refine Tp rfl rfl (pur_assign rfl) rfl ?_
        refine TO_nil ?_
        refine T_env (E' := [(4, (intA (-1)))]) ⟨rfl, trivial⟩ ?_
        refine T_ret ?_
        refine block_ret ?_
        refine then_ret ?_
        refine then_ret ?_
        refine block_ret ?_
        refine then_ret ?_
        obtain rfl := some_inj H
        obtain rfl := some_inj K3_
        replace H := onS_r N3_
        obtain rfl := some_inj H
        refine end_ret (.tmp .nil) rfl rfl ⟨?_, rfl⟩
        rfl
      · replace H := cond_f c_6 H
        refine T_skip ?_
        refine T_env (E' := [(0, (sl tAtom a0)), (1, (intA r_4)), (5, (intA (i_2 : Int)))]) ⟨rfl, rfl, rfl, trivial⟩ ?_
        refine T_region ?_
        refine Tp rfl rfl (pur_move rfl) rfl ?_
        refine Tp rfl rfl (pur_add rfl rfl rfl (fits64 (by omega) (by omega))) rfl ?_
        refine Tp rfl rfl (pur_assign rfl) rfl ?_
        refine TO_nil ?_
        obtain rfl := some_inj H
        exact again (a0.length - (i_2 + 1)) (i_2 + 1, r_4) (by omega) (wp 0 (lb rfl) rfl rfl rfl rfl ⟨rfl, rfl, rfl, trivial⟩) ⟨rfl, K3_⟩
    · replace d3 := of_decide_eq_false d3
      obtain rfl := forL_end L3_ (by omega)
      refine T_exit ?_
      refine then_exit ?_
      refine then_exit ?_
      refine block_exit ?_
      replace H := onS_l N3_
      refine T_env (E' := [(1, (intA left1))]) ⟨rfl, trivial⟩ ?_
      refine sr ?_
      refine Tp rfl rfl (pur_move rfl) rfl ?_
      refine Tp rfl rfl (pur_assign rfl) rfl ?_
      refine TO_nil ?_
      refine T_env (E' := [(4, (intA left1))]) ⟨rfl, trivial⟩ ?_
      refine T_ret ?_
      obtain rfl := some_inj H
      refine end_ret (.tmp .nil) rfl rfl ⟨?_, rfl⟩
      rfl

set_option maxHeartbeats 1000000 in
/-- laws.szQuery -/
theorem m_laws_szQuery_ok (a0 : Query) (left1 : Int) (r : Int) (H : m_laws_szQuery a0 left1 = some r) : FnV prg 15 [(.g (tQuery.enc a0)), (intA left1)] (intA r) := by
  unfold m_laws_szQuery at H
  refine fnV_of_T Try.func15 rfl rfl (Nat.le_of_ble_eq_true rfl) ?_
  refine T_env (E' := [(0, (.g (tQuery.enc a0))), (1, (intA left1))]) ⟨rfl, rfl, trivial⟩ ?_
  refine sr ?_
  refine TO_cons rfl (TOp_box rfl (boxAll rfl) rfl rfl ?_)
  refine Tp rfl rfl (pur_assign rfl) rfl ?_
  refine TO_nil ?_
  refine T_env (E' := [(1, (intA left1)), (2, (.b 0 0))]) ⟨rfl, rfl, trivial⟩ ?_
  refine sr ?_
  refine Tp rfl rfl (pur_fa_b fld25_1 rfl rfl) rfl ?_
  refine Tp rfl rfl (pur_ld_b one22 rfl rfl rfl rfl) rfl ?_
  refine Tp rfl rfl (pur_move rfl) rfl ?_
  obtain ⟨r_1, h_2, H⟩ := bind_inv H
  refine TO_cons rfl (TOp_callV (call_static ent82 rfl) (m_laws_szAtomS_ok _ _ _ h_2) rfl rfl rfl ?_)
  refine Tp rfl rfl (pur_assign rfl) rfl ?_
  refine TO_nil ?_
  refine T_env (E' := [(1, (intA r_1)), (2, (.b 0 0))]) ⟨rfl, rfl, trivial⟩ ?_
  refine T_seq ?_
  refine sr ?_
  refine Tp rfl rfl (pur_move rfl) rfl ?_
  refine Tp rfl rfl (pur_lss rfl rfl rfl) rfl ?_
  refine TO_nil ?_
  refine T_env (E' := [(1, (intA r_1)), (2, (.b 0 0)), (10, (boolA (decide (r_1 < 0))))]) ⟨rfl, rfl, rfl, trivial⟩ ?_
  refine T_cond (t := decide (r_1 < 0)) rfl (fun c_3 => ?_) (fun c_3 => ?_)
  · replace H := cond_t c_3 H
    refine sr ?_
    refine Tp rfl rfl (pur_assign rfl) rfl ?_
    refine TO_nil ?_
    refine T_env (E' := [(4, (intA (-1)))]) ⟨rfl, trivial⟩ ?_
    refine T_ret ?_
    refine then_ret ?_
    obtain rfl := some_inj H
    refine end_ret (.tmp .nil) rfl rfl ⟨?_, rfl⟩
    rfl
  · replace H := cond_f c_3 H
    refine T_skip ?_
    refine T_env (E' := [(1, (intA r_1)), (2, (.b 0 0))]) ⟨rfl, rfl, trivial⟩ ?_
    refine sr ?_
    refine Tp rfl rfl (pur_fa_b fld25_2 rfl rfl) rfl ?_
    refine Tp rfl rfl (pur_ld_b one23 rfl rfl rfl rfl) rfl ?_
    refine Tp rfl rfl (pur_move rfl) rfl ?_
    obtain ⟨r_4, h_5, H⟩ := bind_inv H
    refine TO_cons rfl (TOp_callV (call_static ent83 rfl) (m_laws_szIntS_ok _ _ _ h_5) rfl rfl rfl ?_)
    refine Tp rfl rfl (pur_assign rfl) rfl ?_
    refine TO_nil ?_
    refine T_env (E' := [(1, (intA r_4))]) ⟨rfl, trivial⟩ ?_
    refine T_seq ?_
    refine sr ?_
    refine Tp rfl rfl (pur_move rfl) rfl ?_
    refine Tp rfl rfl (pur_lss rfl rfl rfl) rfl ?_
    refine TO_nil ?_
    refine T_env (E' := [(1, (intA r_4)), (16, (boolA (decide (r_4 < 0))))]) ⟨rfl, rfl, trivial⟩ ?_
    refine T_cond (t := decide (r_4 < 0)) rfl (fun c_6 => ?_) (fun c_6 => ?_)
    · replace H := cond_t c_6 H
      refine sr ?_
      refine Tp rfl rfl (pur_assign rfl) rfl ?_
      refine TO_nil ?_
      refine T_env (E' := [(4, (intA (-1)))]) ⟨rfl, trivial⟩ ?_
      refine T_ret ?_
      refine then_ret ?_
      obtain rfl := some_inj H
      refine end_ret (.tmp .nil) rfl rfl ⟨?_, rfl⟩
      rfl
    · replace H := cond_f c_6 H
      refine T_skip ?_
      refine T_env (E' := [(1, (intA r_4))]) ⟨rfl, trivial⟩ ?_
      refine sr ?_
      refine Tp rfl rfl (pur_move rfl) rfl ?_
      refine Tp rfl rfl (pur_assign rfl) rfl ?_
      refine TO_nil ?_
      refine T_env (E' := [(4, (intA r_4))]) ⟨rfl, trivial⟩ ?_
      refine T_ret ?_
      obtain rfl := some_inj H
      refine end_ret (.tmp .nil) rfl rfl ⟨?_, rfl⟩
      rfl

set_option maxHeartbeats 1000000 in
/-- laws.szFact -/
theorem m_laws_szFact_ok (a0 : Fact) (left1 : Int) (r : Int) (H : m_laws_szFact a0 left1 = some r) : FnV prg 54 [(.g (tFact.enc a0)), (intA left1)] (intA r) := by
  unfold m_laws_szFact at H
  refine fnV_of_T Try.func54 rfl rfl (Nat.le_of_ble_eq_true rfl) ?_
  refine T_env (E' := [(0, (.g (tFact.enc a0))), (1, (intA left1))]) ⟨rfl, rfl, trivial⟩ ?_
  refine sr ?_
  refine TO_cons rfl (TOp_box rfl (boxAll rfl) rfl rfl ?_)
  refine Tp rfl rfl (pur_assign rfl) rfl ?_
  refine TO_nil ?_
  refine T_env (E' := [(1, (intA left1)), (2, (.b 0 0))]) ⟨rfl, rfl, trivial⟩ ?_
  refine sr ?_
  refine Tp rfl rfl (pur_fa_b fld79_1 rfl rfl) rfl ?_
  refine Tp rfl rfl (pur_ld_b one23 rfl rfl rfl rfl) rfl ?_
  refine Tp rfl rfl (pur_move rfl) rfl ?_
  obtain ⟨r_1, h_2, H⟩ := bind_inv H
  refine TO_cons rfl (TOp_callV (call_static ent83 rfl) (m_laws_szIntS_ok _ _ _ h_2) rfl rfl rfl ?_)
  refine Tp rfl rfl (pur_assign rfl) rfl ?_
  refine TO_nil ?_
  refine T_env (E' := [(1, (intA r_1))]) ⟨rfl, trivial⟩ ?_
  refine T_seq ?_
  refine sr ?_
  refine Tp rfl rfl (pur_move rfl) rfl ?_
  refine Tp rfl rfl (pur_lss rfl rfl rfl) rfl ?_
  refine TO_nil ?_
  refine T_env (E' := [(1, (intA r_1)), (10, (boolA (decide (r_1 < 0))))]) ⟨rfl, rfl, trivial⟩ ?_
  refine T_cond (t := decide (r_1 < 0)) rfl (fun c_3 => ?_) (fun c_3 => ?_)
  · replace H := cond_t c_3 H
    refine sr ?_
    refine Tp rfl rfl (pur_assign rfl) rfl ?_
    refine TO_nil ?_
    refine T_env (E' := [(4, (intA (-1)))]) ⟨rfl, trivial⟩ ?_
    refine T_ret ?_
    refine then_ret ?_
    obtain rfl := some_inj H
    refine end_ret (.tmp .nil) rfl rfl ⟨?_, rfl⟩
    rfl
  · replace H := cond_f c_3 H
    refine T_skip ?_
    refine T_env (E' := [(1, (intA r_1))]) ⟨rfl, trivial⟩ ?_
    refine sr ?_
    refine Tp rfl rfl (pur_move rfl) rfl ?_
    refine Tp rfl rfl (pur_assign rfl) rfl ?_
    refine TO_nil ?_
    refine T_env (E' := [(4, (intA r_1))]) ⟨rfl, trivial⟩ ?_
    refine T_ret ?_
    obtain rfl := some_inj H
    refine end_ret (.tmp .nil) rfl rfl ⟨?_, rfl⟩
    rfl

set_option maxHeartbeats 1000000 in
/-- laws.szFactS -/
theorem m_laws_szFactS_ok (a0 : (List Fact)) (left1 : Int) (r : Int) (H : m_laws_szFactS a0 left1 = some r) : FnV prg 61 [(sl tFact a0), (intA left1)] (intA r) := by
  unfold m_laws_szFactS at H
  refine fnV_of_T Try.func61 rfl rfl (Nat.le_of_ble_eq_true rfl) ?_
  refine T_env (E' := [(0, (sl tFact a0)), (1, (intA left1))]) ⟨rfl, rfl, trivial⟩ ?_
  refine sr ?_
  refine Tp rfl rfl (pur_assign rfl) rfl ?_
  refine TO_nil ?_
  refine T_env (E' := [(0, (sl tFact a0)), (1, (intA left1))]) ⟨rfl, rfl, trivial⟩ ?_
  refine sr ?_
  refine Tp rfl rfl (pur_move rfl) rfl ?_
  refine Tp rfl rfl (pur_move rfl) rfl ?_
  refine Tp rfl rfl (pur_lenT (T := tFact) sl40 rfl rfl) rfl ?_
  refine Tp rfl rfl (pur_wsub rfl rfl rfl) rfl ?_
  refine Tp rfl rfl (pur_assign rfl) rfl ?_
  refine TO_nil ?_
  refine T_env (E' := [(0, (sl tFact a0)), (1, (intA (w64 (left1 - (a0.length : Int)))))]) ⟨rfl, rfl, trivial⟩ ?_
  refine T_seq ?_
  refine sr ?_
  refine Tp rfl rfl (pur_move rfl) rfl ?_
  refine Tp rfl rfl (pur_lss rfl rfl rfl) rfl ?_
  refine TO_nil ?_
  refine T_env (E' := [(0, (sl tFact a0)), (1, (intA (w64 (left1 - (a0.length : Int))))), (11, (boolA (decide ((w64 (left1 - (a0.length : Int))) < 0))))]) ⟨rfl, rfl, rfl, trivial⟩ ?_
  refine T_cond (t := decide ((w64 (left1 - (a0.length : Int))) < 0)) rfl (fun c_1 => ?_) (fun c_1 => ?_)
  · replace H := cond_t c_1 H
    refine sr ?_
    refine Tp rfl rfl (pur_assign rfl) rfl ?_
    refine TO_nil ?_
    refine T_env (E' := [(4, (intA (-1)))]) ⟨rfl, trivial⟩ ?_
    refine T_ret ?_
    refine then_ret ?_
    obtain rfl := some_inj H
    refine end_ret (.tmp .nil) rfl rfl ⟨?_, rfl⟩
    rfl
  · replace H := cond_f c_1 H
    refine T_skip ?_
    refine T_env (E' := [(0, (sl tFact a0)), (1, (intA (w64 (left1 - (a0.length : Int)))))]) ⟨rfl, rfl, trivial⟩ ?_
    refine T_seq ?_
    refine sr ?_
    refine Tp rfl rfl (pur_assign rfl) rfl ?_
    refine TO_nil ?_
    refine T_env (E' := [(0, (sl tFact a0)), (1, (intA (w64 (left1 - (a0.length : Int))))), (5, (intA 0))]) ⟨rfl, rfl, rfl, trivial⟩ ?_
    obtain ⟨O3_, L3_, N3_⟩ := bind_inv H
    clear H
    obtain ⟨B3_, hb3, L3_⟩ := gen_forL L3_
    refine T_block ?_
    refine T_loopX (fun k => fun (x_ : Nat × Int) => k = a0.length - x_.1 ∧ forL B3_ (a0.drop x_.1) (x_.1 : Int) x_.2 = some O3_) (fun (x_ : Nat × Int) => [(0, (sl tFact a0)), (1, (intA x_.2)), (5, (intA (x_.1 : Int)))]) (fun (x_ : Nat × Int) => []) _ (0, (w64 (left1 - (a0.length : Int)))) (wp 0 (lb rfl) rfl rfl rfl rfl ⟨rfl, rfl, rfl, trivial⟩) ⟨rfl, L3_⟩ ?_
    rintro _ ⟨i_2, left1⟩ ⟨rfl, L3_⟩
    refine T_env (E' := [(0, (sl tFact a0)), (1, (intA left1)), (5, (intA (i_2 : Int)))]) ⟨rfl, rfl, rfl, trivial⟩ ?_
    refine T_st (σ' := []) rfl ?_
    refine T_fact (len_sl (T := tFact) (.tmp 0) rfl) (fun hl3 => ?_)
    refine T_seq ?_
    refine sr ?_
    refine Tp rfl rfl (pur_move rfl) rfl ?_
    refine Tp rfl rfl (pur_move rfl) rfl ?_
    refine Tp rfl rfl (pur_lenT (T := tFact) sl40 rfl rfl) rfl ?_
    refine Tp rfl rfl (pur_lss rfl rfl rfl) rfl ?_
    refine TO_nil ?_
    refine T_env (E' := [(0, (sl tFact a0)), (1, (intA left1)), (5, (intA (i_2 : Int))), (15, (boolA (decide ((i_2 : Int) < (a0.length : Int)))))]) ⟨rfl, rfl, rfl, rfl, trivial⟩ ?_
    refine T_cond (t := decide ((i_2 : Int) < (a0.length : Int))) rfl (fun d3 => ?_) (fun d3 => ?_)
    · replace d3 := of_decide_eq_true d3
      obtain ⟨x_i_2, hx_i_2⟩ : ∃ v, (a0)[i_2]? = some v := ⟨_, List.getElem?_eq_getElem (by omega)⟩
      obtain ⟨C3_, H, K3_⟩ := forL_step L3_ hx_i_2
      rw [hb3] at H
      refine T_skip ?_
      refine T_env (E' := [(0, (sl tFact a0)), (1, (intA left1)), (5, (intA (i_2 : Int)))]) ⟨rfl, rfl, rfl, trivial⟩ ?_
      refine T_seq ?_
      refine T_block ?_
      refine sr ?_
      refine Tp rfl rfl (pur_move rfl) rfl ?_
      refine Tp rfl rfl (pur_move rfl) rfl ?_
      refine Tp rfl rfl (pur_ixT (T := tFact) sl40 rfl rfl rfl hx_i_2 rfl) rfl ?_
      refine Tp rfl rfl (pur_ldTK (T := tFact) (i := i_2) (off := 0) rfl agg79 rfl rfl hx_i_2 (by decide) rfl) rfl ?_
      refine Tp rfl rfl (pur_move rfl) rfl ?_
      obtain ⟨r_4, h_5, H⟩ := bind_inv H
      refine TO_cons rfl (TOp_callV (call_static ent54 rfl) (m_laws_szFact_ok _ _ _ h_5) rfl rfl rfl ?_)
      refine Tp rfl rfl (pur_assign rfl) rfl ?_
      refine TO_nil ?_
      refine T_env (E' := [(0, (sl tFact a0)), (1, (intA r_4)), (5, (intA (i_2 : Int)))]) ⟨rfl, rfl, rfl, trivial⟩ ?_
      refine sr ?_
      refine Tp rfl rfl (pur_move rfl) rfl ?_
      refine Tp rfl rfl (pur_lss rfl rfl rfl) rfl ?_
      refine TO_nil ?_
      refine T_env (E' := [(0, (sl tFact a0)), (1, (intA r_4)), (5, (intA (i_2 : Int))), (25, (boolA (decide (r_4 < 0))))]) ⟨rfl, rfl, rfl, rfl, trivial⟩ ?_
      refine T_cond (t := decide (r_4 < 0)) rfl (fun c_6 => ?_) (fun c_6 => ?_)
      · replace H := cond_t c_6 H
        refine sr ?_
        refine Tp rfl rfl (pur_assign rfl) rfl ?_
        refine TO_nil ?_
        refine T_env (E' := [(4, (intA (-1)))]) ⟨rfl, trivial⟩ ?_
        refine T_ret ?_
        refine block_ret ?_
        refine then_ret ?_
        refine then_ret ?_
        refine block_ret ?_
        refine then_ret ?_
        obtain rfl := some_inj H
        obtain rfl := some_inj K3_
        replace H := onS_r N3_
        obtain rfl := some_inj H
        refine end_ret (.tmp .nil) rfl rfl ⟨?_, rfl⟩
        rfl
      · replace H := cond_f c_6 H
        refine T_skip ?_
        refine T_env (E' := [(0, (sl tFact a0)), (1, (intA r_4)), (5, (intA (i_2 : Int)))]) ⟨rfl, rfl, rfl, trivial⟩ ?_
        refine T_region ?_
        refine Tp rfl rfl (pur_move rfl) rfl ?_
        refine Tp rfl rfl (pur_add rfl rfl rfl (fits64 (by omega) (by omega))) rfl ?_
        refine Tp rfl rfl (pur_assign rfl) rfl ?_
        refine TO_nil ?_
        obtain rfl := some_inj H
        exact again (a0.length - (i_2 + 1)) (i_2 + 1, r_4) (by omega) (wp 0 (lb rfl) rfl rfl rfl rfl ⟨rfl, rfl, rfl, trivial⟩) ⟨rfl, K3_⟩
    · replace d3 := of_decide_eq_false d3
      obtain rfl := forL_end L3_ (by omega)
      refine T_exit ?_
      refine then_exit ?_
      refine then_exit ?_
      refine block_exit ?_
      replace H := onS_l N3_
      refine T_env (E' := [(1, (intA left1))]) ⟨rfl, trivial⟩ ?_
      refine sr ?_
      refine Tp rfl rfl (pur_move rfl) rfl ?_
      refine Tp rfl rfl (pur_assign rfl) rfl ?_
      refine TO_nil ?_
      refine T_env (E' := [(4, (intA left1))]) ⟨rfl, trivial⟩ ?_
      refine T_ret ?_
      obtain rfl := some_inj H
      refine end_ret (.tmp .nil) rfl rfl ⟨?_, rfl⟩
      rfl

set_option maxHeartbeats 1000000 in
/-- laws.szRelation -/
theorem m_laws_szRelation_ok (a0 : Relation) (left1 : Int) (r : Int) (H : m_laws_szRelation a0 left1 = some r) : FnV prg 144 [(.g (tRelation.enc a0)), (intA left1)] (intA r) := by
  unfold m_laws_szRelation at H
  refine fnV_of_T Try.func144 rfl rfl (Nat.le_of_ble_eq_true rfl) ?_
  refine T_env (E' := [(0, (.g (tRelation.enc a0))), (1, (intA left1))]) ⟨rfl, rfl, trivial⟩ ?_
  refine sr ?_
  refine TO_cons rfl (TOp_box rfl (boxAll rfl) rfl rfl ?_)
  refine Tp rfl rfl (pur_assign rfl) rfl ?_
  refine TO_nil ?_
  refine T_env (E' := [(1, (intA left1)), (2, (.b 0 0))]) ⟨rfl, rfl, trivial⟩ ?_
  refine sr ?_
  refine Tp rfl rfl (pur_move rfl) rfl ?_
  refine Tp rfl rfl (pur_fa_b fld158_0 rfl rfl) rfl ?_
  refine Tp rfl rfl (pur_ld_b one9 rfl rfl rfl rfl) rfl ?_
  refine Tp rfl rfl (pur_len_s (by kernel_rfl) rfl rfl) rfl ?_
  refine Tp rfl rfl (pur_wsub rfl rfl rfl) rfl ?_
  refine Tp rfl rfl (pur_assign rfl) rfl ?_
  refine TO_nil ?_
  refine T_env (E' := [(1, (intA (w64 (left1 - (a0.name.size : Int)))))]) ⟨rfl, trivial⟩ ?_
  refine T_seq ?_
  refine sr ?_
  refine Tp rfl rfl (pur_move rfl) rfl ?_
  refine Tp rfl rfl (pur_lss rfl rfl rfl) rfl ?_
  refine TO_nil ?_
  refine T_env (E' := [(1, (intA (w64 (left1 - (a0.name.size : Int))))), (11, (boolA (decide ((w64 (left1 - (a0.name.size : Int))) < 0))))]) ⟨rfl, rfl, trivial⟩ ?_
  refine T_cond (t := decide ((w64 (left1 - (a0.name.size : Int))) < 0)) rfl (fun c_1 => ?_) (fun c_1 => ?_)
  · replace H := cond_t c_1 H
    refine sr ?_
    refine Tp rfl rfl (pur_assign rfl) rfl ?_
    refine TO_nil ?_
    refine T_env (E' := [(4, (intA (-1)))]) ⟨rfl, trivial⟩ ?_
    refine T_ret ?_
    refine then_ret ?_
    obtain rfl := some_inj H
    refine end_ret (.tmp .nil) rfl rfl ⟨?_, rfl⟩
    rfl
  · replace H := cond_f c_1 H
    refine T_skip ?_
    refine T_env (E' := [(1, (intA (w64 (left1 - (a0.name.size : Int)))))]) ⟨rfl, trivial⟩ ?_
    refine sr ?_
    refine Tp rfl rfl (pur_move rfl) rfl ?_
    refine Tp rfl rfl (pur_assign rfl) rfl ?_
    refine TO_nil ?_
    refine T_env (E' := [(4, (intA (w64 (left1 - (a0.name.size : Int)))))]) ⟨rfl, trivial⟩ ?_
    refine T_ret ?_
    obtain rfl := some_inj H
    refine end_ret (.tmp .nil) rfl rfl ⟨?_, rfl⟩
    rfl

set_option maxHeartbeats 1000000 in
/-- laws.szRelationS -/
theorem m_laws_szRelationS_ok (a0 : (List Relation)) (left1 : Int) (r : Int) (H : m_laws_szRelationS a0 left1 = some r) : FnV prg 92 [(sl tRelation a0), (intA left1)] (intA r) := by
  unfold m_laws_szRelationS at H
  refine fnV_of_T Try.func92 rfl rfl (Nat.le_of_ble_eq_true rfl) ?_
  refine T_env (E' := [(0, (sl tRelation a0)), (1, (intA left1))]) ⟨rfl, rfl, trivial⟩ ?_
  refine sr ?_
  refine Tp rfl rfl (pur_assign rfl) rfl ?_
  refine TO_nil ?_
  refine T_env (E' := [(0, (sl tRelation a0)), (1, (intA left1))]) ⟨rfl, rfl, trivial⟩ ?_
  refine sr ?_
  refine Tp rfl rfl (pur_move rfl) rfl ?_
  refine Tp rfl rfl (pur_move rfl) rfl ?_
  refine Tp rfl rfl (pur_lenT (T := tRelation) sl39 rfl rfl) rfl ?_
  refine Tp rfl rfl (pur_wsub rfl rfl rfl) rfl ?_
  refine Tp rfl rfl (pur_assign rfl) rfl ?_
  refine TO_nil ?_
  refine T_env (E' := [(0, (sl tRelation a0)), (1, (intA (w64 (left1 - (a0.length : Int)))))]) ⟨rfl, rfl, trivial⟩ ?_
  refine T_seq ?_
  refine sr ?_
  refine Tp rfl rfl (pur_move rfl) rfl ?_
  refine Tp rfl rfl (pur_lss rfl rfl rfl) rfl ?_
  refine TO_nil ?_
  refine T_env (E' := [(0, (sl tRelation a0)), (1, (intA (w64 (left1 - (a0.length : Int))))), (11, (boolA (decide ((w64 (left1 - (a0.length : Int))) < 0))))]) ⟨rfl, rfl, rfl, trivial⟩ ?_
  refine T_cond (t := decide ((w64 (left1 - (a0.length : Int))) < 0)) rfl (fun c_1 => ?_) (fun c_1 => ?_)
  · replace H := cond_t c_1 H
    refine sr ?_
    refine Tp rfl rfl (pur_assign rfl) rfl ?_
    refine TO_nil ?_
    refine T_env (E' := [(4, (intA (-1)))]) ⟨rfl, trivial⟩ ?_
    refine T_ret ?_
    refine then_ret ?_
    obtain rfl := some_inj H
    refine end_ret (.tmp .nil) rfl rfl ⟨?_, rfl⟩
    rfl
  · replace H := cond_f c_1 H
    refine T_skip ?_
    refine T_env (E' := [(0, (sl tRelation a0)), (1, (intA (w64 (left1 - (a0.length : Int)))))]) ⟨rfl, rfl, trivial⟩ ?_
    refine T_seq ?_
    refine sr ?_
    refine Tp rfl rfl (pur_assign rfl) rfl ?_
    refine TO_nil ?_
    refine T_env (E' := [(0, (sl tRelation a0)), (1, (intA (w64 (left1 - (a0.length : Int))))), (5, (intA 0))]) ⟨rfl, rfl, rfl, trivial⟩ ?_
    obtain ⟨O3_, L3_, N3_⟩ := bind_inv H
    clear H
    obtain ⟨B3_, hb3, L3_⟩ := gen_forL L3_
    refine T_block ?_
    refine T_loopX (fun k => fun (x_ : Nat × Int) => k = a0.length - x_.1 ∧ forL B3_ (a0.drop x_.1) (x_.1 : Int) x_.2 = some O3_) (fun (x_ : Nat × Int) => [(0, (sl tRelation a0)), (1, (intA x_.2)), (5, (intA (x_.1 : Int)))]) (fun (x_ : Nat × Int) => []) _ (0, (w64 (left1 - (a0.length : Int)))) (wp 0 (lb rfl) rfl rfl rfl rfl ⟨rfl, rfl, rfl, trivial⟩) ⟨rfl, L3_⟩ ?_
    rintro _ ⟨i_2, left1⟩ ⟨rfl, L3_⟩
    refine T_env (E' := [(0, (sl tRelation a0)), (1, (intA left1)), (5, (intA (i_2 : Int)))]) ⟨rfl, rfl, rfl, trivial⟩ ?_
    refine T_st (σ' := []) rfl ?_
    refine T_fact (len_sl (T := tRelation) (.tmp 0) rfl) (fun hl3 => ?_)
    refine T_seq ?_
    refine sr ?_
    refine Tp rfl rfl (pur_move rfl) rfl ?_
    refine Tp rfl rfl (pur_move rfl) rfl ?_
    refine Tp rfl rfl (pur_lenT (T := tRelation) sl39 rfl rfl) rfl ?_
    refine Tp rfl rfl (pur_lss rfl rfl rfl) rfl ?_
    refine TO_nil ?_
    refine T_env (E' := [(0, (sl tRelation a0)), (1, (intA left1)), (5, (intA (i_2 : Int))), (15, (boolA (decide ((i_2 : Int) < (a0.length : Int)))))]) ⟨rfl, rfl, rfl, rfl, trivial⟩ ?_
    refine T_cond (t := decide ((i_2 : Int) < (a0.length : Int))) rfl (fun d3 => ?_) (fun d3 => ?_)
    · replace d3 := of_decide_eq_true d3
      obtain ⟨x_i_2, hx_i_2⟩ : ∃ v, (a0)[i_2]? = some v := ⟨_, List.getElem?_eq_getElem (by omega)⟩
      obtain ⟨C3_, H, K3_⟩ := forL_step L3_ hx_i_2
      rw [hb3] at H
      refine T_skip ?_
      refine T_env (E' := [(0, (sl tRelation a0)), (1, (intA left1)), (5, (intA (i_2 : Int)))]) ⟨rfl, rfl, rfl, trivial⟩ ?_
      refine T_seq ?_
      refine T_block ?_
      refine sr ?_
      refine Tp rfl rfl (pur_move rfl) rfl ?_
      refine Tp rfl rfl (pur_move rfl) rfl ?_
      refine Tp rfl rfl (pur_ixT (T := tRelation) sl39 rfl rfl rfl hx_i_2 rfl) rfl ?_
      refine Tp rfl rfl (pur_ldTK (T := tRelation) (i := i_2) (off := 0) rfl agg158 rfl rfl hx_i_2 (by decide) rfl) rfl ?_
      refine Tp rfl rfl (pur_move rfl) rfl ?_
      obtain ⟨r_4, h_5, H⟩ := bind_inv H
      refine TO_cons rfl (TOp_callV (call_static ent144 rfl) (m_laws_szRelation_ok _ _ _ h_5) rfl rfl rfl ?_)
      refine Tp rfl rfl (pur_assign rfl) rfl ?_
      refine TO_nil ?_
      refine T_env (E' := [(0, (sl tRelation a0)), (1, (intA r_4)), (5, (intA (i_2 : Int)))]) ⟨rfl, rfl, rfl, trivial⟩ ?_
      refine sr ?_
      refine Tp rfl rfl (pur_move rfl) rfl ?_
      refine Tp rfl rfl (pur_lss rfl rfl rfl) rfl ?_
      refine TO_nil ?_
      refine T_env (E' := [(0, (sl tRelation a0)), (1, (intA r_4)), (5, (intA (i_2 : Int))), (25, (boolA (decide (r_4 < 0))))]) ⟨rfl, rfl, rfl, rfl, trivial⟩ ?_
      refine T_cond (t := decide (r_4 < 0)) rfl (fun c_6 => ?_) (fun c_6 => ?_)
      · replace H := cond_t c_6 H
        refine sr ?_
        refine Tp rfl rfl (pur_assign rfl) rfl ?_
        refine TO_nil ?_
        refine T_env (E' := [(4, (intA (-1)))]) ⟨rfl, trivial⟩ ?_
        refine T_ret ?_
        refine block_ret ?_
        refine then_ret ?_
        refine then_ret ?_
        refine block_ret ?_
        refine then_ret ?_
        obtain rfl := some_inj H
        obtain rfl := some_inj K3_
        replace H := onS_r N3_
        obtain rfl := some_inj H
        refine end_ret (.tmp .nil) rfl rfl ⟨?_, rfl⟩
        rfl
      · replace H := cond_f c_6 H
        refine T_skip ?_
        refine T_env (E' := [(0, (sl tRelation a0)), (1, (intA r_4)), (5, (intA (i_2 : Int)))]) ⟨rfl, rfl, rfl, trivial⟩ ?_
        refine T_region ?_
        refine Tp rfl rfl (pur_move rfl) rfl ?_
        refine Tp rfl rfl (pur_add rfl rfl rfl (fits64 (by omega) (by omega))) rfl ?_
        refine Tp rfl rfl (pur_assign rfl) rfl ?_
        refine TO_nil ?_
        obtain rfl := some_inj H
        exact again (a0.length - (i_2 + 1)) (i_2 + 1, r_4) (by omega) (wp 0 (lb rfl) rfl rfl rfl rfl ⟨rfl, rfl, rfl, trivial⟩) ⟨rfl, K3_⟩
    · replace d3 := of_decide_eq_false d3
      obtain rfl := forL_end L3_ (by omega)
      refine T_exit ?_
      refine then_exit ?_
      refine then_exit ?_
      refine block_exit ?_
      replace H := onS_l N3_
      refine T_env (E' := [(1, (intA left1))]) ⟨rfl, trivial⟩ ?_
      refine sr ?_
      refine Tp rfl rfl (pur_move rfl) rfl ?_
      refine Tp rfl rfl (pur_assign rfl) rfl ?_
      refine TO_nil ?_
      refine T_env (E' := [(4, (intA left1))]) ⟨rfl, trivial⟩ ?_
      refine T_ret ?_
      obtain rfl := some_inj H
      refine end_ret (.tmp .nil) rfl rfl ⟨?_, rfl⟩
      rfl

set_option maxHeartbeats 1000000 in
/-- laws.szDatabase -/
theorem m_laws_szDatabase_ok (a0 : Database) (left1 : Int) (r : Int) (H : m_laws_szDatabase a0 left1 = some r) : FnV prg 25 [(.g (tDatabase.enc a0)), (intA left1)] (intA r) := by
  unfold m_laws_szDatabase at H
  refine fnV_of_T Try.func25 rfl rfl (Nat.le_of_ble_eq_true rfl) ?_
  refine T_env (E' := [(0, (.g (tDatabase.enc a0))), (1, (intA left1))]) ⟨rfl, rfl, trivial⟩ ?_
  refine sr ?_
  refine TO_cons rfl (TOp_box rfl (boxAll rfl) rfl rfl ?_)
  refine Tp rfl rfl (pur_assign rfl) rfl ?_
  refine TO_nil ?_
  refine T_env (E' := [(1, (intA left1)), (2, (.b 0 0))]) ⟨rfl, rfl, trivial⟩ ?_
  refine sr ?_
  refine Tp rfl rfl (pur_fa_b fld42_0 rfl rfl) rfl ?_
  refine Tp rfl rfl (pur_ld_b one39 rfl rfl rfl rfl) rfl ?_
  refine Tp rfl rfl (pur_move rfl) rfl ?_
  obtain ⟨r_1, h_2, H⟩ := bind_inv H
  refine TO_cons rfl (TOp_callV (call_static ent92 rfl) (m_laws_szRelationS_ok _ _ _ h_2) rfl rfl rfl ?_)
  refine Tp rfl rfl (pur_assign rfl) rfl ?_
  refine TO_nil ?_
  refine T_env (E' := [(1, (intA r_1)), (2, (.b 0 0))]) ⟨rfl, rfl, trivial⟩ ?_
  refine T_seq ?_
  refine sr ?_
  refine Tp rfl rfl (pur_move rfl) rfl ?_
  refine Tp rfl rfl (pur_lss rfl rfl rfl) rfl ?_
  refine TO_nil ?_
  refine T_env (E' := [(1, (intA r_1)), (2, (.b 0 0)), (10, (boolA (decide (r_1 < 0))))]) ⟨rfl, rfl, rfl, trivial⟩ ?_
  refine T_cond (t := decide (r_1 < 0)) rfl (fun c_3 => ?_) (fun c_3 => ?_)
  · replace H := cond_t c_3 H
    refine sr ?_
    refine Tp rfl rfl (pur_assign rfl) rfl ?_
    refine TO_nil ?_
    refine T_env (E' := [(4, (intA (-1)))]) ⟨rfl, trivial⟩ ?_
    refine T_ret ?_
    refine then_ret ?_
    obtain rfl := some_inj H
    refine end_ret (.tmp .nil) rfl rfl ⟨?_, rfl⟩
    rfl
  · replace H := cond_f c_3 H
    refine T_skip ?_
    refine T_env (E' := [(1, (intA r_1)), (2, (.b 0 0))]) ⟨rfl, rfl, trivial⟩ ?_
    refine sr ?_
    refine Tp rfl rfl (pur_fa_b fld42_1 rfl rfl) rfl ?_
    refine Tp rfl rfl (pur_ld_b one40 rfl rfl rfl rfl) rfl ?_
    refine Tp rfl rfl (pur_move rfl) rfl ?_
    obtain ⟨r_4, h_5, H⟩ := bind_inv H
    refine TO_cons rfl (TOp_callV (call_static ent61 rfl) (m_laws_szFactS_ok _ _ _ h_5) rfl rfl rfl ?_)
    refine Tp rfl rfl (pur_assign rfl) rfl ?_
    refine TO_nil ?_
    refine T_env (E' := [(1, (intA r_4))]) ⟨rfl, trivial⟩ ?_
    refine T_seq ?_
    refine sr ?_
    refine Tp rfl rfl (pur_move rfl) rfl ?_
    refine Tp rfl rfl (pur_lss rfl rfl rfl) rfl ?_
    refine TO_nil ?_
    refine T_env (E' := [(1, (intA r_4)), (16, (boolA (decide (r_4 < 0))))]) ⟨rfl, rfl, trivial⟩ ?_
    refine T_cond (t := decide (r_4 < 0)) rfl (fun c_6 => ?_) (fun c_6 => ?_)
    · replace H := cond_t c_6 H
      refine sr ?_
      refine Tp rfl rfl (pur_assign rfl) rfl ?_
      refine TO_nil ?_
      refine T_env (E' := [(4, (intA (-1)))]) ⟨rfl, trivial⟩ ?_
      refine T_ret ?_
      refine then_ret ?_
      obtain rfl := some_inj H
      refine end_ret (.tmp .nil) rfl rfl ⟨?_, rfl⟩
      rfl
    · replace H := cond_f c_6 H
      refine T_skip ?_
      refine T_env (E' := [(1, (intA r_4))]) ⟨rfl, trivial⟩ ?_
      refine sr ?_
      refine Tp rfl rfl (pur_move rfl) rfl ?_
      refine Tp rfl rfl (pur_assign rfl) rfl ?_
      refine TO_nil ?_
      refine T_env (E' := [(4, (intA r_4))]) ⟨rfl, trivial⟩ ?_
      refine T_ret ?_
      obtain rfl := some_inj H
      refine end_ret (.tmp .nil) rfl rfl ⟨?_, rfl⟩
      rfl

set_option maxHeartbeats 1000000 in
/-- laws.szIntSS -/
theorem m_laws_szIntSS_ok (a0 : (List (List Int))) (left1 : Int) (r : Int) (H : m_laws_szIntSS a0 left1 = some r) : FnV prg 96 [(sl (tSl tInt) a0), (intA left1)] (intA r) := by
  unfold m_laws_szIntSS at H
  refine fnV_of_T Try.func96 rfl rfl (Nat.le_of_ble_eq_true rfl) ?_
  refine T_env (E' := [(0, (sl (tSl tInt) a0)), (1, (intA left1))]) ⟨rfl, rfl, trivial⟩ ?_
  refine sr ?_
  refine Tp rfl rfl (pur_assign rfl) rfl ?_
  refine TO_nil ?_
  refine T_env (E' := [(0, (sl (tSl tInt) a0)), (1, (intA left1))]) ⟨rfl, rfl, trivial⟩ ?_
  refine sr ?_
  refine Tp rfl rfl (pur_move rfl) rfl ?_
  refine Tp rfl rfl (pur_move rfl) rfl ?_
  refine Tp rfl rfl (pur_lenT (T := (tSl tInt)) sl53 rfl rfl) rfl ?_
  refine Tp rfl rfl (pur_wsub rfl rfl rfl) rfl ?_
  refine Tp rfl rfl (pur_assign rfl) rfl ?_
  refine TO_nil ?_
  refine T_env (E' := [(0, (sl (tSl tInt) a0)), (1, (intA (w64 (left1 - (a0.length : Int)))))]) ⟨rfl, rfl, trivial⟩ ?_
  refine T_seq ?_
  refine sr ?_
  refine Tp rfl rfl (pur_move rfl) rfl ?_
  refine Tp rfl rfl (pur_lss rfl rfl rfl) rfl ?_
  refine TO_nil ?_
  refine T_env (E' := [(0, (sl (tSl tInt) a0)), (1, (intA (w64 (left1 - (a0.length : Int))))), (11, (boolA (decide ((w64 (left1 - (a0.length : Int))) < 0))))]) ⟨rfl, rfl, rfl, trivial⟩ ?_
  refine T_cond (t := decide ((w64 (left1 - (a0.length : Int))) < 0)) rfl (fun c_1 => ?_) (fun c_1 => ?_)
  · replace H := cond_t c_1 H
    refine sr ?_
    refine Tp rfl rfl (pur_assign rfl) rfl ?_
    refine TO_nil ?_
    refine T_env (E' := [(4, (intA (-1)))]) ⟨rfl, trivial⟩ ?_
    refine T_ret ?_
    refine then_ret ?_
    obtain rfl := some_inj H
    refine end_ret (.tmp .nil) rfl rfl ⟨?_, rfl⟩
    rfl
  · replace H := cond_f c_1 H
    refine T_skip ?_
    refine T_env (E' := [(0, (sl (tSl tInt) a0)), (1, (intA (w64 (left1 - (a0.length : Int)))))]) ⟨rfl, rfl, trivial⟩ ?_
    refine T_seq ?_
    refine sr ?_
    refine Tp rfl rfl (pur_assign rfl) rfl ?_
    refine TO_nil ?_
    refine T_env (E' := [(0, (sl (tSl tInt) a0)), (1, (intA (w64 (left1 - (a0.length : Int))))), (5, (intA 0))]) ⟨rfl, rfl, rfl, trivial⟩ ?_
    obtain ⟨O3_, L3_, N3_⟩ := bind_inv H
    clear H
    obtain ⟨B3_, hb3, L3_⟩ := gen_forL L3_
    refine T_block ?_
    refine T_loopX (fun k => fun (x_ : Nat × Int) => k = a0.length - x_.1 ∧ forL B3_ (a0.drop x_.1) (x_.1 : Int) x_.2 = some O3_) (fun (x_ : Nat × Int) => [(0, (sl (tSl tInt) a0)), (1, (intA x_.2)), (5, (intA (x_.1 : Int)))]) (fun (x_ : Nat × Int) => []) _ (0, (w64 (left1 - (a0.length : Int)))) (wp 0 (lb rfl) rfl rfl rfl rfl ⟨rfl, rfl, rfl, trivial⟩) ⟨rfl, L3_⟩ ?_
    rintro _ ⟨i_2, left1⟩ ⟨rfl, L3_⟩
    refine T_env (E' := [(0, (sl (tSl tInt) a0)), (1, (intA left1)), (5, (intA (i_2 : Int)))]) ⟨rfl, rfl, rfl, trivial⟩ ?_
    refine T_st (σ' := []) rfl ?_
    refine T_fact (len_sl (T := (tSl tInt)) (.tmp 0) rfl) (fun hl3 => ?_)
    refine T_seq ?_
    refine sr ?_
    refine Tp rfl rfl (pur_move rfl) rfl ?_
    refine Tp rfl rfl (pur_move rfl) rfl ?_
    refine Tp rfl rfl (pur_lenT (T := (tSl tInt)) sl53 rfl rfl) rfl ?_
    refine Tp rfl rfl (pur_lss rfl rfl rfl) rfl ?_
    refine TO_nil ?_
    refine T_env (E' := [(0, (sl (tSl tInt) a0)), (1, (intA left1)), (5, (intA (i_2 : Int))), (15, (boolA (decide ((i_2 : Int) < (a0.length : Int)))))]) ⟨rfl, rfl, rfl, rfl, trivial⟩ ?_
    refine T_cond (t := decide ((i_2 : Int) < (a0.length : Int))) rfl (fun d3 => ?_) (fun d3 => ?_)
    · replace d3 := of_decide_eq_true d3
      obtain ⟨x_i_2, hx_i_2⟩ : ∃ v, (a0)[i_2]? = some v := ⟨_, List.getElem?_eq_getElem (by omega)⟩
      obtain ⟨C3_, H, K3_⟩ := forL_step L3_ hx_i_2
      rw [hb3] at H
      refine T_skip ?_
      refine T_env (E' := [(0, (sl (tSl tInt) a0)), (1, (intA left1)), (5, (intA (i_2 : Int)))]) ⟨rfl, rfl, rfl, trivial⟩ ?_
      refine T_seq ?_
      refine T_block ?_
      refine sr ?_
      refine Tp rfl rfl (pur_move rfl) rfl ?_
      refine Tp rfl rfl (pur_move rfl) rfl ?_
      refine Tp rfl rfl (pur_ixT (T := (tSl tInt)) sl53 rfl rfl rfl hx_i_2 rfl) rfl ?_
      refine Tp rfl rfl (pur_ldT (T := (tSl tInt)) (i := i_2) (off := 0) rfl one23 rfl rfl hx_i_2 rfl) rfl ?_
      refine Tp rfl rfl (pur_move rfl) rfl ?_
      obtain ⟨r_4, h_5, H⟩ := bind_inv H
      refine TO_cons rfl (TOp_callV (call_static ent83 rfl) (m_laws_szIntS_ok _ _ _ h_5) rfl rfl rfl ?_)
      refine Tp rfl rfl (pur_assign rfl) rfl ?_
      refine TO_nil ?_
      refine T_env (E' := [(0, (sl (tSl tInt) a0)), (1, (intA r_4)), (5, (intA (i_2 : Int)))]) ⟨rfl, rfl, rfl, trivial⟩ ?_
      refine sr ?_
      refine Tp rfl rfl (pur_move rfl) rfl ?_
      refine Tp rfl rfl (pur_lss rfl rfl rfl) rfl ?_
      refine TO_nil ?_
      refine T_env (E' := [(0, (sl (tSl tInt) a0)), (1, (intA r_4)), (5, (intA (i_2 : Int))), (25, (boolA (decide (r_4 < 0))))]) ⟨rfl, rfl, rfl, rfl, trivial⟩ ?_
      refine T_cond (t := decide (r_4 < 0)) rfl (fun c_6 => ?_) (fun c_6 => ?_)
      · replace H := cond_t c_6 H
        refine sr ?_
        refine Tp rfl rfl (pur_assign rfl) rfl ?_
        refine TO_nil ?_
        refine T_env (E' := [(4, (intA (-1)))]) ⟨rfl, trivial⟩ ?_
        refine T_ret ?_
        refine block_ret ?_
        refine then_ret ?_
        refine then_ret ?_
        refine block_ret ?_
        refine then_ret ?_
        obtain rfl := some_inj H
        obtain rfl := some_inj K3_
        replace H := onS_r N3_
        obtain rfl := some_inj H
        refine end_ret (.tmp .nil) rfl rfl ⟨?_, rfl⟩
        rfl
      · replace H := cond_f c_6 H
        refine T_skip ?_
        refine T_env (E' := [(0, (sl (tSl tInt) a0)), (1, (intA r_4)), (5, (intA (i_2 : Int)))]) ⟨rfl, rfl, rfl, trivial⟩ ?_
        refine T_region ?_
        refine Tp rfl rfl (pur_move rfl) rfl ?_
        refine Tp rfl rfl (pur_add rfl rfl rfl (fits64 (by omega) (by omega))) rfl ?_
        refine Tp rfl rfl (pur_assign rfl) rfl ?_
        refine TO_nil ?_
        obtain rfl := some_inj H
        exact again (a0.length - (i_2 + 1)) (i_2 + 1, r_4) (by omega) (wp 0 (lb rfl) rfl rfl rfl rfl ⟨rfl, rfl, rfl, trivial⟩) ⟨rfl, K3_⟩
    · replace d3 := of_decide_eq_false d3
      obtain rfl := forL_end L3_ (by omega)
      refine T_exit ?_
      refine then_exit ?_
      refine then_exit ?_
      refine block_exit ?_
      replace H := onS_l N3_
      refine T_env (E' := [(1, (intA left1))]) ⟨rfl, trivial⟩ ?_
      refine sr ?_
      refine Tp rfl rfl (pur_move rfl) rfl ?_
      refine Tp rfl rfl (pur_assign rfl) rfl ?_
      refine TO_nil ?_
      refine T_env (E' := [(4, (intA left1))]) ⟨rfl, trivial⟩ ?_
      refine T_ret ?_
      obtain rfl := some_inj H
      refine end_ret (.tmp .nil) rfl rfl ⟨?_, rfl⟩
      rfl

set_option maxHeartbeats 1000000 in
/-- laws.szView -/
theorem m_laws_szView_ok (a0 : View) (left1 : Int) (r : Int) (H : m_laws_szView a0 left1 = some r) : FnV prg 32 [(.g (tView.enc a0)), (intA left1)] (intA r) := by
  unfold m_laws_szView at H
  refine fnV_of_T Try.func32 rfl rfl (Nat.le_of_ble_eq_true rfl) ?_
  refine T_env (E' := [(0, (.g (tView.enc a0))), (1, (intA left1))]) ⟨rfl, rfl, trivial⟩ ?_
  refine sr ?_
  refine TO_cons rfl (TOp_box rfl (boxAll rfl) rfl rfl ?_)
  refine Tp rfl rfl (pur_assign rfl) rfl ?_
  refine TO_nil ?_
  refine T_env (E' := [(1, (intA left1)), (2, (.b 0 0))]) ⟨rfl, rfl, trivial⟩ ?_
  refine sr ?_
  refine Tp rfl rfl (pur_fa_b fld55_0 rfl rfl) rfl ?_
  refine Tp rfl rfl (pur_ldK_b agg42 rfl rfl (lb rfl) rfl) rfl ?_
  refine Tp rfl rfl (pur_move rfl) rfl ?_
  obtain ⟨r_1, h_2, H⟩ := bind_inv H
  refine TO_cons rfl (TOp_callV (call_static ent25 rfl) (m_laws_szDatabase_ok _ _ _ h_2) rfl rfl rfl ?_)
  refine Tp rfl rfl (pur_assign rfl) rfl ?_
  refine TO_nil ?_
  refine T_env (E' := [(1, (intA r_1)), (2, (.b 0 0))]) ⟨rfl, rfl, trivial⟩ ?_
  refine T_seq ?_
  refine sr ?_
  refine Tp rfl rfl (pur_move rfl) rfl ?_
  refine Tp rfl rfl (pur_lss rfl rfl rfl) rfl ?_
  refine TO_nil ?_
  refine T_env (E' := [(1, (intA r_1)), (2, (.b 0 0)), (10, (boolA (decide (r_1 < 0))))]) ⟨rfl, rfl, rfl, trivial⟩ ?_
  refine T_cond (t := decide (r_1 < 0)) rfl (fun c_3 => ?_) (fun c_3 => ?_)
  · replace H := cond_t c_3 H
    refine sr ?_
    refine Tp rfl rfl (pur_assign rfl) rfl ?_
    refine TO_nil ?_
    refine T_env (E' := [(4, (intA (-1)))]) ⟨rfl, trivial⟩ ?_
    refine T_ret ?_
    refine then_ret ?_
    obtain rfl := some_inj H
    refine end_ret (.tmp .nil) rfl rfl ⟨?_, rfl⟩
    rfl
  · replace H := cond_f c_3 H
    refine T_skip ?_
    refine T_env (E' := [(1, (intA r_1)), (2, (.b 0 0))]) ⟨rfl, rfl, trivial⟩ ?_
    refine sr ?_
    refine Tp rfl rfl (pur_fa_b fld55_1 rfl rfl) rfl ?_
    refine Tp rfl rfl (pur_ldK_b agg25 rfl rfl (lb rfl) rfl) rfl ?_
    refine Tp rfl rfl (pur_move rfl) rfl ?_
    obtain ⟨r_4, h_5, H⟩ := bind_inv H
    refine TO_cons rfl (TOp_callV (call_static ent15 rfl) (m_laws_szQuery_ok _ _ _ h_5) rfl rfl rfl ?_)
    refine Tp rfl rfl (pur_assign rfl) rfl ?_
    refine TO_nil ?_
    refine T_env (E' := [(1, (intA r_4)), (2, (.b 0 0))]) ⟨rfl, rfl, trivial⟩ ?_
    refine T_seq ?_
    refine sr ?_
    refine Tp rfl rfl (pur_move rfl) rfl ?_
    refine Tp rfl rfl (pur_lss rfl rfl rfl) rfl ?_
    refine TO_nil ?_
    refine T_env (E' := [(1, (intA r_4)), (2, (.b 0 0)), (16, (boolA (decide (r_4 < 0))))]) ⟨rfl, rfl, rfl, trivial⟩ ?_
    refine T_cond (t := decide (r_4 < 0)) rfl (fun c_6 => ?_) (fun c_6 => ?_)
    · replace H := cond_t c_6 H
      refine sr ?_
      refine Tp rfl rfl (pur_assign rfl) rfl ?_
      refine TO_nil ?_
      refine T_env (E' := [(4, (intA (-1)))]) ⟨rfl, trivial⟩ ?_
      refine T_ret ?_
      refine then_ret ?_
      obtain rfl := some_inj H
      refine end_ret (.tmp .nil) rfl rfl ⟨?_, rfl⟩
      rfl
    · replace H := cond_f c_6 H
      refine T_skip ?_
      refine T_env (E' := [(1, (intA r_4)), (2, (.b 0 0))]) ⟨rfl, rfl, trivial⟩ ?_
      refine sr ?_
      refine Tp rfl rfl (pur_fa_b fld55_2 rfl rfl) rfl ?_
      refine Tp rfl rfl (pur_ld_b one53 rfl rfl rfl rfl) rfl ?_
      refine Tp rfl rfl (pur_move rfl) rfl ?_
      obtain ⟨r_7, h_8, H⟩ := bind_inv H
      refine TO_cons rfl (TOp_callV (call_static ent96 rfl) (m_laws_szIntSS_ok _ _ _ h_8) rfl rfl rfl ?_)
      refine Tp rfl rfl (pur_assign rfl) rfl ?_
      refine TO_nil ?_
      refine T_env (E' := [(1, (intA r_7)), (2, (.b 0 0))]) ⟨rfl, rfl, trivial⟩ ?_
      refine T_seq ?_
      refine sr ?_
      refine Tp rfl rfl (pur_move rfl) rfl ?_
      refine Tp rfl rfl (pur_lss rfl rfl rfl) rfl ?_
      refine TO_nil ?_
      refine T_env (E' := [(1, (intA r_7)), (2, (.b 0 0)), (22, (boolA (decide (r_7 < 0))))]) ⟨rfl, rfl, rfl, trivial⟩ ?_
      refine T_cond (t := decide (r_7 < 0)) rfl (fun c_9 => ?_) (fun c_9 => ?_)
      · replace H := cond_t c_9 H
        refine sr ?_
        refine Tp rfl rfl (pur_assign rfl) rfl ?_
        refine TO_nil ?_
        refine T_env (E' := [(4, (intA (-1)))]) ⟨rfl, trivial⟩ ?_
        refine T_ret ?_
        refine then_ret ?_
        obtain rfl := some_inj H
        refine end_ret (.tmp .nil) rfl rfl ⟨?_, rfl⟩
        rfl
      · replace H := cond_f c_9 H
        refine T_skip ?_
        refine T_env (E' := [(1, (intA r_7)), (2, (.b 0 0))]) ⟨rfl, rfl, trivial⟩ ?_
        refine sr ?_
        refine Tp rfl rfl (pur_fa_b fld55_3 rfl rfl) rfl ?_
        refine Tp rfl rfl (pur_ld_b one53 rfl rfl rfl rfl) rfl ?_
        refine Tp rfl rfl (pur_move rfl) rfl ?_
        obtain ⟨r_10, h_11, H⟩ := bind_inv H
        refine TO_cons rfl (TOp_callV (call_static ent96 rfl) (m_laws_szIntSS_ok _ _ _ h_11) rfl rfl rfl ?_)
        refine Tp rfl rfl (pur_assign rfl) rfl ?_
        refine TO_nil ?_
        refine T_env (E' := [(1, (intA r_10))]) ⟨rfl, trivial⟩ ?_
        refine T_seq ?_
        refine sr ?_
        refine Tp rfl rfl (pur_move rfl) rfl ?_
        refine Tp rfl rfl (pur_lss rfl rfl rfl) rfl ?_
        refine TO_nil ?_
        refine T_env (E' := [(1, (intA r_10)), (28, (boolA (decide (r_10 < 0))))]) ⟨rfl, rfl, trivial⟩ ?_
        refine T_cond (t := decide (r_10 < 0)) rfl (fun c_12 => ?_) (fun c_12 => ?_)
        · replace H := cond_t c_12 H
          refine sr ?_
          refine Tp rfl rfl (pur_assign rfl) rfl ?_
          refine TO_nil ?_
          refine T_env (E' := [(4, (intA (-1)))]) ⟨rfl, trivial⟩ ?_
          refine T_ret ?_
          refine then_ret ?_
          obtain rfl := some_inj H
          refine end_ret (.tmp .nil) rfl rfl ⟨?_, rfl⟩
          rfl
        · replace H := cond_f c_12 H
          refine T_skip ?_
          refine T_env (E' := [(1, (intA r_10))]) ⟨rfl, trivial⟩ ?_
          refine sr ?_
          refine Tp rfl rfl (pur_move rfl) rfl ?_
          refine Tp rfl rfl (pur_assign rfl) rfl ?_
          refine TO_nil ?_
          refine T_env (E' := [(4, (intA r_10))]) ⟨rfl, trivial⟩ ?_
          refine T_ret ?_
          obtain rfl := some_inj H
          refine end_ret (.tmp .nil) rfl rfl ⟨?_, rfl⟩
          rfl

set_option maxHeartbeats 1000000 in
/-- spec.l3Ints -/
theorem m_spec_l3Ints_ok (u : Nat) (a0 : (List Int)) (b1 : (List Int)) (r : Int) (H : m_spec_l3Ints u a0 b1 = some r) : FnV prg 148 [(sl tInt a0), (sl tInt b1)] (intA r) := by
  unfold m_spec_l3Ints at H
  refine fnV_of_T Try.func148 rfl rfl (Nat.le_of_ble_eq_true rfl) ?_
  refine T_env (E' := [(0, (sl tInt a0)), (1, (sl tInt b1))]) ⟨rfl, rfl, trivial⟩ ?_
  refine sr ?_
  refine Tp rfl rfl (pur_assign rfl) rfl ?_
  refine TO_nil ?_
  refine T_env (E' := [(0, (sl tInt a0)), (1, (sl tInt b1))]) ⟨rfl, rfl, trivial⟩ ?_
  refine T_seq ?_
  refine sr ?_
  refine Tp rfl rfl (pur_assign rfl) rfl ?_
  refine TO_nil ?_
  refine T_env (E' := [(0, (sl tInt a0)), (1, (sl tInt b1)), (5, (intA 0))]) ⟨rfl, rfl, rfl, trivial⟩ ?_
  obtain ⟨O1_, L1_, N1_⟩ := bind_inv H
  clear H
  obtain ⟨B1_, hb1, L1_⟩ := gen_whileF L1_
  refine T_block ?_
  refine T_loopX (fun k => fun (i5 : Int) => whileF B1_ k i5 = some O1_) (fun (i5 : Int) => [(0, (sl tInt a0)), (1, (sl tInt b1)), (5, (intA i5))]) (fun (i5 : Int) => []) u 0 (wp 0 (lb rfl) rfl rfl rfl rfl ⟨rfl, rfl, rfl, trivial⟩) L1_ ?_
  rintro _ i5 L1_
  obtain ⟨k1, rfl, C1_, H, K1_⟩ := while_step L1_
  rw [hb1] at H
  refine T_env (E' := [(0, (sl tInt a0)), (1, (sl tInt b1)), (5, (intA i5))]) ⟨rfl, rfl, rfl, trivial⟩ ?_
  refine T_st (σ' := []) rfl ?_
  refine T_seq ?_
  refine T_cutX (fun x => ((decide (i5 < (a0.length : Int))) && (decide (i5 < (b1.length : Int)))) = x) (fun (t15_2 : Bool) => [(0, (sl tInt a0)), (1, (sl tInt b1)), (5, (intA i5)), (15, (boolA t15_2))]) (fun (t15_2 : Bool) => []) ?_ ?_
  · skip
    refine T_region ?_
    refine Tp rfl rfl (pur_move rfl) rfl ?_
    refine Tp rfl rfl (pur_move rfl) rfl ?_
    refine Tp rfl rfl (pur_lenT (T := tInt) sl23 rfl rfl) rfl ?_
    refine Tp rfl rfl (pur_lss rfl rfl rfl) rfl ?_
    refine Tp rfl rfl (pur_move rfl) rfl ?_
    refine TO_split (t := decide (i5 < (a0.length : Int))) 10 rfl (fun g_4 => ?_) (fun g_4 => ?_)
    · skip
      refine TO_on rfl rfl (by decide) rfl rfl (TOp_pure (pur_move rfl) rfl ?_)
      refine TO_on rfl rfl (by decide) rfl rfl (TOp_pure (pur_move rfl) rfl ?_)
      refine TO_on rfl rfl (by decide) rfl rfl (TOp_pure (pur_lenT (T := tInt) sl23 rfl rfl) rfl ?_)
      refine TO_on rfl rfl (by decide) rfl rfl (TOp_pure (pur_lss rfl rfl rfl) rfl ?_)
      refine Tp rfl rfl (pur_pick (t := true) rfl rfl rfl) rfl ?_
      refine TO_nil ?_
      exact joined (decide (i5 < (b1.length : Int))) (wp 0 (lb rfl) rfl rfl rfl rfl ⟨rfl, rfl, rfl, rfl, trivial⟩) (by first | exact Eq.symm ((and_T g_4 rfl)))
    · skip
      refine TO_off rfl rfl (by decide) rfl rfl rfl ?_
      refine TO_off rfl rfl (by decide) rfl rfl rfl ?_
      refine TO_off rfl rfl (by decide) rfl rfl rfl ?_
      refine TO_off rfl rfl (by decide) rfl rfl rfl ?_
      refine Tp rfl rfl (pur_pick (t := false) rfl rfl rfl) rfl ?_
      refine TO_nil ?_
      exact joined false (wp 0 (lb rfl) rfl rfl rfl rfl ⟨rfl, rfl, rfl, rfl, trivial⟩) (by first | exact Eq.symm ((and_F g_4 rfl)))
  · rintro _ rfl
    refine T_env (E' := [(0, (sl tInt a0)), (1, (sl tInt b1)), (5, (intA i5)), (15, (boolA ((decide (i5 < (a0.length : Int))) && (decide (i5 < (b1.length : Int))))))]) ⟨rfl, rfl, rfl, rfl, trivial⟩ ?_
    refine T_cond (t := ((decide (i5 < (a0.length : Int))) && (decide (i5 < (b1.length : Int))))) rfl (fun c_5 => ?_) (fun c_5 => ?_)
    · replace H := cond_t c_5 H
      refine T_skip ?_
      refine T_env (E' := [(0, (sl tInt a0)), (1, (sl tInt b1)), (5, (intA i5))]) ⟨rfl, rfl, rfl, trivial⟩ ?_
      refine T_seq ?_
      refine T_block ?_
      refine T_seq ?_
      refine T_seq ?_
      refine T_regionD mixed (by kernel_rfl) ?_
      refine TQ_pure rfl (pur_move rfl) rfl ?_
      refine TQ_pure rfl (pur_move rfl) rfl ?_
      obtain ⟨v_6, h_7, H⟩ := bind_inv H
      obtain ⟨n_8, hz_9, hv_10⟩ := getI_inv h_7
      refine TQ_pure rfl (pur_ixT (T := tInt) sl23 rfl rfl hz_9 hv_10 rfl) rfl ?_
      refine TQ_pure rfl (pur_ldT (T := tInt) (i := n_8) (off := 0) rfl one3 rfl rfl hv_10 rfl) rfl ?_
      refine TQ_pure rfl (pur_move rfl) rfl ?_
      refine TQ_pure rfl (pur_move rfl) rfl ?_
      obtain ⟨v_11, h_12, H⟩ := bind_inv H
      obtain ⟨n_13, hz_14, hv_15⟩ := getI_inv h_12
      refine TQ_pure rfl (pur_ixT (T := tInt) sl23 rfl rfl hz_14 hv_15 rfl) rfl ?_
      refine TQ_pure rfl (pur_ldT (T := tInt) (i := n_13) (off := 0) rfl one3 rfl rfl hv_15 rfl) rfl ?_
      refine TQ_pure rfl (pur_lss rfl rfl rfl) rfl ?_
      refine TQ_nil ?_
      refine T_env (E' := [(0, (sl tInt a0)), (1, (sl tInt b1)), (5, (intA i5)), (26, (boolA (decide (v_6 < v_11))))]) ⟨rfl, rfl, rfl, rfl, trivial⟩ ?_
      refine T_cond (t := decide (v_6 < v_11)) rfl (fun c_16 => ?_) (fun c_16 => ?_)
      · replace H := cond_t c_16 H
        refine sr ?_
        refine Tp rfl rfl (pur_assign rfl) rfl ?_
        refine TO_nil ?_
        refine T_env (E' := [(4, (intA (-1)))]) ⟨rfl, trivial⟩ ?_
        refine T_ret ?_
        refine then_ret ?_
        refine block_ret ?_
        refine then_ret ?_
        refine then_ret ?_
        refine block_ret ?_
        refine then_ret ?_
        obtain rfl := some_inj H
        obtain rfl := some_inj K1_
        replace H := onS_r N1_
        obtain rfl := some_inj H
        refine end_ret (.tmp .nil) rfl rfl ⟨?_, rfl⟩
        rfl
      · replace H := cond_f c_16 H
        refine T_skip ?_
        refine T_env (E' := [(0, (sl tInt a0)), (1, (sl tInt b1)), (5, (intA i5))]) ⟨rfl, rfl, rfl, trivial⟩ ?_
        refine T_seq ?_
        refine T_regionD mixed (by kernel_rfl) ?_
        refine TQ_pure rfl (pur_move rfl) rfl ?_
        refine TQ_pure rfl (pur_move rfl) rfl ?_
        refine TQ_pure rfl (pur_ixT (T := tInt) sl23 rfl rfl hz_9 hv_10 rfl) rfl ?_
        refine TQ_pure rfl (pur_ldT (T := tInt) (i := n_8) (off := 0) rfl one3 rfl rfl hv_10 rfl) rfl ?_
        refine TQ_pure rfl (pur_move rfl) rfl ?_
        refine TQ_pure rfl (pur_move rfl) rfl ?_
        refine TQ_pure rfl (pur_ixT (T := tInt) sl23 rfl rfl hz_14 hv_15 rfl) rfl ?_
        refine TQ_pure rfl (pur_ldT (T := tInt) (i := n_13) (off := 0) rfl one3 rfl rfl hv_15 rfl) rfl ?_
        refine TQ_pure rfl (pur_gtr rfl rfl rfl) rfl ?_
        refine TQ_nil ?_
        refine T_env (E' := [(0, (sl tInt a0)), (1, (sl tInt b1)), (5, (intA i5)), (35, (boolA (decide (v_11 < v_6))))]) ⟨rfl, rfl, rfl, rfl, trivial⟩ ?_
        refine T_cond (t := decide (v_11 < v_6)) rfl (fun c_17 => ?_) (fun c_17 => ?_)
        · replace H := cond_t c_17 H
          refine sr ?_
          refine Tp rfl rfl (pur_assign rfl) rfl ?_
          refine TO_nil ?_
          refine T_env (E' := [(4, (intA 1))]) ⟨rfl, trivial⟩ ?_
          refine T_ret ?_
          refine block_ret ?_
          refine then_ret ?_
          refine then_ret ?_
          refine block_ret ?_
          refine then_ret ?_
          obtain rfl := some_inj H
          obtain rfl := some_inj K1_
          replace H := onS_r N1_
          obtain rfl := some_inj H
          refine end_ret (.tmp .nil) rfl rfl ⟨?_, rfl⟩
          rfl
        · replace H := cond_f c_17 H
          refine T_skip ?_
          refine T_env (E' := [(0, (sl tInt a0)), (1, (sl tInt b1)), (5, (intA i5))]) ⟨rfl, rfl, rfl, trivial⟩ ?_
          refine T_region ?_
          refine Tp rfl rfl (pur_move rfl) rfl ?_
          refine Tp rfl rfl (pur_wadd rfl rfl rfl) rfl ?_
          refine Tp rfl rfl (pur_assign rfl) rfl ?_
          refine TO_nil ?_
          obtain rfl := some_inj H
          exact again k1 (w64 (i5 + 1)) (Nat.lt_succ_self _) (wp 0 (lb rfl) rfl rfl rfl rfl ⟨rfl, rfl, rfl, trivial⟩) K1_
    · replace H := cond_f c_5 H
      refine T_exit ?_
      refine then_exit ?_
      refine then_exit ?_
      refine block_exit ?_
      obtain rfl := some_inj H
      obtain rfl := some_inj K1_
      replace H := onS_l N1_
      refine T_env (E' := [(0, (sl tInt a0)), (1, (sl tInt b1))]) ⟨rfl, rfl, trivial⟩ ?_
      refine T_seq ?_
      refine sr ?_
      refine Tp rfl rfl (pur_move rfl) rfl ?_
      refine Tp rfl rfl (pur_lenT (T := tInt) sl23 rfl rfl) rfl ?_
      refine Tp rfl rfl (pur_move rfl) rfl ?_
      refine Tp rfl rfl (pur_lenT (T := tInt) sl23 rfl rfl) rfl ?_
      refine Tp rfl rfl (pur_lss rfl rfl rfl) rfl ?_
      refine TO_nil ?_
      refine T_env (E' := [(0, (sl tInt a0)), (1, (sl tInt b1)), (40, (boolA (decide ((a0.length : Int) < (b1.length : Int)))))]) ⟨rfl, rfl, rfl, trivial⟩ ?_
      refine T_cond (t := decide ((a0.length : Int) < (b1.length : Int))) rfl (fun c_18 => ?_) (fun c_18 => ?_)
      · replace H := cond_t c_18 H
        refine sr ?_
        refine Tp rfl rfl (pur_assign rfl) rfl ?_
        refine TO_nil ?_
        refine T_env (E' := [(4, (intA (-1)))]) ⟨rfl, trivial⟩ ?_
        refine T_ret ?_
        refine then_ret ?_
        obtain rfl := some_inj H
        refine end_ret (.tmp .nil) rfl rfl ⟨?_, rfl⟩
        rfl
      · replace H := cond_f c_18 H
        refine T_skip ?_
        refine T_env (E' := [(0, (sl tInt a0)), (1, (sl tInt b1))]) ⟨rfl, rfl, trivial⟩ ?_
        refine T_seq ?_
        refine sr ?_
        refine Tp rfl rfl (pur_move rfl) rfl ?_
        refine Tp rfl rfl (pur_lenT (T := tInt) sl23 rfl rfl) rfl ?_
        refine Tp rfl rfl (pur_move rfl) rfl ?_
        refine Tp rfl rfl (pur_lenT (T := tInt) sl23 rfl rfl) rfl ?_
        refine Tp rfl rfl (pur_gtr rfl rfl rfl) rfl ?_
        refine TO_nil ?_
        refine T_env (E' := [(45, (boolA (decide ((b1.length : Int) < (a0.length : Int)))))]) ⟨rfl, trivial⟩ ?_
        refine T_cond (t := decide ((b1.length : Int) < (a0.length : Int))) rfl (fun c_19 => ?_) (fun c_19 => ?_)
        · replace H := cond_t c_19 H
          refine sr ?_
          refine Tp rfl rfl (pur_assign rfl) rfl ?_
          refine TO_nil ?_
          refine T_env (E' := [(4, (intA 1))]) ⟨rfl, trivial⟩ ?_
          refine T_ret ?_
          refine then_ret ?_
          obtain rfl := some_inj H
          refine end_ret (.tmp .nil) rfl rfl ⟨?_, rfl⟩
          rfl
        · replace H := cond_f c_19 H
          refine T_skip ?_
          refine T_env (E' := []) trivial ?_
          refine sr ?_
          refine Tp rfl rfl (pur_assign rfl) rfl ?_
          refine TO_nil ?_
          refine T_env (E' := [(4, (intA 0))]) ⟨rfl, trivial⟩ ?_
          refine T_ret ?_
          obtain rfl := some_inj H
          refine end_ret (.tmp .nil) rfl rfl ⟨?_, rfl⟩
          rfl

set_option maxHeartbeats 1000000 in
/-- spec.CompareFacts -/
theorem m_spec_CompareFacts_ok (u : Nat) (a0 : Fact) (b1 : Fact) (r : Int) (H : m_spec_CompareFacts u a0 b1 = some r) : FnV prg 114 [(.g (tFact.enc a0)), (.g (tFact.enc b1))] (intA r) := by
  unfold m_spec_CompareFacts at H
  refine fnV_of_T Try.func114 rfl rfl (Nat.le_of_ble_eq_true rfl) ?_
  refine T_env (E' := [(0, (.g (tFact.enc a0))), (1, (.g (tFact.enc b1)))]) ⟨rfl, rfl, trivial⟩ ?_
  refine sr ?_
  refine TO_cons rfl (TOp_box rfl (boxAll rfl) rfl rfl ?_)
  refine TO_cons rfl (TOp_box rfl (boxAll rfl) rfl rfl ?_)
  refine Tp rfl rfl (pur_assign rfl) rfl ?_
  refine TO_nil ?_
  refine T_env (E' := [(2, (.b 0 0)), (3, (.b 1 0))]) ⟨rfl, rfl, trivial⟩ ?_
  refine T_seq ?_
  refine sr ?_
  refine Tp rfl rfl (pur_fa_b fld65_0 rfl rfl) rfl ?_
  refine Tp rfl rfl (pur_ld_b one3 rfl rfl rfl rfl) rfl ?_
  refine Tp rfl rfl (pur_fa_b fld65_0 rfl rfl) rfl ?_
  refine Tp rfl rfl (pur_ld_b one3 rfl rfl rfl rfl) rfl ?_
  refine Tp rfl rfl (pur_lss rfl rfl rfl) rfl ?_
  refine TO_nil ?_
  refine T_env (E' := [(2, (.b 0 0)), (3, (.b 1 0)), (9, (boolA (decide (a0.relation < b1.relation))))]) ⟨rfl, rfl, rfl, trivial⟩ ?_
  refine T_cond (t := decide (a0.relation < b1.relation)) rfl (fun c_1 => ?_) (fun c_1 => ?_)
  · replace H := cond_t c_1 H
    refine sr ?_
    refine Tp rfl rfl (pur_assign rfl) rfl ?_
    refine TO_nil ?_
    refine T_env (E' := [(4, (intA (-1)))]) ⟨rfl, trivial⟩ ?_
    refine T_ret ?_
    refine then_ret ?_
    obtain rfl := some_inj H
    refine end_ret (.tmp .nil) rfl rfl ⟨?_, rfl⟩
    rfl
  · replace H := cond_f c_1 H
    refine T_skip ?_
    refine T_env (E' := [(2, (.b 0 0)), (3, (.b 1 0))]) ⟨rfl, rfl, trivial⟩ ?_
    refine T_seq ?_
    refine sr ?_
    refine Tp rfl rfl (pur_fa_b fld65_0 rfl rfl) rfl ?_
    refine Tp rfl rfl (pur_ld_b one3 rfl rfl rfl rfl) rfl ?_
    refine Tp rfl rfl (pur_fa_b fld65_0 rfl rfl) rfl ?_
    refine Tp rfl rfl (pur_ld_b one3 rfl rfl rfl rfl) rfl ?_
    refine Tp rfl rfl (pur_gtr rfl rfl rfl) rfl ?_
    refine TO_nil ?_
    refine T_env (E' := [(2, (.b 0 0)), (3, (.b 1 0)), (14, (boolA (decide (b1.relation < a0.relation))))]) ⟨rfl, rfl, rfl, trivial⟩ ?_
    refine T_cond (t := decide (b1.relation < a0.relation)) rfl (fun c_2 => ?_) (fun c_2 => ?_)
    · replace H := cond_t c_2 H
      refine sr ?_
      refine Tp rfl rfl (pur_assign rfl) rfl ?_
      refine TO_nil ?_
      refine T_env (E' := [(4, (intA 1))]) ⟨rfl, trivial⟩ ?_
      refine T_ret ?_
      refine then_ret ?_
      obtain rfl := some_inj H
      refine end_ret (.tmp .nil) rfl rfl ⟨?_, rfl⟩
      rfl
    · replace H := cond_f c_2 H
      refine T_skip ?_
      refine T_env (E' := [(2, (.b 0 0)), (3, (.b 1 0))]) ⟨rfl, rfl, trivial⟩ ?_
      refine sr ?_
      refine Tp rfl rfl (pur_fa_b fld65_1 rfl rfl) rfl ?_
      refine Tp rfl rfl (pur_ld_b one23 rfl rfl rfl rfl) rfl ?_
      refine Tp rfl rfl (pur_fa_b fld65_1 rfl rfl) rfl ?_
      refine Tp rfl rfl (pur_ld_b one23 rfl rfl rfl rfl) rfl ?_
      obtain ⟨r_3, h_4, H⟩ := bind_inv H
      refine TO_cons rfl (TOp_callV (call_static ent148 rfl) (m_spec_l3Ints_ok u _ _ _ h_4) rfl rfl rfl ?_)
      refine Tp rfl rfl (pur_assign rfl) rfl ?_
      refine TO_nil ?_
      refine T_env (E' := [(4, (intA r_3))]) ⟨rfl, trivial⟩ ?_
      refine T_ret ?_
      obtain rfl := some_inj H
      refine end_ret (.tmp .nil) rfl rfl ⟨?_, rfl⟩
      rfl

set_option maxHeartbeats 1000000 in
/-- spec.EqualDatabases -/
theorem m_spec_EqualDatabases_ok (u : Nat) (a0 : Database) (b1 : Database) (r : Bool) (H : m_spec_EqualDatabases u a0 b1 = some r) : FnV prg 41 [(.g (tDatabase.enc a0)), (.g (tDatabase.enc b1))] (boolA r) := by
  unfold m_spec_EqualDatabases at H
  refine fnV_of_T Try.func41 rfl rfl (Nat.le_of_ble_eq_true rfl) ?_
  refine T_env (E' := [(0, (.g (tDatabase.enc a0))), (1, (.g (tDatabase.enc b1)))]) ⟨rfl, rfl, trivial⟩ ?_
  refine sr ?_
  refine TO_cons rfl (TOp_box rfl (boxAll rfl) rfl rfl ?_)
  refine TO_cons rfl (TOp_box rfl (boxAll rfl) rfl rfl ?_)
  refine Tp rfl rfl (pur_assign rfl) rfl ?_
  refine TO_nil ?_
  refine T_env (E' := [(2, (.b 0 0)), (3, (.b 1 0))]) ⟨rfl, rfl, trivial⟩ ?_
  refine T_seq ?_
  refine T_cutX (fun x => ((decide ((a0.relations.length : Int) ≠ (b1.relations.length : Int))) || (decide ((a0.facts.length : Int) ≠ (b1.facts.length : Int)))) = x) (fun (t22_1 : Bool) => [(2, (.b 0 0)), (3, (.b 1 0)), (22, (boolA t22_1))]) (fun (t22_1 : Bool) => [.box [(sl tRelation a0.relations), (sl tFact a0.facts)], .box [(sl tRelation b1.relations), (sl tFact b1.facts)]]) ?_ ?_
  · skip
    refine T_region ?_
    refine Tp rfl rfl (pur_fa_b fld48_0 rfl rfl) rfl ?_
    refine Tp rfl rfl (pur_ld_b one45 rfl rfl rfl rfl) rfl ?_
    refine Tp rfl rfl (pur_lenT (T := tRelation) sl45 rfl rfl) rfl ?_
    refine Tp rfl rfl (pur_fa_b fld48_0 rfl rfl) rfl ?_
    refine Tp rfl rfl (pur_ld_b one45 rfl rfl rfl rfl) rfl ?_
    refine Tp rfl rfl (pur_lenT (T := tRelation) sl45 rfl rfl) rfl ?_
    refine Tp rfl rfl (pur_neq rfl rfl rfl) rfl ?_
    refine Tp rfl rfl (pur_move rfl) rfl ?_
    refine TO_env (E' := [(2, (.b 0 0)), (3, (.b 1 0)), (14, (boolA (decide ((a0.relations.length : Int) ≠ (b1.relations.length : Int)))))]) ⟨rfl, rfl, rfl, trivial⟩ ?_
    refine TO_split (t := decide ((a0.relations.length : Int) ≠ (b1.relations.length : Int))) 14 rfl (fun g_3 => ?_) (fun g_3 => ?_)
    · skip
      refine TO_off rfl rfl (by decide) rfl rfl rfl ?_
      refine TO_off rfl rfl (by decide) rfl rfl rfl ?_
      refine TO_off rfl rfl (by decide) rfl rfl rfl ?_
      refine TO_off rfl rfl (by decide) rfl rfl rfl ?_
      refine TO_off rfl rfl (by decide) rfl rfl rfl ?_
      refine TO_off rfl rfl (by decide) rfl rfl rfl ?_
      refine TO_off rfl rfl (by decide) rfl rfl rfl ?_
      refine Tp rfl rfl (pur_pick (t := true) rfl rfl rfl) rfl ?_
      refine TO_nil ?_
      exact joined true (wp 2 (lb rfl) rfl rfl rfl rfl ⟨rfl, rfl, rfl, trivial⟩) (by first | exact Eq.symm ((or_T g_3 rfl)))
    · skip
      refine TO_on rfl rfl (by decide) rfl rfl (TOp_pure (pur_fa_b fld48_1 rfl rfl) rfl ?_)
      refine TO_on rfl rfl (by decide) rfl rfl (TOp_pure (pur_ld_b one46 rfl rfl rfl rfl) rfl ?_)
      refine TO_on rfl rfl (by decide) rfl rfl (TOp_pure (pur_lenT (T := tFact) sl46 rfl rfl) rfl ?_)
      refine TO_on rfl rfl (by decide) rfl rfl (TOp_pure (pur_fa_b fld48_1 rfl rfl) rfl ?_)
      refine TO_on rfl rfl (by decide) rfl rfl (TOp_pure (pur_ld_b one46 rfl rfl rfl rfl) rfl ?_)
      refine TO_on rfl rfl (by decide) rfl rfl (TOp_pure (pur_lenT (T := tFact) sl46 rfl rfl) rfl ?_)
      refine TO_on rfl rfl (by decide) rfl rfl (TOp_pure (pur_neq rfl rfl rfl) rfl ?_)
      refine Tp rfl rfl (pur_pick (t := false) rfl rfl rfl) rfl ?_
      refine TO_nil ?_
      exact joined (decide ((a0.facts.length : Int) ≠ (b1.facts.length : Int))) (wp 2 (lb rfl) rfl rfl rfl rfl ⟨rfl, rfl, rfl, trivial⟩) (by first | exact Eq.symm ((or_F g_3 rfl)))
  · rintro _ rfl
    refine T_env (E' := [(2, (.b 0 0)), (3, (.b 1 0)), (22, (boolA ((decide ((a0.relations.length : Int) ≠ (b1.relations.length : Int))) || (decide ((a0.facts.length : Int) ≠ (b1.facts.length : Int))))))]) ⟨rfl, rfl, rfl, trivial⟩ ?_
    refine T_cond (t := ((decide ((a0.relations.length : Int) ≠ (b1.relations.length : Int))) || (decide ((a0.facts.length : Int) ≠ (b1.facts.length : Int))))) rfl (fun c_4 => ?_) (fun c_4 => ?_)
    · replace H := cond_t c_4 H
      refine sr ?_
      refine Tp rfl rfl (pur_assign rfl) rfl ?_
      refine TO_nil ?_
      refine T_env (E' := [(4, (boolA false))]) ⟨rfl, trivial⟩ ?_
      refine T_ret ?_
      refine then_ret ?_
      obtain rfl := some_inj H
      refine end_ret (.tmp .nil) rfl rfl ⟨?_, rfl⟩
      rfl
    · replace H := cond_f c_4 H
      refine T_skip ?_
      refine T_env (E' := [(2, (.b 0 0)), (3, (.b 1 0))]) ⟨rfl, rfl, trivial⟩ ?_
      refine T_seq ?_
      refine sr ?_
      refine Tp rfl rfl (pur_assign rfl) rfl ?_
      refine TO_nil ?_
      refine T_env (E' := [(2, (.b 0 0)), (3, (.b 1 0)), (5, (intA 0))]) ⟨rfl, rfl, rfl, trivial⟩ ?_
      obtain ⟨O5_, L5_, N5_⟩ := bind_inv H
      clear H
      obtain ⟨B5_, hb5, L5_⟩ := gen_whileF L5_
      refine T_block ?_
      refine T_loopX (fun k => fun (i5 : Int) => whileF B5_ k i5 = some O5_) (fun (i5 : Int) => [(2, (.b 0 0)), (3, (.b 1 0)), (5, (intA i5))]) (fun (i5 : Int) => [.box [(sl tRelation a0.relations), (sl tFact a0.facts)], .box [(sl tRelation b1.relations), (sl tFact b1.facts)]]) u 0 (wp 2 (lb rfl) rfl rfl rfl rfl ⟨rfl, rfl, rfl, trivial⟩) L5_ ?_
      rintro _ i5 L5_
      obtain ⟨k5, rfl, C5_, H, K5_⟩ := while_step L5_
      rw [hb5] at H
      refine T_env (E' := [(2, (.b 0 0)), (3, (.b 1 0)), (5, (intA i5))]) ⟨rfl, rfl, rfl, trivial⟩ ?_
      refine T_st (σ' := [.box [(sl tRelation a0.relations), (sl tFact a0.facts)], .box [(sl tRelation b1.relations), (sl tFact b1.facts)]]) rfl ?_
      refine T_seq ?_
      refine sr ?_
      refine Tp rfl rfl (pur_move rfl) rfl ?_
      refine Tp rfl rfl (pur_fa_b fld48_0 rfl rfl) rfl ?_
      refine Tp rfl rfl (pur_ld_b one45 rfl rfl rfl rfl) rfl ?_
      refine Tp rfl rfl (pur_lenT (T := tRelation) sl45 rfl rfl) rfl ?_
      refine Tp rfl rfl (pur_lss rfl rfl rfl) rfl ?_
      refine TO_nil ?_
      refine T_env (E' := [(2, (.b 0 0)), (3, (.b 1 0)), (5, (intA i5)), (27, (boolA (decide (i5 < (a0.relations.length : Int)))))]) ⟨rfl, rfl, rfl, rfl, trivial⟩ ?_
      refine T_cond (t := decide (i5 < (a0.relations.length : Int))) rfl (fun c_6 => ?_) (fun c_6 => ?_)
      · replace H := cond_t c_6 H
        refine T_skip ?_
        refine T_env (E' := [(2, (.b 0 0)), (3, (.b 1 0)), (5, (intA i5))]) ⟨rfl, rfl, rfl, trivial⟩ ?_
        refine T_seq ?_
        refine T_block ?_
        refine T_seq ?_
        refine T_regionD mixed (by kernel_rfl) ?_
        refine TQ_pure rfl (pur_fa_b fld48_0 rfl rfl) rfl ?_
        refine TQ_pure rfl (pur_ld_b one45 rfl rfl rfl rfl) rfl ?_
        refine TQ_pure rfl (pur_move rfl) rfl ?_
        obtain ⟨v_7, h_8, H⟩ := bind_inv H
        obtain ⟨n_9, hz_10, hv_11⟩ := getI_inv h_8
        refine TQ_pure rfl (pur_ixT (T := tRelation) sl45 rfl rfl hz_10 hv_11 rfl) rfl ?_
        refine TQ_pure rfl (pur_ldTK (T := tRelation) (i := n_9) (off := 0) rfl agg130 rfl rfl hv_11 (by decide) rfl) rfl ?_
        refine TQ_pure rfl (pur_fa_b fld48_0 rfl rfl) rfl ?_
        refine TQ_pure rfl (pur_ld_b one45 rfl rfl rfl rfl) rfl ?_
        refine TQ_pure rfl (pur_move rfl) rfl ?_
        refine TQ_env (E' := [(2, (.b 0 0)), (3, (.b 1 0)), (5, (intA i5)), (34, (.g (tRelation.enc v_7))), (36, (sl tRelation b1.relations)), (37, (intA i5))]) ⟨rfl, rfl, rfl, rfl, rfl, rfl, trivial⟩ ?_
        obtain ⟨v_12, h_13, H⟩ := bind_inv H
        obtain ⟨n_14, hz_15, hv_16⟩ := getI_inv h_13
        refine TQ_pure rfl (pur_ixT (T := tRelation) sl45 rfl rfl hz_15 hv_16 rfl) rfl ?_
        refine TQ_pure rfl (pur_ldTK (T := tRelation) (i := n_14) (off := 0) rfl agg130 rfl rfl hv_16 (by decide) rfl) rfl ?_
        refine TQ_pure rfl (pur_neqT [.s v_7.name v_12.name, .i v_7.arity v_12.arity, .i v_7.keyLength v_12.keyLength] eqs130 rfl rfl rfl rfl) rfl ?_
        refine TQ_nil ?_
        refine T_env (E' := [(2, (.b 0 0)), (3, (.b 1 0)), (5, (intA i5)), (40, (boolA (!(cmpSc [.s v_7.name v_12.name, .i v_7.arity v_12.arity, .i v_7.keyLength v_12.keyLength]))))]) ⟨rfl, rfl, rfl, rfl, trivial⟩ ?_
        refine T_cond (t := (!(cmpSc [.s v_7.name v_12.name, .i v_7.arity v_12.arity, .i v_7.keyLength v_12.keyLength]))) rfl (fun c_17 => ?_) (fun c_17 => ?_)
        · replace H := cond_t c_17 H
          refine sr ?_
          refine Tp rfl rfl (pur_assign rfl) rfl ?_
          refine TO_nil ?_
          refine T_env (E' := [(4, (boolA false))]) ⟨rfl, trivial⟩ ?_
          refine T_ret ?_
          refine block_ret ?_
          refine then_ret ?_
          refine then_ret ?_
          refine block_ret ?_
          refine then_ret ?_
          obtain rfl := some_inj H
          obtain rfl := some_inj K5_
          replace H := onS_r N5_
          obtain rfl := some_inj H
          refine end_ret (.tmp .nil) rfl rfl ⟨?_, rfl⟩
          rfl
        · replace H := cond_f c_17 H
          refine T_skip ?_
          refine T_env (E' := [(2, (.b 0 0)), (3, (.b 1 0)), (5, (intA i5))]) ⟨rfl, rfl, rfl, trivial⟩ ?_
          refine T_region ?_
          refine Tp rfl rfl (pur_move rfl) rfl ?_
          refine Tp rfl rfl (pur_wadd rfl rfl rfl) rfl ?_
          refine Tp rfl rfl (pur_assign rfl) rfl ?_
          refine TO_nil ?_
          obtain rfl := some_inj H
          exact again k5 (w64 (i5 + 1)) (Nat.lt_succ_self _) (wp 2 (lb rfl) rfl rfl rfl rfl ⟨rfl, rfl, rfl, trivial⟩) K5_
      · replace H := cond_f c_6 H
        refine T_exit ?_
        refine then_exit ?_
        refine then_exit ?_
        refine block_exit ?_
        obtain rfl := some_inj H
        obtain rfl := some_inj K5_
        replace H := onS_l N5_
        refine T_env (E' := [(2, (.b 0 0)), (3, (.b 1 0))]) ⟨rfl, rfl, trivial⟩ ?_
        refine T_seq ?_
        refine sr ?_
        refine Tp rfl rfl (pur_assign rfl) rfl ?_
        refine TO_nil ?_
        refine T_env (E' := [(2, (.b 0 0)), (3, (.b 1 0)), (6, (intA 0))]) ⟨rfl, rfl, rfl, trivial⟩ ?_
        obtain ⟨O18_, L18_, N18_⟩ := bind_inv H
        clear H
        obtain ⟨B18_, hb18, L18_⟩ := gen_whileF L18_
        refine T_block ?_
        refine T_loopX (fun k => fun (i6 : Int) => whileF B18_ k i6 = some O18_) (fun (i6 : Int) => [(2, (.b 0 0)), (3, (.b 1 0)), (6, (intA i6))]) (fun (i6 : Int) => [.box [(sl tRelation a0.relations), (sl tFact a0.facts)], .box [(sl tRelation b1.relations), (sl tFact b1.facts)]]) u 0 (wp 2 (lb rfl) rfl rfl rfl rfl ⟨rfl, rfl, rfl, trivial⟩) L18_ ?_
        rintro _ i6 L18_
        obtain ⟨k18, rfl, C18_, H, K18_⟩ := while_step L18_
        rw [hb18] at H
        refine T_env (E' := [(2, (.b 0 0)), (3, (.b 1 0)), (6, (intA i6))]) ⟨rfl, rfl, rfl, trivial⟩ ?_
        refine T_st (σ' := [.box [(sl tRelation a0.relations), (sl tFact a0.facts)], .box [(sl tRelation b1.relations), (sl tFact b1.facts)]]) rfl ?_
        refine T_seq ?_
        refine sr ?_
        refine Tp rfl rfl (pur_move rfl) rfl ?_
        refine Tp rfl rfl (pur_fa_b fld48_1 rfl rfl) rfl ?_
        refine Tp rfl rfl (pur_ld_b one46 rfl rfl rfl rfl) rfl ?_
        refine Tp rfl rfl (pur_lenT (T := tFact) sl46 rfl rfl) rfl ?_
        refine Tp rfl rfl (pur_lss rfl rfl rfl) rfl ?_
        refine TO_nil ?_
        refine T_env (E' := [(2, (.b 0 0)), (3, (.b 1 0)), (6, (intA i6)), (45, (boolA (decide (i6 < (a0.facts.length : Int)))))]) ⟨rfl, rfl, rfl, rfl, trivial⟩ ?_
        refine T_cond (t := decide (i6 < (a0.facts.length : Int))) rfl (fun c_19 => ?_) (fun c_19 => ?_)
        · replace H := cond_t c_19 H
          refine T_skip ?_
          refine T_env (E' := [(2, (.b 0 0)), (3, (.b 1 0)), (6, (intA i6))]) ⟨rfl, rfl, rfl, trivial⟩ ?_
          refine T_seq ?_
          refine T_block ?_
          refine T_seq ?_
          refine T_regionD mixed (by kernel_rfl) ?_
          refine TQ_pure rfl (pur_fa_b fld48_1 rfl rfl) rfl ?_
          refine TQ_pure rfl (pur_ld_b one46 rfl rfl rfl rfl) rfl ?_
          refine TQ_pure rfl (pur_move rfl) rfl ?_
          obtain ⟨v_20, h_21, H⟩ := bind_inv H
          obtain ⟨n_22, hz_23, hv_24⟩ := getI_inv h_21
          refine TQ_pure rfl (pur_ixT (T := tFact) sl46 rfl rfl hz_23 hv_24 rfl) rfl ?_
          refine TQ_pure rfl (pur_ldTK (T := tFact) (i := n_22) (off := 0) rfl agg65 rfl rfl hv_24 (by decide) rfl) rfl ?_
          refine TQ_pure rfl (pur_fa_b fld48_1 rfl rfl) rfl ?_
          refine TQ_pure rfl (pur_ld_b one46 rfl rfl rfl rfl) rfl ?_
          refine TQ_pure rfl (pur_move rfl) rfl ?_
          refine TQ_env (E' := [(2, (.b 0 0)), (3, (.b 1 0)), (6, (intA i6)), (52, (.g (tFact.enc v_20))), (54, (sl tFact b1.facts)), (55, (intA i6))]) ⟨rfl, rfl, rfl, rfl, rfl, rfl, trivial⟩ ?_
          obtain ⟨v_25, h_26, H⟩ := bind_inv H
          obtain ⟨n_27, hz_28, hv_29⟩ := getI_inv h_26
          refine TQ_pure rfl (pur_ixT (T := tFact) sl46 rfl rfl hz_28 hv_29 rfl) rfl ?_
          refine TQ_pure rfl (pur_ldTK (T := tFact) (i := n_27) (off := 0) rfl agg65 rfl rfl hv_29 (by decide) rfl) rfl ?_
          obtain ⟨r_30, h_31, H⟩ := bind_inv H
          refine TQ_callV rfl (call_static ent114 rfl) (m_spec_CompareFacts_ok u _ _ _ h_31) rfl rfl ?_
          refine TQ_pure rfl (pur_neq rfl rfl rfl) rfl ?_
          refine TQ_nil ?_
          refine T_env (E' := [(2, (.b 0 0)), (3, (.b 1 0)), (6, (intA i6)), (59, (boolA (decide (r_30 ≠ 0))))]) ⟨rfl, rfl, rfl, rfl, trivial⟩ ?_
          refine T_cond (t := decide (r_30 ≠ 0)) rfl (fun c_32 => ?_) (fun c_32 => ?_)
          · replace H := cond_t c_32 H
            refine sr ?_
            refine Tp rfl rfl (pur_assign rfl) rfl ?_
            refine TO_nil ?_
            refine T_env (E' := [(4, (boolA false))]) ⟨rfl, trivial⟩ ?_
            refine T_ret ?_
            refine block_ret ?_
            refine then_ret ?_
            refine then_ret ?_
            refine block_ret ?_
            refine then_ret ?_
            obtain rfl := some_inj H
            obtain rfl := some_inj K18_
            replace H := onS_r N18_
            obtain rfl := some_inj H
            refine end_ret (.tmp .nil) rfl rfl ⟨?_, rfl⟩
            rfl
          · replace H := cond_f c_32 H
            refine T_skip ?_
            refine T_env (E' := [(2, (.b 0 0)), (3, (.b 1 0)), (6, (intA i6))]) ⟨rfl, rfl, rfl, trivial⟩ ?_
            refine T_region ?_
            refine Tp rfl rfl (pur_move rfl) rfl ?_
            refine Tp rfl rfl (pur_wadd rfl rfl rfl) rfl ?_
            refine Tp rfl rfl (pur_assign rfl) rfl ?_
            refine TO_nil ?_
            obtain rfl := some_inj H
            exact again k18 (w64 (i6 + 1)) (Nat.lt_succ_self _) (wp 2 (lb rfl) rfl rfl rfl rfl ⟨rfl, rfl, rfl, trivial⟩) K18_
        · replace H := cond_f c_19 H
          refine T_exit ?_
          refine then_exit ?_
          refine then_exit ?_
          refine block_exit ?_
          obtain rfl := some_inj H
          obtain rfl := some_inj K18_
          replace H := onS_l N18_
          refine T_env (E' := []) trivial ?_
          refine sr ?_
          refine Tp rfl rfl (pur_assign rfl) rfl ?_
          refine TO_nil ?_
          refine T_env (E' := [(4, (boolA true))]) ⟨rfl, trivial⟩ ?_
          refine T_ret ?_
          obtain rfl := some_inj H
          refine end_ret (.tmp .nil) rfl rfl ⟨?_, rfl⟩
          rfl

set_option maxHeartbeats 1000000 in
/-- spec.EqualQueries -/
theorem m_spec_EqualQueries_ok (u : Nat) (a0 : Query) (b1 : Query) (r : Bool) (H : m_spec_EqualQueries u a0 b1 = some r) : FnV prg 97 [(.g (tQuery.enc a0)), (.g (tQuery.enc b1))] (boolA r) := by
  unfold m_spec_EqualQueries at H
  refine fnV_of_T Try.func97 rfl rfl (Nat.le_of_ble_eq_true rfl) ?_
  refine T_env (E' := [(0, (.g (tQuery.enc a0))), (1, (.g (tQuery.enc b1)))]) ⟨rfl, rfl, trivial⟩ ?_
  refine sr ?_
  refine TO_cons rfl (TOp_box rfl (boxAll rfl) rfl rfl ?_)
  refine TO_cons rfl (TOp_box rfl (boxAll rfl) rfl rfl ?_)
  refine Tp rfl rfl (pur_assign rfl) rfl ?_
  refine TO_nil ?_
  refine T_env (E' := [(2, (.b 0 0)), (3, (.b 1 0))]) ⟨rfl, rfl, trivial⟩ ?_
  refine T_seq ?_
  obtain ⟨t27_1, J_1, H_2⟩ := bind_inv H
  refine T_cutX (fun x => t27_1 = x) (fun (t27_1 : Bool) => [(2, (.b 0 0)), (3, (.b 1 0)), (27, (boolA t27_1))]) (fun (t27_1 : Bool) => [.box [(intA a0.variableCount), (sl tAtom a0.atoms), (sl tInt a0.free)], .box [(intA b1.variableCount), (sl tAtom b1.atoms), (sl tInt b1.free)]]) ?_ ?_
  · replace H := J_1
    refine T_region ?_
    refine Tp rfl rfl (pur_fa_b fld29_0 rfl rfl) rfl ?_
    refine Tp rfl rfl (pur_ld_b one3 rfl rfl rfl rfl) rfl ?_
    refine Tp rfl rfl (pur_fa_b fld29_0 rfl rfl) rfl ?_
    refine Tp rfl rfl (pur_ld_b one3 rfl rfl rfl rfl) rfl ?_
    refine Tp rfl rfl (pur_neq rfl rfl rfl) rfl ?_
    refine Tp rfl rfl (pur_move rfl) rfl ?_
    refine TO_split (t := decide (a0.variableCount ≠ b1.variableCount)) 11 rfl (fun g_3 => ?_) (fun g_3 => ?_)
    · replace H := cond_t g_3 H
      refine TO_off rfl rfl (by decide) rfl rfl rfl ?_
      refine TO_off rfl rfl (by decide) rfl rfl rfl ?_
      refine TO_off rfl rfl (by decide) rfl rfl rfl ?_
      refine TO_off rfl rfl (by decide) rfl rfl rfl ?_
      refine TO_off rfl rfl (by decide) rfl rfl rfl ?_
      refine TO_off rfl rfl (by decide) rfl rfl rfl ?_
      refine Tp rfl rfl (pur_pick (t := true) rfl rfl rfl) rfl ?_
      refine Tp rfl rfl (pur_move rfl) rfl ?_
      refine TO_env (E' := [(2, (.b 0 0)), (3, (.b 1 0)), (19, (boolA true))]) ⟨rfl, rfl, rfl, trivial⟩ ?_
      refine TO_off rfl rfl (by decide) rfl rfl rfl ?_
      refine TO_off rfl rfl (by decide) rfl rfl rfl ?_
      refine TO_off rfl rfl (by decide) rfl rfl rfl ?_
      refine TO_off rfl rfl (by decide) rfl rfl rfl ?_
      refine TO_off rfl rfl (by decide) rfl rfl rfl ?_
      refine TO_off rfl rfl (by decide) rfl rfl rfl ?_
      refine TO_off rfl rfl (by decide) rfl rfl rfl ?_
      refine Tp rfl rfl (pur_pick (t := true) rfl rfl rfl) rfl ?_
      refine TO_nil ?_
      exact joined true (wp 2 (lb rfl) rfl rfl rfl rfl ⟨rfl, rfl, rfl, trivial⟩) (some_inj H).symm
    · replace H := cond_f g_3 H
      refine TO_on rfl rfl (by decide) rfl rfl (TOp_pure (pur_fa_b fld29_2 rfl rfl) rfl ?_)
      refine TO_on rfl rfl (by decide) rfl rfl (TOp_pure (pur_ld_b one23 rfl rfl rfl rfl) rfl ?_)
      refine TO_on rfl rfl (by decide) rfl rfl (TOp_pure (pur_fa_b fld29_2 rfl rfl) rfl ?_)
      refine TO_on rfl rfl (by decide) rfl rfl (TOp_pure (pur_ld_b one23 rfl rfl rfl rfl) rfl ?_)
      obtain ⟨r_4, h_5, H⟩ := bind_inv H
      refine TO_on rfl rfl (by decide) rfl rfl (TOp_callV (call_static ent148 rfl) (m_spec_l3Ints_ok u _ _ _ h_5) rfl rfl rfl ?_)
      refine TO_on rfl rfl (by decide) rfl rfl (TOp_pure (pur_neq rfl rfl rfl) rfl ?_)
      refine Tp rfl rfl (pur_pick (t := false) rfl rfl rfl) rfl ?_
      refine Tp rfl rfl (pur_move rfl) rfl ?_
      refine TO_env (E' := [(2, (.b 0 0)), (3, (.b 1 0)), (19, (boolA (decide (r_4 ≠ 0))))]) ⟨rfl, rfl, rfl, trivial⟩ ?_
      refine TO_split (t := decide (r_4 ≠ 0)) 19 rfl (fun g_6 => ?_) (fun g_6 => ?_)
      · replace H := cond_t g_6 H
        refine TO_off rfl rfl (by decide) rfl rfl rfl ?_
        refine TO_off rfl rfl (by decide) rfl rfl rfl ?_
        refine TO_off rfl rfl (by decide) rfl rfl rfl ?_
        refine TO_off rfl rfl (by decide) rfl rfl rfl ?_
        refine TO_off rfl rfl (by decide) rfl rfl rfl ?_
        refine TO_off rfl rfl (by decide) rfl rfl rfl ?_
        refine TO_off rfl rfl (by decide) rfl rfl rfl ?_
        refine Tp rfl rfl (pur_pick (t := true) rfl rfl rfl) rfl ?_
        refine TO_nil ?_
        exact joined true (wp 2 (lb rfl) rfl rfl rfl rfl ⟨rfl, rfl, rfl, trivial⟩) (some_inj H).symm
      · replace H := cond_f g_6 H
        refine TO_on rfl rfl (by decide) rfl rfl (TOp_pure (pur_fa_b fld29_1 rfl rfl) rfl ?_)
        refine TO_on rfl rfl (by decide) rfl rfl (TOp_pure (pur_ld_b one27 rfl rfl rfl rfl) rfl ?_)
        refine TO_on rfl rfl (by decide) rfl rfl (TOp_pure (pur_lenT (T := tAtom) sl27 rfl rfl) rfl ?_)
        refine TO_on rfl rfl (by decide) rfl rfl (TOp_pure (pur_fa_b fld29_1 rfl rfl) rfl ?_)
        refine TO_on rfl rfl (by decide) rfl rfl (TOp_pure (pur_ld_b one27 rfl rfl rfl rfl) rfl ?_)
        refine TO_on rfl rfl (by decide) rfl rfl (TOp_pure (pur_lenT (T := tAtom) sl27 rfl rfl) rfl ?_)
        refine TO_on rfl rfl (by decide) rfl rfl (TOp_pure (pur_neq rfl rfl rfl) rfl ?_)
        refine Tp rfl rfl (pur_pick (t := false) rfl rfl rfl) rfl ?_
        refine TO_nil ?_
        exact joined (decide ((a0.atoms.length : Int) ≠ (b1.atoms.length : Int))) (wp 2 (lb rfl) rfl rfl rfl rfl ⟨rfl, rfl, rfl, trivial⟩) (some_inj H).symm
  · rintro _ rfl
    replace H := H_2
    refine T_env (E' := [(2, (.b 0 0)), (3, (.b 1 0)), (27, (boolA t27_1))]) ⟨rfl, rfl, rfl, trivial⟩ ?_
    refine T_cond (t := t27_1) rfl (fun c_7 => ?_) (fun c_7 => ?_)
    · replace H := cond_t c_7 H
      refine sr ?_
      refine Tp rfl rfl (pur_assign rfl) rfl ?_
      refine TO_nil ?_
      refine T_env (E' := [(4, (boolA false))]) ⟨rfl, trivial⟩ ?_
      refine T_ret ?_
      refine then_ret ?_
      obtain rfl := some_inj H
      refine end_ret (.tmp .nil) rfl rfl ⟨?_, rfl⟩
      rfl
    · replace H := cond_f c_7 H
      refine T_skip ?_
      refine T_env (E' := [(2, (.b 0 0)), (3, (.b 1 0))]) ⟨rfl, rfl, trivial⟩ ?_
      refine T_seq ?_
      refine sr ?_
      refine Tp rfl rfl (pur_assign rfl) rfl ?_
      refine TO_nil ?_
      refine T_env (E' := [(2, (.b 0 0)), (3, (.b 1 0)), (5, (intA 0))]) ⟨rfl, rfl, rfl, trivial⟩ ?_
      obtain ⟨O8_, L8_, N8_⟩ := bind_inv H
      clear H
      obtain ⟨B8_, hb8, L8_⟩ := gen_whileF L8_
      refine T_block ?_
      refine T_loopX (fun k => fun (i5 : Int) => whileF B8_ k i5 = some O8_) (fun (i5 : Int) => [(2, (.b 0 0)), (3, (.b 1 0)), (5, (intA i5))]) (fun (i5 : Int) => [.box [(intA a0.variableCount), (sl tAtom a0.atoms), (sl tInt a0.free)], .box [(intA b1.variableCount), (sl tAtom b1.atoms), (sl tInt b1.free)]]) u 0 (wp 2 (lb rfl) rfl rfl rfl rfl ⟨rfl, rfl, rfl, trivial⟩) L8_ ?_
      rintro _ i5 L8_
      obtain ⟨k8, rfl, C8_, H, K8_⟩ := while_step L8_
      rw [hb8] at H
      refine T_env (E' := [(2, (.b 0 0)), (3, (.b 1 0)), (5, (intA i5))]) ⟨rfl, rfl, rfl, trivial⟩ ?_
      refine T_st (σ' := [.box [(intA a0.variableCount), (sl tAtom a0.atoms), (sl tInt a0.free)], .box [(intA b1.variableCount), (sl tAtom b1.atoms), (sl tInt b1.free)]]) rfl ?_
      refine T_seq ?_
      refine sr ?_
      refine Tp rfl rfl (pur_move rfl) rfl ?_
      refine Tp rfl rfl (pur_fa_b fld29_1 rfl rfl) rfl ?_
      refine Tp rfl rfl (pur_ld_b one27 rfl rfl rfl rfl) rfl ?_
      refine Tp rfl rfl (pur_lenT (T := tAtom) sl27 rfl rfl) rfl ?_
      refine Tp rfl rfl (pur_lss rfl rfl rfl) rfl ?_
      refine TO_nil ?_
      refine T_env (E' := [(2, (.b 0 0)), (3, (.b 1 0)), (5, (intA i5)), (32, (boolA (decide (i5 < (a0.atoms.length : Int)))))]) ⟨rfl, rfl, rfl, rfl, trivial⟩ ?_
      refine T_cond (t := decide (i5 < (a0.atoms.length : Int))) rfl (fun c_9 => ?_) (fun c_9 => ?_)
      · replace H := cond_t c_9 H
        refine T_skip ?_
        refine T_env (E' := [(2, (.b 0 0)), (3, (.b 1 0)), (5, (intA i5))]) ⟨rfl, rfl, rfl, trivial⟩ ?_
        refine T_seq ?_
        refine T_block ?_
        obtain ⟨t63_10, J_10, H_11⟩ := bind_inv H
        refine T_cutX (fun x => t63_10 = x) (fun (t63_10 : Bool) => [(2, (.b 0 0)), (3, (.b 1 0)), (5, (intA i5)), (63, (boolA t63_10))]) (fun (t63_10 : Bool) => [.box [(intA a0.variableCount), (sl tAtom a0.atoms), (sl tInt a0.free)], .box [(intA b1.variableCount), (sl tAtom b1.atoms), (sl tInt b1.free)]]) ?_ ?_
        · replace H := J_10
          refine T_regionD mixed (by kernel_rfl) ?_
          refine TQ_pure rfl (pur_fa_b fld29_1 rfl rfl) rfl ?_
          refine TQ_pure rfl (pur_ld_b one27 rfl rfl rfl rfl) rfl ?_
          refine TQ_pure rfl (pur_move rfl) rfl ?_
          obtain ⟨v_12, h_13, H⟩ := bind_inv H
          obtain ⟨n_14, hz_15, hv_16⟩ := getI_inv h_13
          refine TQ_pure rfl (pur_ixT (T := tAtom) sl27 rfl rfl hz_15 hv_16 rfl) rfl ?_
          refine TQ_pure rfl (pur_fa_q fld150_0 rfl rfl) rfl ?_
          refine TQ_pure rfl (pur_ldT (T := tAtom) (i := n_14) (off := 0) rfl one3 rfl rfl hv_16 rfl) rfl ?_
          refine TQ_pure rfl (pur_fa_b fld29_1 rfl rfl) rfl ?_
          refine TQ_pure rfl (pur_ld_b one27 rfl rfl rfl rfl) rfl ?_
          refine TQ_env (E' := [(2, (.b 0 0)), (3, (.b 1 0)), (5, (intA i5)), (40, (intA v_12.relation)), (42, (sl tAtom b1.atoms))]) ⟨rfl, rfl, rfl, rfl, rfl, trivial⟩ ?_
          refine TQ_pure rfl (pur_move rfl) rfl ?_
          obtain ⟨v_17, h_18, H⟩ := bind_inv H
          obtain ⟨n_19, hz_20, hv_21⟩ := getI_inv h_18
          refine TQ_pure rfl (pur_ixT (T := tAtom) sl27 rfl rfl hz_20 hv_21 rfl) rfl ?_
          refine TQ_pure rfl (pur_fa_q fld150_0 rfl rfl) rfl ?_
          refine TQ_pure rfl (pur_ldT (T := tAtom) (i := n_19) (off := 0) rfl one3 rfl rfl hv_21 rfl) rfl ?_
          refine TQ_pure rfl (pur_neq rfl rfl rfl) rfl ?_
          refine TQ_pure rfl (pur_move rfl) rfl ?_
          refine TQ_split (t := decide (v_12.relation ≠ v_17.relation)) 48 rfl (fun g_22 => ?_) (fun g_22 => ?_)
          · replace H := cond_t g_22 H
            refine TQ_off rfl rfl (by decide) rfl rfl rfl ?_
            refine TQ_off rfl rfl (by decide) rfl rfl rfl ?_
            refine TQ_off rfl rfl (by decide) rfl rfl rfl ?_
            refine TQ_off rfl rfl (by decide) rfl rfl rfl ?_
            refine TQ_off rfl rfl (by decide) rfl rfl rfl ?_
            refine TQ_off rfl rfl (by decide) rfl rfl rfl ?_
            refine TQ_off rfl rfl (by decide) rfl rfl rfl ?_
            refine TQ_off rfl rfl (by decide) rfl rfl rfl ?_
            refine TQ_env (E' := [(2, (.b 0 0)), (3, (.b 1 0)), (5, (intA i5)), (48, (boolA true)), (54, (.v undef)), (56, (.v undef))]) ⟨rfl, rfl, rfl, rfl, rfl, rfl, trivial⟩ ?_
            refine TQ_off rfl rfl (by decide) rfl rfl rfl ?_
            refine TQ_off rfl rfl (by decide) rfl rfl rfl ?_
            refine TQ_off rfl rfl (by decide) rfl rfl rfl ?_
            refine TQ_off rfl rfl (by decide) rfl rfl rfl ?_
            refine TQ_off rfl rfl (by decide) rfl rfl rfl ?_
            refine TQ_off rfl rfl (by decide) rfl rfl rfl ?_
            refine TQ_pure rfl (pur_pick (t := true) rfl rfl rfl) rfl ?_
            refine TQ_nil ?_
            exact joined true (wp 2 (lb rfl) rfl rfl rfl rfl ⟨rfl, rfl, rfl, rfl, trivial⟩) (some_inj H).symm
          · replace H := cond_f g_22 H
            refine TQ_on rfl rfl (by decide) rfl (pur_fa_b fld29_1 rfl rfl) rfl ?_
            refine TQ_on rfl rfl (by decide) rfl (pur_ld_b one27 rfl rfl rfl rfl) rfl ?_
            refine TQ_on rfl rfl (by decide) rfl (pur_move rfl) rfl ?_
            refine TQ_on rfl rfl (by decide) rfl (pur_ixT (T := tAtom) sl27 rfl rfl hz_15 hv_16 rfl) rfl ?_
            refine TQ_on rfl rfl (by decide) rfl (pur_fa_q fld150_1 rfl rfl) rfl ?_
            refine TQ_on rfl rfl (by decide) rfl (pur_ldT (T := tAtom) (i := n_14) (off := 1) rfl one23 rfl rfl hv_16 rfl) rfl ?_
            refine TQ_on rfl rfl (by decide) rfl (pur_fa_b fld29_1 rfl rfl) rfl ?_
            refine TQ_on rfl rfl (by decide) rfl (pur_ld_b one27 rfl rfl rfl rfl) rfl ?_
            refine TQ_env (E' := [(2, (.b 0 0)), (3, (.b 1 0)), (5, (intA i5)), (48, (boolA false)), (54, (sl tInt v_12.terms)), (56, (sl tAtom b1.atoms))]) ⟨rfl, rfl, rfl, rfl, rfl, rfl, trivial⟩ ?_
            refine TQ_on rfl rfl (by decide) rfl (pur_move rfl) rfl ?_
            refine TQ_on rfl rfl (by decide) rfl (pur_ixT (T := tAtom) sl27 rfl rfl hz_20 hv_21 rfl) rfl ?_
            refine TQ_on rfl rfl (by decide) rfl (pur_fa_q fld150_1 rfl rfl) rfl ?_
            refine TQ_on rfl rfl (by decide) rfl (pur_ldT (T := tAtom) (i := n_19) (off := 1) rfl one23 rfl rfl hv_21 rfl) rfl ?_
            obtain ⟨r_23, h_24, H⟩ := bind_inv H
            refine TQ_onV rfl rfl (by decide) rfl (call_static ent148 rfl) (m_spec_l3Ints_ok u _ _ _ h_24) rfl rfl ?_
            refine TQ_on rfl rfl (by decide) rfl (pur_neq rfl rfl rfl) rfl ?_
            refine TQ_pure rfl (pur_pick (t := false) rfl rfl rfl) rfl ?_
            refine TQ_nil ?_
            exact joined (decide (r_23 ≠ 0)) (wp 2 (lb rfl) rfl rfl rfl rfl ⟨rfl, rfl, rfl, rfl, trivial⟩) (some_inj H).symm
        · rintro _ rfl
          replace H := H_11
          refine T_env (E' := [(2, (.b 0 0)), (3, (.b 1 0)), (5, (intA i5)), (63, (boolA t63_10))]) ⟨rfl, rfl, rfl, rfl, trivial⟩ ?_
          refine T_cond (t := t63_10) rfl (fun c_25 => ?_) (fun c_25 => ?_)
          · replace H := cond_t c_25 H
            refine sr ?_
            refine Tp rfl rfl (pur_assign rfl) rfl ?_
            refine TO_nil ?_
            refine T_env (E' := [(4, (boolA false))]) ⟨rfl, trivial⟩ ?_
            refine T_ret ?_
            refine block_ret ?_
            refine then_ret ?_
            refine then_ret ?_
            refine block_ret ?_
            refine then_ret ?_
            obtain rfl := some_inj H
            obtain rfl := some_inj K8_
            replace H := onS_r N8_
            obtain rfl := some_inj H
            refine end_ret (.tmp .nil) rfl rfl ⟨?_, rfl⟩
            rfl
          · replace H := cond_f c_25 H
            refine T_skip ?_
            refine T_env (E' := [(2, (.b 0 0)), (3, (.b 1 0)), (5, (intA i5))]) ⟨rfl, rfl, rfl, trivial⟩ ?_
            refine T_region ?_
            refine Tp rfl rfl (pur_move rfl) rfl ?_
            refine Tp rfl rfl (pur_wadd rfl rfl rfl) rfl ?_
            refine Tp rfl rfl (pur_assign rfl) rfl ?_
            refine TO_nil ?_
            obtain rfl := some_inj H
            exact again k8 (w64 (i5 + 1)) (Nat.lt_succ_self _) (wp 2 (lb rfl) rfl rfl rfl rfl ⟨rfl, rfl, rfl, trivial⟩) K8_
      · replace H := cond_f c_9 H
        refine T_exit ?_
        refine then_exit ?_
        refine then_exit ?_
        refine block_exit ?_
        obtain rfl := some_inj H
        obtain rfl := some_inj K8_
        replace H := onS_l N8_
        refine T_env (E' := []) trivial ?_
        refine sr ?_
        refine Tp rfl rfl (pur_assign rfl) rfl ?_
        refine TO_nil ?_
        refine T_env (E' := [(4, (boolA true))]) ⟨rfl, trivial⟩ ?_
        refine T_ret ?_
        obtain rfl := some_inj H
        refine end_ret (.tmp .nil) rfl rfl ⟨?_, rfl⟩
        rfl

set_option maxHeartbeats 1000000 in
/-- spec.l31Same -/
theorem m_spec_l31Same_ok (u : Nat) (a0 : (List (List Int))) (b1 : (List (List Int))) (r : Bool) (H : m_spec_l31Same u a0 b1 = some r) : FnV prg 98 [(sl (tSl tInt) a0), (sl (tSl tInt) b1)] (boolA r) := by
  unfold m_spec_l31Same at H
  refine fnV_of_T Try.func98 rfl rfl (Nat.le_of_ble_eq_true rfl) ?_
  refine T_env (E' := [(0, (sl (tSl tInt) a0)), (1, (sl (tSl tInt) b1))]) ⟨rfl, rfl, trivial⟩ ?_
  refine sr ?_
  refine Tp rfl rfl (pur_assign rfl) rfl ?_
  refine TO_nil ?_
  refine T_env (E' := [(0, (sl (tSl tInt) a0)), (1, (sl (tSl tInt) b1))]) ⟨rfl, rfl, trivial⟩ ?_
  refine T_seq ?_
  refine sr ?_
  refine Tp rfl rfl (pur_move rfl) rfl ?_
  refine Tp rfl rfl (pur_lenT (T := (tSl tInt)) sl53 rfl rfl) rfl ?_
  refine Tp rfl rfl (pur_move rfl) rfl ?_
  refine Tp rfl rfl (pur_lenT (T := (tSl tInt)) sl53 rfl rfl) rfl ?_
  refine Tp rfl rfl (pur_neq rfl rfl rfl) rfl ?_
  refine TO_nil ?_
  refine T_env (E' := [(0, (sl (tSl tInt) a0)), (1, (sl (tSl tInt) b1)), (10, (boolA (decide ((a0.length : Int) ≠ (b1.length : Int)))))]) ⟨rfl, rfl, rfl, trivial⟩ ?_
  refine T_cond (t := decide ((a0.length : Int) ≠ (b1.length : Int))) rfl (fun c_1 => ?_) (fun c_1 => ?_)
  · replace H := cond_t c_1 H
    refine sr ?_
    refine Tp rfl rfl (pur_assign rfl) rfl ?_
    refine TO_nil ?_
    refine T_env (E' := [(4, (boolA false))]) ⟨rfl, trivial⟩ ?_
    refine T_ret ?_
    refine then_ret ?_
    obtain rfl := some_inj H
    refine end_ret (.tmp .nil) rfl rfl ⟨?_, rfl⟩
    rfl
  · replace H := cond_f c_1 H
    refine T_skip ?_
    refine T_env (E' := [(0, (sl (tSl tInt) a0)), (1, (sl (tSl tInt) b1))]) ⟨rfl, rfl, trivial⟩ ?_
    refine T_seq ?_
    refine sr ?_
    refine Tp rfl rfl (pur_assign rfl) rfl ?_
    refine TO_nil ?_
    refine T_env (E' := [(0, (sl (tSl tInt) a0)), (1, (sl (tSl tInt) b1)), (5, (intA 0))]) ⟨rfl, rfl, rfl, trivial⟩ ?_
    obtain ⟨O3_, L3_, N3_⟩ := bind_inv H
    clear H
    obtain ⟨B3_, hb3, L3_⟩ := gen_forL L3_
    refine T_block ?_
    refine T_loopX (fun k => fun (i_2 : Nat) => k = a0.length - i_2 ∧ forL B3_ (a0.drop i_2) (i_2 : Int) () = some O3_) (fun (i_2 : Nat) => [(0, (sl (tSl tInt) a0)), (1, (sl (tSl tInt) b1)), (5, (intA (i_2 : Int)))]) (fun (i_2 : Nat) => []) _ (0 : Nat) (wp 0 (lb rfl) rfl rfl rfl rfl ⟨rfl, rfl, rfl, trivial⟩) ⟨rfl, L3_⟩ ?_
    rintro _ i_2 ⟨rfl, L3_⟩
    refine T_env (E' := [(0, (sl (tSl tInt) a0)), (1, (sl (tSl tInt) b1)), (5, (intA (i_2 : Int)))]) ⟨rfl, rfl, rfl, trivial⟩ ?_
    refine T_st (σ' := []) rfl ?_
    refine T_fact (len_sl (T := (tSl tInt)) (.tmp 0) rfl) (fun hl3 => ?_)
    refine T_seq ?_
    refine sr ?_
    refine Tp rfl rfl (pur_move rfl) rfl ?_
    refine Tp rfl rfl (pur_move rfl) rfl ?_
    refine Tp rfl rfl (pur_lenT (T := (tSl tInt)) sl53 rfl rfl) rfl ?_
    refine Tp rfl rfl (pur_lss rfl rfl rfl) rfl ?_
    refine TO_nil ?_
    refine T_env (E' := [(0, (sl (tSl tInt) a0)), (1, (sl (tSl tInt) b1)), (5, (intA (i_2 : Int))), (14, (boolA (decide ((i_2 : Int) < (a0.length : Int)))))]) ⟨rfl, rfl, rfl, rfl, trivial⟩ ?_
    refine T_cond (t := decide ((i_2 : Int) < (a0.length : Int))) rfl (fun d3 => ?_) (fun d3 => ?_)
    · replace d3 := of_decide_eq_true d3
      obtain ⟨x_i_2, hx_i_2⟩ : ∃ v, (a0)[i_2]? = some v := ⟨_, List.getElem?_eq_getElem (by omega)⟩
      obtain ⟨C3_, H, K3_⟩ := forL_step L3_ hx_i_2
      rw [hb3] at H
      refine T_skip ?_
      refine T_env (E' := [(0, (sl (tSl tInt) a0)), (1, (sl (tSl tInt) b1)), (5, (intA (i_2 : Int)))]) ⟨rfl, rfl, rfl, trivial⟩ ?_
      refine T_seq ?_
      refine T_block ?_
      refine T_seq ?_
      refine T_regionD mixed (by kernel_rfl) ?_
      refine TQ_pure rfl (pur_move rfl) rfl ?_
      refine TQ_pure rfl (pur_move rfl) rfl ?_
      refine TQ_pure rfl (pur_ixT (T := (tSl tInt)) sl53 rfl rfl rfl hx_i_2 rfl) rfl ?_
      refine TQ_pure rfl (pur_ldT (T := (tSl tInt)) (i := i_2) (off := 0) rfl one23 rfl rfl hx_i_2 rfl) rfl ?_
      refine TQ_pure rfl (pur_move rfl) rfl ?_
      refine TQ_pure rfl (pur_move rfl) rfl ?_
      obtain ⟨v_4, h_5, H⟩ := bind_inv H
      obtain ⟨n_6, hz_7, hv_8⟩ := getI_inv h_5
      refine TQ_pure rfl (pur_ixT (T := (tSl tInt)) sl53 rfl rfl hz_7 hv_8 rfl) rfl ?_
      refine TQ_pure rfl (pur_ldT (T := (tSl tInt)) (i := n_6) (off := 0) rfl one23 rfl rfl hv_8 rfl) rfl ?_
      obtain ⟨r_9, h_10, H⟩ := bind_inv H
      refine TQ_callV rfl (call_static ent148 rfl) (m_spec_l3Ints_ok u _ _ _ h_10) rfl rfl ?_
      refine TQ_pure rfl (pur_neq rfl rfl rfl) rfl ?_
      refine TQ_nil ?_
      refine T_env (E' := [(0, (sl (tSl tInt) a0)), (1, (sl (tSl tInt) b1)), (5, (intA (i_2 : Int))), (26, (boolA (decide (r_9 ≠ 0))))]) ⟨rfl, rfl, rfl, rfl, trivial⟩ ?_
      refine T_cond (t := decide (r_9 ≠ 0)) rfl (fun c_11 => ?_) (fun c_11 => ?_)
      · replace H := cond_t c_11 H
        refine sr ?_
        refine Tp rfl rfl (pur_assign rfl) rfl ?_
        refine TO_nil ?_
        refine T_env (E' := [(4, (boolA false))]) ⟨rfl, trivial⟩ ?_
        refine T_ret ?_
        refine block_ret ?_
        refine then_ret ?_
        refine then_ret ?_
        refine block_ret ?_
        refine then_ret ?_
        obtain rfl := some_inj H
        obtain rfl := some_inj K3_
        replace H := onS_r N3_
        obtain rfl := some_inj H
        refine end_ret (.tmp .nil) rfl rfl ⟨?_, rfl⟩
        rfl
      · replace H := cond_f c_11 H
        refine T_skip ?_
        refine T_env (E' := [(0, (sl (tSl tInt) a0)), (1, (sl (tSl tInt) b1)), (5, (intA (i_2 : Int)))]) ⟨rfl, rfl, rfl, trivial⟩ ?_
        refine T_region ?_
        refine Tp rfl rfl (pur_move rfl) rfl ?_
        refine Tp rfl rfl (pur_add rfl rfl rfl (fits64 (by omega) (by omega))) rfl ?_
        refine Tp rfl rfl (pur_assign rfl) rfl ?_
        refine TO_nil ?_
        obtain rfl := some_inj H
        exact again (a0.length - (i_2 + 1)) (i_2 + 1) (by omega) (wp 0 (lb rfl) rfl rfl rfl rfl ⟨rfl, rfl, rfl, trivial⟩) ⟨rfl, K3_⟩
    · replace d3 := of_decide_eq_false d3
      obtain rfl := forL_end L3_ (by omega)
      refine T_exit ?_
      refine then_exit ?_
      refine then_exit ?_
      refine block_exit ?_
      replace H := onS_l N3_
      refine T_env (E' := []) trivial ?_
      refine sr ?_
      refine Tp rfl rfl (pur_assign rfl) rfl ?_
      refine TO_nil ?_
      refine T_env (E' := [(4, (boolA true))]) ⟨rfl, trivial⟩ ?_
      refine T_ret ?_
      obtain rfl := some_inj H
      refine end_ret (.tmp .nil) rfl rfl ⟨?_, rfl⟩
      rfl

set_option maxHeartbeats 1000000 in
/-- spec.EqualViews -/
theorem m_spec_EqualViews_ok (u : Nat) (a0 : View) (b1 : View) (r : Bool) (H : m_spec_EqualViews u a0 b1 = some r) : FnV prg 33 [(.g (tView.enc a0)), (.g (tView.enc b1))] (boolA r) := by
  unfold m_spec_EqualViews at H
  refine fnV_of_T Try.func33 rfl rfl (Nat.le_of_ble_eq_true rfl) ?_
  refine T_env (E' := [(0, (.g (tView.enc a0))), (1, (.g (tView.enc b1)))]) ⟨rfl, rfl, trivial⟩ ?_
  refine sr ?_
  refine TO_cons rfl (TOp_box rfl (boxAll rfl) rfl rfl ?_)
  refine TO_cons rfl (TOp_box rfl (boxAll rfl) rfl rfl ?_)
  refine Tp rfl rfl (pur_assign rfl) rfl ?_
  refine TO_nil ?_
  refine T_env (E' := [(2, (.b 0 0)), (3, (.b 1 0))]) ⟨rfl, rfl, trivial⟩ ?_
  obtain ⟨t4_1, J_1, H_2⟩ := bind_inv H
  refine T_cutX (fun x => t4_1 = x) (fun (t4_1 : Bool) => [(4, (boolA t4_1))]) (fun (t4_1 : Bool) => []) ?_ ?_
  · replace H := J_1
    refine T_region ?_
    refine Tp rfl rfl (pur_fa_b fld59_0 rfl rfl) rfl ?_
    refine Tp rfl rfl (pur_ldK_b agg48 rfl rfl (lb rfl) rfl) rfl ?_
    refine Tp rfl rfl (pur_fa_b fld59_0 rfl rfl) rfl ?_
    refine Tp rfl rfl (pur_ldK_b agg48 rfl rfl (lb rfl) rfl) rfl ?_
    obtain ⟨r_3, h_4, H⟩ := bind_inv H
    refine TO_cons rfl (TOp_callV (call_static ent41 rfl) (m_spec_EqualDatabases_ok u _ _ _ h_4) rfl rfl rfl ?_)
    refine Tp rfl rfl (pur_move rfl) rfl ?_
    refine TO_split (t := r_3) 10 rfl (fun g_5 => ?_) (fun g_5 => ?_)
    · replace H := cond_t g_5 H
      refine TO_on rfl rfl (by decide) rfl rfl (TOp_pure (pur_fa_b fld59_1 rfl rfl) rfl ?_)
      refine TO_on rfl rfl (by decide) rfl rfl (TOp_pure (pur_ldK_b agg29 rfl rfl (lb rfl) rfl) rfl ?_)
      refine TO_on rfl rfl (by decide) rfl rfl (TOp_pure (pur_fa_b fld59_1 rfl rfl) rfl ?_)
      refine TO_on rfl rfl (by decide) rfl rfl (TOp_pure (pur_ldK_b agg29 rfl rfl (lb rfl) rfl) rfl ?_)
      obtain ⟨r_6, h_7, H⟩ := bind_inv H
      refine TO_on rfl rfl (by decide) rfl rfl (TOp_callV (call_static ent97 rfl) (m_spec_EqualQueries_ok u _ _ _ h_7) rfl rfl rfl ?_)
      refine Tp rfl rfl (pur_pick (t := true) rfl rfl rfl) rfl ?_
      refine Tp rfl rfl (pur_move rfl) rfl ?_
      refine TO_split (t := r_6) 17 rfl (fun g_8 => ?_) (fun g_8 => ?_)
      · replace H := cond_t g_8 H
        refine TO_on rfl rfl (by decide) rfl rfl (TOp_pure (pur_fa_b fld59_2 rfl rfl) rfl ?_)
        refine TO_on rfl rfl (by decide) rfl rfl (TOp_pure (pur_ld_b one53 rfl rfl rfl rfl) rfl ?_)
        refine TO_on rfl rfl (by decide) rfl rfl (TOp_pure (pur_fa_b fld59_2 rfl rfl) rfl ?_)
        refine TO_on rfl rfl (by decide) rfl rfl (TOp_pure (pur_ld_b one53 rfl rfl rfl rfl) rfl ?_)
        obtain ⟨r_9, h_10, H⟩ := bind_inv H
        refine TO_on rfl rfl (by decide) rfl rfl (TOp_callV (call_static ent98 rfl) (m_spec_l31Same_ok u _ _ _ h_10) rfl rfl rfl ?_)
        refine Tp rfl rfl (pur_pick (t := true) rfl rfl rfl) rfl ?_
        refine Tp rfl rfl (pur_move rfl) rfl ?_
        refine TO_split (t := r_9) 24 rfl (fun g_11 => ?_) (fun g_11 => ?_)
        · replace H := cond_t g_11 H
          refine TO_on rfl rfl (by decide) rfl rfl (TOp_pure (pur_fa_b fld59_3 rfl rfl) rfl ?_)
          refine TO_on rfl rfl (by decide) rfl rfl (TOp_pure (pur_ld_b one53 rfl rfl rfl rfl) rfl ?_)
          refine TO_on rfl rfl (by decide) rfl rfl (TOp_pure (pur_fa_b fld59_3 rfl rfl) rfl ?_)
          refine TO_on rfl rfl (by decide) rfl rfl (TOp_pure (pur_ld_b one53 rfl rfl rfl rfl) rfl ?_)
          obtain ⟨r_12, h_13, H⟩ := bind_inv H
          refine TO_on rfl rfl (by decide) rfl rfl (TOp_callV (call_static ent98 rfl) (m_spec_l31Same_ok u _ _ _ h_13) rfl rfl rfl ?_)
          refine Tp rfl rfl (pur_pick (t := true) rfl rfl rfl) rfl ?_
          refine Tp rfl rfl (pur_assign rfl) rfl ?_
          refine TO_nil ?_
          exact joined r_12 (wp 0 (lb rfl) rfl rfl rfl rfl ⟨rfl, trivial⟩) (some_inj H).symm
        · replace H := cond_f g_11 H
          refine TO_off rfl rfl (by decide) rfl rfl rfl ?_
          refine TO_off rfl rfl (by decide) rfl rfl rfl ?_
          refine TO_off rfl rfl (by decide) rfl rfl rfl ?_
          refine TO_off rfl rfl (by decide) rfl rfl rfl ?_
          refine TO_off rfl rfl (by decide) rfl rfl rfl ?_
          refine Tp rfl rfl (pur_pick (t := false) rfl rfl rfl) rfl ?_
          refine Tp rfl rfl (pur_assign rfl) rfl ?_
          refine TO_nil ?_
          exact joined false (wp 0 (lb rfl) rfl rfl rfl rfl ⟨rfl, trivial⟩) (some_inj H).symm
      · replace H := cond_f g_8 H
        refine TO_off rfl rfl (by decide) rfl rfl rfl ?_
        refine TO_off rfl rfl (by decide) rfl rfl rfl ?_
        refine TO_off rfl rfl (by decide) rfl rfl rfl ?_
        refine TO_off rfl rfl (by decide) rfl rfl rfl ?_
        refine TO_off rfl rfl (by decide) rfl rfl rfl ?_
        refine Tp rfl rfl (pur_pick (t := false) rfl rfl rfl) rfl ?_
        refine Tp rfl rfl (pur_move rfl) rfl ?_
        refine TO_off rfl rfl (by decide) rfl rfl rfl ?_
        refine TO_env (E' := [(3, (.b 1 0)), (24, (boolA false)), (25, (.v undef))]) ⟨rfl, rfl, rfl, trivial⟩ ?_
        refine TO_off rfl rfl (by decide) rfl rfl rfl ?_
        refine TO_off rfl rfl (by decide) rfl rfl rfl ?_
        refine TO_off rfl rfl (by decide) rfl rfl rfl ?_
        refine TO_off rfl rfl (by decide) rfl rfl rfl ?_
        refine Tp rfl rfl (pur_pick (t := false) rfl rfl rfl) rfl ?_
        refine Tp rfl rfl (pur_assign rfl) rfl ?_
        refine TO_nil ?_
        exact joined false (wp 0 (lb rfl) rfl rfl rfl rfl ⟨rfl, trivial⟩) (some_inj H).symm
    · replace H := cond_f g_5 H
      refine TO_off rfl rfl (by decide) rfl rfl rfl ?_
      refine TO_off rfl rfl (by decide) rfl rfl rfl ?_
      refine TO_off rfl rfl (by decide) rfl rfl rfl ?_
      refine TO_off rfl rfl (by decide) rfl rfl rfl ?_
      refine TO_off rfl rfl (by decide) rfl rfl rfl ?_
      refine Tp rfl rfl (pur_pick (t := false) rfl rfl rfl) rfl ?_
      refine Tp rfl rfl (pur_move rfl) rfl ?_
      refine TO_off rfl rfl (by decide) rfl rfl rfl ?_
      refine TO_env (E' := [(2, (.b 0 0)), (3, (.b 1 0)), (17, (boolA false)), (18, (.v undef))]) ⟨rfl, rfl, rfl, rfl, trivial⟩ ?_
      refine TO_off rfl rfl (by decide) rfl rfl rfl ?_
      refine TO_off rfl rfl (by decide) rfl rfl rfl ?_
      refine TO_off rfl rfl (by decide) rfl rfl rfl ?_
      refine TO_off rfl rfl (by decide) rfl rfl rfl ?_
      refine Tp rfl rfl (pur_pick (t := false) rfl rfl rfl) rfl ?_
      refine Tp rfl rfl (pur_move rfl) rfl ?_
      refine TO_off rfl rfl (by decide) rfl rfl rfl ?_
      refine TO_off rfl rfl (by decide) rfl rfl rfl ?_
      refine TO_env (E' := [(3, (.b 1 0)), (24, (boolA false)), (26, (.v undef))]) ⟨rfl, rfl, rfl, trivial⟩ ?_
      refine TO_off rfl rfl (by decide) rfl rfl rfl ?_
      refine TO_off rfl rfl (by decide) rfl rfl rfl ?_
      refine TO_off rfl rfl (by decide) rfl rfl rfl ?_
      refine Tp rfl rfl (pur_pick (t := false) rfl rfl rfl) rfl ?_
      refine Tp rfl rfl (pur_assign rfl) rfl ?_
      refine TO_nil ?_
      exact joined false (wp 0 (lb rfl) rfl rfl rfl rfl ⟨rfl, trivial⟩) (some_inj H).symm
  · rintro _ rfl
    replace H := H_2
    refine T_env (E' := [(4, (boolA t4_1))]) ⟨rfl, trivial⟩ ?_
    refine T_ret ?_
    obtain rfl := some_inj H
    refine end_ret (.tmp .nil) rfl rfl ⟨?_, rfl⟩
    rfl

set_option maxHeartbeats 1000000 in
/-- laws.toIntS -/
theorem m_laws_toIntS_own (a0 : (List Int)) (r : (List Int)) (H : m_laws_toIntS a0 = some r) : FnO prg 18 [(sl tInt a0)] (.m [0] 0 r.length tInt.k) [.row (flat tInt.own r)] := by
  unfold m_laws_toIntS at H
  refine fnO_of_T Try.func18 rfl rfl (Nat.le_of_ble_eq_true rfl) ?_
  refine T_env (E' := [(0, (sl tInt a0))]) ⟨rfl, trivial⟩ ?_
  refine sr ?_
  refine Tp rfl rfl (pur_assign rfl) rfl ?_
  refine TO_nil ?_
  refine T_env (E' := [(0, (sl tInt a0))]) ⟨rfl, trivial⟩ ?_
  refine sr ?_
  refine Tp rfl rfl (pur_move rfl) rfl ?_
  refine Tp rfl rfl (pur_lenT (T := tInt) sl23 rfl rfl) rfl ?_
  obtain ⟨us_1, h_2, H⟩ := bind_inv H
  refine TO_cons rfl (TOp_makeT (T := tInt) (z := (0 : Int)) rfl sl23 zero3 rfl bytes3 rfl rfl rfl rfl h_2 ?_)
  refine Tp rfl rfl (pur_assign rfl) rfl ?_
  refine TO_nil ?_
  refine T_env (E' := [(0, (sl tInt a0)), (3, (.m [0] 0 us_1.length tInt.k))]) ⟨rfl, rfl, trivial⟩ ?_
  refine T_seq ?_
  refine sr ?_
  refine Tp rfl rfl (pur_assign rfl) rfl ?_
  refine TO_nil ?_
  refine T_env (E' := [(0, (sl tInt a0)), (3, (.m [0] 0 us_1.length tInt.k)), (4, (intA 0))]) ⟨rfl, rfl, rfl, trivial⟩ ?_
  obtain ⟨O4_, L4_, N4_⟩ := bind_inv H
  clear H
  obtain ⟨B4_, hb4, L4_⟩ := gen_forS L4_
  refine T_block ?_
  refine T_loopX (fun k => fun (x_ : Nat × (List Int)) => k = a0.length - x_.1 ∧ forS B4_ (a0.drop x_.1) (x_.1 : Int) x_.2 = some O4_) (fun (x_ : Nat × (List Int)) => [(0, (sl tInt a0)), (3, (.m [0] 0 x_.2.length tInt.k)), (4, (intA (x_.1 : Int)))]) (fun (x_ : Nat × (List Int)) => [.row (flat tInt.enc x_.2)]) _ (0, us_1) (wp 1 (lb rfl) rfl rfl rfl rfl ⟨rfl, rfl, rfl, trivial⟩) ⟨rfl, L4_⟩ ?_
  rintro _ ⟨i_3, out3⟩ ⟨rfl, L4_⟩
  refine T_env (E' := [(0, (sl tInt a0)), (3, (.m [0] 0 out3.length tInt.k)), (4, (intA (i_3 : Int)))]) ⟨rfl, rfl, rfl, trivial⟩ ?_
  refine T_st (σ' := [.row (flat tInt.enc out3)]) rfl ?_
  refine T_fact (len_sl (T := tInt) (.tmp 0) rfl) (fun hl4 => ?_)
  refine T_seq ?_
  refine sr ?_
  refine Tp rfl rfl (pur_move rfl) rfl ?_
  refine Tp rfl rfl (pur_move rfl) rfl ?_
  refine Tp rfl rfl (pur_lenT (T := tInt) sl23 rfl rfl) rfl ?_
  refine Tp rfl rfl (pur_lss rfl rfl rfl) rfl ?_
  refine TO_nil ?_
  refine T_env (E' := [(0, (sl tInt a0)), (3, (.m [0] 0 out3.length tInt.k)), (4, (intA (i_3 : Int))), (11, (boolA (decide ((i_3 : Int) < (a0.length : Int)))))]) ⟨rfl, rfl, rfl, rfl, trivial⟩ ?_
  refine T_cond (t := decide ((i_3 : Int) < (a0.length : Int))) rfl (fun d4 => ?_) (fun d4 => ?_)
  · replace d4 := of_decide_eq_true d4
    obtain ⟨x_i_3, hx_i_3⟩ : ∃ v, (a0)[i_3]? = some v := ⟨_, List.getElem?_eq_getElem (by omega)⟩
    obtain ⟨C4_, H, K4_⟩ := forS_step L4_ hx_i_3
    rw [hb4] at H
    refine T_skip ?_
    refine T_env (E' := [(0, (sl tInt a0)), (3, (.m [0] 0 out3.length tInt.k)), (4, (intA (i_3 : Int)))]) ⟨rfl, rfl, rfl, trivial⟩ ?_
    refine T_seq ?_
    refine T_block ?_
    refine T_region ?_
    refine Tp rfl rfl (pur_move rfl) rfl ?_
    refine Tp rfl rfl (pur_move rfl) rfl ?_
    refine Tp rfl rfl (pur_move rfl) rfl ?_
    refine Tp rfl rfl (pur_move rfl) rfl ?_
    refine Tp rfl rfl (pur_ixT (T := tInt) sl23 rfl rfl rfl hx_i_3 rfl) rfl ?_
    refine Tp rfl rfl (pur_ldT (T := tInt) (i := i_3) (off := 0) rfl one3 rfl rfl hx_i_3 rfl) rfl ?_
    obtain ⟨v_5, h_6, H⟩ := bind_inv H
    obtain ⟨n_7, hz_8, hv_9⟩ := getI_inv h_6
    refine Tp rfl rfl (pur_ixM (T := tInt) sl23 rfl rfl hz_8 hv_9 rfl) rfl ?_
    refine TO_cons rfl (TOp_setT (f := tInt.enc) (z := (i_3 : Int)) (y := x_i_3) tInt.len tInt.pos hz_8 sz3 rfl rfl rfl rfl rfl hv_9 rfl rfl ?_)
    refine TO_env (E' := [(0, (sl tInt a0)), (3, (.m [0] 0 (out3.set ((i_3 : Int)).toNat x_i_3).length tInt.k)), (4, (intA (i_3 : Int))), (14, (.m [0] 0 (out3.set ((i_3 : Int)).toNat x_i_3).length tInt.k)), (15, (intA (i_3 : Int))), (16, (sl tInt a0)), (17, (intA (i_3 : Int))), (18, (.q (flat tInt.enc a0) (i_3 * tInt.k))), (19, (intA x_i_3))]) ⟨rfl, (congrArg (fun q => A.m [0] 0 q tInt.k) (List.length_set ..).symm), rfl, (congrArg (fun q => A.m [0] 0 q tInt.k) (List.length_set ..).symm), rfl, rfl, rfl, rfl, rfl, trivial⟩ ?_
    refine TO_st (σ' := [.row (flat tInt.enc (out3.set ((i_3 : Int)).toNat x_i_3))]) rfl ?_
    refine TO_nil ?_
    refine T_env (E' := [(0, (sl tInt a0)), (3, (.m [0] 0 (out3.set ((i_3 : Int)).toNat x_i_3).length tInt.k)), (4, (intA (i_3 : Int)))]) ⟨rfl, rfl, rfl, trivial⟩ ?_
    refine T_region ?_
    refine Tp rfl rfl (pur_move rfl) rfl ?_
    refine Tp rfl rfl (pur_add rfl rfl rfl (fits64 (by omega) (by omega))) rfl ?_
    refine Tp rfl rfl (pur_assign rfl) rfl ?_
    refine TO_nil ?_
    obtain rfl := some_inj H
    exact again (a0.length - (i_3 + 1)) (i_3 + 1, (out3.set ((i_3 : Int)).toNat x_i_3)) (by omega) (wp 1 (lb rfl) rfl rfl rfl rfl ⟨rfl, rfl, rfl, trivial⟩) ⟨rfl, K4_⟩
  · replace d4 := of_decide_eq_false d4
    obtain rfl := forS_end L4_ (by omega)
    refine T_exit ?_
    refine then_exit ?_
    refine then_exit ?_
    refine block_exit ?_
    replace H := N4_
    refine T_env (E' := [(3, (.m [0] 0 out3.length tInt.k))]) ⟨rfl, trivial⟩ ?_
    refine sr ?_
    refine Tp rfl rfl (pur_move rfl) rfl ?_
    refine Tp rfl rfl (pur_assign rfl) rfl ?_
    refine TO_nil ?_
    refine T_env (E' := [(2, (.m [0] 0 out3.length tInt.k))]) ⟨rfl, trivial⟩ ?_
    refine T_ret ?_
    obtain rfl := some_inj H
    exact end_pick (.tmp .nil) rfl [0] (by decide) rfl rfl rfl rfl rfl rfl
theorem m_laws_toIntS_ok (a0 : (List Int)) (r : (List Int)) (H : m_laws_toIntS a0 = some r) : FnV prg 18 [(sl tInt a0)] (sl tInt r) := (m_laws_toIntS_own a0 r H).frz (frzT (T := tInt) rfl)

set_option maxHeartbeats 1000000 in
/-- laws.toAtom -/
theorem m_laws_toAtom_own (a0 : Atom) (r : Atom) (H : m_laws_toAtom a0 = some r) : FnO prg 138 [(.g (tAtom.enc a0))] (.g [(intA r.relation), (.m [0] 0 r.terms.length tInt.k)]) [.row (flat tInt.own r.terms)] := by
  unfold m_laws_toAtom at H
  refine fnO_of_T Try.func138 rfl rfl (Nat.le_of_ble_eq_true rfl) ?_
  refine T_env (E' := [(0, (.g (tAtom.enc a0)))]) ⟨rfl, trivial⟩ ?_
  refine sr ?_
  refine TO_cons rfl (TOp_box rfl (boxAll rfl) rfl rfl ?_)
  refine TO_cons rfl (TOp_alloc zero150 rfl rfl ?_)
  refine TO_nil ?_
  refine T_env (E' := [(1, (.b 0 0)), (2, (.b 1 0))]) ⟨rfl, rfl, trivial⟩ ?_
  refine sr ?_
  refine TO_cons rfl (TOp_alloc zero150 rfl rfl ?_)
  refine TO_nil ?_
  refine T_env (E' := [(1, (.b 0 0)), (2, (.b 1 0)), (3, (.b 2 0))]) ⟨rfl, rfl, rfl, trivial⟩ ?_
  refine sr ?_
  refine Tp rfl rfl (pur_fa_b fld149_0 rfl rfl) rfl ?_
  refine Tp rfl rfl (pur_ld_b one3 rfl rfl rfl rfl) rfl ?_
  refine Tp rfl rfl (pur_fa_b fld150_0 rfl rfl) rfl ?_
  refine TO_cons rfl (TOp_storeB sz3 rfl rfl rfl rfl rfl rfl rfl (by decide) (lb rfl) rfl ?_)
  refine TO_st (σ' := [.box [(intA a0.relation), (sl tInt a0.terms)], .box [(intA 0), .n], .box [(intA a0.relation), .n]]) rfl ?_
  refine TO_nil ?_
  refine T_env (E' := [(1, (.b 0 0)), (2, (.b 1 0)), (3, (.b 2 0))]) ⟨rfl, rfl, rfl, trivial⟩ ?_
  refine sr ?_
  refine Tp rfl rfl (pur_fa_b fld149_1 rfl rfl) rfl ?_
  refine Tp rfl rfl (pur_ld_b one23 rfl rfl rfl rfl) rfl ?_
  obtain ⟨r_1, h_2, H⟩ := bind_inv H
  refine TO_cons rfl (TOp_callO (call_static ent18 rfl) rfl (m_laws_toIntS_own _ _ h_2) rfl rfl rfl ?_)
  refine TO_env (E' := [(1, (.b 0 0)), (2, (.b 1 0)), (3, (.b 2 0)), (7, (.b 0 1)), (8, (sl tInt a0.terms)), (9, (.m [3] 0 r_1.length tInt.k))]) ⟨rfl, rfl, rfl, rfl, rfl, rfl, trivial⟩ ?_
  refine TO_st (σ' := [.box [(intA a0.relation), (sl tInt a0.terms)], .box [(intA 0), .n], .box [(intA a0.relation), .n], .row (flat tInt.own r_1)]) rfl ?_
  refine Tp rfl rfl (pur_fa_b fld150_1 rfl rfl) rfl ?_
  refine TO_cons rfl (TOp_storeB sz23 rfl rfl rfl rfl rfl rfl rfl (by decide) (lb rfl) rfl ?_)
  refine TO_st (σ' := [.box [(intA a0.relation), (sl tInt a0.terms)], .box [(intA 0), .n], .box [(intA a0.relation), (.m [3] 0 r_1.length tInt.k)], .row (flat tInt.own r_1)]) rfl ?_
  refine TO_nil ?_
  refine T_env (E' := [(2, (.b 1 0)), (3, (.b 2 0))]) ⟨rfl, rfl, trivial⟩ ?_
  refine sr ?_
  refine Tp rfl rfl (pur_ldK_b agg150 rfl rfl (lb rfl) rfl) rfl ?_
  refine TO_cons rfl (TOp_storeB sz150 rfl rfl rfl rfl rfl rfl rfl (by decide) (lb rfl) rfl ?_)
  refine TO_st (σ' := [.box [(intA a0.relation), (sl tInt a0.terms)], .box [(intA a0.relation), (.m [3] 0 r_1.length tInt.k)], .box [(intA a0.relation), (.m [3] 0 r_1.length tInt.k)], .row (flat tInt.own r_1)]) rfl ?_
  refine TO_nil ?_
  refine T_env (E' := [(2, (.b 1 0))]) ⟨rfl, trivial⟩ ?_
  refine T_ret ?_
  obtain rfl := some_inj H
  exact end_pick (.cellK rfl agg150 rfl (lb rfl) .nil) rfl [3] (by decide) rfl rfl rfl rfl rfl rfl
theorem m_laws_toAtom_ok (a0 : Atom) (r : Atom) (H : m_laws_toAtom a0 = some r) : FnV prg 138 [(.g (tAtom.enc a0))] (.g (tAtom.enc r)) := (m_laws_toAtom_own a0 r H).frz (frzOK_g (frz_cons (frz_loose rfl) (frz_cons (frzT (T := tInt) rfl) frz_nil)).1 (frz_cons (frz_loose rfl) (frz_cons (frzT (T := tInt) rfl) frz_nil)).2)
end Go.Proofs.Ytjdpolnakhmkmaa
